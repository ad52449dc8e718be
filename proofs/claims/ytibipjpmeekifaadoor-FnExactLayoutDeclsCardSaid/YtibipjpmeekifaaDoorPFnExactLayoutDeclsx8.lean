-- made by wip/tools/myprint.py (this session's own program, over the kit's printer)
import Derived.Test.YtibipjpmeekifaaDoorPFnExactLayoutDeclsx0
import Derived.Test.YtibipjpmeekifaaDoorPFnExactLayoutDeclsx7
namespace Go.Proofs.YtibipjpmeekifaaDoor.PFnExactLayoutDecls
open Go.RowKit Go.Proofs.YtibipjpmeekifaaDoorW.PrintWords Go.Proofs.YtibipjpmeekifaaDoorW.PrintLast Go.Proofs.YtibipjpmeekifaaDoorW.PrintMore
attribute [local go_sem] max2_int min2_int max_two min_two max_three min_three max_four min_four   -- for this text's walks alone
set_option linter.unusedVariables false
set_option linter.unusedSimpArgs false

/-! ### impl_CheckText: function 49 -/
def impl_CheckText.l0 : Nat → List Int → Int → Option (Int × Int)
 | 0, _, _ => none
 | k + 1, x0, x4 => if x4 < (x0.length : Int) then (if 0 ≤ x4 then (if x4 ≤ (x0.length : Int) then ((utf8_DecodeRune.f (x0.drop (x4 : Int).toNat)).bind fun bt279 => (if bt279.1 = 65533 then (if bt279.2 ≤ 1 then (some (2, x4)) else (impl_CheckText.l0 k x0 (wrap64 (x4 + bt279.2)))) else (impl_CheckText.l0 k x0 (wrap64 (x4 + bt279.2))))) else (none)) else (none)) else (some (0, 0))
def impl_CheckText.f (k : Nat) (l0 : List Int) : Option (Int × Int) := impl_CheckText.l0 k l0 0
theorem impl_CheckText.mono_l : ∀ k, (∀ y0 y1, LeO (impl_CheckText.l0 k y0 y1) (impl_CheckText.l0 (k + 1) y0 y1))
 | 0 => fun _ _ r h => by simp [impl_CheckText.l0] at h
 | k + 1 => by
  have ih0 := impl_CheckText.mono_l k
  ·intro y0 y1; unfold impl_CheckText.l0; exact zm
theorem impl_CheckText.mono : ∀ a0 k, LeO (impl_CheckText.f k a0) (impl_CheckText.f (k + 1) a0) := by
 intro a0 k; have ih0 := impl_CheckText.mono_l k; unfold impl_CheckText.f; exact zm
set_option maxHeartbeats 8000000 in
set_option maxRecDepth 100000 in
theorem impl_CheckText.calls (k : Nat) (A0 : Option Addr) (c0 : Nat) (l0 : List Int) (r1 : Int) (r2 : Int) (w : World) (hr0 : Kd.C (Kd.int .u8) w A0 l0.length l0) (hc0 : l0.length ≤ c0) (hL : LaidW w) (h : impl_CheckText.f k l0 = some (r1, r2)) :
  Calls Tryd.prog 49 #[.slice A0 l0.length c0] w fun e w' => e = .returned (.tuple #[.int .i64 r1, .int .i64 r2]) ∧ Below w.heap.size w w' := by
 have HR0 := zA hr0; have HC0 := zA hc0; clear hr0 hc0; have HLD := zA hL; clear hL; have HB := zA (Below.refl w.heap.size w); have H : (impl_CheckText.l0 k l0 0) = some (r1, r2) := h; clear h; have H' := zA H; clear H; go_enter Tryd.func49, Tryd.ntmps49; go_wp2
 go_loopg [4] k (fun kq v4 w' => ∃ (Ba : Int), v4 = .int .i64 Ba ∧ Aside0 (impl_CheckText.l0 kq l0 Ba = some (r1, r2)) ∧ Aside0 (kq ≤ k) ∧ Aside0 (Below w.heap.size w w'))
 case atStart => exact ⟨(0), zr, H', ⟨Nat.le_refl _⟩, ⟨z_⟩⟩
 case round =>
  clear H'; obtain ⟨Ba, rfl, HA, HK1, HB⟩ := hrel; cases gk with
  | zero => exact absurd HA.out (by simp [impl_CheckText.l0])
  | succ k1 =>
   have H := HA.out; clear HA; simp only [impl_CheckText.l0] at H
   by_cases c2 : Ba < (l0.length : Int)
   ·rw [if_pos c2] at H; have c2b0 := decide_eq_true c2; clear c2
    by_cases c3 : 0 ≤ Ba
    ·rw [if_pos c3] at H; have c3b0 := eq_true c3; have c3b1 := decide_eq_true c3; clear c3
     by_cases c4 : Ba ≤ (l0.length : Int)
     ·rw [if_pos c4] at H; have c4b0 := eq_true c4; have c4b1 := decide_eq_true c4; clear c4; replace H := Option.bind_eq_some_iff.mp H; obtain ⟨⟨Bc, Bb⟩, A50, H⟩ := H; replace H : (if Bc = 65533 then (if Bb ≤ 1 then (some (2, Ba)) else (impl_CheckText.l0 k1 l0 (wrap64 (Ba + Bb)))) else (impl_CheckText.l0 k1 l0 (wrap64 (Ba + Bb)))) = some (r1, r2) := H; have A5 := zA A50; clear A50
      by_cases c6 : Bc = 65533
      ·rw [if_pos c6] at H; have c6b0 := beq_iff_eq.mpr c6; have c6b1 := bne_eq_false_iff_eq.mpr c6; clear c6
       by_cases c7 : Bb ≤ 1
       ·rw [if_pos c7] at H; have c7b0 := decide_eq_true c7; clear c7; simp only [Option.some.injEq, Prod.mk.injEq] at H; obtain ⟨rfl, rfl⟩ := H; obtain ⟨i08, hi08, _, hsz8, _⟩ := info_parts info5; obtain ⟨A8, hcut8, hA8, hC8⟩ := print_drop_of (P := Tryd.prog) (Value.int .u8) 0 41 5 .i64 Tryd.underlying41 hi08 hsz8 A0 c0 l0 Ba (zd) (zd) HC0.out; have HR278 := zA (Kd.C_of_reads (h1 := fun _ => rfl) (hA8 _ (Kd.reads_of_C HR0.out))); have HC278 := zA hC8; clear hA8 hC8 hi08 hsz8; go_wp2_with (first | ((with_reducible refine gate_callee (f := 52) rfl ?_); refine goesL_ (some 15) rfl rfl Tryd.func52 (by kernel_rfl) rfl #[.slice A8 (l0.drop (Ba : Int).toNat).length (c0 - Ba.toNat)] rfl (by (try simp only [List.map_toArray, List.map_cons, List.map_nil]); first | done | (rw [show (l0.drop (Ba : Int).toNat).length = (l0.length - Ba.toNat) from List.length_drop] <;> rfl) | rfl | (simp only [List.length_drop, List.length_take]; rfl)) ?_; (with_reducible refine (utf8_DecodeRune.calls _ _ (l0.drop (Ba : Int).toNat) Bc Bb _ ?s1 ?s2 ?s3 A5.out).mono ?_); (case s1 => exact zc (Kd.C_below HR278.out HB.out)); (case s2 => exact HC278.out); (case s3 => exact LaidW.below HLD.out z_); rintro e w9 ⟨rfl, hb⟩; refine ⟨_, rfl, ?_⟩; replace HB := zA (below_step z_ hb); (try clear hb))); go_ret2; exact ⟨ze, z_⟩
       ·rw [if_neg c7] at H; have c7b0 := decide_eq_false c7; clear c7; have H' := zA H; clear H; obtain ⟨i010, hi010, _, hsz10, _⟩ := info_parts info5; obtain ⟨A10, hcut10, hA10, hC10⟩ := print_drop_of (P := Tryd.prog) (Value.int .u8) 0 41 5 .i64 Tryd.underlying41 hi010 hsz10 A0 c0 l0 Ba (zd) (zd) HC0.out; have HR278 := zA (Kd.C_of_reads (h1 := fun _ => rfl) (hA10 _ (Kd.reads_of_C HR0.out))); have HC278 := zA hC10; clear hA10 hC10 hi010 hsz10; go_wp2_with (first | ((with_reducible refine gate_callee (f := 52) rfl ?_); refine goesL_ (some 15) rfl rfl Tryd.func52 (by kernel_rfl) rfl #[.slice A10 (l0.drop (Ba : Int).toNat).length (c0 - Ba.toNat)] rfl (by (try simp only [List.map_toArray, List.map_cons, List.map_nil]); first | done | (rw [show (l0.drop (Ba : Int).toNat).length = (l0.length - Ba.toNat) from List.length_drop] <;> rfl) | rfl | (simp only [List.length_drop, List.length_take]; rfl)) ?_; (with_reducible refine (utf8_DecodeRune.calls _ _ (l0.drop (Ba : Int).toNat) Bc Bb _ ?s1 ?s2 ?s3 A5.out).mono ?_); (case s1 => exact zc (Kd.C_below HR278.out HB.out)); (case s2 => exact HC278.out); (case s3 => exact LaidW.below HLD.out z_); rintro e w11 ⟨rfl, hb⟩; refine ⟨_, rfl, ?_⟩; replace HB := zA (below_step z_ hb); (try clear hb))); go_roundg k1
        case measure => have := HK1.out; omega
        case rel => exact ⟨(wrap64 (Ba + Bb)), zr, H', ⟨by have := HK1.out; omega⟩, ⟨z_⟩⟩
      ·rw [if_neg c6] at H; have c6b0 := beq_eq_false_iff_ne.mpr c6; have c6b1 := bne_iff_ne.mpr c6; have H' := zA H; clear H; obtain ⟨i012, hi012, _, hsz12, _⟩ := info_parts info5; obtain ⟨A12, hcut12, hA12, hC12⟩ := print_drop_of (P := Tryd.prog) (Value.int .u8) 0 41 5 .i64 Tryd.underlying41 hi012 hsz12 A0 c0 l0 Ba (zd) (zd) HC0.out; have HR278 := zA (Kd.C_of_reads (h1 := fun _ => rfl) (hA12 _ (Kd.reads_of_C HR0.out))); have HC278 := zA hC12; clear hA12 hC12 hi012 hsz12; go_wp2_with (first | ((with_reducible refine gate_callee (f := 52) rfl ?_); refine goesL_ (some 15) rfl rfl Tryd.func52 (by kernel_rfl) rfl #[.slice A12 (l0.drop (Ba : Int).toNat).length (c0 - Ba.toNat)] rfl (by (try simp only [List.map_toArray, List.map_cons, List.map_nil]); first | done | (rw [show (l0.drop (Ba : Int).toNat).length = (l0.length - Ba.toNat) from List.length_drop] <;> rfl) | rfl | (simp only [List.length_drop, List.length_take]; rfl)) ?_; (with_reducible refine (utf8_DecodeRune.calls _ _ (l0.drop (Ba : Int).toNat) Bc Bb _ ?s1 ?s2 ?s3 A5.out).mono ?_); (case s1 => exact zc (Kd.C_below HR278.out HB.out)); (case s2 => exact HC278.out); (case s3 => exact LaidW.below HLD.out z_); rintro e w13 ⟨rfl, hb⟩; refine ⟨_, rfl, ?_⟩; replace HB := zA (below_step z_ hb); (try clear hb))); go_roundg k1
       case measure => have := HK1.out; omega
       case rel => exact ⟨(wrap64 (Ba + Bb)), zr, H', ⟨by have := HK1.out; omega⟩, ⟨z_⟩⟩
     ·rw [if_neg c4] at H; exact absurd H (by simp)
    ·rw [if_neg c3] at H; exact absurd H (by simp)
   ·rw [if_neg c2] at H; have c2b0 := decide_eq_false c2; clear c2; simp only [Option.some.injEq, Prod.mk.injEq] at H; obtain ⟨rfl, rfl⟩ := H; go_wp2; go_ret2; exact ⟨ze, z_⟩

/-! ### impl_wellFormed: function 45 -/
def impl_wellFormed.f (k : Nat) (l0 : List Int) : Option (Bool) := (impl_CheckText.f k l0).bind fun bt281 => (some (bt281.1 == 0))
theorem impl_wellFormed.mono : ∀ a0 k, LeO (impl_wellFormed.f k a0) (impl_wellFormed.f (k + 1) a0) := by
 intro a0 k; unfold impl_wellFormed.f; have m1 := @impl_CheckText.mono; exact zm
set_option maxHeartbeats 8000000 in
set_option maxRecDepth 100000 in
theorem impl_wellFormed.calls (k : Nat) (A0 : Option Addr) (c0 : Nat) (l0 : List Int) (r : Bool) (w : World) (hr0 : Kd.C (Kd.int .u8) w A0 l0.length l0) (hc0 : l0.length ≤ c0) (hL : LaidW w) (h : impl_wellFormed.f k l0 = some r) :
  Calls Tryd.prog 45 #[.slice A0 l0.length c0] w fun e w' => e = .returned (.bool r) ∧ Below w.heap.size w w' := by
 have HR0 := zA hr0; have HC0 := zA hc0; clear hr0 hc0; have HLD := zA hL; clear hL; have HB := zA (Below.refl w.heap.size w); have H : ((impl_CheckText.f k l0).bind fun bt281 => (some (bt281.1 == 0))) = some r := h; clear h; replace H := Option.bind_eq_some_iff.mp H; obtain ⟨⟨Ba, Bb⟩, A20, H⟩ := H; (try dsimp only at H); have A2 := zA A20; clear A20; obtain rfl := Option.some.inj H; go_enter Tryd.func45, Tryd.ntmps45; go_wp2_with (first | ((with_reducible refine gate_callee (f := 49) rfl ?_); refine goesL_ (some 7) rfl rfl Tryd.func49 (by kernel_rfl) rfl #[.slice A0 l0.length c0] rfl za ?_; (with_reducible refine (impl_CheckText.calls k _ _ l0 Ba Bb _ ?s1 ?s2 ?s3 A2.out).mono ?_); (case s1 => exact zc (HR0.out)); (case s2 => exact HC0.out); (case s3 => exact LaidW.below HLD.out z_); rintro e w3 ⟨rfl, hb⟩; refine ⟨_, rfl, ?_⟩; replace HB := zA (below_step z_ hb); (try clear hb))); go_ret; exact ⟨ze, z_⟩

-- NOT PRINTED: function 50 (bytealg_Compare)

/-! ### bytes_Compare: function 46 -/
theorem run_bytesOfC {w : World} {A : Option Addr} {l : List Int} {c : Nat} (hr : Kd.C (Kd.int .u8) w A l.length l) :
  (Extern.Bytes.bytesOf (.slice A l.length c)).run Tryd.prog w = .ok ⟨(Lib.bytesOf l).toArray⟩ w := by
 cases A with
 | none =>
  have : l = [] := by
   cases l with
   | nil => rfl
   | cons x t => obtain ⟨ad, e, _⟩ := Kd.at_int hr 0 (by omega) (by simp); cases e
  subst this
  rfl
 | some ad =>
  have := Lib.run_loadBytesX (P := Tryd.prog) w l ad .empty (fun j x hj => by
   have hjl : j < l.length := (List.getElem?_eq_some_iff.1 hj).1; obtain ⟨ad', e, hx⟩ := Kd.at_int hr (j : Int) (by omega) (by omega); injection e with e; subst e; rw [rd, Int.toNat_natCast, List.getD_eq_getElem?_getD, hj] at hx
   exact hx)
  simpa [Extern.Bytes.bytesOf] using this
theorem cmp_eq_lists (xs ys : List UInt8) : Extern.BytealgCompare.cmp ⟨xs.toArray⟩ ⟨ys.toArray⟩ = Lib.compareBytes xs ys := by
 rw [← Lib.cmpL_eq]; unfold Extern.BytealgCompare.cmp Lib.cmpL; simp only [Lib.get!_eq]
 rfl
def bytes_Compare.f (l0 : List Int) (l1 : List Int) : Option (Int) := some (Lib.compareBytes (Lib.bytesOf l0) (Lib.bytesOf l1))
set_option maxHeartbeats 1000000 in
set_option maxRecDepth 100000 in
theorem bytes_Compare.calls (A0 : Option Addr) (c0 : Nat) (l0 : List Int) (A1 : Option Addr) (c1 : Nat) (l1 : List Int) (r : Int) (w : World) (hr0 : Kd.C (Kd.int .u8) w A0 l0.length l0) (hc0 : l0.length ≤ c0) (hr1 : Kd.C (Kd.int .u8) w A1 l1.length l1) (hc1 : l1.length ≤ c1) (h : bytes_Compare.f l0 l1 = some r) :
  Calls Tryd.prog 46 #[.slice A0 l0.length c0, .slice A1 l1.length c1] w fun e w' => e = .returned (.int .i64 r) ∧ Drawn0 w w' := by
 unfold bytes_Compare.f at h; injection h with h; have e : (Extern.BytealgCompare.compare #[.slice A0 l0.length c0, .slice A1 l1.length c1]).run Tryd.prog w = .ok (.int .i64 r) w := by
  show Sem.run Tryd.prog (do pure (goInt (Extern.BytealgCompare.cmp (← Extern.Bytes.bytesOf (.slice A0 l0.length c0)) (← Extern.Bytes.bytesOf (.slice A1 l1.length c1))))) w = _; simp only [Sem.run_bind, run_bytesOfC hr0, run_bytesOfC hr1, Result.andThen_ok, Sem.run_pure, cmp_eq_lists, h]
  rfl
 have E := zA e; clear e h hr0 hr1; go_enter Tryd.func46, Tryd.ntmps46; go_wp2; rw [run_callFunc_extern Tryd.func50 (by kernel_rfl) (by kernel_rfl) (by kernel_rfl) (e := Extern.BytealgCompare.compare) (by kernel_rfl), E.out]; simp only [Result.andThen]; rw [Oper.upon_value]; go_wp2; go_ret; exact ⟨rfl, ⟨⟨0, rfl⟩⟩⟩

/-! ### impl_targetsOk: function 36 -/
def impl_targetsOk.bad (k : Nat) (a1 : Int) (x0 : List Int) (x1 : Int) (x2 : Int) : Option Bool :=
 if (x0.length : Int) < 1 then some true else if (x0.length : Int) > 60 then some true else (impl_wellFormed.f k x0).bind fun t => some (!t || (!decide (x1 = 0) && !decide (x1 = 1)) || decide (x2 < 0) || decide (x2 ≥ a1))
def impl_targetsOk.low (l0 : List (S49)) (i : Int) (x0 : List Int) : Bool := decide (i > 0) && decide (Lib.compareBytes (Lib.bytesOf (rd_T49 l0 (i - 1)).f0) (Lib.bytesOf x0) ≥ 0)
def impl_targetsOk.l : Nat → List (S49) → Int → Int → List (Int × Int) → Option Bool
 | 0, _, _, _, _ => none
 | k + 1, l0, a1, i, m => if i < (l0.length : Int) then (impl_targetsOk.bad k a1 (rd_T49 l0 i).f0 (rd_T49 l0 i).f1 (rd_T49 l0 i).f2).bind fun b => if b = true then some false else if impl_targetsOk.low l0 i (rd_T49 l0 i).f0 = true then some false else if (mget m (rd_T49 l0 i).f2).isSome = true then some false else impl_targetsOk.l k l0 a1 (i + 1) (((rd_T49 l0 i).f2, i) :: m) else some true
def impl_targetsOk.f (k : Nat) (l0 : List (S49)) (a1 : Int) : Option Bool := if (l0.length : Int) > 30 then some false else if a1 ≤ 4611686018427387904 then impl_targetsOk.l k l0 a1 0 [] else none
theorem impl_targetsOk.bad_mono (a1 : Int) (x0 : List Int) (x1 x2 : Int) (k : Nat) : LeO (impl_targetsOk.bad k a1 x0 x1 x2) (impl_targetsOk.bad (k + 1) a1 x0 x1 x2) := by
 unfold impl_targetsOk.bad; refine LeO.ite (LeO.refl _) (LeO.ite (LeO.refl _) (LeO.bind (impl_wellFormed.mono _ _) fun _ => LeO.refl _))
theorem impl_targetsOk.bad_cell {k : Nat} {a1 : Int} {x0 : List Int} {x1 x2 : Int} (h : impl_targetsOk.bad k a1 x0 x1 x2 = some false) : 0 ≤ x2 ∧ x2 < a1 := by
 unfold impl_targetsOk.bad at h
 split at h
 ·cases h
 ·split at h
  ·cases h
  ·obtain ⟨t, _, h⟩ := Option.bind_eq_some_iff.mp h; have h := Option.some.inj h; simp only [Bool.or_eq_false_iff, decide_eq_false_iff_not] at h
   omega
theorem impl_targetsOk.wf {c : Int} (h0 : 0 ≤ c) (h1 : c ≤ 4611686018427387904) : (Lit.int .i64 c).wf = true := by
 have e0 : IntKind.min .i64 = -9223372036854775808 := by rfl
 have e1 : IntKind.max .i64 = 9223372036854775807 := by rfl
 simp only [Lit.wf, e0, e1, Bool.and_eq_true, decide_eq_true_eq]
 omega
theorem impl_targetsOk.mono_l : ∀ k l0 a1 i m, LeO (impl_targetsOk.l k l0 a1 i m) (impl_targetsOk.l (k + 1) l0 a1 i m)
 | 0, _, _, _, _ => fun r h => by simp [impl_targetsOk.l] at h
 | k + 1, l0, a1, i, m => by
  rw [impl_targetsOk.l, impl_targetsOk.l]; exact LeO.ite (LeO.bind (impl_targetsOk.bad_mono _ _ _ _ _) fun _ => LeO.ite (LeO.refl _) (LeO.ite (LeO.refl _) (LeO.ite (LeO.refl _) (impl_targetsOk.mono_l k _ _ _ _)))) (LeO.refl _)
theorem impl_targetsOk.mono : ∀ a0 a1 k, LeO (impl_targetsOk.f k a0 a1) (impl_targetsOk.f (k + 1) a0 a1) := by
 intro a0 a1 k; unfold impl_targetsOk.f; exact LeO.ite (LeO.refl _) (LeO.ite (impl_targetsOk.mono_l k _ _ _ _) (LeO.refl _))
set_option maxHeartbeats 4000000 in
set_option maxRecDepth 100000 in
theorem impl_targetsOk.calls (k : Nat) (A0 : Option Addr) (c0 : Nat) (l0 : List (S49)) (a1 : Int) (r : Bool) (w : World) (hr0 : Kd.C k49 w A0 l0.length l0) (hc0 : l0.length ≤ c0) (hL : LaidW w) (h : impl_targetsOk.f k l0 a1 = some r) :
  Calls Tryd.prog 36 #[.slice A0 l0.length c0, .int .i64 a1] w fun e w' => e = .returned (.bool r) ∧ Below w.heap.size w w' := by
 have hu74 := Tryd.underlying49; have HR0 := zA hr0; have HC0 := zA hc0; clear hr0 hc0; have HLD := zA hL; clear hL; have HB := zA (Below.refl w.heap.size w); have H : (if (l0.length : Int) > 30 then some false else if a1 ≤ 4611686018427387904 then impl_targetsOk.l k l0 a1 0 [] else none) = some r := h; clear h
 by_cases c3 : (l0.length : Int) > 30
 ·rw [if_pos c3] at H; have c3b0 : decide (30 < (l0.length : Int)) = true := decide_eq_true c3; obtain rfl := Option.some.inj H; go_enter Tryd.func36, Tryd.ntmps36; go_wp2; go_ret; exact ⟨rfl, HB.out⟩
 ·rw [if_neg c3] at H
  by_cases ca : a1 ≤ 4611686018427387904
  case neg => rw [if_neg ca] at H; cases H
  rw [if_pos ca] at H; have HCA := zA ca; clear ca; have c3b0 : decide (30 < (l0.length : Int)) = false := decide_eq_false c3; have H' := zA H; clear H; have L30 : (l0.length : Int) ≤ 30 := by omega
  clear c3; have HL30 := zA L30; clear L30; have hmm := @run_makeMap Tryd.prog; go_enter Tryd.func36, Tryd.ntmps36; go_wp2; clear hmm
  go_loopg [16] k (fun kq v16 w' => ∃ (i : Int) (m : List (Int × Int)), v16 = .int .i64 i ∧ Aside0 (impl_targetsOk.l kq l0 a1 i m = some r) ∧ Aside0 (kq ≤ k) ∧ Aside0 (0 ≤ i ∧ i ≤ (l0.length : Int)) ∧ Aside0 (IntMap Tryd.prog 3 3 w' w.heap.size i.toNat m) ∧ Aside0 (Below w.heap.size w w'))
  case atStart => exact ⟨0, [], rfl, H', ⟨Nat.le_refl _⟩, ⟨by omega⟩, ⟨IntMap.made _ _ _ _⟩, ⟨below_alloc HB.out _⟩⟩
  case round =>
   clear H' HB; obtain ⟨i, m, rfl, HA, HK1, HI, HM, HB⟩ := hrel; cases gk with
   | zero => exact absurd HA.out (by simp [impl_targetsOk.l])
   | succ k1 =>
    have H := HA.out; clear HA; simp only [impl_targetsOk.l] at H
    by_cases c4 : i < (l0.length : Int)
    ·rw [if_pos c4] at H; have c4b0 := decide_eq_true c4; replace H := Option.bind_eq_some_iff.mp H; obtain ⟨b, A130, H⟩ := H; have A13 := zA A130; clear A130; have H' := zA H; clear H; have p133 : 0 ≤ (i : Int) := HI.out.1; have q133 : i < (l0.length : Int) := c4; clear c4; obtain ⟨ad, An, cn, e133, hx0, hx1, hx2, hl133, hi133⟩ := at_T49 HR0.out i p133 q133; cases e133; replace hx0 := zx HB.out hx0; replace hx1 := zx HB.out hx1; replace hx2 := zx HB.out hx2; have HRn := zA hi133; have HCn := zA hl133; clear hi133 hl133; obtain ⟨x1, ex1⟩ : ∃ x, x = (rd_T49 l0 i).f1 := ⟨_, rfl⟩; rw [← ex1] at hx1 A13; clear ex1; replace p133 := eq_true p133; replace q133 := eq_true q133
     go_upto_region 7 with (fail)
     have HB2 := zA (below_alloc HB.out (.cells #[.slice An (rd_T49 l0 i).f0.length cn, .int .i64 x1, .int .i64 (rd_T49 l0 i).f2] 49 (0, 0))); have BK := zA (blk_new wr (.cells #[.slice An (rd_T49 l0 i).f0.length cn, .int .i64 x1, .int .i64 (rd_T49 l0 i).f2] 49 (0, 0))); have HM2 := zA (HM.out.alloc (.cells #[.slice An (rd_T49 l0 i).f0.length cn, .int .i64 x1, .int .i64 (rd_T49 l0 i).f2] 49 (0, 0)))
     go_cut [57] from 21 (fun v57 wc => v57 = .bool b ∧ Aside0 (wc.heap[wr.heap.size]? = some (.cells #[.slice An (rd_T49 l0 i).f0.length cn, .int .i64 x1, .int .i64 (rd_T49 l0 i).f2] 49 (0, 0))) ∧ Aside0 (IntMap Tryd.prog 3 3 wc w.heap.size i.toNat m) ∧ Aside0 (Below w.heap.size w wc))
     case first =>
      clear H'; have A := A13.out; clear A13; unfold impl_targetsOk.bad at A
      by_cases c1 : ((rd_T49 l0 i).f0.length : Int) < 1
      ·rw [if_pos c1] at A; obtain rfl := Option.some.inj A; have c1b := decide_eq_true c1; clear c1; go_wp2; go_meet
       case rel => exact ⟨rfl, BK, HM2, HB2⟩
      ·rw [if_neg c1] at A; have c1b := decide_eq_false c1; clear c1
       by_cases c2 : ((rd_T49 l0 i).f0.length : Int) > 60
       ·rw [if_pos c2] at A; obtain rfl := Option.some.inj A; have c2b : decide (60 < ((rd_T49 l0 i).f0.length : Int)) = true := decide_eq_true c2; clear c2; go_wp2; go_meet
        case rel => exact ⟨rfl, BK, HM2, HB2⟩
       ·rw [if_neg c2] at A; have c2b : decide (60 < ((rd_T49 l0 i).f0.length : Int)) = false := decide_eq_false c2; clear c2; obtain ⟨t, A0, A1⟩ := Option.bind_eq_some_iff.mp A; have A0_ := zA A0; have E := zA (Option.some.inj A1); clear A A0 A1; cases t with
        | false =>
         go_wp2_with (go_at_call 45; (refine (impl_wellFormed.calls k1 _ _ (rd_T49 l0 i).f0 _ _ ?s1 ?s2 ?s3 A0_.out).mono ?_; (case s1 => exact Kd.C_below HRn.out HB2.out); (case s2 => exact HCn.out); (case s3 => exact LaidW.below HLD.out HB2.out); rintro e w17 ⟨rfl, hb⟩; replace BK := zA (blk_below BK.out hb); replace HM2 := zA (IntMap.below HM2.out hb); replace HB2 := zA (below_step HB2.out hb); clear hb; have hc0 : w17.cell? ⟨wr.heap.size, 0, none⟩ = some (.slice An (rd_T49 l0 i).f0.length cn) := (blk_cell BK.out 0).trans rfl; have hc1 : w17.cell? ⟨wr.heap.size, 1, none⟩ = some (.int .i64 x1) := (blk_cell BK.out 1).trans rfl; have hc2 : w17.cell? ⟨wr.heap.size, 2, none⟩ = some (.int .i64 (rd_T49 l0 i).f2) := (blk_cell BK.out 2).trans rfl)); go_meet
         case rel => exact ⟨by rw [← E.out]; simp, BK, HM2, HB2⟩
        | true =>
         have FIN : (!true || (!decide (x1 = 0) && !decide (x1 = 1)) || decide ((rd_T49 l0 i).f2 < 0) || decide ((rd_T49 l0 i).f2 ≥ a1)) = b := E.out
         by_cases e0 : x1 = 0
         ·subst e0
          by_cases e2 : (rd_T49 l0 i).f2 < 0
          ·have e2b := decide_eq_true e2; have EE := zA e2; clear e2; go_wp2_with (go_at_call 45; (refine (impl_wellFormed.calls k1 _ _ (rd_T49 l0 i).f0 _ _ ?s1 ?s2 ?s3 A0_.out).mono ?_; (case s1 => exact Kd.C_below HRn.out HB2.out); (case s2 => exact HCn.out); (case s3 => exact LaidW.below HLD.out HB2.out); rintro e w17 ⟨rfl, hb⟩; replace BK := zA (blk_below BK.out hb); replace HM2 := zA (IntMap.below HM2.out hb); replace HB2 := zA (below_step HB2.out hb); clear hb; have hc0 : w17.cell? ⟨wr.heap.size, 0, none⟩ = some (.slice An (rd_T49 l0 i).f0.length cn) := (blk_cell BK.out 0).trans rfl; have hc1 : w17.cell? ⟨wr.heap.size, 1, none⟩ = some (.int .i64 0) := (blk_cell BK.out 1).trans rfl; have hc2 : w17.cell? ⟨wr.heap.size, 2, none⟩ = some (.int .i64 (rd_T49 l0 i).f2) := (blk_cell BK.out 2).trans rfl)); go_meet
           case rel => exact ⟨by first | (rw [← FIN]; simp [EE.out]; done) | (rw [← FIN]; simp; have := EE.out; intro; omega), BK, HM2, HB2⟩
          ·have e2b := decide_eq_false e2; have EE := zA e2; clear e2; go_wp2_with (go_at_call 45; (refine (impl_wellFormed.calls k1 _ _ (rd_T49 l0 i).f0 _ _ ?s1 ?s2 ?s3 A0_.out).mono ?_; (case s1 => exact Kd.C_below HRn.out HB2.out); (case s2 => exact HCn.out); (case s3 => exact LaidW.below HLD.out HB2.out); rintro e w17 ⟨rfl, hb⟩; replace BK := zA (blk_below BK.out hb); replace HM2 := zA (IntMap.below HM2.out hb); replace HB2 := zA (below_step HB2.out hb); clear hb; have hc0 : w17.cell? ⟨wr.heap.size, 0, none⟩ = some (.slice An (rd_T49 l0 i).f0.length cn) := (blk_cell BK.out 0).trans rfl; have hc1 : w17.cell? ⟨wr.heap.size, 1, none⟩ = some (.int .i64 0) := (blk_cell BK.out 1).trans rfl; have hc2 : w17.cell? ⟨wr.heap.size, 2, none⟩ = some (.int .i64 (rd_T49 l0 i).f2) := (blk_cell BK.out 2).trans rfl)); go_meet
           case rel => exact ⟨by first | (rw [← FIN]; simp [EE.out]; done) | (rw [← FIN]; simp; have := EE.out; intro; omega), BK, HM2, HB2⟩
         ·by_cases e1 : x1 = 1
          ·subst e1
           by_cases e2 : (rd_T49 l0 i).f2 < 0
           ·have e2b := decide_eq_true e2; have EE := zA e2; clear e2 e0; go_wp2_with (go_at_call 45; (refine (impl_wellFormed.calls k1 _ _ (rd_T49 l0 i).f0 _ _ ?s1 ?s2 ?s3 A0_.out).mono ?_; (case s1 => exact Kd.C_below HRn.out HB2.out); (case s2 => exact HCn.out); (case s3 => exact LaidW.below HLD.out HB2.out); rintro e w17 ⟨rfl, hb⟩; replace BK := zA (blk_below BK.out hb); replace HM2 := zA (IntMap.below HM2.out hb); replace HB2 := zA (below_step HB2.out hb); clear hb; have hc0 : w17.cell? ⟨wr.heap.size, 0, none⟩ = some (.slice An (rd_T49 l0 i).f0.length cn) := (blk_cell BK.out 0).trans rfl; have hc1 : w17.cell? ⟨wr.heap.size, 1, none⟩ = some (.int .i64 1) := (blk_cell BK.out 1).trans rfl; have hc2 : w17.cell? ⟨wr.heap.size, 2, none⟩ = some (.int .i64 (rd_T49 l0 i).f2) := (blk_cell BK.out 2).trans rfl)); go_meet
            case rel => exact ⟨by first | (rw [← FIN]; simp [EE.out]; done) | (rw [← FIN]; simp; have := EE.out; intro; omega), BK, HM2, HB2⟩
           ·have e2b := decide_eq_false e2; have EE := zA e2; clear e2 e0; go_wp2_with (go_at_call 45; (refine (impl_wellFormed.calls k1 _ _ (rd_T49 l0 i).f0 _ _ ?s1 ?s2 ?s3 A0_.out).mono ?_; (case s1 => exact Kd.C_below HRn.out HB2.out); (case s2 => exact HCn.out); (case s3 => exact LaidW.below HLD.out HB2.out); rintro e w17 ⟨rfl, hb⟩; replace BK := zA (blk_below BK.out hb); replace HM2 := zA (IntMap.below HM2.out hb); replace HB2 := zA (below_step HB2.out hb); clear hb; have hc0 : w17.cell? ⟨wr.heap.size, 0, none⟩ = some (.slice An (rd_T49 l0 i).f0.length cn) := (blk_cell BK.out 0).trans rfl; have hc1 : w17.cell? ⟨wr.heap.size, 1, none⟩ = some (.int .i64 1) := (blk_cell BK.out 1).trans rfl; have hc2 : w17.cell? ⟨wr.heap.size, 2, none⟩ = some (.int .i64 (rd_T49 l0 i).f2) := (blk_cell BK.out 2).trans rfl)); go_meet
            case rel => exact ⟨by first | (rw [← FIN]; simp [EE.out]; done) | (rw [← FIN]; simp; have := EE.out; intro; omega), BK, HM2, HB2⟩
          ·have f0 : (x1 == 0) = false := by simpa using e0
           have f1 : (x1 == 1) = false := by simpa using e1
           have EE := zA (show _ ∧ _ from ⟨e0, e1⟩); have g0 : decide (x1 = 0) = false := decide_eq_false e0; have g1 : decide (x1 = 1) = false := decide_eq_false e1; go_wp2_with (go_at_call 45; (refine (impl_wellFormed.calls k1 _ _ (rd_T49 l0 i).f0 _ _ ?s1 ?s2 ?s3 A0_.out).mono ?_; (case s1 => exact Kd.C_below HRn.out HB2.out); (case s2 => exact HCn.out); (case s3 => exact LaidW.below HLD.out HB2.out); rintro e w17 ⟨rfl, hb⟩; replace BK := zA (blk_below BK.out hb); replace HM2 := zA (IntMap.below HM2.out hb); replace HB2 := zA (below_step HB2.out hb); clear hb; have hc0 : w17.cell? ⟨wr.heap.size, 0, none⟩ = some (.slice An (rd_T49 l0 i).f0.length cn) := (blk_cell BK.out 0).trans rfl; have hc1 : w17.cell? ⟨wr.heap.size, 1, none⟩ = some (.int .i64 x1) := (blk_cell BK.out 1).trans rfl; have hc2 : w17.cell? ⟨wr.heap.size, 2, none⟩ = some (.int .i64 (rd_T49 l0 i).f2) := (blk_cell BK.out 2).trans rfl)); go_meet
           case rel => exact ⟨by first | (rw [← FIN]; simp [EE.out]; done) | (rw [← FIN]; simp; have := EE.out; intro; omega), BK, HM2, HB2⟩
     case rest =>
      clear HB BK HM HM2 HB2; obtain ⟨rfl, BK, HM, HB⟩ := hcut; have H := H'.out; clear H'; have hc0 : wc.cell? ⟨wr.heap.size, 0, none⟩ = some (.slice An (rd_T49 l0 i).f0.length cn) := (blk_cell BK.out 0).trans rfl; have hc1 : wc.cell? ⟨wr.heap.size, 1, none⟩ = some (.int .i64 x1) := (blk_cell BK.out 1).trans rfl; have hc2 : wc.cell? ⟨wr.heap.size, 2, none⟩ = some (.int .i64 (rd_T49 l0 i).f2) := (blk_cell BK.out 2).trans rfl; cases b with
      | true =>
       clear A13; rw [if_pos rfl] at H; obtain rfl := Option.some.inj H; go_wp2; go_ret; exact ⟨rfl, HB.out⟩
      | false =>
       rw [if_neg (by decide)] at H; have HC := zA (impl_targetsOk.bad_cell A13.out); clear A13; have H' := zA H; clear H
       go_upto_region 9 with (fail)
       go_cut [71] from 58 (fun v71 wd => v71 = .bool (impl_targetsOk.low l0 i (rd_T49 l0 i).f0) ∧ Aside0 (wd.heap[wr.heap.size]? = some (.cells #[.slice An (rd_T49 l0 i).f0.length cn, .int .i64 x1, .int .i64 (rd_T49 l0 i).f2] 49 (0, 0))) ∧ Aside0 (IntMap Tryd.prog 3 3 wd w.heap.size i.toNat m) ∧ Aside0 (Below w.heap.size w wd))
       case first =>
        clear H'
        by_cases i0 : 0 < i
        ·have i0b := decide_eq_true i0; obtain ⟨j, hj⟩ : ∃ j, j = i - 1 := ⟨_, rfl⟩; have hjw : IntKind.i64.wrap (i - 1) = j := by rw [hj]; have := HI.out; have := HL30.out; simp only [IntKind.wrap_i64]; omega
         have hjw2 : wrap64 (i - 1) = j := by rw [hj]; have := HI.out; have := HL30.out; unfold wrap64; omega
         have hlow : impl_targetsOk.low l0 i (rd_T49 l0 i).f0 = decide (0 ≤ Lib.compareBytes (Lib.bytesOf (rd_T49 l0 j).f0) (Lib.bytesOf (rd_T49 l0 i).f0)) := by
          unfold impl_targetsOk.low; rw [← hj, decide_eq_true (show i > 0 from i0)]
          rfl
         have HLOW := zA hlow; clear hlow; have pj : 0 ≤ (j : Int) := by omega
         have qj : j < (l0.length : Int) := by have := HI.out; omega
         clear hj i0; obtain ⟨ad', Aj, cj, ej, hxj0, hxj1, hxj2, hlj, hij⟩ := at_T49 HR0.out j pj qj; cases ej; replace hxj0 := zx HB.out hxj0; have HRj := zA hij; have HCj := zA hlj; clear hij hlj hxj1 hxj2; replace pj := eq_true pj; replace qj := eq_true qj; go_quiet ((go_at_call 46; exact Calls.quiet_of ((bytes_Compare.calls _ _ (rd_T49 l0 j).f0 _ _ (rd_T49 l0 i).f0 _ _ (Kd.C_drewN (Kd.C_below HRj.out HB.out) _) HCj.out (Kd.C_drewN (Kd.C_below HRn.out HB.out) _) HCn.out rfl).mono fun e w' h => ⟨h.1, h.2.out⟩))); go_wp2; go_meet
         case rel => exact ⟨by rw [HLOW.out], BK, ⟨IntMap.drewN HM.out _⟩, ⟨pw_below_drewN HB.out _⟩⟩
        ·have i0b := decide_eq_false i0; have hlow : impl_targetsOk.low l0 i (rd_T49 l0 i).f0 = false := by
          unfold impl_targetsOk.low; rw [decide_eq_false (show ¬ i > 0 from i0)]
          rfl
         have HLOW := zA hlow; clear hlow i0; go_quiet (fail); go_wp2; go_meet
         case rel => exact ⟨by rw [HLOW.out], BK, ⟨IntMap.drewN HM.out _⟩, ⟨pw_below_drewN HB.out _⟩⟩
       case rest =>
        clear hc0 hc1 hc2 BK HM HB; obtain ⟨rfl, BK, HM, HB⟩ := hcut; have H := H'.out; clear H'; have hc0 : wc.cell? ⟨wr.heap.size, 0, none⟩ = some (.slice An (rd_T49 l0 i).f0.length cn) := (blk_cell BK.out 0).trans rfl; have hc1 : wc.cell? ⟨wr.heap.size, 1, none⟩ = some (.int .i64 x1) := (blk_cell BK.out 1).trans rfl; have hc2 : wc.cell? ⟨wr.heap.size, 2, none⟩ = some (.int .i64 (rd_T49 l0 i).f2) := (blk_cell BK.out 2).trans rfl; generalize impl_targetsOk.low l0 i (rd_T49 l0 i).f0 = bl at H ⊢; cases bl with
        | true =>
         rw [if_pos rfl] at H; obtain rfl := Option.some.inj H; go_wp2; go_ret; exact ⟨rfl, HB.out⟩
        | false =>
         rw [if_neg (by decide)] at H; have W2 := zA (impl_targetsOk.wf (c := (rd_T49 l0 i).f2) (by have := HC.out; omega) (by have := HC.out; have := HCA.out; omega)); have zero3 : (zeroValue 3).run Tryd.prog wc = .ok (.int .i64 0) wc := by kernel_rfl
         have Z3 := zA zero3; clear zero3
         by_cases ct : (mget m (rd_T49 l0 i).f2).isSome = true
         ·rw [if_pos ct] at H; obtain rfl := Option.some.inj H; go_wp2_with (refine wpList_imap_look rfl (.tmp 73) (.tmp 75) rfl Tryd.underlying70 Tryd.underlying3 Tryd.underlying3 Z3.out HM.out rfl (rd_T49 l0 i).f2 rfl W2.out ?_); go_ret; exact ⟨rfl, HB.out⟩
         ·rw [if_neg ct] at H; have ct' : (mget m (rd_T49 l0 i).f2).isSome = false := by simpa using ct
          clear ct; have H' := zA H; clear H; go_wp2_with (first | (refine wpList_imap_look rfl (.tmp 73) (.tmp 75) rfl Tryd.underlying70 Tryd.underlying3 Tryd.underlying3 Z3.out HM.out rfl (rd_T49 l0 i).f2 rfl W2.out ?_) | (refine wpList_imap_put rfl (.tmp 80) (.tmp 82) (.tmp 83) rfl Tryd.underlying70 Tryd.underlying3 Tryd.underlying3 HM.out (by have := HI.out; have := HL30.out; simp only [maxLen]; omega) rfl (rd_T49 l0 i).f2 i rfl rfl W2.out (impl_targetsOk.wf HI.out.1 (by have := HI.out; have := HL30.out; omega)) ?_; intro w20 HM2 hg; have HM3 := zA HM2; have HB3 := zA (Below.grown HB.out hg HB.out.size (fun k hk => by injection hk with hk; omega)); clear HM HB HM2 hg BK)); go_roundg k1
          case measure => have := HK1.out; omega
          case rel => exact ⟨i + 1, _, by have := HI.out; have := HL30.out; rw [show wrap64 (i + 1) = i + 1 by unfold wrap64; omega], H', ⟨by have := HK1.out; omega⟩, ⟨by have := HI.out; have := of_eq_true q133; omega⟩, ⟨by have := HI.out; rw [show (i + 1).toNat = i.toNat + 1 by omega]; exact HM3.out⟩, HB3⟩
    ·rw [if_neg c4] at H; have c4b0 := decide_eq_false c4; clear c4; obtain rfl := Option.some.inj H; go_wp2; go_ret; exact ⟨rfl, HB.out⟩

-- NOT PRINTED: function 47 (impl_Target_47)

-- NOT PRINTED: function 37 (impl_Target_37)

/-! ### impl_ValidLayout_any: function 9001 -/
def impl_ValidLayout_any.at (ts : List (S49)) (cost : List Int) : Nat → Int → Option Int
 | 0, _ => some (-1)
 | d + 1, i => if i < (ts.length : Int) then (if 0 ≤ (rd_T49 ts i).f2 ∧ (rd_T49 ts i).f2 < (cost.length : Int) then (if (rd cost (rd_T49 ts i).f2 == 0) = true then some i else impl_ValidLayout_any.at ts cost d (i + 1)) else none) else some (-1)
def impl_ValidLayout_any.f (l0 : List (S49)) (Be Bf : Int) (Ba Bb : List Int) (Bc : List (S49)) : Option Bool := if l0.length ≤ 1048576 then (impl_ValidLayout_any.at l0 Ba l0.length 0).bind fun r => some (decide (0 ≤ r)) else none
set_option maxHeartbeats 4000000 in
set_option maxRecDepth 100000 in
theorem impl_ValidLayout_any.same (x1 x2 : Int) (A1 : Option Addr) (c1 n1 : Nat) (Be Bf : Int) (Bd : Option Addr) (Bi : Nat) (Ba : List Int) (Bg : Option Addr) (Bj : Nat) (Bb : List Int) (Bh : Option Addr) (Bk : Nat) (Bc : List (S49)) (gb : Nat) (w : World) (hr : Kd.C (Kd.int .i64) w Bd Ba.length Ba)
  (h0 : 0 ≤ x2) (h1 : x2 < (Ba.length : Int)) (hg : w.heap[gb]? = some (.cells #[.int .i64 Be, .int .i64 Bf, .slice Bd Ba.length Bi, .slice Bg Bb.length Bj, .slice Bh Bc.length Bk] 31 (0, 0))) :
  Calls Tryd.prog 38 #[.agg #[.slice A1 n1 c1, .int .i64 x1, .int .i64 x2], .pointer (some ⟨gb, 0, none⟩)] w fun e w' => e = .returned (.bool (rd Ba x2 == 0)) ∧ Below w.heap.size w w' := by
 have hu74 := Tryd.underlying49; have HG := zA hg; clear hg; have hgl := blk_lt HG.out; obtain ⟨ad, e, hx⟩ := Kd.at_int hr x2 h0 h1; cases e; have hcell := ((below_alloc (Below.refl w.heap.size w) (.cells #[.slice A1 n1 c1, .int .i64 x1, .int .i64 x2] 49 (0, 0))).cell (p := ⟨gb, 2, none⟩) hgl).trans ((blk_cell HG.out 2).trans rfl); have hx' := ((below_alloc (Below.refl w.heap.size w) (.cells #[.slice A1 n1 c1, .int .i64 x1, .int .i64 x2] 49 (0, 0))).cell (World.block_lt_of_cell? w _ hx)).trans hx; clear hr hx; replace h0 := eq_true h0; replace h1 := eq_true h1; go_enter Tryd.func38, Tryd.ntmps38; go_wp2

 go_ret; exact ⟨rfl, below_alloc (Below.refl _ _) _⟩
set_option maxHeartbeats 4000000 in
set_option maxRecDepth 100000 in
theorem impl_ValidLayout_any.idx (A0 : Option Addr) (c0 : Nat) (l0 : List (S49)) (Be Bf : Int) (Bd : Option Addr) (Bi : Nat) (Ba : List Int) (Bg : Option Addr) (Bj : Nat) (Bb : List Int) (Bh : Option Addr) (Bk : Nat) (Bc : List (S49)) (gb : Nat) (R : Int) (w : World) (hr0 : Kd.C k49 w A0 l0.length l0) (hr : Kd.C (Kd.int .i64) w Bd Ba.length Ba) (hg : w.heap[gb]? = some (.cells #[.int .i64 Be, .int .i64 Bf, .slice Bd Ba.length Bi, .slice Bg Bb.length Bj, .slice Bh Bc.length Bk] 31 (0, 0))) (hl : l0.length ≤ 1048576) (hf : impl_ValidLayout_any.at l0 Ba l0.length 0 = some R) :
  Calls Tryd.prog 47 #[.slice A0 l0.length c0, .func (.func 38) #[] #[.pointer (some ⟨gb, 0, none⟩)]] w fun e w' => e = .returned (.int .i64 R) ∧ Below w.heap.size w w' := by
 have hu74 := Tryd.underlying49; have HR0 := zA hr0; have HR1 := zA hr; have HG := zA hg; have HSM := zA hl; have HF := zA hf; clear hr0 hr hg hl hf; have HB := zA (Below.refl w.heap.size w); go_enter Tryd.func47, Tryd.ntmps47; go_wp2
 go_loopg [8] (l0.length) (fun kq v8 w' => ∃ (i : Int), v8 = .int .i64 i ∧ Aside0 (impl_ValidLayout_any.at l0 Ba kq i = some R) ∧ Aside0 (0 ≤ i ∧ (kq : Int) + i = l0.length) ∧ Aside0 (Below w.heap.size w w'))
 case atStart => exact ⟨0, rfl, HF, ⟨by omega⟩, HB⟩
 case round =>
  clear HF HB; obtain ⟨i, rfl, HF, HI, HB⟩ := hrel
  by_cases c4 : i < (l0.length : Int)
  ·have c4b0 := decide_eq_true c4; have p133 : 0 ≤ (i : Int) := HI.out.1; have q133 : i < (l0.length : Int) := c4; obtain ⟨ad, An, cn, e133, hx0, hx1, hx2, hl133, hi133⟩ := at_T49 HR0.out i p133 q133; cases e133; replace hx0 := zx HB.out hx0; replace hx1 := zx HB.out hx1; replace hx2 := zx HB.out hx2; clear hl133 hi133; cases gk with
   | zero => exact absurd HI.out.2 (by omega)
   | succ k1 =>
    have H := HF.out; clear HF; rw [impl_ValidLayout_any.at, if_pos c4] at H; clear c4; replace p133 := eq_true p133; replace q133 := eq_true q133
    by_cases cr : 0 ≤ (rd_T49 l0 i).f2 ∧ (rd_T49 l0 i).f2 < (Ba.length : Int)
    ·rw [if_pos cr] at H; have CR := zA cr; clear cr
     by_cases ce : (rd Ba (rd_T49 l0 i).f2 == 0) = true
     ·rw [if_pos ce] at H; obtain rfl := Option.some.inj H; go_wp2_with (go_at_call 38; refine (impl_ValidLayout_any.same (rd_T49 l0 i).f1 (rd_T49 l0 i).f2 An cn _ Be Bf Bd Bi Ba Bg Bj Bb Bh Bk Bc gb _ (Kd.C_below HR1.out HB.out) CR.out.1 CR.out.2 (blk_below HG.out HB.out)).mono ?_; rintro e w17 ⟨rfl, hb⟩; have n1_ := zA (below_step HB.out hb); clear HB hb; have HB := n1_; clear n1_); go_ret; exact ⟨rfl, HB.out⟩
     ·rw [if_neg ce] at H; have ce' : (rd Ba (rd_T49 l0 i).f2 == 0) = false := by simpa using ce
      clear ce; have H' := zA H; clear H; go_wp2_with (go_at_call 38; refine (impl_ValidLayout_any.same (rd_T49 l0 i).f1 (rd_T49 l0 i).f2 An cn _ Be Bf Bd Bi Ba Bg Bj Bb Bh Bk Bc gb _ (Kd.C_below HR1.out HB.out) CR.out.1 CR.out.2 (blk_below HG.out HB.out)).mono ?_; rintro e w17 ⟨rfl, hb⟩; have n1_ := zA (below_step HB.out hb); clear HB hb; have HB := n1_; clear n1_); go_roundg k1
      case measure => omega
      case rel => exact ⟨i + 1, by have := HI.out; have := HSM.out; have := of_eq_true q133; rw [show wrap64 (i + 1) = i + 1 by unfold wrap64; omega], H', ⟨by have := HI.out; omega⟩, HB⟩
    ·rw [if_neg cr] at H; cases H
  ·have c4b0 := decide_eq_false c4; have : R = -1 := by
    have H := HF.out; cases gk with
    | zero => exact (Option.some.inj H).symm
    | succ k1 => rw [impl_ValidLayout_any.at, if_neg c4] at H; exact (Option.some.inj H).symm
   subst this; clear c4 HF; go_wp2; go_ret; exact ⟨rfl, HB.out⟩
set_option maxHeartbeats 4000000 in
set_option maxRecDepth 100000 in
theorem impl_ValidLayout_any.calls {gb : Nat} (A0 : Option Addr) (c0 : Nat) (l0 : List (S49)) (Be Bf : Int) (Bd : Option Addr) (Bi : Nat) (Ba : List Int) (Bg : Option Addr) (Bj : Nat) (Bb : List Int) (Bh : Option Addr) (Bk : Nat) (Bc : List (S49)) (r : Bool) (w : World) (hr0 : Kd.C k49 w A0 l0.length l0) (hc0 : l0.length ≤ c0) (hr1_2 : Kd.C (Kd.int .i64) w Bd Ba.length Ba) (hc1_2 : Ba.length ≤ Bi) (hr1_3 : Kd.C (Kd.int .i64) w Bg Bb.length Bb) (hc1_3 : Bb.length ≤ Bj) (hr1_4 : Kd.C k49 w Bh Bc.length Bc) (hc1_4 : Bc.length ≤ Bk) (hg : w.heap[gb]? = some (.cells #[.int .i64 Be, .int .i64 Bf, .slice Bd Ba.length Bi, .slice Bg Bb.length Bj, .slice Bh Bc.length Bk] 31 (0, 0))) (h : impl_ValidLayout_any.f l0 Be Bf Ba Bb Bc = some r) :
  Calls Tryd.prog 37 #[.slice A0 l0.length c0, .func (.func 38) #[] #[.pointer (some ⟨gb, 0, none⟩)]] w fun e w' => e = .returned (.bool r) ∧ Below w.heap.size w w' := by
 unfold impl_ValidLayout_any.f at h
 by_cases hl : l0.length ≤ 1048576
 ·rw [if_pos hl] at h; obtain ⟨R, hf, h⟩ := Option.bind_eq_some_iff.mp h; obtain rfl := Option.some.inj h; have I := zA (impl_ValidLayout_any.idx A0 c0 l0 Be Bf Bd Bi Ba Bg Bj Bb Bh Bk Bc gb R w hr0 hr1_2 hg hl hf); clear hr0 hc0 hr1_2 hc1_2 hr1_3 hc1_3 hr1_4 hc1_4 hg h hf hl; go_enter Tryd.func37, Tryd.ntmps37; go_wp2_with (go_at_call 47; refine I.out.mono ?_; rintro e w17 ⟨rfl, hb⟩); go_ret; exact ⟨rfl, hb⟩
 ·rw [if_neg hl] at h; cases h

end Go.Proofs.YtibipjpmeekifaaDoor.PFnExactLayoutDecls
