-- made by wip/tools/myprint.py (this session's own program, over the kit's printer)
import Derived.Test.YthbeplmihjhoeaaDoorPFnExactRunFleetx0
import Derived.Test.YthbeplmihjhoeaaDoorPFnExactRunFleetx14
namespace Go.Proofs.YthbeplmihjhoeaaDoor.PFnExactRunFleet
open Go.RowKit Go.Proofs.YthbeplmihjhoeaaDoorW.PrintWords Go.Proofs.YthbeplmihjhoeaaDoorW.PrintLast Go.Proofs.YthbeplmihjhoeaaDoorW.PrintMore
attribute [local go_sem] max2_int min2_int max_two min_two max_three min_three max_four min_four   -- for this text's walks alone
set_option linter.unusedVariables false
set_option linter.unusedSimpArgs false

/-! ### impl_wellFormed: function 108 -/
def impl_wellFormed.f (k : Nat) (l0 : List Int) : Option (Bool) := (impl_CheckText.f k l0).bind fun bt298 => (some (bt298.1 == 0))
theorem impl_wellFormed.mono : ∀ a0 k, LeO (impl_wellFormed.f k a0) (impl_wellFormed.f (k + 1) a0) := by
 intro a0 k; unfold impl_wellFormed.f; have m1 := @impl_CheckText.mono; exact zm
set_option maxHeartbeats 8000000 in
set_option maxRecDepth 100000 in
theorem impl_wellFormed.calls (k : Nat) (A0 : Option Addr) (c0 : Nat) (l0 : List Int) (r : Bool) (w : World) (hr0 : Kd.C (Kd.int .u8) w A0 l0.length l0) (hc0 : l0.length ≤ c0) (hL : LaidW w) (h : impl_wellFormed.f k l0 = some r) :
  Calls Tryd.prog 108 #[.slice A0 l0.length c0] w fun e w' => e = .returned (.bool r) ∧ Below w.heap.size w w' := by
 have HR0 := zA hr0; have HC0 := zA hc0; clear hr0 hc0; have HLD := zA hL; clear hL; have HB := zA (Below.refl w.heap.size w); have H : ((impl_CheckText.f k l0).bind fun bt298 => (some (bt298.1 == 0))) = some r := h; clear h; replace H := Option.bind_eq_some_iff.mp H; obtain ⟨⟨Ba, Bb⟩, A20, H⟩ := H; (try dsimp only at H); have A2 := zA A20; clear A20; obtain rfl := Option.some.inj H; go_enter Tryd.func108, Tryd.ntmps108; go_wp2_with (first | ((with_reducible refine gate_callee (f := 157) rfl ?_); refine goesL_ (some 7) rfl rfl Tryd.func157 (by kernel_rfl) rfl #[.slice A0 l0.length c0] rfl za ?_; (with_reducible refine (impl_CheckText.calls k _ _ l0 Ba Bb _ ?s1 ?s2 ?s3 A2.out).mono ?_); (case s1 => exact zc (HR0.out)); (case s2 => exact HC0.out); (case s3 => exact LaidW.below HLD.out z_); rintro e w3 ⟨rfl, hb⟩; refine ⟨_, rfl, ?_⟩; replace HB := zA (below_step z_ hb); (try clear hb))); go_ret; exact ⟨ze, z_⟩

-- NOT PRINTED: function 205 (bytealg_Compare)

/-! ### bytes_Compare: function 180 -/
theorem run_bytesOfC {w : World} {A : Option Addr} {l : List Int} {c : Nat} (hr : Kd.C (Kd.int .u8) w A l.length l) :
  (Extern.Bytes.bytesOf (.slice A l.length c)).run Tryd.prog w = .ok ⟨(Lib.bytesOf l).toArray⟩ w := by
 cases A with
 | none =>
  have : l = [] := by
   cases l with
   | nil => rfl
   | cons x t => obtain ⟨ad, e, _⟩ := Kd.at_int hr 0 (by omega) (by simp); cases e
  subst this
  rfl
 | some ad =>
  have := Lib.run_loadBytesX (P := Tryd.prog) w l ad .empty (fun j x hj => by
   have hjl : j < l.length := (List.getElem?_eq_some_iff.1 hj).1; obtain ⟨ad', e, hx⟩ := Kd.at_int hr (j : Int) (by omega) (by omega); injection e with e; subst e; rw [rd, Int.toNat_natCast, List.getD_eq_getElem?_getD, hj] at hx
   exact hx)
  simpa [Extern.Bytes.bytesOf] using this
theorem cmp_eq_lists (xs ys : List UInt8) : Extern.BytealgCompare.cmp ⟨xs.toArray⟩ ⟨ys.toArray⟩ = Lib.compareBytes xs ys := by
 rw [← Lib.cmpL_eq]; unfold Extern.BytealgCompare.cmp Lib.cmpL; simp only [Lib.get!_eq]
 rfl
def bytes_Compare.f (l0 : List Int) (l1 : List Int) : Option (Int) := some (Lib.compareBytes (Lib.bytesOf l0) (Lib.bytesOf l1))
set_option maxHeartbeats 1000000 in
set_option maxRecDepth 100000 in
theorem bytes_Compare.calls (A0 : Option Addr) (c0 : Nat) (l0 : List Int) (A1 : Option Addr) (c1 : Nat) (l1 : List Int) (r : Int) (w : World) (hr0 : Kd.C (Kd.int .u8) w A0 l0.length l0) (hc0 : l0.length ≤ c0) (hr1 : Kd.C (Kd.int .u8) w A1 l1.length l1) (hc1 : l1.length ≤ c1) (h : bytes_Compare.f l0 l1 = some r) :
  Calls Tryd.prog 180 #[.slice A0 l0.length c0, .slice A1 l1.length c1] w fun e w' => e = .returned (.int .i64 r) ∧ Drawn0 w w' := by
 unfold bytes_Compare.f at h; injection h with h; have e : (Extern.BytealgCompare.compare #[.slice A0 l0.length c0, .slice A1 l1.length c1]).run Tryd.prog w = .ok (.int .i64 r) w := by
  show Sem.run Tryd.prog (do pure (goInt (Extern.BytealgCompare.cmp (← Extern.Bytes.bytesOf (.slice A0 l0.length c0)) (← Extern.Bytes.bytesOf (.slice A1 l1.length c1))))) w = _; simp only [Sem.run_bind, run_bytesOfC hr0, run_bytesOfC hr1, Result.andThen_ok, Sem.run_pure, cmp_eq_lists, h]
  rfl
 have E := zA e; clear e h hr0 hr1; go_enter Tryd.func180, Tryd.ntmps180; go_wp2; rw [run_callFunc_extern Tryd.func205 (by kernel_rfl) (by kernel_rfl) (by kernel_rfl) (e := Extern.BytealgCompare.compare) (by kernel_rfl), E.out]; simp only [Result.andThen]; rw [Oper.upon_value]; go_wp2; go_ret; exact ⟨rfl, ⟨⟨0, rfl⟩⟩⟩

/-! ### impl_targetsOk: function 139 -/
def impl_targetsOk.bad (k : Nat) (a1 : Int) (x0 : List Int) (x1 : Int) (x2 : Int) : Option Bool :=
 if (x0.length : Int) < 1 then some true else if (x0.length : Int) > 60 then some true else (impl_wellFormed.f k x0).bind fun t => some (!t || (!decide (x1 = 0) && !decide (x1 = 1)) || decide (x2 < 0) || decide (x2 ≥ a1))
def impl_targetsOk.low (l0 : List (S120)) (i : Int) (x0 : List Int) : Bool := decide (i > 0) && decide (Lib.compareBytes (Lib.bytesOf (rd_T120 l0 (i - 1)).f0) (Lib.bytesOf x0) ≥ 0)
def impl_targetsOk.l : Nat → List (S120) → Int → Int → List (Int × Int) → Option Bool
 | 0, _, _, _, _ => none
 | k + 1, l0, a1, i, m => if i < (l0.length : Int) then (impl_targetsOk.bad k a1 (rd_T120 l0 i).f0 (rd_T120 l0 i).f1 (rd_T120 l0 i).f2).bind fun b => if b = true then some false else if impl_targetsOk.low l0 i (rd_T120 l0 i).f0 = true then some false else if (mget m (rd_T120 l0 i).f2).isSome = true then some false else impl_targetsOk.l k l0 a1 (i + 1) (((rd_T120 l0 i).f2, i) :: m) else some true
def impl_targetsOk.f (k : Nat) (l0 : List (S120)) (a1 : Int) : Option Bool := if (l0.length : Int) > 30 then some false else if a1 ≤ 4611686018427387904 then impl_targetsOk.l k l0 a1 0 [] else none
theorem impl_targetsOk.bad_mono (a1 : Int) (x0 : List Int) (x1 x2 : Int) (k : Nat) : LeO (impl_targetsOk.bad k a1 x0 x1 x2) (impl_targetsOk.bad (k + 1) a1 x0 x1 x2) := by
 unfold impl_targetsOk.bad; refine LeO.ite (LeO.refl _) (LeO.ite (LeO.refl _) (LeO.bind (impl_wellFormed.mono _ _) fun _ => LeO.refl _))
theorem impl_targetsOk.bad_cell {k : Nat} {a1 : Int} {x0 : List Int} {x1 x2 : Int} (h : impl_targetsOk.bad k a1 x0 x1 x2 = some false) : 0 ≤ x2 ∧ x2 < a1 := by
 unfold impl_targetsOk.bad at h
 split at h
 ·cases h
 ·split at h
  ·cases h
  ·obtain ⟨t, _, h⟩ := Option.bind_eq_some_iff.mp h; have h := Option.some.inj h; simp only [Bool.or_eq_false_iff, decide_eq_false_iff_not] at h
   omega
theorem impl_targetsOk.wf {c : Int} (h0 : 0 ≤ c) (h1 : c ≤ 4611686018427387904) : (Lit.int .i64 c).wf = true := by
 have e0 : IntKind.min .i64 = -9223372036854775808 := by rfl
 have e1 : IntKind.max .i64 = 9223372036854775807 := by rfl
 simp only [Lit.wf, e0, e1, Bool.and_eq_true, decide_eq_true_eq]
 omega
theorem impl_targetsOk.mono_l : ∀ k l0 a1 i m, LeO (impl_targetsOk.l k l0 a1 i m) (impl_targetsOk.l (k + 1) l0 a1 i m)
 | 0, _, _, _, _ => fun r h => by simp [impl_targetsOk.l] at h
 | k + 1, l0, a1, i, m => by
  rw [impl_targetsOk.l, impl_targetsOk.l]; exact LeO.ite (LeO.bind (impl_targetsOk.bad_mono _ _ _ _ _) fun _ => LeO.ite (LeO.refl _) (LeO.ite (LeO.refl _) (LeO.ite (LeO.refl _) (impl_targetsOk.mono_l k _ _ _ _)))) (LeO.refl _)
theorem impl_targetsOk.mono : ∀ a0 a1 k, LeO (impl_targetsOk.f k a0 a1) (impl_targetsOk.f (k + 1) a0 a1) := by
 intro a0 a1 k; unfold impl_targetsOk.f; exact LeO.ite (LeO.refl _) (LeO.ite (impl_targetsOk.mono_l k _ _ _ _) (LeO.refl _))
set_option maxHeartbeats 4000000 in
set_option maxRecDepth 100000 in
theorem impl_targetsOk.calls (k : Nat) (A0 : Option Addr) (c0 : Nat) (l0 : List (S120)) (a1 : Int) (r : Bool) (w : World) (hr0 : Kd.C k120 w A0 l0.length l0) (hc0 : l0.length ≤ c0) (hL : LaidW w) (h : impl_targetsOk.f k l0 a1 = some r) :
  Calls Tryd.prog 139 #[.slice A0 l0.length c0, .int .i64 a1] w fun e w' => e = .returned (.bool r) ∧ Below w.heap.size w w' := by
 have hu74 := Tryd.underlying120; have HR0 := zA hr0; have HC0 := zA hc0; clear hr0 hc0; have HLD := zA hL; clear hL; have HB := zA (Below.refl w.heap.size w); have H : (if (l0.length : Int) > 30 then some false else if a1 ≤ 4611686018427387904 then impl_targetsOk.l k l0 a1 0 [] else none) = some r := h; clear h
 by_cases c3 : (l0.length : Int) > 30
 ·rw [if_pos c3] at H; have c3b0 : decide (30 < (l0.length : Int)) = true := decide_eq_true c3; obtain rfl := Option.some.inj H; go_enter Tryd.func139, Tryd.ntmps139; go_wp2; go_ret; exact ⟨rfl, HB.out⟩
 ·rw [if_neg c3] at H
  by_cases ca : a1 ≤ 4611686018427387904
  case neg => rw [if_neg ca] at H; cases H
  rw [if_pos ca] at H; have HCA := zA ca; clear ca; have c3b0 : decide (30 < (l0.length : Int)) = false := decide_eq_false c3; have H' := zA H; clear H; have L30 : (l0.length : Int) ≤ 30 := by omega
  clear c3; have HL30 := zA L30; clear L30; have hmm := @run_makeMap Tryd.prog; go_enter Tryd.func139, Tryd.ntmps139; go_wp2; clear hmm
  go_loopg [16] k (fun kq v16 w' => ∃ (i : Int) (m : List (Int × Int)), v16 = .int .i64 i ∧ Aside0 (impl_targetsOk.l kq l0 a1 i m = some r) ∧ Aside0 (kq ≤ k) ∧ Aside0 (0 ≤ i ∧ i ≤ (l0.length : Int)) ∧ Aside0 (IntMap Tryd.prog 3 3 w' w.heap.size i.toNat m) ∧ Aside0 (Below w.heap.size w w'))
  case atStart => exact ⟨0, [], rfl, H', ⟨Nat.le_refl _⟩, ⟨by omega⟩, ⟨IntMap.made _ _ _ _⟩, ⟨below_alloc HB.out _⟩⟩
  case round =>
   clear H' HB; obtain ⟨i, m, rfl, HA, HK1, HI, HM, HB⟩ := hrel; cases gk with
   | zero => exact absurd HA.out (by simp [impl_targetsOk.l])
   | succ k1 =>
    have H := HA.out; clear HA; simp only [impl_targetsOk.l] at H
    by_cases c4 : i < (l0.length : Int)
    ·rw [if_pos c4] at H; have c4b0 := decide_eq_true c4; replace H := Option.bind_eq_some_iff.mp H; obtain ⟨b, A130, H⟩ := H; have A13 := zA A130; clear A130; have H' := zA H; clear H; have p133 : 0 ≤ (i : Int) := HI.out.1; have q133 : i < (l0.length : Int) := c4; clear c4; obtain ⟨ad, An, cn, e133, hx0, hx1, hx2, hl133, hi133⟩ := at_T120 HR0.out i p133 q133; cases e133; replace hx0 := zx HB.out hx0; replace hx1 := zx HB.out hx1; replace hx2 := zx HB.out hx2; have HRn := zA hi133; have HCn := zA hl133; clear hi133 hl133; obtain ⟨x1, ex1⟩ : ∃ x, x = (rd_T120 l0 i).f1 := ⟨_, rfl⟩; rw [← ex1] at hx1 A13; clear ex1; replace p133 := eq_true p133; replace q133 := eq_true q133
     go_upto_region 7 with (fail)
     have HB2 := zA (below_alloc HB.out (.cells #[.slice An (rd_T120 l0 i).f0.length cn, .int .i64 x1, .int .i64 (rd_T120 l0 i).f2] 120 (0, 0))); have BK := zA (blk_new wr (.cells #[.slice An (rd_T120 l0 i).f0.length cn, .int .i64 x1, .int .i64 (rd_T120 l0 i).f2] 120 (0, 0))); have HM2 := zA (HM.out.alloc (.cells #[.slice An (rd_T120 l0 i).f0.length cn, .int .i64 x1, .int .i64 (rd_T120 l0 i).f2] 120 (0, 0)))
     go_cut [57] from 21 (fun v57 wc => v57 = .bool b ∧ Aside0 (wc.heap[wr.heap.size]? = some (.cells #[.slice An (rd_T120 l0 i).f0.length cn, .int .i64 x1, .int .i64 (rd_T120 l0 i).f2] 120 (0, 0))) ∧ Aside0 (IntMap Tryd.prog 3 3 wc w.heap.size i.toNat m) ∧ Aside0 (Below w.heap.size w wc))
     case first =>
      clear H'; have A := A13.out; clear A13; unfold impl_targetsOk.bad at A
      by_cases c1 : ((rd_T120 l0 i).f0.length : Int) < 1
      ·rw [if_pos c1] at A; obtain rfl := Option.some.inj A; have c1b := decide_eq_true c1; clear c1; go_wp2; go_meet
       case rel => exact ⟨rfl, BK, HM2, HB2⟩
      ·rw [if_neg c1] at A; have c1b := decide_eq_false c1; clear c1
       by_cases c2 : ((rd_T120 l0 i).f0.length : Int) > 60
       ·rw [if_pos c2] at A; obtain rfl := Option.some.inj A; have c2b : decide (60 < ((rd_T120 l0 i).f0.length : Int)) = true := decide_eq_true c2; clear c2; go_wp2; go_meet
        case rel => exact ⟨rfl, BK, HM2, HB2⟩
       ·rw [if_neg c2] at A; have c2b : decide (60 < ((rd_T120 l0 i).f0.length : Int)) = false := decide_eq_false c2; clear c2; obtain ⟨t, A0, A1⟩ := Option.bind_eq_some_iff.mp A; have A0_ := zA A0; have E := zA (Option.some.inj A1); clear A A0 A1; cases t with
        | false =>
         go_wp2_with (go_at_call 108; (refine (impl_wellFormed.calls k1 _ _ (rd_T120 l0 i).f0 _ _ ?s1 ?s2 ?s3 A0_.out).mono ?_; (case s1 => exact Kd.C_below HRn.out HB2.out); (case s2 => exact HCn.out); (case s3 => exact LaidW.below HLD.out HB2.out); rintro e w17 ⟨rfl, hb⟩; replace BK := zA (blk_below BK.out hb); replace HM2 := zA (IntMap.below HM2.out hb); replace HB2 := zA (below_step HB2.out hb); clear hb; have hc0 : w17.cell? ⟨wr.heap.size, 0, none⟩ = some (.slice An (rd_T120 l0 i).f0.length cn) := (blk_cell BK.out 0).trans rfl; have hc1 : w17.cell? ⟨wr.heap.size, 1, none⟩ = some (.int .i64 x1) := (blk_cell BK.out 1).trans rfl; have hc2 : w17.cell? ⟨wr.heap.size, 2, none⟩ = some (.int .i64 (rd_T120 l0 i).f2) := (blk_cell BK.out 2).trans rfl)); go_meet
         case rel => exact ⟨by rw [← E.out]; simp, BK, HM2, HB2⟩
        | true =>
         have FIN : (!true || (!decide (x1 = 0) && !decide (x1 = 1)) || decide ((rd_T120 l0 i).f2 < 0) || decide ((rd_T120 l0 i).f2 ≥ a1)) = b := E.out
         by_cases e0 : x1 = 0
         ·subst e0
          by_cases e2 : (rd_T120 l0 i).f2 < 0
          ·have e2b := decide_eq_true e2; have EE := zA e2; clear e2; go_wp2_with (go_at_call 108; (refine (impl_wellFormed.calls k1 _ _ (rd_T120 l0 i).f0 _ _ ?s1 ?s2 ?s3 A0_.out).mono ?_; (case s1 => exact Kd.C_below HRn.out HB2.out); (case s2 => exact HCn.out); (case s3 => exact LaidW.below HLD.out HB2.out); rintro e w17 ⟨rfl, hb⟩; replace BK := zA (blk_below BK.out hb); replace HM2 := zA (IntMap.below HM2.out hb); replace HB2 := zA (below_step HB2.out hb); clear hb; have hc0 : w17.cell? ⟨wr.heap.size, 0, none⟩ = some (.slice An (rd_T120 l0 i).f0.length cn) := (blk_cell BK.out 0).trans rfl; have hc1 : w17.cell? ⟨wr.heap.size, 1, none⟩ = some (.int .i64 0) := (blk_cell BK.out 1).trans rfl; have hc2 : w17.cell? ⟨wr.heap.size, 2, none⟩ = some (.int .i64 (rd_T120 l0 i).f2) := (blk_cell BK.out 2).trans rfl)); go_meet
           case rel => exact ⟨by first | (rw [← FIN]; simp [EE.out]; done) | (rw [← FIN]; simp; have := EE.out; intro; omega), BK, HM2, HB2⟩
          ·have e2b := decide_eq_false e2; have EE := zA e2; clear e2; go_wp2_with (go_at_call 108; (refine (impl_wellFormed.calls k1 _ _ (rd_T120 l0 i).f0 _ _ ?s1 ?s2 ?s3 A0_.out).mono ?_; (case s1 => exact Kd.C_below HRn.out HB2.out); (case s2 => exact HCn.out); (case s3 => exact LaidW.below HLD.out HB2.out); rintro e w17 ⟨rfl, hb⟩; replace BK := zA (blk_below BK.out hb); replace HM2 := zA (IntMap.below HM2.out hb); replace HB2 := zA (below_step HB2.out hb); clear hb; have hc0 : w17.cell? ⟨wr.heap.size, 0, none⟩ = some (.slice An (rd_T120 l0 i).f0.length cn) := (blk_cell BK.out 0).trans rfl; have hc1 : w17.cell? ⟨wr.heap.size, 1, none⟩ = some (.int .i64 0) := (blk_cell BK.out 1).trans rfl; have hc2 : w17.cell? ⟨wr.heap.size, 2, none⟩ = some (.int .i64 (rd_T120 l0 i).f2) := (blk_cell BK.out 2).trans rfl)); go_meet
           case rel => exact ⟨by first | (rw [← FIN]; simp [EE.out]; done) | (rw [← FIN]; simp; have := EE.out; intro; omega), BK, HM2, HB2⟩
         ·by_cases e1 : x1 = 1
          ·subst e1
           by_cases e2 : (rd_T120 l0 i).f2 < 0
           ·have e2b := decide_eq_true e2; have EE := zA e2; clear e2 e0; go_wp2_with (go_at_call 108; (refine (impl_wellFormed.calls k1 _ _ (rd_T120 l0 i).f0 _ _ ?s1 ?s2 ?s3 A0_.out).mono ?_; (case s1 => exact Kd.C_below HRn.out HB2.out); (case s2 => exact HCn.out); (case s3 => exact LaidW.below HLD.out HB2.out); rintro e w17 ⟨rfl, hb⟩; replace BK := zA (blk_below BK.out hb); replace HM2 := zA (IntMap.below HM2.out hb); replace HB2 := zA (below_step HB2.out hb); clear hb; have hc0 : w17.cell? ⟨wr.heap.size, 0, none⟩ = some (.slice An (rd_T120 l0 i).f0.length cn) := (blk_cell BK.out 0).trans rfl; have hc1 : w17.cell? ⟨wr.heap.size, 1, none⟩ = some (.int .i64 1) := (blk_cell BK.out 1).trans rfl; have hc2 : w17.cell? ⟨wr.heap.size, 2, none⟩ = some (.int .i64 (rd_T120 l0 i).f2) := (blk_cell BK.out 2).trans rfl)); go_meet
            case rel => exact ⟨by first | (rw [← FIN]; simp [EE.out]; done) | (rw [← FIN]; simp; have := EE.out; intro; omega), BK, HM2, HB2⟩
           ·have e2b := decide_eq_false e2; have EE := zA e2; clear e2 e0; go_wp2_with (go_at_call 108; (refine (impl_wellFormed.calls k1 _ _ (rd_T120 l0 i).f0 _ _ ?s1 ?s2 ?s3 A0_.out).mono ?_; (case s1 => exact Kd.C_below HRn.out HB2.out); (case s2 => exact HCn.out); (case s3 => exact LaidW.below HLD.out HB2.out); rintro e w17 ⟨rfl, hb⟩; replace BK := zA (blk_below BK.out hb); replace HM2 := zA (IntMap.below HM2.out hb); replace HB2 := zA (below_step HB2.out hb); clear hb; have hc0 : w17.cell? ⟨wr.heap.size, 0, none⟩ = some (.slice An (rd_T120 l0 i).f0.length cn) := (blk_cell BK.out 0).trans rfl; have hc1 : w17.cell? ⟨wr.heap.size, 1, none⟩ = some (.int .i64 1) := (blk_cell BK.out 1).trans rfl; have hc2 : w17.cell? ⟨wr.heap.size, 2, none⟩ = some (.int .i64 (rd_T120 l0 i).f2) := (blk_cell BK.out 2).trans rfl)); go_meet
            case rel => exact ⟨by first | (rw [← FIN]; simp [EE.out]; done) | (rw [← FIN]; simp; have := EE.out; intro; omega), BK, HM2, HB2⟩
          ·have f0 : (x1 == 0) = false := by simpa using e0
           have f1 : (x1 == 1) = false := by simpa using e1
           have EE := zA (show _ ∧ _ from ⟨e0, e1⟩); have g0 : decide (x1 = 0) = false := decide_eq_false e0; have g1 : decide (x1 = 1) = false := decide_eq_false e1; go_wp2_with (go_at_call 108; (refine (impl_wellFormed.calls k1 _ _ (rd_T120 l0 i).f0 _ _ ?s1 ?s2 ?s3 A0_.out).mono ?_; (case s1 => exact Kd.C_below HRn.out HB2.out); (case s2 => exact HCn.out); (case s3 => exact LaidW.below HLD.out HB2.out); rintro e w17 ⟨rfl, hb⟩; replace BK := zA (blk_below BK.out hb); replace HM2 := zA (IntMap.below HM2.out hb); replace HB2 := zA (below_step HB2.out hb); clear hb; have hc0 : w17.cell? ⟨wr.heap.size, 0, none⟩ = some (.slice An (rd_T120 l0 i).f0.length cn) := (blk_cell BK.out 0).trans rfl; have hc1 : w17.cell? ⟨wr.heap.size, 1, none⟩ = some (.int .i64 x1) := (blk_cell BK.out 1).trans rfl; have hc2 : w17.cell? ⟨wr.heap.size, 2, none⟩ = some (.int .i64 (rd_T120 l0 i).f2) := (blk_cell BK.out 2).trans rfl)); go_meet
           case rel => exact ⟨by first | (rw [← FIN]; simp [EE.out]; done) | (rw [← FIN]; simp; have := EE.out; intro; omega), BK, HM2, HB2⟩
     case rest =>
      clear HB BK HM HM2 HB2; obtain ⟨rfl, BK, HM, HB⟩ := hcut; have H := H'.out; clear H'; have hc0 : wc.cell? ⟨wr.heap.size, 0, none⟩ = some (.slice An (rd_T120 l0 i).f0.length cn) := (blk_cell BK.out 0).trans rfl; have hc1 : wc.cell? ⟨wr.heap.size, 1, none⟩ = some (.int .i64 x1) := (blk_cell BK.out 1).trans rfl; have hc2 : wc.cell? ⟨wr.heap.size, 2, none⟩ = some (.int .i64 (rd_T120 l0 i).f2) := (blk_cell BK.out 2).trans rfl; cases b with
      | true =>
       clear A13; rw [if_pos rfl] at H; obtain rfl := Option.some.inj H; go_wp2; go_ret; exact ⟨rfl, HB.out⟩
      | false =>
       rw [if_neg (by decide)] at H; have HC := zA (impl_targetsOk.bad_cell A13.out); clear A13; have H' := zA H; clear H
       go_upto_region 9 with (fail)
       go_cut [71] from 58 (fun v71 wd => v71 = .bool (impl_targetsOk.low l0 i (rd_T120 l0 i).f0) ∧ Aside0 (wd.heap[wr.heap.size]? = some (.cells #[.slice An (rd_T120 l0 i).f0.length cn, .int .i64 x1, .int .i64 (rd_T120 l0 i).f2] 120 (0, 0))) ∧ Aside0 (IntMap Tryd.prog 3 3 wd w.heap.size i.toNat m) ∧ Aside0 (Below w.heap.size w wd))
       case first =>
        clear H'
        by_cases i0 : 0 < i
        ·have i0b := decide_eq_true i0; obtain ⟨j, hj⟩ : ∃ j, j = i - 1 := ⟨_, rfl⟩; have hjw : IntKind.i64.wrap (i - 1) = j := by rw [hj]; have := HI.out; have := HL30.out; simp only [IntKind.wrap_i64]; omega
         have hjw2 : wrap64 (i - 1) = j := by rw [hj]; have := HI.out; have := HL30.out; unfold wrap64; omega
         have hlow : impl_targetsOk.low l0 i (rd_T120 l0 i).f0 = decide (0 ≤ Lib.compareBytes (Lib.bytesOf (rd_T120 l0 j).f0) (Lib.bytesOf (rd_T120 l0 i).f0)) := by
          unfold impl_targetsOk.low; rw [← hj, decide_eq_true (show i > 0 from i0)]
          rfl
         have HLOW := zA hlow; clear hlow; have pj : 0 ≤ (j : Int) := by omega
         have qj : j < (l0.length : Int) := by have := HI.out; omega
         clear hj i0; obtain ⟨ad', Aj, cj, ej, hxj0, hxj1, hxj2, hlj, hij⟩ := at_T120 HR0.out j pj qj; cases ej; replace hxj0 := zx HB.out hxj0; have HRj := zA hij; have HCj := zA hlj; clear hij hlj hxj1 hxj2; replace pj := eq_true pj; replace qj := eq_true qj; go_quiet ((go_at_call 180; exact Calls.quiet_of ((bytes_Compare.calls _ _ (rd_T120 l0 j).f0 _ _ (rd_T120 l0 i).f0 _ _ (Kd.C_drewN (Kd.C_below HRj.out HB.out) _) HCj.out (Kd.C_drewN (Kd.C_below HRn.out HB.out) _) HCn.out rfl).mono fun e w' h => ⟨h.1, h.2.out⟩))); go_wp2; go_meet
         case rel => exact ⟨by rw [HLOW.out], BK, ⟨IntMap.drewN HM.out _⟩, ⟨pw_below_drewN HB.out _⟩⟩
        ·have i0b := decide_eq_false i0; have hlow : impl_targetsOk.low l0 i (rd_T120 l0 i).f0 = false := by
          unfold impl_targetsOk.low; rw [decide_eq_false (show ¬ i > 0 from i0)]
          rfl
         have HLOW := zA hlow; clear hlow i0; go_quiet (fail); go_wp2; go_meet
         case rel => exact ⟨by rw [HLOW.out], BK, ⟨IntMap.drewN HM.out _⟩, ⟨pw_below_drewN HB.out _⟩⟩
       case rest =>
        clear hc0 hc1 hc2 BK HM HB; obtain ⟨rfl, BK, HM, HB⟩ := hcut; have H := H'.out; clear H'; have hc0 : wc.cell? ⟨wr.heap.size, 0, none⟩ = some (.slice An (rd_T120 l0 i).f0.length cn) := (blk_cell BK.out 0).trans rfl; have hc1 : wc.cell? ⟨wr.heap.size, 1, none⟩ = some (.int .i64 x1) := (blk_cell BK.out 1).trans rfl; have hc2 : wc.cell? ⟨wr.heap.size, 2, none⟩ = some (.int .i64 (rd_T120 l0 i).f2) := (blk_cell BK.out 2).trans rfl; generalize impl_targetsOk.low l0 i (rd_T120 l0 i).f0 = bl at H ⊢; cases bl with
        | true =>
         rw [if_pos rfl] at H; obtain rfl := Option.some.inj H; go_wp2; go_ret; exact ⟨rfl, HB.out⟩
        | false =>
         rw [if_neg (by decide)] at H; have W2 := zA (impl_targetsOk.wf (c := (rd_T120 l0 i).f2) (by have := HC.out; omega) (by have := HC.out; have := HCA.out; omega)); have zero3 : (zeroValue 3).run Tryd.prog wc = .ok (.int .i64 0) wc := by kernel_rfl
         have Z3 := zA zero3; clear zero3
         by_cases ct : (mget m (rd_T120 l0 i).f2).isSome = true
         ·rw [if_pos ct] at H; obtain rfl := Option.some.inj H; go_wp2_with (refine wpList_imap_look rfl (.tmp 73) (.tmp 75) rfl Tryd.underlying140 Tryd.underlying3 Tryd.underlying3 Z3.out HM.out rfl (rd_T120 l0 i).f2 rfl W2.out ?_); go_ret; exact ⟨rfl, HB.out⟩
         ·rw [if_neg ct] at H; have ct' : (mget m (rd_T120 l0 i).f2).isSome = false := by simpa using ct
          clear ct; have H' := zA H; clear H; go_wp2_with (first | (refine wpList_imap_look rfl (.tmp 73) (.tmp 75) rfl Tryd.underlying140 Tryd.underlying3 Tryd.underlying3 Z3.out HM.out rfl (rd_T120 l0 i).f2 rfl W2.out ?_) | (refine wpList_imap_put rfl (.tmp 80) (.tmp 82) (.tmp 83) rfl Tryd.underlying140 Tryd.underlying3 Tryd.underlying3 HM.out (by have := HI.out; have := HL30.out; simp only [maxLen]; omega) rfl (rd_T120 l0 i).f2 i rfl rfl W2.out (impl_targetsOk.wf HI.out.1 (by have := HI.out; have := HL30.out; omega)) ?_; intro w20 HM2 hg; have HM3 := zA HM2; have HB3 := zA (Below.grown HB.out hg HB.out.size (fun k hk => by injection hk with hk; omega)); clear HM HB HM2 hg BK)); go_roundg k1
          case measure => have := HK1.out; omega
          case rel => exact ⟨i + 1, _, by have := HI.out; have := HL30.out; rw [show wrap64 (i + 1) = i + 1 by unfold wrap64; omega], H', ⟨by have := HK1.out; omega⟩, ⟨by have := HI.out; have := of_eq_true q133; omega⟩, ⟨by have := HI.out; rw [show (i + 1).toNat = i.toNat + 1 by omega]; exact HM3.out⟩, HB3⟩
    ·rw [if_neg c4] at H; have c4b0 := decide_eq_false c4; clear c4; obtain rfl := Option.some.inj H; go_wp2; go_ret; exact ⟨rfl, HB.out⟩

/-! ### impl_side: function 75 -/
def dxz (d : Int) : Int := if d = 1 then 1 else if d = 3 then -1 else 0
def dyz (d : Int) : Int := if d = 0 then -1 else if d = 2 then 1 else 0
def sideL (w h c d : Int) : Int := if c % w + dxz d < 0 ∨ w ≤ c % w + dxz d ∨ c / w + dyz d < 0 ∨ h ≤ c / w + dyz d then -1 else (c / w + dyz d) * w + (c % w + dxz d)
def sideIn (w h c d : Int) : Prop := 1 ≤ w ∧ w ≤ 40 ∧ 1 ≤ h ∧ h ≤ 40 ∧ 0 ≤ c ∧ c ≤ 1600 ∧ 0 ≤ d ∧ d ≤ 3
instance (w h c d : Int) : Decidable (sideIn w h c d) := by unfold sideIn; infer_instance
def impl_side.f (a0 : Int) (a1 : Int) (a2 : Int) (a3 : Int) : Option (Int) := if sideIn a0 a1 a2 a3 then some (sideL a0 a1 a2 a3) else none
set_option maxHeartbeats 4000000 in
theorem impl_side.calls (a0 : Int) (a1 : Int) (a2 : Int) (a3 : Int) (r : Int) (w : World) (h : impl_side.f a0 a1 a2 a3 = some r) :
  Calls Tryd.prog 75 #[.int .i64 a0, .int .i64 a1, .int .i64 a2, .int .i64 a3] w fun e w' => e = .returned (.int .i64 r) ∧ Drawn0 w w' := by
 unfold impl_side.f at h
 by_cases hs : sideIn a0 a1 a2 a3
 ·rw [if_pos hs] at h; injection h with h; have Hr := zA h; clear h; obtain ⟨w1, w2, h1, h2, c0, c1, d0, d1⟩ := hs; have m0 : 0 ≤ a2 % a0 := Int.emod_nonneg _ (by omega); have m1 : a2 % a0 < a0 := Int.emod_lt_of_pos _ (by omega); have q0 : 0 ≤ a2 / a0 := Int.ediv_nonneg c0 (by omega); have q1 : a2 / a0 ≤ a2 := Int.ediv_le_self _ c0; have hw : (a0 == 0) = false := by rw [beq_eq_false_iff_ne]; omega
  have mul : ∀ y : Int, 0 ≤ y → y < a1 → 0 ≤ y * a0 ∧ y * a0 ≤ 1600 := fun y hy0 hy1 =>
   ⟨Int.mul_nonneg hy0 (by omega), Int.le_trans (Int.mul_le_mul (show y ≤ 40 by omega) w2 (by omega) (by omega)) (by omega)⟩
  have fin : ∀ x y : Int, -1 ≤ x → x ≤ a0 → -1 ≤ y → y ≤ 1700 → x = a2 % a0 + dxz a3 → y = a2 / a0 + dyz a3 →
    (x < 0 ∨ a0 ≤ x ∨ y < 0 ∨ a1 ≤ y → -1 = r) ∧ (¬ (x < 0 ∨ a0 ≤ x ∨ y < 0 ∨ a1 ≤ y) → wrap64 (wrap64 (y * a0) + x) = r) := by
   intro x y x0 x1 y0 y1 ex ey; have hr := Hr.out; unfold sideL at hr; rw [← ex, ← ey] at hr; refine ⟨fun c => by rw [if_pos c] at hr; exact hr, fun c => ?_⟩; rw [if_neg c] at hr; have := mul y (by omega) (by omega); rw [show wrap64 (y * a0) = y * a0 by unfold wrap64; omega, show wrap64 (y * a0 + x) = y * a0 + x by unfold wrap64; omega]; exact hr
  have F := zA fin; clear fin mul; have hd : a3 = 0 ∨ a3 = 1 ∨ a3 = 2 ∨ a3 = 3 := by omega
  have ya : wrap64 (a2 / a0) = a2 / a0 := by unfold wrap64; omega
  have Ya := zA ya; clear ya
  rcases hd with rfl | rfl | rfl | rfl
  all_goals clear d0 d1
  ·have i0 : ∀ w, (Instr.index 191 (.agg #[.int .i64 0, .int .i64 1, .int .i64 0, .int .i64 (-1)]) (.int .i64 0)).run Tryd.prog w = .ok (.int .i64 0) w := fun _ => by kernel_rfl
   have i1 : ∀ w, (Instr.index 191 (.agg #[.int .i64 (-1), .int .i64 0, .int .i64 1, .int .i64 0]) (.int .i64 0)).run Tryd.prog w = .ok (.int .i64 (-1)) w := fun _ => by kernel_rfl
   have A := zA (F.out (a2 % a0) (a2 / a0 + -1) (by omega) (by omega) (by omega) (by omega) (by simp [dxz]) (by simp [dyz])); clear F; go_enter Tryd.func75, Tryd.ntmps75; go_wp2; go_quiet (fail); go_wp2
   all_goals
    go_ret; refine ⟨?_, ⟨_, rfl⟩⟩
    first
     | exact congrArg (fun x => Ending.returned (Value.int .i64 x)) (A.out.1 (by omega))
     | exact congrArg (fun x => Ending.returned (Value.int .i64 x)) (A.out.2 (by omega))
  ·have i0 : ∀ w, (Instr.index 191 (.agg #[.int .i64 0, .int .i64 1, .int .i64 0, .int .i64 (-1)]) (.int .i64 1)).run Tryd.prog w = .ok (.int .i64 1) w := fun _ => by kernel_rfl
   have i1 : ∀ w, (Instr.index 191 (.agg #[.int .i64 (-1), .int .i64 0, .int .i64 1, .int .i64 0]) (.int .i64 1)).run Tryd.prog w = .ok (.int .i64 0) w := fun _ => by kernel_rfl
   have A := zA (F.out (a2 % a0 + 1) (a2 / a0) (by omega) (by omega) (by omega) (by omega) (by simp [dxz]) (by simp [dyz])); clear F; go_enter Tryd.func75, Tryd.ntmps75; go_wp2; go_quiet (fail); go_wp2
   all_goals
    go_ret; refine ⟨?_, ⟨_, rfl⟩⟩
    first
     | exact congrArg (fun x => Ending.returned (Value.int .i64 x)) (A.out.1 (by omega))
     | exact congrArg (fun x => Ending.returned (Value.int .i64 x)) (A.out.2 (by omega))
  ·have i0 : ∀ w, (Instr.index 191 (.agg #[.int .i64 0, .int .i64 1, .int .i64 0, .int .i64 (-1)]) (.int .i64 2)).run Tryd.prog w = .ok (.int .i64 0) w := fun _ => by kernel_rfl
   have i1 : ∀ w, (Instr.index 191 (.agg #[.int .i64 (-1), .int .i64 0, .int .i64 1, .int .i64 0]) (.int .i64 2)).run Tryd.prog w = .ok (.int .i64 1) w := fun _ => by kernel_rfl
   have A := zA (F.out (a2 % a0) (a2 / a0 + 1) (by omega) (by omega) (by omega) (by omega) (by simp [dxz]) (by simp [dyz])); clear F; go_enter Tryd.func75, Tryd.ntmps75; go_wp2; go_quiet (fail); go_wp2
   all_goals
    go_ret; refine ⟨?_, ⟨_, rfl⟩⟩
    first
     | exact congrArg (fun x => Ending.returned (Value.int .i64 x)) (A.out.1 (by omega))
     | exact congrArg (fun x => Ending.returned (Value.int .i64 x)) (A.out.2 (by omega))
  ·have i0 : ∀ w, (Instr.index 191 (.agg #[.int .i64 0, .int .i64 1, .int .i64 0, .int .i64 (-1)]) (.int .i64 3)).run Tryd.prog w = .ok (.int .i64 (-1)) w := fun _ => by kernel_rfl
   have i1 : ∀ w, (Instr.index 191 (.agg #[.int .i64 (-1), .int .i64 0, .int .i64 1, .int .i64 0]) (.int .i64 3)).run Tryd.prog w = .ok (.int .i64 0) w := fun _ => by kernel_rfl
   have A := zA (F.out (a2 % a0 + -1) (a2 / a0) (by omega) (by omega) (by omega) (by omega) (by simp [dxz]) (by simp [dyz])); clear F; go_enter Tryd.func75, Tryd.ntmps75; go_wp2; go_quiet (fail); go_wp2
   all_goals
    go_ret; refine ⟨?_, ⟨_, rfl⟩⟩
    first
     | exact congrArg (fun x => Ending.returned (Value.int .i64 x)) (A.out.1 (by omega))
     | exact congrArg (fun x => Ending.returned (Value.int .i64 x)) (A.out.2 (by omega))
 ·rw [if_neg hs] at h; cases h

end Go.Proofs.YthbeplmihjhoeaaDoor.PFnExactRunFleet
