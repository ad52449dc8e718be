-- made by wip/tools/myprint.py (this session's own program, over the kit's printer)
import Derived.Test.YtbnpkiokpnmphaaDoorPFnExactUnquoteTextx0
import Derived.Test.YtbnpkiokpnmphaaDoorPFnExactUnquoteTextx5
namespace Go.Proofs.YtbnpkiokpnmphaaDoor.PFnExactUnquoteText
open Go.RowKit Go.Proofs.YtbnpkiokpnmphaaDoorW.PrintWords Go.Proofs.YtbnpkiokpnmphaaDoorW.PrintLast Go.Proofs.YtbnpkiokpnmphaaDoorW.PrintMore
attribute [local go_sem] max2_int min2_int max_two min_two max_three min_three max_four min_four   -- for this text's walks alone
set_option linter.unusedVariables false
set_option linter.unusedSimpArgs false

/-! ### impl_CheckText: function 19 -/
def impl_CheckText.l0 : Nat → List Int → Int → Option (Int × Int)
 | 0, _, _ => none
 | k + 1, x0, x4 => if x4 < (x0.length : Int) then (if 0 ≤ x4 then (if x4 ≤ (x0.length : Int) then ((utf8_DecodeRune.f (x0.drop (x4 : Int).toNat)).bind fun bt166 => (if bt166.1 = 65533 then (if bt166.2 ≤ 1 then (some (2, x4)) else (impl_CheckText.l0 k x0 (wrap64 (x4 + bt166.2)))) else (impl_CheckText.l0 k x0 (wrap64 (x4 + bt166.2))))) else (none)) else (none)) else (some (0, 0))
def impl_CheckText.f (k : Nat) (l0 : List Int) : Option (Int × Int) := impl_CheckText.l0 k l0 0
theorem impl_CheckText.mono_l : ∀ k, (∀ y0 y1, LeO (impl_CheckText.l0 k y0 y1) (impl_CheckText.l0 (k + 1) y0 y1))
 | 0 => fun _ _ r h => by simp [impl_CheckText.l0] at h
 | k + 1 => by
  have ih0 := impl_CheckText.mono_l k
  ·intro y0 y1; unfold impl_CheckText.l0; exact zm
theorem impl_CheckText.mono : ∀ a0 k, LeO (impl_CheckText.f k a0) (impl_CheckText.f (k + 1) a0) := by
 intro a0 k; have ih0 := impl_CheckText.mono_l k; unfold impl_CheckText.f; exact zm
set_option maxHeartbeats 8000000 in
set_option maxRecDepth 100000 in
theorem impl_CheckText.calls (k : Nat) (A0 : Option Addr) (c0 : Nat) (l0 : List Int) (r1 : Int) (r2 : Int) (w : World) (hr0 : Kd.C (Kd.int .u8) w A0 l0.length l0) (hc0 : l0.length ≤ c0) (hL : LaidW w) (h : impl_CheckText.f k l0 = some (r1, r2)) :
  Calls Tryd.prog 19 #[.slice A0 l0.length c0] w fun e w' => e = .returned (.tuple #[.int .i64 r1, .int .i64 r2]) ∧ Below w.heap.size w w' := by
 have HR0 := zA hr0; have HC0 := zA hc0; clear hr0 hc0; have HLD := zA hL; clear hL; have HB := zA (Below.refl w.heap.size w); have H : (impl_CheckText.l0 k l0 0) = some (r1, r2) := h; clear h; have H' := zA H; clear H; go_enter Tryd.func19, Tryd.ntmps19; go_wp2
 go_loopg [4] k (fun kq v4 w' => ∃ (Ba : Int), v4 = .int .i64 Ba ∧ Aside0 (impl_CheckText.l0 kq l0 Ba = some (r1, r2)) ∧ Aside0 (kq ≤ k) ∧ Aside0 (Below w.heap.size w w'))
 case atStart => exact ⟨(0), zr, H', ⟨Nat.le_refl _⟩, ⟨z_⟩⟩
 case round =>
  clear H'; (try clear c1); obtain ⟨Ba, rfl, HA, HK1, HB⟩ := hrel; cases gk with
  | zero => exact absurd HA.out (by simp [impl_CheckText.l0])
  | succ k1 =>
   have H := HA.out; clear HA; simp only [impl_CheckText.l0] at H
   by_cases c2 : Ba < (l0.length : Int)
   ·rw [if_pos c2] at H; have c2b0 := decide_eq_true c2; clear c2
    by_cases c3 : 0 ≤ Ba
    ·rw [if_pos c3] at H; have c3b0 := eq_true c3; have c3b1 := decide_eq_true c3; clear c3
     by_cases c4 : Ba ≤ (l0.length : Int)
     ·rw [if_pos c4] at H; have c4b0 := eq_true c4; have c4b1 := decide_eq_true c4; clear c4; replace H := Option.bind_eq_some_iff.mp H; obtain ⟨⟨Bc, Bb⟩, A50, H⟩ := H; replace H : (if Bc = 65533 then (if Bb ≤ 1 then (some (2, Ba)) else (impl_CheckText.l0 k1 l0 (wrap64 (Ba + Bb)))) else (impl_CheckText.l0 k1 l0 (wrap64 (Ba + Bb)))) = some (r1, r2) := H; have A5 := zA A50; clear A50
      by_cases c6 : Bc = 65533
      ·rw [if_pos c6] at H; have c6b0 := beq_iff_eq.mpr c6; have c6b1 := bne_eq_false_iff_eq.mpr c6; clear c6
       by_cases c7 : Bb ≤ 1
       ·rw [if_pos c7] at H; have c7b0 := decide_eq_true c7; clear c7; simp only [Option.some.injEq, Prod.mk.injEq] at H; obtain ⟨rfl, rfl⟩ := H; obtain ⟨i08, hi08, _, hsz8, _⟩ := info_parts info5; obtain ⟨A8, hcut8, hA8, hC8⟩ := print_drop_of (P := Tryd.prog) (Value.int .u8) 0 22 5 .i64 Tryd.underlying22 hi08 hsz8 A0 c0 l0 Ba (zd) (zd) HC0.out; have HR165 := zA (Kd.C_of_reads (h1 := fun _ => rfl) (hA8 _ (Kd.reads_of_C HR0.out))); have HC165 := zA hC8; clear hA8 hC8 hi08 hsz8; go_wp2_with (first | ((with_reducible refine gate_callee (f := 30) rfl ?_); refine goesL_ (some 15) rfl rfl Tryd.func30 (by kernel_rfl) rfl #[.slice A8 (l0.drop (Ba : Int).toNat).length (c0 - Ba.toNat)] rfl (by (try simp only [List.map_toArray, List.map_cons, List.map_nil]); first | done | (rw [show (l0.drop (Ba : Int).toNat).length = (l0.length - Ba.toNat) from List.length_drop] <;> rfl) | rfl | (simp only [List.length_drop, List.length_take]; rfl)) ?_; (with_reducible refine (utf8_DecodeRune.calls _ _ (l0.drop (Ba : Int).toNat) Bc Bb _ ?s1 ?s2 ?s3 A5.out).mono ?_); (case s1 => exact zc (Kd.C_below HR165.out HB.out)); (case s2 => exact HC165.out); (case s3 => exact LaidW.below HLD.out z_); rintro e w9 ⟨rfl, hb⟩; refine ⟨_, rfl, ?_⟩; replace HB := zA (below_step z_ hb); (try clear hb))); go_ret2; exact ⟨ze, z_⟩
       ·rw [if_neg c7] at H; have c7b0 := decide_eq_false c7; clear c7; have H' := zA H; clear H; obtain ⟨i010, hi010, _, hsz10, _⟩ := info_parts info5; obtain ⟨A10, hcut10, hA10, hC10⟩ := print_drop_of (P := Tryd.prog) (Value.int .u8) 0 22 5 .i64 Tryd.underlying22 hi010 hsz10 A0 c0 l0 Ba (zd) (zd) HC0.out; have HR165 := zA (Kd.C_of_reads (h1 := fun _ => rfl) (hA10 _ (Kd.reads_of_C HR0.out))); have HC165 := zA hC10; clear hA10 hC10 hi010 hsz10; go_wp2_with (first | ((with_reducible refine gate_callee (f := 30) rfl ?_); refine goesL_ (some 15) rfl rfl Tryd.func30 (by kernel_rfl) rfl #[.slice A10 (l0.drop (Ba : Int).toNat).length (c0 - Ba.toNat)] rfl (by (try simp only [List.map_toArray, List.map_cons, List.map_nil]); first | done | (rw [show (l0.drop (Ba : Int).toNat).length = (l0.length - Ba.toNat) from List.length_drop] <;> rfl) | rfl | (simp only [List.length_drop, List.length_take]; rfl)) ?_; (with_reducible refine (utf8_DecodeRune.calls _ _ (l0.drop (Ba : Int).toNat) Bc Bb _ ?s1 ?s2 ?s3 A5.out).mono ?_); (case s1 => exact zc (Kd.C_below HR165.out HB.out)); (case s2 => exact HC165.out); (case s3 => exact LaidW.below HLD.out z_); rintro e w11 ⟨rfl, hb⟩; refine ⟨_, rfl, ?_⟩; replace HB := zA (below_step z_ hb); (try clear hb))); go_roundg k1
        case measure => have := HK1.out; omega
        case rel => exact ⟨(wrap64 (Ba + Bb)), zr, H', ⟨by have := HK1.out; omega⟩, ⟨z_⟩⟩
      ·rw [if_neg c6] at H; have c6b0 := beq_eq_false_iff_ne.mpr c6; have c6b1 := bne_iff_ne.mpr c6; have H' := zA H; clear H; obtain ⟨i012, hi012, _, hsz12, _⟩ := info_parts info5; obtain ⟨A12, hcut12, hA12, hC12⟩ := print_drop_of (P := Tryd.prog) (Value.int .u8) 0 22 5 .i64 Tryd.underlying22 hi012 hsz12 A0 c0 l0 Ba (zd) (zd) HC0.out; have HR165 := zA (Kd.C_of_reads (h1 := fun _ => rfl) (hA12 _ (Kd.reads_of_C HR0.out))); have HC165 := zA hC12; clear hA12 hC12 hi012 hsz12; go_wp2_with (first | ((with_reducible refine gate_callee (f := 30) rfl ?_); refine goesL_ (some 15) rfl rfl Tryd.func30 (by kernel_rfl) rfl #[.slice A12 (l0.drop (Ba : Int).toNat).length (c0 - Ba.toNat)] rfl (by (try simp only [List.map_toArray, List.map_cons, List.map_nil]); first | done | (rw [show (l0.drop (Ba : Int).toNat).length = (l0.length - Ba.toNat) from List.length_drop] <;> rfl) | rfl | (simp only [List.length_drop, List.length_take]; rfl)) ?_; (with_reducible refine (utf8_DecodeRune.calls _ _ (l0.drop (Ba : Int).toNat) Bc Bb _ ?s1 ?s2 ?s3 A5.out).mono ?_); (case s1 => exact zc (Kd.C_below HR165.out HB.out)); (case s2 => exact HC165.out); (case s3 => exact LaidW.below HLD.out z_); rintro e w13 ⟨rfl, hb⟩; refine ⟨_, rfl, ?_⟩; replace HB := zA (below_step z_ hb); (try clear hb))); go_roundg k1
       case measure => have := HK1.out; omega
       case rel => exact ⟨(wrap64 (Ba + Bb)), zr, H', ⟨by have := HK1.out; omega⟩, ⟨z_⟩⟩
     ·rw [if_neg c4] at H; exact absurd H (by simp)
    ·rw [if_neg c3] at H; exact absurd H (by simp)
   ·rw [if_neg c2] at H; have c2b0 := decide_eq_false c2; clear c2; simp only [Option.some.injEq, Prod.mk.injEq] at H; obtain ⟨rfl, rfl⟩ := H; go_wp2; go_ret2; exact ⟨ze, z_⟩

/-! ### impl_wellFormed: function 13 -/
def impl_wellFormed.f (k : Nat) (l0 : List Int) : Option (Bool) := (impl_CheckText.f k l0).bind fun bt168 => (some (bt168.1 == 0))
theorem impl_wellFormed.mono : ∀ a0 k, LeO (impl_wellFormed.f k a0) (impl_wellFormed.f (k + 1) a0) := by
 intro a0 k; unfold impl_wellFormed.f; have m1 := @impl_CheckText.mono; exact zm
set_option maxHeartbeats 8000000 in
set_option maxRecDepth 100000 in
theorem impl_wellFormed.calls (k : Nat) (A0 : Option Addr) (c0 : Nat) (l0 : List Int) (r : Bool) (w : World) (hr0 : Kd.C (Kd.int .u8) w A0 l0.length l0) (hc0 : l0.length ≤ c0) (hL : LaidW w) (h : impl_wellFormed.f k l0 = some r) :
  Calls Tryd.prog 13 #[.slice A0 l0.length c0] w fun e w' => e = .returned (.bool r) ∧ Below w.heap.size w w' := by
 have HR0 := zA hr0; have HC0 := zA hc0; clear hr0 hc0; have HLD := zA hL; clear hL; have HB := zA (Below.refl w.heap.size w); have H : ((impl_CheckText.f k l0).bind fun bt168 => (some (bt168.1 == 0))) = some r := h; clear h; replace H := Option.bind_eq_some_iff.mp H; obtain ⟨⟨Ba, Bb⟩, A20, H⟩ := H; (try dsimp only at H); have A2 := zA A20; clear A20; obtain rfl := Option.some.inj H; go_enter Tryd.func13, Tryd.ntmps13; go_wp2_with (first | ((with_reducible refine gate_callee (f := 19) rfl ?_); refine goesL_ (some 7) rfl rfl Tryd.func19 (by kernel_rfl) rfl #[.slice A0 l0.length c0] rfl za ?_; (with_reducible refine (impl_CheckText.calls k _ _ l0 Ba Bb _ ?s1 ?s2 ?s3 A2.out).mono ?_); (case s1 => exact zc (HR0.out)); (case s2 => exact HC0.out); (case s3 => exact LaidW.below HLD.out z_); rintro e w3 ⟨rfl, hb⟩; refine ⟨_, rfl, ?_⟩; replace HB := zA (below_step z_ hb); (try clear hb))); go_ret; exact ⟨ze, z_⟩

/-! ### impl_UnquoteText: function 6 -/
def impl_UnquoteText.f (k : Nat) (l0 : List Int) : Option (List Int × Int) := (impl_literal.f k (strOfNums l0)).bind fun bt170 => ((impl_wellFormed.f k l0).bind fun Bb => (if Bb = true then (if bt170.2 = (l0.length : Int) then (some (bt170.1, 0)) else (some (([] : List Int), 2))) else (some (([] : List Int), 2))))
theorem impl_UnquoteText.mono : ∀ a0 k, LeO (impl_UnquoteText.f k a0) (impl_UnquoteText.f (k + 1) a0) := by
 intro a0 k; unfold impl_UnquoteText.f; have m1 := @impl_literal.mono; have m2 := @impl_wellFormed.mono; exact zm
set_option maxHeartbeats 8000000 in
set_option maxRecDepth 100000 in
theorem impl_UnquoteText.calls (k : Nat) (A0 : Option Addr) (c0 : Nat) (l0 : List Int) (r1 : List Int) (r2 : Int) (w : World) (hr0 : Kd.C (Kd.int .u8) w A0 l0.length l0) (hc0 : l0.length ≤ c0) (hL : LaidW w) (h : impl_UnquoteText.f k l0 = some (r1, r2)) :
  Calls Tryd.prog 6 #[.slice A0 l0.length c0] w fun e w' => ∃ v0_ : Value, e = .returned (.tuple #[v0_, .int .i64 r2]) ∧ Kd.R (Kd.int .u8) 5 w' w.heap.size (fun _ => True) v0_ r1 ∧ Below w.heap.size w w' := by
 have HR0 := zA hr0; have HC0 := zA hc0; clear hr0 hc0; have HLD := zA hL; clear hL; have HB := zA (Below.refl w.heap.size w); have H : ((impl_literal.f k (strOfNums l0)).bind fun bt170 => ((impl_wellFormed.f k l0).bind fun Bb => (if Bb = true then (if bt170.2 = (l0.length : Int) then (some (bt170.1, 0)) else (some (([] : List Int), 2))) else (some (([] : List Int), 2))))) = some (r1, r2) := h; clear h; replace H := Option.bind_eq_some_iff.mp H; obtain ⟨⟨Bd, Bc⟩, A20, H⟩ := H; replace H : ((impl_wellFormed.f k l0).bind fun Bb => (if Bb = true then (if Bc = (l0.length : Int) then (some (Bd, 0)) else (some (([] : List Int), 2))) else (some (([] : List Int), 2)))) = some (r1, r2) := H; have A2 := zA A20; clear A20; replace H := Option.bind_eq_some_iff.mp H; obtain ⟨Bb, A30, H⟩ := H; replace H : (if Bb = true then (if Bc = (l0.length : Int) then (some (Bd, 0)) else (some (([] : List Int), 2))) else (some (([] : List Int), 2))) = some (r1, r2) := H; have A3 := zA A30; clear A30
 by_cases c4 : Bb = true
 ·subst c4; have H1 : (if Bc = (l0.length : Int) then (some (Bd, 0)) else (some (([] : List Int), 2))) = some (r1, r2) := by rw [if_pos rfl] at H; exact H
  clear H; have H := H1; clear H1
  by_cases c5 : Bc = (l0.length : Int)
  ·rw [if_pos c5] at H; have c5b0 := beq_iff_eq.mpr c5; have c5b1 := bne_eq_false_iff_eq.mpr c5; clear c5; simp only [Option.some.injEq, Prod.mk.injEq] at H; obtain ⟨rfl, rfl⟩ := H; have hcv6 := Kd.C_string (P := Tryd.prog) (A := A0) (c := c0) Tryd.underlying22 Tryd.underlying5 Tryd.underlying9 HR0.out; go_enter Tryd.func6, Tryd.ntmps6; go_wp2_with (first | ((with_reducible refine gate_callee (f := 12) rfl ?_); refine goesL_ (some 9) rfl rfl Tryd.func12 (by kernel_rfl) rfl #[.string (strOfNums l0)] rfl za ?_; (with_reducible refine (impl_literal.calls k (strOfNums l0) Bd Bc _ ?s1 A2.out).mono ?_); (case s1 => exact LaidW.below HLD.out z_); rintro e w7 ⟨v172, rfl, ho0, hb⟩; refine ⟨_, rfl, ?_⟩; have Ba := zA (Kd.R_lower ho0 (below_size z_)); replace HB := zA (below_step z_ hb); (try clear hb); (try clear ho0)) | ((with_reducible refine gate_callee (f := 13) rfl ?_); refine goesL_ (some 13) rfl rfl Tryd.func13 (by kernel_rfl) rfl #[.slice A0 l0.length c0] rfl za ?_; (with_reducible refine (impl_wellFormed.calls k _ _ l0 true _ ?s1 ?s2 ?s3 A3.out).mono ?_); (case s1 => exact zc (Kd.C_below HR0.out HB.out)); (case s2 => exact HC0.out); (case s3 => exact LaidW.below HLD.out z_); rintro e w8 ⟨rfl, hb⟩; refine ⟨_, rfl, ?_⟩; replace Ba := zA (Kd.R_below (zR Ba.out) hb); replace HB := zA (below_step z_ hb); (try clear hb))); go_ret2; exact ⟨_, ze, by (with_reducible repeat (first | apply Kd.R_alloc | apply Kd.R_drewN | apply Kd.R_drew)); exact Ba.out, z_⟩
  ·rw [if_neg c5] at H; have c5b0 := beq_eq_false_iff_ne.mpr c5; have c5b1 := bne_iff_ne.mpr c5; simp only [Option.some.injEq, Prod.mk.injEq] at H; obtain ⟨rfl, rfl⟩ := H; have hcv9 := Kd.C_string (P := Tryd.prog) (A := A0) (c := c0) Tryd.underlying22 Tryd.underlying5 Tryd.underlying9 HR0.out; go_enter Tryd.func6, Tryd.ntmps6; go_wp2_with (first | ((with_reducible refine gate_callee (f := 12) rfl ?_); refine goesL_ (some 9) rfl rfl Tryd.func12 (by kernel_rfl) rfl #[.string (strOfNums l0)] rfl za ?_; (with_reducible refine (impl_literal.calls k (strOfNums l0) Bd Bc _ ?s1 A2.out).mono ?_); (case s1 => exact LaidW.below HLD.out z_); rintro e w10 ⟨v172, rfl, ho0, hb⟩; refine ⟨_, rfl, ?_⟩; have Ba := zA (Kd.R_lower ho0 (below_size z_)); replace HB := zA (below_step z_ hb); (try clear hb); (try clear ho0)) | ((with_reducible refine gate_callee (f := 13) rfl ?_); refine goesL_ (some 13) rfl rfl Tryd.func13 (by kernel_rfl) rfl #[.slice A0 l0.length c0] rfl za ?_; (with_reducible refine (impl_wellFormed.calls k _ _ l0 true _ ?s1 ?s2 ?s3 A3.out).mono ?_); (case s1 => exact zc (Kd.C_below HR0.out HB.out)); (case s2 => exact HC0.out); (case s3 => exact LaidW.below HLD.out z_); rintro e w11 ⟨rfl, hb⟩; refine ⟨_, rfl, ?_⟩; replace Ba := zA (Kd.R_below (zR Ba.out) hb); replace HB := zA (below_step z_ hb); (try clear hb))); go_ret2; exact ⟨_, ze, by first | exact Kd.R_nil _ _ _ _ _ | exact Kd.N_nil _ _ _ _ _ | exact Kd.V_nil _ _ _ _ _ | exact Kd.Q_nil _ _ _ _ _ | exact Kd.S_nil _ _ _ _ _, z_⟩
 ·replace c4 := Bool.eq_false_iff.mpr c4; subst c4; have H1 : (some (([] : List Int), 2)) = some (r1, r2) := by rw [if_neg (show ¬ (false = true) by decide)] at H; exact H
  clear H; have H := H1; clear H1; simp only [Option.some.injEq, Prod.mk.injEq] at H; obtain ⟨rfl, rfl⟩ := H; have hcv12 := Kd.C_string (P := Tryd.prog) (A := A0) (c := c0) Tryd.underlying22 Tryd.underlying5 Tryd.underlying9 HR0.out; go_enter Tryd.func6, Tryd.ntmps6; go_wp2_with (first | ((with_reducible refine gate_callee (f := 12) rfl ?_); refine goesL_ (some 9) rfl rfl Tryd.func12 (by kernel_rfl) rfl #[.string (strOfNums l0)] rfl za ?_; (with_reducible refine (impl_literal.calls k (strOfNums l0) Bd Bc _ ?s1 A2.out).mono ?_); (case s1 => exact LaidW.below HLD.out z_); rintro e w13 ⟨v172, rfl, ho0, hb⟩; refine ⟨_, rfl, ?_⟩; have Ba := zA (Kd.R_lower ho0 (below_size z_)); replace HB := zA (below_step z_ hb); (try clear hb); (try clear ho0)) | ((with_reducible refine gate_callee (f := 13) rfl ?_); refine goesL_ (some 13) rfl rfl Tryd.func13 (by kernel_rfl) rfl #[.slice A0 l0.length c0] rfl za ?_; (with_reducible refine (impl_wellFormed.calls k _ _ l0 false _ ?s1 ?s2 ?s3 A3.out).mono ?_); (case s1 => exact zc (Kd.C_below HR0.out HB.out)); (case s2 => exact HC0.out); (case s3 => exact LaidW.below HLD.out z_); rintro e w14 ⟨rfl, hb⟩; refine ⟨_, rfl, ?_⟩; replace Ba := zA (Kd.R_below (zR Ba.out) hb); replace HB := zA (below_step z_ hb); (try clear hb))); go_ret2; exact ⟨_, ze, by first | exact Kd.R_nil _ _ _ _ _ | exact Kd.N_nil _ _ _ _ _ | exact Kd.V_nil _ _ _ _ _ | exact Kd.Q_nil _ _ _ _ _ | exact Kd.S_nil _ _ _ _ _, z_⟩

/-! ### laws_eqByteS: function 7 -/
def laws_eqByteS.l0 : Nat → List Int → List Int → Int → Option (Bool)
 | 0, _, _, _ => none
 | k + 1, x0, x1, x5 => if x5 < (x0.length : Int) then (if 0 ≤ x5 then (if x5 < (x1.length : Int) then (if (rd x0 x5) = (rd x1 x5) then (laws_eqByteS.l0 k x0 x1 (wrap64 (x5 + 1))) else (some false)) else (none)) else (none)) else (some true)
def laws_eqByteS.f (k : Nat) (l0 : List Int) (l1 : List Int) : Option (Bool) := if (l0.length : Int) = (l1.length : Int) then (laws_eqByteS.l0 k l0 l1 0) else (some false)
theorem laws_eqByteS.mono_l : ∀ k, (∀ y0 y1 y2, LeO (laws_eqByteS.l0 k y0 y1 y2) (laws_eqByteS.l0 (k + 1) y0 y1 y2))
 | 0 => fun _ _ _ r h => by simp [laws_eqByteS.l0] at h
 | k + 1 => by
  have ih0 := laws_eqByteS.mono_l k
  ·intro y0 y1 y2; unfold laws_eqByteS.l0; exact zm
theorem laws_eqByteS.mono : ∀ a0 a1 k, LeO (laws_eqByteS.f k a0 a1) (laws_eqByteS.f (k + 1) a0 a1) := by
 intro a0 a1 k; have ih0 := laws_eqByteS.mono_l k; unfold laws_eqByteS.f; exact zm
set_option maxHeartbeats 8000000 in
set_option maxRecDepth 100000 in
theorem laws_eqByteS.calls (k : Nat) (A0 : Option Addr) (c0 : Nat) (l0 : List Int) (A1 : Option Addr) (c1 : Nat) (l1 : List Int) (r : Bool) (w : World) (hr0 : Kd.C (Kd.int .u8) w A0 l0.length l0) (hc0 : l0.length ≤ c0) (hr1 : Kd.C (Kd.int .u8) w A1 l1.length l1) (hc1 : l1.length ≤ c1) (h : laws_eqByteS.f k l0 l1 = some r) :
  Calls Tryd.prog 7 #[.slice A0 l0.length c0, .slice A1 l1.length c1] w fun e w' => e = .returned (.bool r) ∧ Drawn0 w w' := by
 have HR0 := zA hr0; have HC0 := zA hc0; clear hr0 hc0; have HR1 := zA hr1; have HC1 := zA hc1; clear hr1 hc1; have H : (if (l0.length : Int) = (l1.length : Int) then (laws_eqByteS.l0 k l0 l1 0) else (some false)) = some r := h; clear h
 by_cases c3 : (l0.length : Int) = (l1.length : Int)
 ·rw [if_pos c3] at H; have c3b0 := beq_iff_eq.mpr c3; have c3b1 := bne_eq_false_iff_eq.mpr c3; have c3b2 : (l0.length == l1.length) = true := by first | simpa using c3 | (simp at c3 ⊢; omega)
  clear c3; have H' := zA H; clear H; go_enter Tryd.func7, Tryd.ntmps7; go_wp2; repeat (go_quiet (fail); try go_wp2)
  go_loopg [5] k (fun kq v5 w' => ∃ (Ba : Int), v5 = .int .i64 Ba ∧ Aside0 (laws_eqByteS.l0 kq l0 l1 Ba = some r) ∧ Aside0 (kq ≤ k) ∧ Drawn0 w w')
  case atStart => exact ⟨(0), zr, H', ⟨Nat.le_refl _⟩, by repeat (first | exact Drawn0.refl _ | apply Drawn0.step)⟩
  case round =>
   clear H'; (try clear c1); (try clear c3); (try clear c3b0); (try clear c3b1); (try clear c3b2); obtain ⟨Ba, rfl, HA, HK1, ⟨m1, rfl⟩⟩ := hrel; cases gk with
   | zero => exact absurd HA.out (by simp [laws_eqByteS.l0])
   | succ k1 =>
    have H := HA.out; clear HA; simp only [laws_eqByteS.l0] at H
    by_cases c4 : Ba < (l0.length : Int)
    ·rw [if_pos c4] at H; have c4b0 := decide_eq_true c4; clear c4
     by_cases c5 : 0 ≤ Ba
     ·rw [if_pos c5] at H; have c5b0 := decide_eq_true c5; clear c5
      by_cases c6 : Ba < (l1.length : Int)
      ·rw [if_pos c6] at H; have c6b0 := decide_eq_true c6; clear c6
       by_cases c7 : (rd l0 Ba) = (rd l1 Ba)
       ·rw [if_pos c7] at H; have c7b0 := beq_iff_eq.mpr c7; have c7b1 := bne_eq_false_iff_eq.mpr c7; clear c7; have H' := zA H; clear H; have p175 : 0 ≤ (Ba : Int) := zd; have q175 : Ba < (l0.length : Int) := zd; obtain ⟨Bb, e175, haa⟩ := Kd.at_int HR0.out Ba p175 q175; cases e175; replace p175 := eq_true p175; replace q175 := eq_true q175; have p176 : 0 ≤ (Ba : Int) := zd; have q176 : Ba < (l1.length : Int) := zd; obtain ⟨Bc, e176, hab⟩ := Kd.at_int HR1.out Ba p176 q176; cases e176; replace p176 := eq_true p176; replace q176 := eq_true q176; go_wp2; repeat (go_quiet (fail); try go_wp2)
        go_roundg k1
        case measure => have := HK1.out; omega
        case rel => exact ⟨(wrap64 (Ba + 1)), zr, H', ⟨by have := HK1.out; omega⟩, by repeat (first | exact Drawn0.refl _ | apply Drawn0.step)⟩
       ·rw [if_neg c7] at H; have c7b0 := beq_eq_false_iff_ne.mpr c7; have c7b1 := bne_iff_ne.mpr c7; obtain rfl := Option.some.inj H; have p175 : 0 ≤ (Ba : Int) := zd; have q175 : Ba < (l0.length : Int) := zd; obtain ⟨Bb, e175, haa⟩ := Kd.at_int HR0.out Ba p175 q175; cases e175; replace p175 := eq_true p175; replace q175 := eq_true q175; have p176 : 0 ≤ (Ba : Int) := zd; have q176 : Ba < (l1.length : Int) := zd; obtain ⟨Bc, e176, hab⟩ := Kd.at_int HR1.out Ba p176 q176; cases e176; replace p176 := eq_true p176; replace q176 := eq_true q176; go_wp2; repeat (go_quiet (fail); try go_wp2)
        go_ret; exact ⟨by first | rfl | (simp; done) | (simp [*]; done), by repeat (first | exact Drawn0.refl _ | apply Drawn0.step)⟩
      ·rw [if_neg c6] at H; exact absurd H (by simp)
     ·rw [if_neg c5] at H; exact absurd H (by simp)
    ·rw [if_neg c4] at H; have c4b0 := decide_eq_false c4; clear c4; obtain rfl := Option.some.inj H; go_wp2; repeat (go_quiet (fail); try go_wp2)
     go_ret; exact ⟨by first | rfl | (simp; done) | (simp [*]; done), by repeat (first | exact Drawn0.refl _ | apply Drawn0.step)⟩
 ·rw [if_neg c3] at H; have c3b0 := beq_eq_false_iff_ne.mpr c3; have c3b1 := bne_iff_ne.mpr c3; have c3b2 : (l0.length == l1.length) = false := by first | simpa using c3 | (simp at c3 ⊢; omega)
  obtain rfl := Option.some.inj H; go_enter Tryd.func7, Tryd.ntmps7; go_wp2; repeat (go_quiet (fail); try go_wp2)
  go_ret; exact ⟨by first | rfl | (simp; done) | (simp [*]; done), by repeat (first | exact Drawn0.refl _ | apply Drawn0.step)⟩

/-! ### laws_markByteS: function 8 -/
def laws_markByteS.l0 : Nat → List Int → Int → Int → Option (Int × List Int)
 | 0, _, _, _ => none
 | k + 1, x0, x1, x5 => if x5 < (x0.length : Int) then (if 0 ≤ x5 then (laws_markByteS.l0 k (x0.set (x5 : Int).toNat ((x1) % 256)) (wrap64 (x1 + 1)) (wrap64 (x5 + 1))) else (none)) else (some (x1, x0))
def laws_markByteS.f (k : Nat) (l0 : List Int) (a1 : Int) : Option (Int × List Int) := laws_markByteS.l0 k l0 a1 0
theorem laws_markByteS.mono_l : ∀ k, (∀ y0 y1 y2, LeO (laws_markByteS.l0 k y0 y1 y2) (laws_markByteS.l0 (k + 1) y0 y1 y2))
 | 0 => fun _ _ _ r h => by simp [laws_markByteS.l0] at h
 | k + 1 => by
  have ih0 := laws_markByteS.mono_l k
  ·intro y0 y1 y2; unfold laws_markByteS.l0; exact zm
theorem laws_markByteS.mono : ∀ a0 a1 k, LeO (laws_markByteS.f k a0 a1) (laws_markByteS.f (k + 1) a0 a1) := by
 intro a0 a1 k; have ih0 := laws_markByteS.mono_l k; unfold laws_markByteS.f; exact zm
set_option maxHeartbeats 8000000 in
set_option maxRecDepth 100000 in
theorem laws_markByteS.calls (k : Nat) (P0_ : Nat → Prop) (u9000_ : Value) (l0 : List Int) (a1 : Int) (r1 : Int) (r2 : List Int) (w0 w : World) (hB : Below w0.heap.size w0 w) (ho0 : Kd.R (Kd.int .u8) 5 w w0.heap.size P0_ u9000_ l0) (h : laws_markByteS.f k l0 a1 = some (r1, r2)) :
  Calls Tryd.prog 8 #[u9000_, .int .i64 a1] w fun e w' => e = .returned (.int .i64 r1) ∧ Kd.R (Kd.int .u8) 5 w' w0.heap.size (fun k_ => (P0_ k_ ∨ w.heap.size ≤ k_)) u9000_ r2 ∧ Below w0.heap.size w0 w' ∧ Kept w w' (fun k_ => P0_ k_) := by
 have Bg := zA (show Kd.R (Kd.int .u8) 5 w w0.heap.size (fun k_ => (P0_ k_ ∨ w.heap.size ≤ k_)) u9000_ l0 from Kd.R_mono ho0 (fun k_ hk => (.inl hk))); have HK := zA (Kept.refl w (fun k_ => P0_ k_)); have HW0 := zA hB.size; have HB := zA hB; clear hB; have H : (laws_markByteS.l0 k l0 a1 0) = some (r1, r2) := h; clear h; have H' := zA H; clear H; go_enter Tryd.func8, Tryd.ntmps8; go_wp2
 go_loopg [1, 5] k (fun kq v1 v5 w' => ∃ (Bd : List Int) (Bc : Int) (Ba : Int), v1 = .int .i64 Bc ∧ v5 = .int .i64 Ba ∧ Aside0 (laws_markByteS.l0 kq Bd Bc Ba = some (r1, r2)) ∧ Aside0 (kq ≤ k) ∧ Aside0 (Kd.R (Kd.int .u8) 5 w' w0.heap.size (fun k_ => (P0_ k_ ∨ w.heap.size ≤ k_)) u9000_ Bd) ∧ Aside0 (Kept w w' (fun k_ => P0_ k_)) ∧ Aside0 (Below w0.heap.size w0 w'))
 case atStart => exact ⟨(l0), (a1), (0), zr, zr, H', ⟨Nat.le_refl _⟩, ⟨zR Bg.out⟩, ⟨by repeat (first | (with_reducible first | exact HK.out | apply Kept.alloc | apply Kept.drewN | apply Kept.drew) | exact HK.out)⟩, ⟨z_⟩⟩
 case round =>
  clear H'; (try clear p2); obtain ⟨Bd, Bc, Ba, rfl, rfl, HA, HK1, Bb, HK, HB⟩ := hrel; cases gk with
  | zero => exact absurd HA.out (by simp [laws_markByteS.l0])
  | succ k1 =>
   have H := HA.out; clear HA; simp only [laws_markByteS.l0] at H
   by_cases c3 : Ba < (Bd.length : Int)
   ·rw [if_pos c3] at H; have c3b0 := decide_eq_true c3; clear c3
    by_cases c4 : 0 ≤ Ba
    ·rw [if_pos c4] at H; have c4b0 := decide_eq_true c4; clear c4; obtain ⟨y177, hy177⟩ : ∃ y_ : List Int, y_ = (Bd.set (Ba : Int).toNat ((Bc) % 256)) := ⟨_, rfl⟩; replace H : (laws_markByteS.l0 k1 y177 (wrap64 (Bc + 1)) (wrap64 (Ba + 1))) = some (r1, r2) := zh hy177; have Ny177 := zA hy177; clear hy177; have H' := zA H; clear H; obtain ⟨Bk, Bh, Bi⟩ := Kd.R_slice Bb.out; subst Bi; have p5 : 0 ≤ (Ba : Int) := zd; have q5 : (Ba : Int) < ((Bd.length : Int) : Int) := zd; obtain ⟨go5, Bm, Be, Bf, gl5, cl5, HG5⟩ := Kd.R_form Bb.out (by omega)
     (first | cases Be | (injection Be with ea_ en_ ec_; (first | subst ea_ | (injection ea_ with ea_; subst ea_)); subst ec_; clear en_))
     have GB5 := zA Bf; have GG5 := zA HG5; clear Bf gl5 HG5; have HMgo5 := zA (show (P0_ go5 ∨ w.heap.size ≤ go5) from (Bb.out.1 _ rfl)); obtain ⟨haa, hf5_0⟩ := Kd.R_celln 0 Bb.out (Ba : Int) p5 q5; replace p5 := eq_true p5; replace q5 := eq_true q5; have HP7 := Kd.R_putg Bb.out (Ba : Int) ((Bc) % 256); go_wp2_with (first | ((with_reducible refine gate_store (t := 5) (p := 16) rfl ?_); refine store_event (t := 5) (p := 16) (v := ?vo_w8) (w1 := (wr.setCell ⟨go5, (Ba : Int).toNat, none⟩ (.int .u8 ((Bc) % 256)))) ?hg ?ho ?hn ?hr ?_; (case ho => rfl); (case hg => rfl); (case hn => rfl); (case hr => first | (go_simp; done) | (go_simp; rfl)); intro w8 hw; have hg : wr.grownBy w8 (some go5) := (by rw [hw]; exact HP7.2); have hp_ : Kd.R (Kd.int .u8) 5 w8 w0.heap.size (fun k_ => (P0_ k_ ∨ w.heap.size ≤ k_)) (.slice (some ⟨go5, 0, none⟩) Bd.length Bh) y177 := (by rw [hw, Ny177.out]; exact HP7.1); clear HP7; replace HB := zA ((by rw [hw]; exact below_set (HB.out) GB5.out : Below w0.heap.size w0 w8)); replace HK := zA (Kept.of_grown (S := (fun k_ => P0_ k_)) hg (by repeat (first | (with_reducible first | exact HK.out | apply Kept.alloc | apply Kept.drewN | apply Kept.drew) | exact HK.out)) (fun k_ e_ => (Bb.out.1 k_ e_))); replace Bb := zA (hp_); clear hg hw hp_)); go_roundg k1
     case measure => have := HK1.out; omega
     case rel => exact ⟨(y177), (wrap64 (Bc + 1)), (wrap64 (Ba + 1)), zr, zr, H', ⟨by have := HK1.out; omega⟩, ⟨zR Bb.out⟩, ⟨by repeat (first | (with_reducible first | exact HK.out | apply Kept.alloc | apply Kept.drewN | apply Kept.drew) | exact HK.out)⟩, ⟨z_⟩⟩
    ·rw [if_neg c4] at H; exact absurd H (by simp)
   ·rw [if_neg c3] at H; have c3b0 := decide_eq_false c3; clear c3; simp only [Option.some.injEq, Prod.mk.injEq] at H; obtain ⟨rfl, rfl⟩ := H; obtain ⟨Bl, Bn, Bj⟩ := Kd.R_slice Bb.out; subst Bj; go_wp2; go_ret; exact ⟨ze, by (with_reducible repeat (first | apply Kd.R_alloc | apply Kd.R_drewN | apply Kd.R_drew)); exact Bb.out, z_, by repeat (first | (with_reducible first | exact HK.out | apply Kept.alloc | apply Kept.drewN | apply Kept.drew) | exact HK.out)⟩

/-! ### laws_heldByteS: function 9 -/
def laws_heldByteS.l0 : Nat → List Int → Int → Int → Option (Int)
 | 0, _, _, _ => none
 | k + 1, x0, x1, x5 => if x5 < (x0.length : Int) then (if 0 ≤ x5 then (if (rd x0 x5) = ((x1) % 256) then (laws_heldByteS.l0 k x0 (wrap64 (x1 + 1)) (wrap64 (x5 + 1))) else (some (-1))) else (none)) else (some x1)
def laws_heldByteS.f (k : Nat) (l0 : List Int) (a1 : Int) : Option (Int) := laws_heldByteS.l0 k l0 a1 0
theorem laws_heldByteS.mono_l : ∀ k, (∀ y0 y1 y2, LeO (laws_heldByteS.l0 k y0 y1 y2) (laws_heldByteS.l0 (k + 1) y0 y1 y2))
 | 0 => fun _ _ _ r h => by simp [laws_heldByteS.l0] at h
 | k + 1 => by
  have ih0 := laws_heldByteS.mono_l k
  ·intro y0 y1 y2; unfold laws_heldByteS.l0; exact zm
theorem laws_heldByteS.mono : ∀ a0 a1 k, LeO (laws_heldByteS.f k a0 a1) (laws_heldByteS.f (k + 1) a0 a1) := by
 intro a0 a1 k; have ih0 := laws_heldByteS.mono_l k; unfold laws_heldByteS.f; exact zm
set_option maxHeartbeats 8000000 in
set_option maxRecDepth 100000 in
theorem laws_heldByteS.calls (k : Nat) (A0 : Option Addr) (c0 : Nat) (l0 : List Int) (a1 : Int) (r : Int) (w : World) (hr0 : Kd.C (Kd.int .u8) w A0 l0.length l0) (hc0 : l0.length ≤ c0) (h : laws_heldByteS.f k l0 a1 = some r) :
  Calls Tryd.prog 9 #[.slice A0 l0.length c0, .int .i64 a1] w fun e w' => e = .returned (.int .i64 r) ∧ Drawn0 w w' := by
 have HR0 := zA hr0; have HC0 := zA hc0; clear hr0 hc0; have H : (laws_heldByteS.l0 k l0 a1 0) = some r := h; clear h; have H' := zA H; clear H; go_enter Tryd.func9, Tryd.ntmps9; go_wp2
 go_loopg [1, 5] k (fun kq v1 v5 w' => ∃ (Bb : Int) (Ba : Int), v1 = .int .i64 Bb ∧ v5 = .int .i64 Ba ∧ Aside0 (laws_heldByteS.l0 kq l0 Bb Ba = some r) ∧ Aside0 (kq ≤ k) ∧ Drawn0 w w')
 case atStart => exact ⟨(a1), (0), zr, zr, H', ⟨Nat.le_refl _⟩, by repeat (first | exact Drawn0.refl _ | apply Drawn0.step)⟩
 case round =>
  clear H'; (try clear p2); obtain ⟨Bb, Ba, rfl, rfl, HA, HK1, ⟨m1, rfl⟩⟩ := hrel; cases gk with
  | zero => exact absurd HA.out (by simp [laws_heldByteS.l0])
  | succ k1 =>
   have H := HA.out; clear HA; simp only [laws_heldByteS.l0] at H
   by_cases c3 : Ba < (l0.length : Int)
   ·rw [if_pos c3] at H; have c3b0 := decide_eq_true c3; clear c3
    by_cases c4 : 0 ≤ Ba
    ·rw [if_pos c4] at H; have c4b0 := decide_eq_true c4; clear c4
     by_cases c5 : (rd l0 Ba) = ((Bb) % 256)
     ·rw [if_pos c5] at H; have c5b0 := beq_iff_eq.mpr c5; have c5b1 := bne_eq_false_iff_eq.mpr c5; clear c5; have H' := zA H; clear H; have p178 : 0 ≤ (Ba : Int) := zd; have q178 : Ba < (l0.length : Int) := zd; obtain ⟨Bc, e178, haa⟩ := Kd.at_int HR0.out Ba p178 q178; cases e178; replace p178 := eq_true p178; replace q178 := eq_true q178; go_wp2; go_roundg k1
      case measure => have := HK1.out; omega
      case rel => exact ⟨(wrap64 (Bb + 1)), (wrap64 (Ba + 1)), zr, zr, H', ⟨by have := HK1.out; omega⟩, by repeat (first | exact Drawn0.refl _ | apply Drawn0.step)⟩
     ·rw [if_neg c5] at H; have c5b0 := beq_eq_false_iff_ne.mpr c5; have c5b1 := bne_iff_ne.mpr c5; obtain rfl := Option.some.inj H; have p178 : 0 ≤ (Ba : Int) := zd; have q178 : Ba < (l0.length : Int) := zd; obtain ⟨Bc, e178, haa⟩ := Kd.at_int HR0.out Ba p178 q178; cases e178; replace p178 := eq_true p178; replace q178 := eq_true q178; go_wp2; go_ret; exact ⟨by first | rfl | (simp; done) | (simp [*]; done), by repeat (first | exact Drawn0.refl _ | apply Drawn0.step)⟩
    ·rw [if_neg c4] at H; exact absurd H (by simp)
   ·rw [if_neg c3] at H; have c3b0 := decide_eq_false c3; clear c3; obtain rfl := Option.some.inj H; go_wp2; go_ret; exact ⟨by first | rfl | (simp; done) | (simp [*]; done), by repeat (first | exact Drawn0.refl _ | apply Drawn0.step)⟩

end Go.Proofs.YtbnpkiokpnmphaaDoor.PFnExactUnquoteText
