-- made by wip/tools/myprint.py (this session's own program, over the kit's printer)
import Derived.Test.YtbeheecjemdcdaaPFnHopsx0
import Derived.Test.YtbeheecjemdcdaaPFnHopsx1
import Derived.Test.YtbeheecjemdcdaaPFnHopsx2
import Derived.Test.YtbeheecjemdcdaaPFnHopsx3
import Derived.Test.YtbeheecjemdcdaaPFnHopsx4
namespace Go.Proofs.Ytbeheecjemdcdaa.PFnHops
open Go.RowKit Go.Proofs.YtbeheecjemdcdaaW.PrintWords Go.Proofs.YtbeheecjemdcdaaW.PrintLast Go.Proofs.YtbeheecjemdcdaaW.PrintMore
attribute [local go_sem] max2_int min2_int max_two min_two max_three min_three max_four min_four   -- for this text's walks alone
set_option linter.unusedVariables false
set_option linter.unusedSimpArgs false

/-! ### laws_sameB: function 31 -/
def laws_sameB.l0 : Nat → List Int → List Int → Int → Option (Bool)
 | 0, _, _, _ => none
 | k + 1, x0, x1, x5 => if x5 < (x0.length : Int) then (if 0 ≤ x5 then (if x5 < (x1.length : Int) then (if (rd x0 x5) = (rd x1 x5) then (laws_sameB.l0 k x0 x1 (wrap64 (x5 + 1))) else (some false)) else (none)) else (none)) else (some true)
def laws_sameB.f (k : Nat) (l0 : List Int) (l1 : List Int) : Option (Bool) := if (l0.length : Int) = (l1.length : Int) then (laws_sameB.l0 k l0 l1 0) else (some false)
theorem laws_sameB.mono_l : ∀ k, (∀ y0 y1 y2, LeO (laws_sameB.l0 k y0 y1 y2) (laws_sameB.l0 (k + 1) y0 y1 y2))
 | 0 => fun _ _ _ r h => by simp [laws_sameB.l0] at h
 | k + 1 => by
  have ih0 := laws_sameB.mono_l k
  ·intro y0 y1 y2
   unfold laws_sameB.l0
   exact zm
theorem laws_sameB.mono : ∀ a0 a1 k, LeO (laws_sameB.f k a0 a1) (laws_sameB.f (k + 1) a0 a1) := by
 intro a0 a1 k
 have ih0 := laws_sameB.mono_l k
 unfold laws_sameB.f
 exact zm
set_option maxHeartbeats 8000000 in
set_option maxRecDepth 100000 in
theorem laws_sameB.calls (k : Nat) (A0 : Option Addr) (c0 : Nat) (l0 : List Int) (A1 : Option Addr) (c1 : Nat) (l1 : List Int) (r : Bool) (w : World) (hr0 : Kd.C (Kd.int .u8) w A0 l0.length l0) (hc0 : l0.length ≤ c0) (hr1 : Kd.C (Kd.int .u8) w A1 l1.length l1) (hc1 : l1.length ≤ c1) (h : laws_sameB.f k l0 l1 = some r) :
  Calls Try.prog 31 #[.slice A0 l0.length c0, .slice A1 l1.length c1] w fun e w' => e = .returned (.bool r) ∧ Drawn0 w w' := by
 have HR0 := zA hr0
 have HC0 := zA hc0
 clear hr0 hc0
 have HR1 := zA hr1
 have HC1 := zA hc1
 clear hr1 hc1
 have H : (if (l0.length : Int) = (l1.length : Int) then (laws_sameB.l0 k l0 l1 0) else (some false)) = some r := h
 clear h
 by_cases c3 : (l0.length : Int) = (l1.length : Int)
 ·rw [if_pos c3] at H
  have c3b0 : ((l0.length : Int) == (l1.length : Int)) = true := beq_iff_eq.mpr c3
  have c3b1 : ((l0.length : Int) != (l1.length : Int)) = false := bne_eq_false_iff_eq.mpr c3
  have c3b2 : (l0.length == l1.length) = true := by first | simpa using c3 | (simp at c3 ⊢; omega)
  clear c3
  have H' := zA H
  clear H
  go_enter Try.func31, Try.ntmps31
  go_wp2
  repeat (go_quiet (fail); try go_wp2)
  go_loopg [5] k (fun kq v5 w' => ∃ (x5_1 : Int), v5 = .int .i64 x5_1 ∧ Aside0 (laws_sameB.l0 kq l0 l1 x5_1 = some r) ∧ Aside0 (kq ≤ k) ∧ Drawn0 w w')
  case atStart => exact ⟨(0), zr, H', ⟨Nat.le_refl _⟩, by repeat (first | exact Drawn0.refl _ | apply Drawn0.step)⟩
  case round =>
   clear H'
   (try clear c1); (try clear p2); (try clear c3); (try clear c3b0); (try clear c3b1); (try clear c3b2)
   obtain ⟨x5_1, rfl, HA, HK1, ⟨m1, rfl⟩⟩ := hrel
   cases gk with
   | zero => exact absurd HA.out (by simp [laws_sameB.l0])
   | succ k1 =>
    have H := HA.out
    clear HA
    simp only [laws_sameB.l0] at H
    by_cases c4 : x5_1 < (l0.length : Int)
    ·rw [if_pos c4] at H
     have c4b0 : decide (x5_1 < (l0.length : Int)) = true := decide_eq_true c4
     clear c4
     by_cases c5 : 0 ≤ x5_1
     ·rw [if_pos c5] at H
      have c5b0 : decide (0 ≤ x5_1) = true := decide_eq_true c5
      clear c5
      by_cases c6 : x5_1 < (l1.length : Int)
      ·rw [if_pos c6] at H
       have c6b0 : decide (x5_1 < (l1.length : Int)) = true := decide_eq_true c6
       clear c6
       by_cases c7 : (rd l0 x5_1) = (rd l1 x5_1)
       ·rw [if_pos c7] at H
        have c7b0 : ((rd l0 x5_1) == (rd l1 x5_1)) = true := beq_iff_eq.mpr c7
        have c7b1 : ((rd l0 x5_1) != (rd l1 x5_1)) = false := bne_eq_false_iff_eq.mpr c7
        clear c7
        have H' := zA H
        clear H
        have p183 : 0 ≤ (x5_1 : Int) := zd
        have q183 : x5_1 < (l0.length : Int) := zd
        obtain ⟨ad183, e183, hx183_0⟩ := Kd.at_int HR0.out x5_1 p183 q183
        cases e183
        replace p183 := eq_true p183
        replace q183 := eq_true q183
        have p184 : 0 ≤ (x5_1 : Int) := zd
        have q184 : x5_1 < (l1.length : Int) := zd
        obtain ⟨ad184, e184, hx184_0⟩ := Kd.at_int HR1.out x5_1 p184 q184
        cases e184
        replace p184 := eq_true p184
        replace q184 := eq_true q184
        go_wp2
        repeat (go_quiet (fail); try go_wp2)
        go_roundg k1
        case measure => have := HK1.out; omega
        case rel => exact ⟨(wrap64 (x5_1 + 1)), zr, H', ⟨by have := HK1.out; omega⟩, by repeat (first | exact Drawn0.refl _ | apply Drawn0.step)⟩
       ·rw [if_neg c7] at H
        have c7b0 : ((rd l0 x5_1) == (rd l1 x5_1)) = false := beq_eq_false_iff_ne.mpr c7
        have c7b1 : ((rd l0 x5_1) != (rd l1 x5_1)) = true := bne_iff_ne.mpr c7
        obtain rfl := Option.some.inj H
        have p183 : 0 ≤ (x5_1 : Int) := zd
        have q183 : x5_1 < (l0.length : Int) := zd
        obtain ⟨ad183, e183, hx183_0⟩ := Kd.at_int HR0.out x5_1 p183 q183
        cases e183
        replace p183 := eq_true p183
        replace q183 := eq_true q183
        have p184 : 0 ≤ (x5_1 : Int) := zd
        have q184 : x5_1 < (l1.length : Int) := zd
        obtain ⟨ad184, e184, hx184_0⟩ := Kd.at_int HR1.out x5_1 p184 q184
        cases e184
        replace p184 := eq_true p184
        replace q184 := eq_true q184
        go_wp2
        repeat (go_quiet (fail); try go_wp2)
        go_ret
        exact ⟨by first | rfl | (simp; done) | (simp [*]; done), by repeat (first | exact Drawn0.refl _ | apply Drawn0.step)⟩
      ·rw [if_neg c6] at H
       exact absurd H (by simp)
     ·rw [if_neg c5] at H
      exact absurd H (by simp)
    ·rw [if_neg c4] at H
     have c4b0 : decide (x5_1 < (l0.length : Int)) = false := decide_eq_false c4
     clear c4
     obtain rfl := Option.some.inj H
     go_wp2
     repeat (go_quiet (fail); try go_wp2)
     go_ret
     exact ⟨by first | rfl | (simp; done) | (simp [*]; done), by repeat (first | exact Drawn0.refl _ | apply Drawn0.step)⟩
 ·rw [if_neg c3] at H
  have c3b0 : ((l0.length : Int) == (l1.length : Int)) = false := beq_eq_false_iff_ne.mpr c3
  have c3b1 : ((l0.length : Int) != (l1.length : Int)) = true := bne_iff_ne.mpr c3
  have c3b2 : (l0.length == l1.length) = false := by first | simpa using c3 | (simp at c3 ⊢; omega)
  obtain rfl := Option.some.inj H
  go_enter Try.func31, Try.ntmps31
  go_wp2
  repeat (go_quiet (fail); try go_wp2)
  go_ret
  exact ⟨by first | rfl | (simp; done) | (simp [*]; done), by repeat (first | exact Drawn0.refl _ | apply Drawn0.step)⟩

/-! ### laws_FnHops: function 8 -/
mutual
def laws_FnHops.j0 : Nat → List Int → Option (Bool)
 | 0, _ => none
 | k + 1, x0 => (spec_DrawUnpackHops.f k x0).bind fun bt204 => ((spec_UnpackHops.f k bt204.1 bt204.2).bind fun bt208 => ((spec_DrawUnpackHops.f k x0).bind fun bt212 => ((impl_UnpackHops.f k bt212.1 bt204.2).bind fun bt216 => (if bt216.2 = bt208.2 then (laws_FnHops.j1 k bt204.1 bt204.2 bt208.2 bt216.1 bt216.2 (bt208.2 != 0)) else (laws_FnHops.j1 k bt204.1 bt204.2 bt208.2 bt216.1 bt216.2 true)))))
def laws_FnHops.j1 : Nat → List Int → Int → Int → List Int → Int → Bool → Option (Bool)
 | 0, _, _, _, _, _, _ => none
 | k + 1, x10, x11, x13, x16, x17, x97 => if x97 = true then (if x17 = x13 then (some ((x16.length : Int) == 0)) else (some false)) else ((impl_PackHops.f k x16).bind fun bt220 => (if bt220.2 = 0 then (if (x16.length : Int) = x11 then ((laws_sameB.f k bt220.1 x10).bind fun t224 => (some t224)) else (some false)) else (some false)))
end
def laws_FnHops.f (k : Nat) (l0 : List Int) : Option (Bool) := if (l0.length : Int) > 1048576 then (some true) else ((spec_DrawPackHops.f k l0).bind fun t185 => ((spec_PackHops.f k t185).bind fun bt188 => ((spec_DrawPackHops.f k l0).bind fun t192 => ((impl_PackHops.f k t192).bind fun bt195 => (if bt195.2 = bt188.2 then (if bt188.2 = 0 then ((impl_UnpackHops.f k bt195.1 (t185.length : Int)).bind fun bt199 => (if bt199.2 = 0 then ((laws_sameN.f k bt199.1 t185).bind fun t203 => (if t203 = true then (if (bt195.1.length : Int) = (wrap64 (Int.tdiv (wrap64 ((wrap64 (3 * (t185.length : Int))) + 7)) 8)) then (laws_FnHops.j0 k l0) else (some false)) else (some false))) else (some false))) else (if (bt195.1.length : Int) = 0 then (laws_FnHops.j0 k l0) else (some false))) else (some false))))))
theorem laws_FnHops.mono_l : ∀ k, (∀ y0, LeO (laws_FnHops.j0 k y0) (laws_FnHops.j0 (k + 1) y0)) ∧ (∀ y0 y1 y2 y3 y4 y5, LeO (laws_FnHops.j1 k y0 y1 y2 y3 y4 y5) (laws_FnHops.j1 (k + 1) y0 y1 y2 y3 y4 y5))
 | 0 => ⟨fun _ r h => by simp [laws_FnHops.j0] at h, fun _ _ _ _ _ _ r h => by simp [laws_FnHops.j1] at h⟩
 | k + 1 => by
  obtain ⟨ih0, ih1⟩ := laws_FnHops.mono_l k
  refine ⟨?_, ?_⟩
  ·intro y0
   unfold laws_FnHops.j0
   have m1 := @impl_PackHops.mono
   have m2 := @impl_UnpackHops.mono
   have m3 := @laws_sameB.mono
   have m4 := @laws_sameN.mono
   have m5 := @spec_DrawPackHops.mono
   have m6 := @spec_DrawUnpackHops.mono
   have m7 := @spec_PackHops.mono
   have m8 := @spec_UnpackHops.mono
   exact zm
  ·intro y0 y1 y2 y3 y4 y5
   unfold laws_FnHops.j1
   have m1 := @impl_PackHops.mono
   have m2 := @impl_UnpackHops.mono
   have m3 := @laws_sameB.mono
   have m4 := @laws_sameN.mono
   have m5 := @spec_DrawPackHops.mono
   have m6 := @spec_DrawUnpackHops.mono
   have m7 := @spec_PackHops.mono
   have m8 := @spec_UnpackHops.mono
   exact zm
theorem laws_FnHops.mono : ∀ a0 k, LeO (laws_FnHops.f k a0) (laws_FnHops.f (k + 1) a0) := by
 intro a0 k
 obtain ⟨ih0, ih1⟩ := laws_FnHops.mono_l k
 unfold laws_FnHops.f
 have m1 := @impl_PackHops.mono
 have m2 := @impl_UnpackHops.mono
 have m3 := @laws_sameB.mono
 have m4 := @laws_sameN.mono
 have m5 := @spec_DrawPackHops.mono
 have m6 := @spec_DrawUnpackHops.mono
 have m7 := @spec_PackHops.mono
 have m8 := @spec_UnpackHops.mono
 exact zm
set_option maxHeartbeats 8000000 in
set_option maxRecDepth 100000 in
theorem laws_FnHops.calls (k : Nat) (A0 : Option Addr) (c0 : Nat) (l0 : List Int) (r : Bool) (w : World) (hr0 : Kd.C (Kd.int .u8) w A0 l0.length l0) (hc0 : l0.length ≤ c0) (h : laws_FnHops.f k l0 = some r) :
  Calls Try.prog 8 #[.slice A0 l0.length c0] w fun e w' => e = .returned (.bool r) ∧ Below w.heap.size w w' := by
 have HR0 := zA hr0
 have HC0 := zA hc0
 clear hr0 hc0
 have HB := zA (Below.refl w.heap.size w)
 have H : (if (l0.length : Int) > 1048576 then (some true) else ((spec_DrawPackHops.f k l0).bind fun t185 => ((spec_PackHops.f k t185).bind fun bt188 => ((spec_DrawPackHops.f k l0).bind fun t192 => ((impl_PackHops.f k t192).bind fun bt195 => (if bt195.2 = bt188.2 then (if bt188.2 = 0 then ((impl_UnpackHops.f k bt195.1 (t185.length : Int)).bind fun bt199 => (if bt199.2 = 0 then ((laws_sameN.f k bt199.1 t185).bind fun t203 => (if t203 = true then (if (bt195.1.length : Int) = (wrap64 (Int.tdiv (wrap64 ((wrap64 (3 * (t185.length : Int))) + 7)) 8)) then (laws_FnHops.j0 k l0) else (some false)) else (some false))) else (some false))) else (if (bt195.1.length : Int) = 0 then (laws_FnHops.j0 k l0) else (some false))) else (some false))))))) = some r := h
 clear h
 by_cases c2 : (l0.length : Int) > 1048576
 ·rw [if_pos c2] at H
  have c2b0 : decide (1048576 < (l0.length : Int)) = true := decide_eq_true c2
  have c2b1 : decide (1048576 < l0.length) = true := decide_eq_true (by omega)
  clear c2
  obtain rfl := Option.some.inj H
  go_enter Try.func8, Try.ntmps8
  go_wp2
  go_ret
  exact ⟨ze, z_⟩
 ·rw [if_neg c2] at H
  have c2b0 : decide (1048576 < (l0.length : Int)) = false := decide_eq_false c2
  have c2b1 : decide (1048576 < l0.length) = false := decide_eq_false (by omega)
  clear c2
  replace H := Option.bind_eq_some_iff.mp H
  obtain ⟨t185, A30, H⟩ := H
  replace H : ((spec_PackHops.f k t185).bind fun bt188 => ((spec_DrawPackHops.f k l0).bind fun t192 => ((impl_PackHops.f k t192).bind fun bt195 => (if bt195.2 = bt188.2 then (if bt188.2 = 0 then ((impl_UnpackHops.f k bt195.1 (t185.length : Int)).bind fun bt199 => (if bt199.2 = 0 then ((laws_sameN.f k bt199.1 t185).bind fun t203 => (if t203 = true then (if (bt195.1.length : Int) = (wrap64 (Int.tdiv (wrap64 ((wrap64 (3 * (t185.length : Int))) + 7)) 8)) then (laws_FnHops.j0 k l0) else (some false)) else (some false))) else (some false))) else (if (bt195.1.length : Int) = 0 then (laws_FnHops.j0 k l0) else (some false))) else (some false))))) = some r := H
  have A3 := zA A30
  clear A30
  replace H := Option.bind_eq_some_iff.mp H
  obtain ⟨⟨t188, t189⟩, A40, H⟩ := H
  replace H : ((spec_DrawPackHops.f k l0).bind fun t192 => ((impl_PackHops.f k t192).bind fun bt195 => (if bt195.2 = t189 then (if t189 = 0 then ((impl_UnpackHops.f k bt195.1 (t185.length : Int)).bind fun bt199 => (if bt199.2 = 0 then ((laws_sameN.f k bt199.1 t185).bind fun t203 => (if t203 = true then (if (bt195.1.length : Int) = (wrap64 (Int.tdiv (wrap64 ((wrap64 (3 * (t185.length : Int))) + 7)) 8)) then (laws_FnHops.j0 k l0) else (some false)) else (some false))) else (some false))) else (if (bt195.1.length : Int) = 0 then (laws_FnHops.j0 k l0) else (some false))) else (some false)))) = some r := H
  have A4 := zA A40
  clear A40
  replace H := Option.bind_eq_some_iff.mp H
  obtain ⟨t192, A50, H⟩ := H
  replace H : ((impl_PackHops.f k t192).bind fun bt195 => (if bt195.2 = t189 then (if t189 = 0 then ((impl_UnpackHops.f k bt195.1 (t185.length : Int)).bind fun bt199 => (if bt199.2 = 0 then ((laws_sameN.f k bt199.1 t185).bind fun t203 => (if t203 = true then (if (bt195.1.length : Int) = (wrap64 (Int.tdiv (wrap64 ((wrap64 (3 * (t185.length : Int))) + 7)) 8)) then (laws_FnHops.j0 k l0) else (some false)) else (some false))) else (some false))) else (if (bt195.1.length : Int) = 0 then (laws_FnHops.j0 k l0) else (some false))) else (some false))) = some r := H
  have A5 := zA A50
  clear A50
  replace H := Option.bind_eq_some_iff.mp H
  obtain ⟨⟨t195, t196⟩, A60, H⟩ := H
  replace H : (if t196 = t189 then (if t189 = 0 then ((impl_UnpackHops.f k t195 (t185.length : Int)).bind fun bt199 => (if bt199.2 = 0 then ((laws_sameN.f k bt199.1 t185).bind fun t203 => (if t203 = true then (if (t195.length : Int) = (wrap64 (Int.tdiv (wrap64 ((wrap64 (3 * (t185.length : Int))) + 7)) 8)) then (laws_FnHops.j0 k l0) else (some false)) else (some false))) else (some false))) else (if (t195.length : Int) = 0 then (laws_FnHops.j0 k l0) else (some false))) else (some false)) = some r := H
  have A6 := zA A60
  clear A60
  by_cases c7 : t196 = t189
  ·rw [if_pos c7] at H
   have c7b0 : (t196 == t189) = true := beq_iff_eq.mpr c7
   have c7b1 : (t196 != t189) = false := bne_eq_false_iff_eq.mpr c7
   clear c7
   have HC8 := zA H
   clear H
   go_enter Try.func8, Try.ntmps8
   go_upto_if 40 with (first | ((with_reducible refine gate_callee (f := 28) rfl ?_); refine goesL_ (some 24) rfl rfl Try.func28 (by kernel_rfl) rfl #[.slice A0 l0.length c0] rfl za ?_; (with_reducible refine (spec_DrawPackHops.calls k _ _ l0 t185 _ ?side1 ?side2 A3.out).mono ?_); (case side1 => exact zc (HR0.out)); (case side2 => exact HC0.out); rintro e w9 ⟨v186, rfl, ho0, hb⟩; refine ⟨_, rfl, ?_⟩; have n0_ := zA (Kd.R_lower ho0 (below_size z_)); have n1_ := zA (below_step z_ hb); clear HB; have HO187 := n0_; have HB := n1_; clear n0_ n1_; (try clear hb); (try clear hb2); (try clear hk); (try clear hi); (try clear ho0); obtain ⟨Ao10, co10, eo10⟩ := Kd.R_slice HO187.out; subst eo10) | ((with_reducible refine gate_callee (f := 13) rfl ?_); refine goesL_ (some 27) rfl rfl Try.func13 (by kernel_rfl) rfl #[.slice Ao10 t185.length co10] rfl za ?_; (with_reducible refine (spec_PackHops.calls k _ _ t185 t188 t189 _ ?side1 ?side2 A4.out).mono ?_); (case side1 => exact zc ((Kd.R_reads' HO187.out).2.2)); (case side2 => exact (Kd.R_reads' HO187.out).2.1); rintro e w11 ⟨v190, rfl, ho0, hb⟩; refine ⟨_, rfl, ?_⟩; have n0_ := zA (Kd.R_below (zR HO187.out) hb); have n1_ := zA (Kd.R_lower ho0 (below_size z_)); have n2_ := zA (below_step z_ hb); clear HO187 HB; have HO187 := n0_; have HO191 := n1_; have HB := n2_; clear n0_ n1_ n2_; (try clear hb); (try clear hb2); (try clear hk); (try clear hi); (try clear ho0)) | ((with_reducible refine gate_callee (f := 28) rfl ?_); refine goesL_ (some 32) rfl rfl Try.func28 (by kernel_rfl) rfl #[.slice A0 l0.length c0] rfl za ?_; (with_reducible refine (spec_DrawPackHops.calls k _ _ l0 t192 _ ?side1 ?side2 A5.out).mono ?_); (case side1 => exact zc (Kd.C_below HR0.out HB.out)); (case side2 => exact HC0.out); rintro e w12 ⟨v193, rfl, ho0, hb⟩; refine ⟨_, rfl, ?_⟩; have n0_ := zA (Kd.R_elder' (zR HO187.out) (Kd.R_base ho0) hb); have n1_ := zA (Kd.R_below (zR HO191.out) hb); have n2_ := zA (Kd.R_lower (Kd.R_new' ho0 (zl HO187.out)) (below_size z_)); have n3_ := zA (below_step z_ hb); clear HO187 HO191 HB; have HO187 := n0_; have HO191 := n1_; have HO194 := n2_; have HB := n3_; clear n0_ n1_ n2_ n3_; (try clear hb); (try clear hb2); (try clear hk); (try clear hi); (try clear ho0); obtain ⟨Ao13, co13, eo13⟩ := Kd.R_slice HO194.out; subst eo13) | ((with_reducible refine gate_callee (f := 15) rfl ?_); refine goesL_ (some 33) rfl rfl Try.func15 (by kernel_rfl) rfl #[.slice Ao13 t192.length co13] rfl za ?_; (with_reducible refine (impl_PackHops.calls k _ _ t192 t195 t196 _ ?side1 ?side2 A6.out).mono ?_); (case side1 => exact zc ((Kd.R_reads' HO194.out).2.2)); (case side2 => exact (Kd.R_reads' HO194.out).2.1); rintro e w14 ⟨v197, rfl, ho0, hb⟩; refine ⟨_, rfl, ?_⟩; have n0_ := zA (Kd.R_below (zR HO187.out) hb); have n1_ := zA (Kd.R_elder' (zR HO191.out) (Kd.R_base ho0) hb); have n2_ := zA (Kd.R_below (zR HO194.out) hb); have n3_ := zA (Kd.R_lower (Kd.R_new' ho0 (zl HO191.out)) (below_size z_)); have n4_ := zA (below_step z_ hb); clear HO187 HO191 HO194 HB; have HO187 := n0_; have HO191 := n1_; have HO194 := n2_; have HO198 := n3_; have HB := n4_; clear n0_ n1_ n2_ n3_ n4_; (try clear hb); (try clear hb2); (try clear hk); (try clear hi); (try clear ho0)))
   (try simp only [Act.put, List.setIfInBounds_toArray, List.set_cons_zero, List.set_cons_succ])
   go_cut [] (fun wc => ∃ (kq : Nat), Aside0 (laws_FnHops.j0 kq l0 = some r) ∧ Aside0 (kq ≤ k) ∧ Aside0 (Below w.heap.size w wc))
   case first =>
    have H := HC8.out
    clear HC8
    by_cases c15 : t189 = 0
    ·rw [if_pos c15] at H
     have c15b0 : (t189 == 0) = true := beq_iff_eq.mpr c15
     have c15b1 : (t189 != 0) = false := bne_eq_false_iff_eq.mpr c15
     clear c15
     (first | rw [c15b0] | (simp only [i64_w, i32_w]; rw [c15b0]) | skip)
     replace H := Option.bind_eq_some_iff.mp H
     obtain ⟨⟨t199, t200⟩, A160, H⟩ := H
     replace H : (if t200 = 0 then ((laws_sameN.f k t199 t185).bind fun t203 => (if t203 = true then (if (t195.length : Int) = (wrap64 (Int.tdiv (wrap64 ((wrap64 (3 * (t185.length : Int))) + 7)) 8)) then (laws_FnHops.j0 k l0) else (some false)) else (some false))) else (some false)) = some r := H
     have A16 := zA A160
     clear A160
     by_cases c17 : t200 = 0
     ·rw [if_pos c17] at H
      have c17b0 : (t200 == 0) = true := beq_iff_eq.mpr c17
      have c17b1 : (t200 != 0) = false := bne_eq_false_iff_eq.mpr c17
      clear c17
      replace H := Option.bind_eq_some_iff.mp H
      obtain ⟨t203, A180, H⟩ := H
      replace H : (if t203 = true then (if (t195.length : Int) = (wrap64 (Int.tdiv (wrap64 ((wrap64 (3 * (t185.length : Int))) + 7)) 8)) then (laws_FnHops.j0 k l0) else (some false)) else (some false)) = some r := H
      have A18 := zA A180
      clear A180
      by_cases c19 : t203 = true
      ·subst c19
       have H1 : (if (t195.length : Int) = (wrap64 (Int.tdiv (wrap64 ((wrap64 (3 * (t185.length : Int))) + 7)) 8)) then (laws_FnHops.j0 k l0) else (some false)) = some r := by rw [if_pos rfl] at H; exact H
       clear H
       have H := H1
       clear H1
       by_cases c20 : (t195.length : Int) = (wrap64 (Int.tdiv (wrap64 ((wrap64 (3 * (t185.length : Int))) + 7)) 8))
       ·rw [if_pos c20] at H
        have c20b0 : ((t195.length : Int) == (wrap64 (Int.tdiv (wrap64 ((wrap64 (3 * (t185.length : Int))) + 7)) 8))) = true := beq_iff_eq.mpr c20
        have c20b1 : ((t195.length : Int) != (wrap64 (Int.tdiv (wrap64 ((wrap64 (3 * (t185.length : Int))) + 7)) 8))) = false := bne_eq_false_iff_eq.mpr c20
        clear c20
        have H' := zA H
        clear H
        obtain ⟨Ao21, co21, eo21⟩ := Kd.R_slice HO198.out
        subst eo21
        go_wp2_with (first | ((with_reducible refine gate_callee (f := 26) rfl ?_); refine goesL_ (some 45) rfl rfl Try.func26 (by kernel_rfl) rfl #[.slice Ao21 t195.length co21, .int .i64 (t185.length : Int)] rfl za ?_; (with_reducible refine (impl_UnpackHops.calls k _ _ t195 (t185.length : Int) t199 t200 _ ?side1 ?side2 A16.out).mono ?_); (case side1 => exact zc ((Kd.R_reads' HO198.out).2.2)); (case side2 => exact (Kd.R_reads' HO198.out).2.1); rintro e w22 ⟨v201, rfl, ho0, hb⟩; refine ⟨_, rfl, ?_⟩; have n0_ := zA (Kd.R_elder' (zR HO187.out) (Kd.R_base ho0) hb); have n1_ := zA (Kd.R_below (zR HO191.out) hb); have n2_ := zA (Kd.R_elder' (zR HO194.out) (Kd.R_base ho0) hb); have n3_ := zA (Kd.R_below (zR HO198.out) hb); have n4_ := zA (Kd.R_lower (Kd.R_new' (Kd.R_new' ho0 (zl HO187.out)) (zl HO194.out)) (below_size z_)); have n5_ := zA (below_step z_ hb); clear HO187 HO191 HO194 HO198 HB; have HO187 := n0_; have HO191 := n1_; have HO194 := n2_; have HO198 := n3_; have HO202 := n4_; have HB := n5_; clear n0_ n1_ n2_ n3_ n4_ n5_; (try clear hb); (try clear hb2); (try clear hk); (try clear hi); (try clear ho0); obtain ⟨Ao23, co23, eo23⟩ := Kd.R_slice HO202.out; subst eo23) | (go_at_call 29; (with_reducible refine (laws_sameN.calls k _ _ t199 _ _ t185 true _ ?side1 ?side2 ?side3 ?side4 A18.out).mono ?_); (case side1 => exact zc ((Kd.R_reads' HO202.out).2.2)); (case side2 => exact (Kd.R_reads' HO202.out).2.1); (case side3 => exact zc ((Kd.R_reads' HO187.out).2.2)); (case side4 => exact (Kd.R_reads' HO187.out).2.1); rintro e w' ⟨rfl, ⟨nd, rfl⟩⟩))
        go_meet
        case rel => exact ⟨_, H', ⟨by first | omega | exact Nat.le_refl _⟩, ⟨z_⟩⟩
       ·rw [if_neg c20] at H
        have c20b0 : ((t195.length : Int) == (wrap64 (Int.tdiv (wrap64 ((wrap64 (3 * (t185.length : Int))) + 7)) 8))) = false := beq_eq_false_iff_ne.mpr c20
        have c20b1 : ((t195.length : Int) != (wrap64 (Int.tdiv (wrap64 ((wrap64 (3 * (t185.length : Int))) + 7)) 8))) = true := bne_iff_ne.mpr c20
        obtain rfl := Option.some.inj H
        obtain ⟨Ao24, co24, eo24⟩ := Kd.R_slice HO198.out
        subst eo24
        go_wp2_with (first | ((with_reducible refine gate_callee (f := 26) rfl ?_); refine goesL_ (some 45) rfl rfl Try.func26 (by kernel_rfl) rfl #[.slice Ao24 t195.length co24, .int .i64 (t185.length : Int)] rfl za ?_; (with_reducible refine (impl_UnpackHops.calls k _ _ t195 (t185.length : Int) t199 t200 _ ?side1 ?side2 A16.out).mono ?_); (case side1 => exact zc ((Kd.R_reads' HO198.out).2.2)); (case side2 => exact (Kd.R_reads' HO198.out).2.1); rintro e w25 ⟨v201, rfl, ho0, hb⟩; refine ⟨_, rfl, ?_⟩; have n0_ := zA (Kd.R_elder' (zR HO187.out) (Kd.R_base ho0) hb); have n1_ := zA (Kd.R_below (zR HO191.out) hb); have n2_ := zA (Kd.R_elder' (zR HO194.out) (Kd.R_base ho0) hb); have n3_ := zA (Kd.R_below (zR HO198.out) hb); have n4_ := zA (Kd.R_lower (Kd.R_new' (Kd.R_new' ho0 (zl HO187.out)) (zl HO194.out)) (below_size z_)); have n5_ := zA (below_step z_ hb); clear HO187 HO191 HO194 HO198 HB; have HO187 := n0_; have HO191 := n1_; have HO194 := n2_; have HO198 := n3_; have HO202 := n4_; have HB := n5_; clear n0_ n1_ n2_ n3_ n4_ n5_; (try clear hb); (try clear hb2); (try clear hk); (try clear hi); (try clear ho0); obtain ⟨Ao26, co26, eo26⟩ := Kd.R_slice HO202.out; subst eo26) | (go_at_call 29; (with_reducible refine (laws_sameN.calls k _ _ t199 _ _ t185 true _ ?side1 ?side2 ?side3 ?side4 A18.out).mono ?_); (case side1 => exact zc ((Kd.R_reads' HO202.out).2.2)); (case side2 => exact (Kd.R_reads' HO202.out).2.1); (case side3 => exact zc ((Kd.R_reads' HO187.out).2.2)); (case side4 => exact (Kd.R_reads' HO187.out).2.1); rintro e w' ⟨rfl, ⟨nd, rfl⟩⟩))
        go_ret
        exact ⟨ze, z_⟩
      ·replace c19 := Bool.eq_false_iff.mpr c19
       subst c19
       have H1 : (some false) = some r := by rw [if_neg (show ¬ (false = true) by decide)] at H; exact H
       clear H
       have H := H1
       clear H1
       obtain rfl := Option.some.inj H
       obtain ⟨Ao27, co27, eo27⟩ := Kd.R_slice HO198.out
       subst eo27
       go_wp2_with (first | ((with_reducible refine gate_callee (f := 26) rfl ?_); refine goesL_ (some 45) rfl rfl Try.func26 (by kernel_rfl) rfl #[.slice Ao27 t195.length co27, .int .i64 (t185.length : Int)] rfl za ?_; (with_reducible refine (impl_UnpackHops.calls k _ _ t195 (t185.length : Int) t199 t200 _ ?side1 ?side2 A16.out).mono ?_); (case side1 => exact zc ((Kd.R_reads' HO198.out).2.2)); (case side2 => exact (Kd.R_reads' HO198.out).2.1); rintro e w28 ⟨v201, rfl, ho0, hb⟩; refine ⟨_, rfl, ?_⟩; have n0_ := zA (Kd.R_elder' (zR HO187.out) (Kd.R_base ho0) hb); have n1_ := zA (Kd.R_below (zR HO191.out) hb); have n2_ := zA (Kd.R_elder' (zR HO194.out) (Kd.R_base ho0) hb); have n3_ := zA (Kd.R_below (zR HO198.out) hb); have n4_ := zA (Kd.R_lower (Kd.R_new' (Kd.R_new' ho0 (zl HO187.out)) (zl HO194.out)) (below_size z_)); have n5_ := zA (below_step z_ hb); clear HO187 HO191 HO194 HO198 HB; have HO187 := n0_; have HO191 := n1_; have HO194 := n2_; have HO198 := n3_; have HO202 := n4_; have HB := n5_; clear n0_ n1_ n2_ n3_ n4_ n5_; (try clear hb); (try clear hb2); (try clear hk); (try clear hi); (try clear ho0); obtain ⟨Ao29, co29, eo29⟩ := Kd.R_slice HO202.out; subst eo29) | (go_at_call 29; (with_reducible refine (laws_sameN.calls k _ _ t199 _ _ t185 false _ ?side1 ?side2 ?side3 ?side4 A18.out).mono ?_); (case side1 => exact zc ((Kd.R_reads' HO202.out).2.2)); (case side2 => exact (Kd.R_reads' HO202.out).2.1); (case side3 => exact zc ((Kd.R_reads' HO187.out).2.2)); (case side4 => exact (Kd.R_reads' HO187.out).2.1); rintro e w' ⟨rfl, ⟨nd, rfl⟩⟩))
       go_ret
       exact ⟨ze, z_⟩
     ·rw [if_neg c17] at H
      have c17b0 : (t200 == 0) = false := beq_eq_false_iff_ne.mpr c17
      have c17b1 : (t200 != 0) = true := bne_iff_ne.mpr c17
      obtain rfl := Option.some.inj H
      obtain ⟨Ao30, co30, eo30⟩ := Kd.R_slice HO198.out
      subst eo30
      go_wp2_with (first | ((with_reducible refine gate_callee (f := 26) rfl ?_); refine goesL_ (some 45) rfl rfl Try.func26 (by kernel_rfl) rfl #[.slice Ao30 t195.length co30, .int .i64 (t185.length : Int)] rfl za ?_; (with_reducible refine (impl_UnpackHops.calls k _ _ t195 (t185.length : Int) t199 t200 _ ?side1 ?side2 A16.out).mono ?_); (case side1 => exact zc ((Kd.R_reads' HO198.out).2.2)); (case side2 => exact (Kd.R_reads' HO198.out).2.1); rintro e w31 ⟨v201, rfl, ho0, hb⟩; refine ⟨_, rfl, ?_⟩; have n0_ := zA (Kd.R_elder' (zR HO187.out) (Kd.R_base ho0) hb); have n1_ := zA (Kd.R_below (zR HO191.out) hb); have n2_ := zA (Kd.R_elder' (zR HO194.out) (Kd.R_base ho0) hb); have n3_ := zA (Kd.R_below (zR HO198.out) hb); have n4_ := zA (Kd.R_lower (Kd.R_new' (Kd.R_new' ho0 (zl HO187.out)) (zl HO194.out)) (below_size z_)); have n5_ := zA (below_step z_ hb); clear HO187 HO191 HO194 HO198 HB; have HO187 := n0_; have HO191 := n1_; have HO194 := n2_; have HO198 := n3_; have HO202 := n4_; have HB := n5_; clear n0_ n1_ n2_ n3_ n4_ n5_; (try clear hb); (try clear hb2); (try clear hk); (try clear hi); (try clear ho0)))
      go_ret
      exact ⟨ze, z_⟩
    ·rw [if_neg c15] at H
     have c15b0 : (t189 == 0) = false := beq_eq_false_iff_ne.mpr c15
     have c15b1 : (t189 != 0) = true := bne_iff_ne.mpr c15
     (first | rw [c15b0] | (simp only [i64_w, i32_w]; rw [c15b0]) | skip)
     by_cases c32 : (t195.length : Int) = 0
     ·rw [if_pos c32] at H
      have c32b0 : ((t195.length : Int) == 0) = true := beq_iff_eq.mpr c32
      have c32b1 : ((t195.length : Int) != 0) = false := bne_eq_false_iff_eq.mpr c32
      clear c32
      have H' := zA H
      clear H
      obtain ⟨Ao33, co33, eo33⟩ := Kd.R_slice HO198.out
      subst eo33
      go_wp2
      go_meet
      case rel => exact ⟨_, H', ⟨by first | omega | exact Nat.le_refl _⟩, ⟨z_⟩⟩
     ·rw [if_neg c32] at H
      have c32b0 : ((t195.length : Int) == 0) = false := beq_eq_false_iff_ne.mpr c32
      have c32b1 : ((t195.length : Int) != 0) = true := bne_iff_ne.mpr c32
      have c32b2 : ¬ (t195 = []) := fun h_ => c32 (by rw [h_]; rfl)
      obtain rfl := Option.some.inj H
      obtain ⟨Ao34, co34, eo34⟩ := Kd.R_slice HO198.out
      subst eo34
      go_wp2
      go_ret
      exact ⟨ze, z_⟩
   case rest =>
    clear HC8
    (try clear c1); (try clear c2); (try clear c2b0); (try clear c2b1); (try clear p2); (try clear c3); (try clear p6); (try clear c7); (try clear c7b0); (try clear c7b1); (try clear c8); (try clear c13); (try clear c15); (try clear c15b0); (try clear c15b1); (try clear c17); (try clear c17b0); (try clear c17b1); (try clear c19); (try clear c20); (try clear c20b0); (try clear c20b1); (try clear c26); (try clear c28); (try clear c32); (try clear c32b0); (try clear c32b1); (try clear c32b2)
    obtain ⟨kq, HA, HJ7, HB⟩ := hcut
    cases kq with
    | zero => exact absurd HA.out (by simp [laws_FnHops.j0])
    | succ kj7 =>
     have H := HA.out
     clear HA
     simp only [laws_FnHops.j0] at H
     replace H := Option.bind_eq_some_iff.mp H
     obtain ⟨⟨t204, t205⟩, A350, H⟩ := H
     replace H : ((spec_UnpackHops.f kj7 t204 t205).bind fun bt208 => ((spec_DrawUnpackHops.f kj7 l0).bind fun bt212 => ((impl_UnpackHops.f kj7 bt212.1 t205).bind fun bt216 => (if bt216.2 = bt208.2 then (laws_FnHops.j1 kj7 t204 t205 bt208.2 bt216.1 bt216.2 (bt208.2 != 0)) else (laws_FnHops.j1 kj7 t204 t205 bt208.2 bt216.1 bt216.2 true))))) = some r := H
     have A35 := zA A350
     clear A350
     replace H := Option.bind_eq_some_iff.mp H
     obtain ⟨⟨t208, t209⟩, A360, H⟩ := H
     replace H : ((spec_DrawUnpackHops.f kj7 l0).bind fun bt212 => ((impl_UnpackHops.f kj7 bt212.1 t205).bind fun bt216 => (if bt216.2 = t209 then (laws_FnHops.j1 kj7 t204 t205 t209 bt216.1 bt216.2 (t209 != 0)) else (laws_FnHops.j1 kj7 t204 t205 t209 bt216.1 bt216.2 true)))) = some r := H
     have A36 := zA A360
     clear A360
     replace H := Option.bind_eq_some_iff.mp H
     obtain ⟨⟨t212, t213⟩, A370, H⟩ := H
     replace H : ((impl_UnpackHops.f kj7 t212 t205).bind fun bt216 => (if bt216.2 = t209 then (laws_FnHops.j1 kj7 t204 t205 t209 bt216.1 bt216.2 (t209 != 0)) else (laws_FnHops.j1 kj7 t204 t205 t209 bt216.1 bt216.2 true))) = some r := H
     have A37 := zA A370
     clear A370
     replace H := Option.bind_eq_some_iff.mp H
     obtain ⟨⟨t216, t217⟩, A380, H⟩ := H
     replace H : (if t217 = t209 then (laws_FnHops.j1 kj7 t204 t205 t209 t216 t217 (t209 != 0)) else (laws_FnHops.j1 kj7 t204 t205 t209 t216 t217 true)) = some r := H
     have A38 := zA A380
     clear A380
     have HC39 := zA H
     clear H
     go_upto_region 18 with (first | ((with_reducible refine gate_callee (f := 30) rfl ?_); refine goesL_ (some 71) rfl rfl Try.func30 (by kernel_rfl) rfl #[.slice A0 l0.length c0] rfl za ?_; (with_reducible refine (spec_DrawUnpackHops.calls kj7 _ _ l0 t204 t205 _ ?side1 ?side2 A35.out).mono ?_); (case side1 => exact zc (Kd.C_below HR0.out HB.out)); (case side2 => exact HC0.out); rintro e w40 ⟨v206, rfl, ho0, hb⟩; refine ⟨_, rfl, ?_⟩; have n0_ := zA (Kd.R_lower ho0 (below_size z_)); have n1_ := zA (below_step z_ hb); clear HB; have HO207 := n0_; have HB := n1_; clear n0_ n1_; (try clear hb); (try clear hb2); (try clear hk); (try clear hi); (try clear ho0); obtain ⟨Ao41, co41, eo41⟩ := Kd.R_slice HO207.out; subst eo41) | ((with_reducible refine gate_callee (f := 25) rfl ?_); refine goesL_ (some 77) rfl rfl Try.func25 (by kernel_rfl) rfl #[.slice Ao41 t204.length co41, .int .i64 t205] rfl za ?_; (with_reducible refine (spec_UnpackHops.calls kj7 _ _ t204 t205 t208 t209 _ ?side1 ?side2 A36.out).mono ?_); (case side1 => exact zc ((Kd.R_reads' HO207.out).2.2)); (case side2 => exact (Kd.R_reads' HO207.out).2.1); rintro e w42 ⟨v210, rfl, ho0, hb⟩; refine ⟨_, rfl, ?_⟩; have n0_ := zA (Kd.R_below (zR HO207.out) hb); have n1_ := zA (Kd.R_lower ho0 (below_size z_)); have n2_ := zA (below_step z_ hb); clear HO207 HB; have HO207 := n0_; have HO211 := n1_; have HB := n2_; clear n0_ n1_ n2_; (try clear hb); (try clear hb2); (try clear hk); (try clear hi); (try clear ho0)) | ((with_reducible refine gate_callee (f := 30) rfl ?_); refine goesL_ (some 82) rfl rfl Try.func30 (by kernel_rfl) rfl #[.slice A0 l0.length c0] rfl za ?_; (with_reducible refine (spec_DrawUnpackHops.calls kj7 _ _ l0 t212 t213 _ ?side1 ?side2 A37.out).mono ?_); (case side1 => exact zc (Kd.C_below HR0.out HB.out)); (case side2 => exact HC0.out); rintro e w43 ⟨v214, rfl, ho0, hb⟩; refine ⟨_, rfl, ?_⟩; have n0_ := zA (Kd.R_elder' (zR HO207.out) (Kd.R_base ho0) hb); have n1_ := zA (Kd.R_below (zR HO211.out) hb); have n2_ := zA (Kd.R_lower (Kd.R_new' ho0 (zl HO207.out)) (below_size z_)); have n3_ := zA (below_step z_ hb); clear HO207 HO211 HB; have HO207 := n0_; have HO211 := n1_; have HO215 := n2_; have HB := n3_; clear n0_ n1_ n2_ n3_; (try clear hb); (try clear hb2); (try clear hk); (try clear hi); (try clear ho0); obtain ⟨Ao44, co44, eo44⟩ := Kd.R_slice HO215.out; subst eo44) | ((with_reducible refine gate_callee (f := 26) rfl ?_); refine goesL_ (some 88) rfl rfl Try.func26 (by kernel_rfl) rfl #[.slice Ao44 t212.length co44, .int .i64 t205] rfl za ?_; (with_reducible refine (impl_UnpackHops.calls kj7 _ _ t212 t205 t216 t217 _ ?side1 ?side2 A38.out).mono ?_); (case side1 => exact zc ((Kd.R_reads' HO215.out).2.2)); (case side2 => exact (Kd.R_reads' HO215.out).2.1); rintro e w45 ⟨v218, rfl, ho0, hb⟩; refine ⟨_, rfl, ?_⟩; have n0_ := zA (Kd.R_below (zR HO207.out) hb); have n1_ := zA (Kd.R_elder' (zR HO211.out) (Kd.R_base ho0) hb); have n2_ := zA (Kd.R_below (zR HO215.out) hb); have n3_ := zA (Kd.R_lower (Kd.R_new' ho0 (zl HO211.out)) (below_size z_)); have n4_ := zA (below_step z_ hb); clear HO207 HO211 HO215 HB; have HO207 := n0_; have HO211 := n1_; have HO215 := n2_; have HO219 := n3_; have HB := n4_; clear n0_ n1_ n2_ n3_ n4_; (try clear hb); (try clear hb2); (try clear hk); (try clear hi); (try clear ho0)))
     (try simp only [Act.put, List.setIfInBounds_toArray, List.set_cons_zero, List.set_cons_succ])
     go_cut [97] (fun v97 wc => ∃ (kq : Nat) (x97_38 : Bool), v97 = .bool x97_38 ∧ Aside0 (laws_FnHops.j1 kq t204 t205 t209 t216 t217 x97_38 = some r) ∧ Aside0 (kq ≤ kj7) ∧ Aside0 (Kd.R (Kd.int .u8) 5 wc w.heap.size (fun _ => True) (.slice Ao41 t204.length co41) t204) ∧ Aside0 (Kd.R (Kd.int .i64) 3 wc w.heap.size (fun _ => True) v218 t216) ∧ Aside0 (Below w.heap.size w wc))
     case first =>
      have H := HC39.out
      clear HC39
      by_cases c46 : t217 = t209
      ·rw [if_pos c46] at H
       have c46b0 : (t217 == t209) = true := beq_iff_eq.mpr c46
       have c46b1 : (t217 != t209) = false := bne_eq_false_iff_eq.mpr c46
       clear c46
       (first | rw [c46b0] | (simp only [i64_w, i32_w]; rw [c46b0]) | skip)
       have H' := zA H
       clear H
       go_wp2
       go_meet
       case rel => exact ⟨_, ((t209 != 0)), zr, H', ⟨by have := HJ7.out; first | omega | exact Nat.le_refl _⟩, ⟨zo HO207.out (fun _ hk => trivial)⟩, ⟨zo HO219.out (fun _ hk => trivial)⟩, ⟨z_⟩⟩
      ·rw [if_neg c46] at H
       have c46b0 : (t217 == t209) = false := beq_eq_false_iff_ne.mpr c46
       have c46b1 : (t217 != t209) = true := bne_iff_ne.mpr c46
       (first | rw [c46b0] | (simp only [i64_w, i32_w]; rw [c46b0]) | skip)
       have H' := zA H
       clear H
       go_wp2
       go_meet
       case rel => exact ⟨_, (true), zr, H', ⟨by have := HJ7.out; first | omega | exact Nat.le_refl _⟩, ⟨zo HO207.out (fun _ hk => trivial)⟩, ⟨zo HO219.out (fun _ hk => trivial)⟩, ⟨z_⟩⟩
     case rest =>
      clear HC39
      (try clear c1); (try clear c2); (try clear c2b0); (try clear c2b1); (try clear p2); (try clear c3); (try clear c4); (try clear p6); (try clear c7); (try clear c7b0); (try clear c7b1); (try clear c8); (try clear c13); (try clear c15); (try clear c15b0); (try clear c15b1); (try clear c17); (try clear c17b0); (try clear c17b1); (try clear c19); (try clear c20); (try clear c20b0); (try clear c20b1); (try clear c25); (try clear c26); (try clear c28); (try clear c30); (try clear c32); (try clear c32b0); (try clear c32b1); (try clear c32b2); (try clear c46); (try clear c46b0); (try clear c46b1); (try clear p2); (try clear p6)
      obtain ⟨kq, x97_38, rfl, HA, HJ38, HO_10, HO_16, HB⟩ := hcut
      cases kq with
      | zero => exact absurd HA.out (by simp [laws_FnHops.j1])
      | succ kj38 =>
       have H := HA.out
       clear HA
       simp only [laws_FnHops.j1] at H
       by_cases c47 : x97_38 = true
       ·subst c47
        have H1 : (if t217 = t209 then (some ((t216.length : Int) == 0)) else (some false)) = some r := by rw [if_pos rfl] at H; exact H
        clear H
        have H := H1
        clear H1
        by_cases c48 : t217 = t209
        ·rw [if_pos c48] at H
         have c48b0 : (t217 == t209) = true := beq_iff_eq.mpr c48
         have c48b1 : (t217 != t209) = false := bne_eq_false_iff_eq.mpr c48
         clear c48
         obtain rfl := Option.some.inj H
         obtain ⟨Ao49, co49, eo49⟩ := Kd.R_slice HO_16.out
         subst eo49
         go_wp2
         go_ret
         exact ⟨ze, z_⟩
        ·rw [if_neg c48] at H
         have c48b0 : (t217 == t209) = false := beq_eq_false_iff_ne.mpr c48
         have c48b1 : (t217 != t209) = true := bne_iff_ne.mpr c48
         obtain rfl := Option.some.inj H
         go_wp2
         go_ret
         exact ⟨ze, z_⟩
       ·replace c47 := Bool.eq_false_iff.mpr c47
        subst c47
        have H1 : ((impl_PackHops.f kj38 t216).bind fun bt220 => (if bt220.2 = 0 then (if (t216.length : Int) = t205 then ((laws_sameB.f kj38 bt220.1 t204).bind fun t224 => (some t224)) else (some false)) else (some false))) = some r := by rw [if_neg (show ¬ (false = true) by decide)] at H; exact H
        clear H
        have H := H1
        clear H1
        replace H := Option.bind_eq_some_iff.mp H
        obtain ⟨⟨t220, t221⟩, A500, H⟩ := H
        replace H : (if t221 = 0 then (if (t216.length : Int) = t205 then ((laws_sameB.f kj38 t220 t204).bind fun t224 => (some t224)) else (some false)) else (some false)) = some r := H
        have A50 := zA A500
        clear A500
        by_cases c51 : t221 = 0
        ·rw [if_pos c51] at H
         have c51b0 : (t221 == 0) = true := beq_iff_eq.mpr c51
         have c51b1 : (t221 != 0) = false := bne_eq_false_iff_eq.mpr c51
         clear c51
         by_cases c52 : (t216.length : Int) = t205
         ·rw [if_pos c52] at H
          have c52b0 : ((t216.length : Int) == t205) = true := beq_iff_eq.mpr c52
          have c52b1 : ((t216.length : Int) != t205) = false := bne_eq_false_iff_eq.mpr c52
          clear c52
          replace H := Option.bind_eq_some_iff.mp H
          obtain ⟨t224, A530, H⟩ := H
          replace H : (some t224) = some r := H
          have A53 := zA A530
          clear A530
          obtain rfl := Option.some.inj H
          obtain ⟨Ao54, co54, eo54⟩ := Kd.R_slice HO_16.out
          subst eo54
          go_wp2_with (first | ((with_reducible refine gate_callee (f := 15) rfl ?_); refine goesL_ (some 108) rfl rfl Try.func15 (by kernel_rfl) rfl #[.slice Ao54 t216.length co54] rfl za ?_; (with_reducible refine (impl_PackHops.calls kj38 _ _ t216 t220 t221 _ ?side1 ?side2 A50.out).mono ?_); (case side1 => exact zc ((Kd.R_reads' HO_16.out).2.2)); (case side2 => exact (Kd.R_reads' HO_16.out).2.1); rintro e w55 ⟨v222, rfl, ho0, hb⟩; refine ⟨_, rfl, ?_⟩; have n0_ := zA (Kd.R_elder' (zR HO_10.out) (Kd.R_base ho0) hb); have n1_ := zA (Kd.R_below (zR HO_16.out) hb); have n2_ := zA (Kd.R_lower (Kd.R_new' ho0 (zl HO_10.out)) (below_size z_)); have n3_ := zA (below_step z_ hb); clear HO_10 HO_16 HB; have HO_10 := n0_; have HO_16 := n1_; have HO223 := n2_; have HB := n3_; clear n0_ n1_ n2_ n3_; (try clear hb); (try clear hb2); (try clear hk); (try clear hi); (try clear ho0); obtain ⟨Ao56, co56, eo56⟩ := Kd.R_slice HO223.out; subst eo56) | (go_at_call 31; (with_reducible refine (laws_sameB.calls kj38 _ _ t220 _ _ t204 t224 _ ?side1 ?side2 ?side3 ?side4 A53.out).mono ?_); (case side1 => exact zc ((Kd.R_reads' HO223.out).2.2)); (case side2 => exact (Kd.R_reads' HO223.out).2.1); (case side3 => exact zc ((Kd.R_reads' HO_10.out).2.2)); (case side4 => exact (Kd.R_reads' HO_10.out).2.1); rintro e w' ⟨rfl, ⟨nd, rfl⟩⟩))
          go_ret
          exact ⟨ze, z_⟩
         ·rw [if_neg c52] at H
          have c52b0 : ((t216.length : Int) == t205) = false := beq_eq_false_iff_ne.mpr c52
          have c52b1 : ((t216.length : Int) != t205) = true := bne_iff_ne.mpr c52
          obtain rfl := Option.some.inj H
          obtain ⟨Ao57, co57, eo57⟩ := Kd.R_slice HO_16.out
          subst eo57
          go_wp2_with (first | ((with_reducible refine gate_callee (f := 15) rfl ?_); refine goesL_ (some 108) rfl rfl Try.func15 (by kernel_rfl) rfl #[.slice Ao57 t216.length co57] rfl za ?_; (with_reducible refine (impl_PackHops.calls kj38 _ _ t216 t220 t221 _ ?side1 ?side2 A50.out).mono ?_); (case side1 => exact zc ((Kd.R_reads' HO_16.out).2.2)); (case side2 => exact (Kd.R_reads' HO_16.out).2.1); rintro e w58 ⟨v222, rfl, ho0, hb⟩; refine ⟨_, rfl, ?_⟩; have n0_ := zA (Kd.R_elder' (zR HO_10.out) (Kd.R_base ho0) hb); have n1_ := zA (Kd.R_below (zR HO_16.out) hb); have n2_ := zA (Kd.R_lower (Kd.R_new' ho0 (zl HO_10.out)) (below_size z_)); have n3_ := zA (below_step z_ hb); clear HO_10 HO_16 HB; have HO_10 := n0_; have HO_16 := n1_; have HO223 := n2_; have HB := n3_; clear n0_ n1_ n2_ n3_; (try clear hb); (try clear hb2); (try clear hk); (try clear hi); (try clear ho0)))
          go_ret
          exact ⟨ze, z_⟩
        ·rw [if_neg c51] at H
         have c51b0 : (t221 == 0) = false := beq_eq_false_iff_ne.mpr c51
         have c51b1 : (t221 != 0) = true := bne_iff_ne.mpr c51
         obtain rfl := Option.some.inj H
         obtain ⟨Ao59, co59, eo59⟩ := Kd.R_slice HO_16.out
         subst eo59
         go_wp2_with (first | ((with_reducible refine gate_callee (f := 15) rfl ?_); refine goesL_ (some 108) rfl rfl Try.func15 (by kernel_rfl) rfl #[.slice Ao59 t216.length co59] rfl za ?_; (with_reducible refine (impl_PackHops.calls kj38 _ _ t216 t220 t221 _ ?side1 ?side2 A50.out).mono ?_); (case side1 => exact zc ((Kd.R_reads' HO_16.out).2.2)); (case side2 => exact (Kd.R_reads' HO_16.out).2.1); rintro e w60 ⟨v222, rfl, ho0, hb⟩; refine ⟨_, rfl, ?_⟩; have n0_ := zA (Kd.R_elder' (zR HO_10.out) (Kd.R_base ho0) hb); have n1_ := zA (Kd.R_below (zR HO_16.out) hb); have n2_ := zA (Kd.R_lower (Kd.R_new' ho0 (zl HO_10.out)) (below_size z_)); have n3_ := zA (below_step z_ hb); clear HO_10 HO_16 HB; have HO_10 := n0_; have HO_16 := n1_; have HO223 := n2_; have HB := n3_; clear n0_ n1_ n2_ n3_; (try clear hb); (try clear hb2); (try clear hk); (try clear hi); (try clear ho0)))
         go_ret
         exact ⟨ze, z_⟩
  ·rw [if_neg c7] at H
   have c7b0 : (t196 == t189) = false := beq_eq_false_iff_ne.mpr c7
   have c7b1 : (t196 != t189) = true := bne_iff_ne.mpr c7
   obtain rfl := Option.some.inj H
   go_enter Try.func8, Try.ntmps8
   go_wp2_with (first | ((with_reducible refine gate_callee (f := 28) rfl ?_); refine goesL_ (some 24) rfl rfl Try.func28 (by kernel_rfl) rfl #[.slice A0 l0.length c0] rfl za ?_; (with_reducible refine (spec_DrawPackHops.calls k _ _ l0 t185 _ ?side1 ?side2 A3.out).mono ?_); (case side1 => exact zc (HR0.out)); (case side2 => exact HC0.out); rintro e w61 ⟨v186, rfl, ho0, hb⟩; refine ⟨_, rfl, ?_⟩; have n0_ := zA (Kd.R_lower ho0 (below_size z_)); have n1_ := zA (below_step z_ hb); clear HB; have HO187 := n0_; have HB := n1_; clear n0_ n1_; (try clear hb); (try clear hb2); (try clear hk); (try clear hi); (try clear ho0); obtain ⟨Ao62, co62, eo62⟩ := Kd.R_slice HO187.out; subst eo62) | ((with_reducible refine gate_callee (f := 13) rfl ?_); refine goesL_ (some 27) rfl rfl Try.func13 (by kernel_rfl) rfl #[.slice Ao62 t185.length co62] rfl za ?_; (with_reducible refine (spec_PackHops.calls k _ _ t185 t188 t189 _ ?side1 ?side2 A4.out).mono ?_); (case side1 => exact zc ((Kd.R_reads' HO187.out).2.2)); (case side2 => exact (Kd.R_reads' HO187.out).2.1); rintro e w63 ⟨v190, rfl, ho0, hb⟩; refine ⟨_, rfl, ?_⟩; have n0_ := zA (Kd.R_below (zR HO187.out) hb); have n1_ := zA (Kd.R_lower ho0 (below_size z_)); have n2_ := zA (below_step z_ hb); clear HO187 HB; have HO187 := n0_; have HO191 := n1_; have HB := n2_; clear n0_ n1_ n2_; (try clear hb); (try clear hb2); (try clear hk); (try clear hi); (try clear ho0)) | ((with_reducible refine gate_callee (f := 28) rfl ?_); refine goesL_ (some 32) rfl rfl Try.func28 (by kernel_rfl) rfl #[.slice A0 l0.length c0] rfl za ?_; (with_reducible refine (spec_DrawPackHops.calls k _ _ l0 t192 _ ?side1 ?side2 A5.out).mono ?_); (case side1 => exact zc (Kd.C_below HR0.out HB.out)); (case side2 => exact HC0.out); rintro e w64 ⟨v193, rfl, ho0, hb⟩; refine ⟨_, rfl, ?_⟩; have n0_ := zA (Kd.R_elder' (zR HO187.out) (Kd.R_base ho0) hb); have n1_ := zA (Kd.R_below (zR HO191.out) hb); have n2_ := zA (Kd.R_lower (Kd.R_new' ho0 (zl HO187.out)) (below_size z_)); have n3_ := zA (below_step z_ hb); clear HO187 HO191 HB; have HO187 := n0_; have HO191 := n1_; have HO194 := n2_; have HB := n3_; clear n0_ n1_ n2_ n3_; (try clear hb); (try clear hb2); (try clear hk); (try clear hi); (try clear ho0); obtain ⟨Ao65, co65, eo65⟩ := Kd.R_slice HO194.out; subst eo65) | ((with_reducible refine gate_callee (f := 15) rfl ?_); refine goesL_ (some 33) rfl rfl Try.func15 (by kernel_rfl) rfl #[.slice Ao65 t192.length co65] rfl za ?_; (with_reducible refine (impl_PackHops.calls k _ _ t192 t195 t196 _ ?side1 ?side2 A6.out).mono ?_); (case side1 => exact zc ((Kd.R_reads' HO194.out).2.2)); (case side2 => exact (Kd.R_reads' HO194.out).2.1); rintro e w66 ⟨v197, rfl, ho0, hb⟩; refine ⟨_, rfl, ?_⟩; have n0_ := zA (Kd.R_below (zR HO187.out) hb); have n1_ := zA (Kd.R_elder' (zR HO191.out) (Kd.R_base ho0) hb); have n2_ := zA (Kd.R_below (zR HO194.out) hb); have n3_ := zA (Kd.R_lower (Kd.R_new' ho0 (zl HO191.out)) (below_size z_)); have n4_ := zA (below_step z_ hb); clear HO187 HO191 HO194 HB; have HO187 := n0_; have HO191 := n1_; have HO194 := n2_; have HO198 := n3_; have HB := n4_; clear n0_ n1_ n2_ n3_ n4_; (try clear hb); (try clear hb2); (try clear hk); (try clear hi); (try clear ho0)))
   go_ret
   exact ⟨ze, z_⟩

def laws_FnHops.Pure : Prop := ∀ (l0 : List Int), l0.length ≤ maxLen → l0.length * 1 ≤ 140737488351232 → (∀ x ∈ l0, (Lit.int .u8 x).wf = true) → ∃ k, laws_FnHops.f k l0 = some true
theorem laws_FnHops.walk (P : laws_FnHops.Pure) (a0 : Option Addr) (len0 cap0 : Nat) (z0 : List Int) (w : World) (w0 : (a0 = none ∧ len0 = 0 ∧ cap0 = 0 ∧ z0 = []) ∨ ∃ x, a0 = some x ∧ len0 ≤ cap0 ∧ cap0 ≤ maxLen ∧ z0.length = cap0 ∧ (∀ i, i < z0.length → w.cell? (x.add i) = some (.int .u8 (z0.getD i 0))) ∧ ∀ n ∈ z0, (Lit.int .u8 n).wf = true) (y0 : len0 * 1 ≤ 140737488351232) :
  Calls Try.prog 8 #[.slice a0 len0 cap0] w fun e w' => e = .returned (.bool true) ∧ Below w.heap.size w w' := by
 obtain ⟨l0, rfl, hr0, hm0, hw0, hc0⟩ := ReadsInt.ofRowC w0
 obtain ⟨k, h⟩ := P l0 hm0 y0 hw0
 refine (laws_FnHops.calls k _ _ l0 true w (Kd.C_of_reads (d := (0 : Int)) (h1 := fun _ => rfl) hr0) hc0 h).mono ?_
 rintro e w' ⟨rfl, hd⟩
 exact ⟨rfl, hd⟩

end Go.Proofs.Ytbeheecjemdcdaa.PFnHops
