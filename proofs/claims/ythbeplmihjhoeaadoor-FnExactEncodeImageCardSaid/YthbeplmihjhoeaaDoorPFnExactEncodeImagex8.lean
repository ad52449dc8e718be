-- made by wip/tools/myprint.py (this session's own program, over the kit's printer)
import Derived.Test.YthbeplmihjhoeaaDoorPFnExactEncodeImagex0
import Derived.Test.YthbeplmihjhoeaaDoorPFnExactEncodeImagex7
namespace Go.Proofs.YthbeplmihjhoeaaDoor.PFnExactEncodeImage
open Go.RowKit Go.Proofs.YthbeplmihjhoeaaDoorW.PrintWords Go.Proofs.YthbeplmihjhoeaaDoorW.PrintLast Go.Proofs.YthbeplmihjhoeaaDoorW.PrintMore
attribute [local go_sem] max2_int min2_int max_two min_two max_three min_three max_four min_four   -- for this text's walks alone
set_option linter.unusedVariables false
set_option linter.unusedSimpArgs false

/-! ### spec_l6rowOK: function 143 -/
mutual
def spec_l6rowOK.j0 : Nat → Int → Int → List Int → List Int → Bool → Int → Int → List (S120) → List (List Int) → List (List Int) → Option (Bool)
 | 0, _, _, _, _, _, _, _, _, _, _ => none
 | k + 1, x1, x5, x6, x7, x34, x205000, x205001, x205002, x205003, x205004 => if x34 = true then (some false) else (spec_l6rowOK.l0 k x1 x5 x6 x7 0 x205000 x205001 x205002 x205003 x205004)
def spec_l6rowOK.l0 : Nat → Int → Int → List Int → List Int → Int → Int → Int → List (S120) → List (List Int) → List (List Int) → Option (Bool)
 | 0, _, _, _, _, _, _, _, _, _, _ => none
 | k + 1, x1, x5, x6, x7, x8, x205000, x205001, x205002, x205003, x205004 => if x8 < x5 then (if 0 ≤ x1 then (if x1 < (x205002.length : Int) then (if x8 = ((rd_T120 x205002 x1).f2) then (if 0 ≤ x8 then (if x8 < (x6.length : Int) then (if (rd x6 x8) = 0 then (if x8 < (x7.length : Int) then (if (rd x7 x8) = (-1) then (spec_l6rowOK.l0 k x1 x5 x6 x7 (wrap64 (x8 + 1)) x205000 x205001 x205002 x205003 x205004) else (some false)) else (none)) else (some false)) else (none)) else (none)) else (if 0 ≤ x8 then (if x8 < (x6.length : Int) then (if (rd x6 x8) = (-1) then (if x8 < (x7.length : Int) then (spec_l6rowOK.j2 k x1 x5 x6 x7 x8 ((rd x7 x8) == (-1)) x205000 x205001 x205002 x205003 x205004) else (none)) else (spec_l6rowOK.j2 k x1 x5 x6 x7 x8 false x205000 x205001 x205002 x205003 x205004)) else (none)) else (none))) else (none)) else (none)) else (some true)
def spec_l6rowOK.j2 : Nat → Int → Int → List Int → List Int → Int → Bool → Int → Int → List (S120) → List (List Int) → List (List Int) → Option (Bool)
 | 0, _, _, _, _, _, _, _, _, _, _, _ => none
 | k + 1, x1, x5, x6, x7, x8, x71, x205000, x205001, x205002, x205003, x205004 => if x71 = true then (spec_l6rowOK.l0 k x1 x5 x6 x7 (wrap64 (x8 + 1)) x205000 x205001 x205002 x205003 x205004) else (if 0 ≤ x8 then (if x8 < (x6.length : Int) then (if (rd x6 x8) < 1 then (spec_l6rowOK.j3 k x1 x5 x6 x7 x8 true x205000 x205001 x205002 x205003 x205004) else (if (rd x6 x8) > 65534 then (spec_l6rowOK.j3 k x1 x5 x6 x7 x8 true x205000 x205001 x205002 x205003 x205004) else (if x8 < (x7.length : Int) then (if (rd x7 x8) < 0 then (spec_l6rowOK.j3 k x1 x5 x6 x7 x8 true x205000 x205001 x205002 x205003 x205004) else (spec_l6rowOK.j3 k x1 x5 x6 x7 x8 (decide ((rd x7 x8) > 3)) x205000 x205001 x205002 x205003 x205004)) else (none)))) else (none)) else (none))
def spec_l6rowOK.j3 : Nat → Int → Int → List Int → List Int → Int → Bool → Int → Int → List (S120) → List (List Int) → List (List Int) → Option (Bool)
 | 0, _, _, _, _, _, _, _, _, _, _, _ => none
 | k + 1, x1, x5, x6, x7, x8, x97, x205000, x205001, x205002, x205003, x205004 => if x97 = true then (some false) else (if 0 ≤ x8 then (if x8 < (x7.length : Int) then ((spec_l4to.f x205000 x205001 x8 (rd x7 x8)).bind fun t217 => (if t217 < 0 then (some false) else (if 0 ≤ t217 then (if t217 < (x6.length : Int) then (if (rd x6 t217) < 0 then (some false) else (if x8 < (x6.length : Int) then (if (rd x6 t217) ≥ (rd x6 x8) then (some false) else (spec_l6rowOK.l0 k x1 x5 x6 x7 (wrap64 (x8 + 1)) x205000 x205001 x205002 x205003 x205004)) else (none))) else (none)) else (none)))) else (none)) else (none))
end
def spec_l6rowOK.f (k : Nat) (a0_0 : Int) (a0_1 : Int) (l0_2 : List (S120)) (l0_3 : List (List Int)) (l0_4 : List (List Int)) (a1 : Int) : Option (Bool) := if 0 ≤ a1 then (if a1 < (l0_3.length : Int) then (if a1 < (l0_4.length : Int) then (if ((rd_L4 l0_3 a1).length : Int) = (wrap64 (a0_0 * a0_1)) then (spec_l6rowOK.j0 k a1 (wrap64 (a0_0 * a0_1)) (rd_L4 l0_3 a1) (rd_L4 l0_4 a1) (((rd_L4 l0_4 a1).length : Int) != (wrap64 (a0_0 * a0_1))) a0_0 a0_1 l0_2 l0_3 l0_4) else (spec_l6rowOK.j0 k a1 (wrap64 (a0_0 * a0_1)) (rd_L4 l0_3 a1) (rd_L4 l0_4 a1) true a0_0 a0_1 l0_2 l0_3 l0_4)) else (none)) else (none)) else (none)
theorem spec_l6rowOK.mono_l : ∀ k, (∀ y0 y1 y2 y3 y4 y5 y6 y7 y8 y9, LeO (spec_l6rowOK.j0 k y0 y1 y2 y3 y4 y5 y6 y7 y8 y9) (spec_l6rowOK.j0 (k + 1) y0 y1 y2 y3 y4 y5 y6 y7 y8 y9)) ∧ (∀ y0 y1 y2 y3 y4 y5 y6 y7 y8 y9, LeO (spec_l6rowOK.l0 k y0 y1 y2 y3 y4 y5 y6 y7 y8 y9) (spec_l6rowOK.l0 (k + 1) y0 y1 y2 y3 y4 y5 y6 y7 y8 y9)) ∧ (∀ y0 y1 y2 y3 y4 y5 y6 y7 y8 y9 y10, LeO (spec_l6rowOK.j2 k y0 y1 y2 y3 y4 y5 y6 y7 y8 y9 y10) (spec_l6rowOK.j2 (k + 1) y0 y1 y2 y3 y4 y5 y6 y7 y8 y9 y10)) ∧ (∀ y0 y1 y2 y3 y4 y5 y6 y7 y8 y9 y10, LeO (spec_l6rowOK.j3 k y0 y1 y2 y3 y4 y5 y6 y7 y8 y9 y10) (spec_l6rowOK.j3 (k + 1) y0 y1 y2 y3 y4 y5 y6 y7 y8 y9 y10))
 | 0 => ⟨fun _ _ _ _ _ _ _ _ _ _ r h => by simp [spec_l6rowOK.j0] at h, fun _ _ _ _ _ _ _ _ _ _ r h => by simp [spec_l6rowOK.l0] at h, fun _ _ _ _ _ _ _ _ _ _ _ r h => by simp [spec_l6rowOK.j2] at h, fun _ _ _ _ _ _ _ _ _ _ _ r h => by simp [spec_l6rowOK.j3] at h⟩
 | k + 1 => by
  obtain ⟨ih0, ih1, ih2, ih3⟩ := spec_l6rowOK.mono_l k
  refine ⟨?_, ?_, ?_, ?_⟩
  ·intro y0 y1 y2 y3 y4 y5 y6 y7 y8 y9
   unfold spec_l6rowOK.j0
   exact zm
  ·intro y0 y1 y2 y3 y4 y5 y6 y7 y8 y9
   unfold spec_l6rowOK.l0
   exact zm
  ·intro y0 y1 y2 y3 y4 y5 y6 y7 y8 y9 y10
   unfold spec_l6rowOK.j2
   exact zm
  ·intro y0 y1 y2 y3 y4 y5 y6 y7 y8 y9 y10
   unfold spec_l6rowOK.j3
   exact zm
theorem spec_l6rowOK.mono : ∀ a0 a1 a2 a3 a4 a5 k, LeO (spec_l6rowOK.f k a0 a1 a2 a3 a4 a5) (spec_l6rowOK.f (k + 1) a0 a1 a2 a3 a4 a5) := by
 intro a0 a1 a2 a3 a4 a5 k
 obtain ⟨ih0, ih1, ih2, ih3⟩ := spec_l6rowOK.mono_l k
 unfold spec_l6rowOK.f
 exact zm
set_option maxHeartbeats 8000000 in
set_option maxRecDepth 100000 in
theorem spec_l6rowOK.calls (k : Nat) (a0_0 : Int) (a0_1 : Int) (A0_2 : Option Addr) (c0_2 : Nat) (l0_2 : List (S120)) (A0_3 : Option Addr) (c0_3 : Nat) (l0_3 : List (List Int)) (A0_4 : Option Addr) (c0_4 : Nat) (l0_4 : List (List Int)) (a1 : Int) (r : Bool) (w : World) (hr0_2 : Kd.C k120 w A0_2 l0_2.length l0_2) (hc0_2 : l0_2.length ≤ c0_2) (hr0_3 : Kd.C (Kd.slice 3 (Kd.int .i64)) w A0_3 l0_3.length l0_3) (hc0_3 : l0_3.length ≤ c0_3) (hr0_4 : Kd.C (Kd.slice 3 (Kd.int .i64)) w A0_4 l0_4.length l0_4) (hc0_4 : l0_4.length ≤ c0_4) (h : spec_l6rowOK.f k a0_0 a0_1 l0_2 l0_3 l0_4 a1 = some r) :
  Calls Tryd.prog 143 #[.agg #[.int .i64 a0_0, .int .i64 a0_1, .slice A0_2 l0_2.length c0_2, .slice A0_3 l0_3.length c0_3, .slice A0_4 l0_4.length c0_4], .int .i64 a1] w fun e w' => e = .returned (.bool r) ∧ Below w.heap.size w w' := by
 have hu47 := Tryd.underlying47
 have HR0_2 := zA hr0_2
 have HC0_2 := zA hc0_2
 clear hr0_2 hc0_2
 have HR0_3 := zA hr0_3
 have HC0_3 := zA hc0_3
 clear hr0_3 hc0_3
 have HR0_4 := zA hr0_4
 have HC0_4 := zA hc0_4
 clear hr0_4 hc0_4
 have HB := zA (Below.refl w.heap.size w)
 have H : (if 0 ≤ a1 then (if a1 < (l0_3.length : Int) then (if a1 < (l0_4.length : Int) then (if ((rd_L4 l0_3 a1).length : Int) = (wrap64 (a0_0 * a0_1)) then (spec_l6rowOK.j0 k a1 (wrap64 (a0_0 * a0_1)) (rd_L4 l0_3 a1) (rd_L4 l0_4 a1) (((rd_L4 l0_4 a1).length : Int) != (wrap64 (a0_0 * a0_1))) a0_0 a0_1 l0_2 l0_3 l0_4) else (spec_l6rowOK.j0 k a1 (wrap64 (a0_0 * a0_1)) (rd_L4 l0_3 a1) (rd_L4 l0_4 a1) true a0_0 a0_1 l0_2 l0_3 l0_4)) else (none)) else (none)) else (none)) = some r := h
 clear h
 by_cases c3 : 0 ≤ a1
 ·rw [if_pos c3] at H
  have c3b0 : decide (0 ≤ a1) = true := decide_eq_true c3
  clear c3
  by_cases c4 : a1 < (l0_3.length : Int)
  ·rw [if_pos c4] at H
   have c4b0 : decide (a1 < (l0_3.length : Int)) = true := decide_eq_true c4
   clear c4
   by_cases c5 : a1 < (l0_4.length : Int)
   ·rw [if_pos c5] at H
    have c5b0 : decide (a1 < (l0_4.length : Int)) = true := decide_eq_true c5
    clear c5
    have HC6 := zA H
    clear H
    go_enter Tryd.func143, Tryd.ntmps143
    go_upto_region 4 with (first | ((with_reducible refine gate_dst (N := 2) rfl ?_); (try (refine gate_guard (by rfl) ?_; dsimp only)); refine box_event ?hg (N := 2) ?hd (cs := #[.int .i64 a0_0, .int .i64 a0_1, .slice A0_2 l0_2.length c0_2, .slice A0_3 l0_3.length c0_3, .slice A0_4 l0_4.length c0_4]) (t := 47) ?hr ?_; (case hd => rfl); (case hg => rfl); (case hr => first | (go_simp; done) | (go_simp; rfl)); intro gb204 hg w7 hbox hb; have n0_ := zA (below_step z_ hb); have n1_ := zA (hbox); have n2_ := zA ((by rw [hg]; exact (below_size z_) : w.heap.size ≤ gb204)); have n3_ := zA ((by rw [hg]; exact (below_size z_) : w.heap.size ≤ gb204)); clear HB; have HB := n0_; have BK204 := n1_; have GW204 := n2_; have GE204 := n3_; clear n0_ n1_ n2_ n3_; clear hb hbox hg; obtain ⟨hcz8_0, hcz8_1, hcz8_2, hcz8_3, hcz8_4, hfz8_0, hfz8_1, hfz8_2, hfz8_3, hfz8_4⟩ := zh5 BK204.out; have p205 : 0 ≤ (a1 : Int) := zd; have q205 : a1 < (l0_3.length : Int) := zd; obtain ⟨ad205, A205_0, c205_0, e205, hx205_0, hl205_0, hi205_0⟩ := at_L4 HR0_3.out a1 p205 q205; cases e205; replace hx205_0 := zx HB.out hx205_0; have HR205_0 := zA hi205_0; have HC205_0 := zA hl205_0; clear hi205_0 hl205_0; replace p205 := eq_true p205; replace q205 := eq_true q205; have p206 : 0 ≤ (a1 : Int) := zd; have q206 : a1 < (l0_4.length : Int) := zd; obtain ⟨ad206, A206_0, c206_0, e206, hx206_0, hl206_0, hi206_0⟩ := at_L4 HR0_4.out a1 p206 q206; cases e206; replace hx206_0 := zx HB.out hx206_0; have HR206_0 := zA hi206_0; have HC206_0 := zA hl206_0; clear hi206_0 hl206_0; replace p206 := eq_true p206; replace q206 := eq_true q206))
    repeat (go_quiet (first | ((with_reducible refine gate_dst (N := 2) rfl ?_); (try (refine gate_guard (by rfl) ?_; dsimp only)); refine box_event ?hg (N := 2) ?hd (cs := #[.int .i64 a0_0, .int .i64 a0_1, .slice A0_2 l0_2.length c0_2, .slice A0_3 l0_3.length c0_3, .slice A0_4 l0_4.length c0_4]) (t := 47) ?hr ?_; (case hd => rfl); (case hg => rfl); (case hr => first | (go_simp; done) | (go_simp; rfl)); intro gb204 hg w7 hbox hb; have n0_ := zA (below_step z_ hb); have n1_ := zA (hbox); have n2_ := zA ((by rw [hg]; exact (below_size z_) : w.heap.size ≤ gb204)); have n3_ := zA ((by rw [hg]; exact (below_size z_) : w.heap.size ≤ gb204)); clear HB; have HB := n0_; have BK204 := n1_; have GW204 := n2_; have GE204 := n3_; clear n0_ n1_ n2_ n3_; clear hb hbox hg; obtain ⟨hcz8_0, hcz8_1, hcz8_2, hcz8_3, hcz8_4, hfz8_0, hfz8_1, hfz8_2, hfz8_3, hfz8_4⟩ := zh5 BK204.out; have p205 : 0 ≤ (a1 : Int) := zd; have q205 : a1 < (l0_3.length : Int) := zd; obtain ⟨ad205, A205_0, c205_0, e205, hx205_0, hl205_0, hi205_0⟩ := at_L4 HR0_3.out a1 p205 q205; cases e205; replace hx205_0 := zx HB.out hx205_0; have HR205_0 := zA hi205_0; have HC205_0 := zA hl205_0; clear hi205_0 hl205_0; replace p205 := eq_true p205; replace q205 := eq_true q205; have p206 : 0 ≤ (a1 : Int) := zd; have q206 : a1 < (l0_4.length : Int) := zd; obtain ⟨ad206, A206_0, c206_0, e206, hx206_0, hl206_0, hi206_0⟩ := at_L4 HR0_4.out a1 p206 q206; cases e206; replace hx206_0 := zx HB.out hx206_0; have HR206_0 := zA hi206_0; have HC206_0 := zA hl206_0; clear hi206_0 hl206_0; replace p206 := eq_true p206; replace q206 := eq_true q206)); go_upto_region 4 with (first | ((with_reducible refine gate_dst (N := 2) rfl ?_); (try (refine gate_guard (by rfl) ?_; dsimp only)); refine box_event ?hg (N := 2) ?hd (cs := #[.int .i64 a0_0, .int .i64 a0_1, .slice A0_2 l0_2.length c0_2, .slice A0_3 l0_3.length c0_3, .slice A0_4 l0_4.length c0_4]) (t := 47) ?hr ?_; (case hd => rfl); (case hg => rfl); (case hr => first | (go_simp; done) | (go_simp; rfl)); intro gb204 hg w7 hbox hb; have n0_ := zA (below_step z_ hb); have n1_ := zA (hbox); have n2_ := zA ((by rw [hg]; exact (below_size z_) : w.heap.size ≤ gb204)); have n3_ := zA ((by rw [hg]; exact (below_size z_) : w.heap.size ≤ gb204)); clear HB; have HB := n0_; have BK204 := n1_; have GW204 := n2_; have GE204 := n3_; clear n0_ n1_ n2_ n3_; clear hb hbox hg; obtain ⟨hcz8_0, hcz8_1, hcz8_2, hcz8_3, hcz8_4, hfz8_0, hfz8_1, hfz8_2, hfz8_3, hfz8_4⟩ := zh5 BK204.out; have p205 : 0 ≤ (a1 : Int) := zd; have q205 : a1 < (l0_3.length : Int) := zd; obtain ⟨ad205, A205_0, c205_0, e205, hx205_0, hl205_0, hi205_0⟩ := at_L4 HR0_3.out a1 p205 q205; cases e205; replace hx205_0 := zx HB.out hx205_0; have HR205_0 := zA hi205_0; have HC205_0 := zA hl205_0; clear hi205_0 hl205_0; replace p205 := eq_true p205; replace q205 := eq_true q205; have p206 : 0 ≤ (a1 : Int) := zd; have q206 : a1 < (l0_4.length : Int) := zd; obtain ⟨ad206, A206_0, c206_0, e206, hx206_0, hl206_0, hi206_0⟩ := at_L4 HR0_4.out a1 p206 q206; cases e206; replace hx206_0 := zx HB.out hx206_0; have HR206_0 := zA hi206_0; have HC206_0 := zA hl206_0; clear hi206_0 hl206_0; replace p206 := eq_true p206; replace q206 := eq_true q206)))
    (try simp only [Act.put, List.setIfInBounds_toArray, List.set_cons_zero, List.set_cons_succ])
    go_cut [34] (fun v34 wc => ∃ (kq : Nat) (x34_5 : Bool), v34 = .bool x34_5 ∧ Aside0 (spec_l6rowOK.j0 kq a1 (wrap64 (a0_0 * a0_1)) (rd_L4 l0_3 a1) (rd_L4 l0_4 a1) x34_5 a0_0 a0_1 l0_2 l0_3 l0_4 = some r) ∧ Aside0 (kq ≤ k) ∧ Aside0 (wc.heap[gb204]? = some (.cells #[.int .i64 a0_0, .int .i64 a0_1, (.slice A0_2 l0_2.length c0_2), (.slice (some ad205) l0_3.length c0_3), (.slice (some ad206) l0_4.length c0_4)] 47 (0, 0))) ∧ Aside0 (Below w.heap.size w wc))
    case first =>
     have H := HC6.out
     clear HC6
     by_cases c9 : ((rd_L4 l0_3 a1).length : Int) = (wrap64 (a0_0 * a0_1))
     ·rw [if_pos c9] at H
      have c9b0 : (((rd_L4 l0_3 a1).length : Int) == (wrap64 (a0_0 * a0_1))) = true := beq_iff_eq.mpr c9
      have c9b1 : (((rd_L4 l0_3 a1).length : Int) != (wrap64 (a0_0 * a0_1))) = false := bne_eq_false_iff_eq.mpr c9
      clear c9
      (first | rw [c9b0] | (simp only [i64_w, i32_w]; rw [c9b0]) | skip)
      have H' := zA H
      clear H
      go_wp2
      repeat (go_quiet (fail); try go_wp2)
      go_meet
      case rel => exact ⟨_, ((((rd_L4 l0_4 a1).length : Int) != (wrap64 (a0_0 * a0_1)))), zr, H', ⟨by first | omega | exact Nat.le_refl _⟩, ⟨zb BK204.out⟩, ⟨zs GE204.out⟩⟩
     ·rw [if_neg c9] at H
      have c9b0 : (((rd_L4 l0_3 a1).length : Int) == (wrap64 (a0_0 * a0_1))) = false := beq_eq_false_iff_ne.mpr c9
      have c9b1 : (((rd_L4 l0_3 a1).length : Int) != (wrap64 (a0_0 * a0_1))) = true := bne_iff_ne.mpr c9
      (first | rw [c9b0] | (simp only [i64_w, i32_w]; rw [c9b0]) | skip)
      have H' := zA H
      clear H
      go_wp2
      repeat (go_quiet (fail); try go_wp2)
      go_meet
      case rel => exact ⟨_, (true), zr, H', ⟨by first | omega | exact Nat.le_refl _⟩, ⟨zb BK204.out⟩, ⟨zs GE204.out⟩⟩
    case rest =>
     clear HC6
     (try clear c1); (try clear c2); (try clear p2); (try clear q2); (try clear hx2); (try clear c3); (try clear c3b0); (try clear c4); (try clear c4b0); (try clear c5); (try clear c5b0); (try clear p6); (try clear c9); (try clear c9b0); (try clear c9b1); (try clear hcz8_0 hcz8_1 hcz8_2 hcz8_3 hcz8_4); (try clear hfz8_0 hfz8_1 hfz8_2 hfz8_3 hfz8_4); (try clear hx205_0); (try clear hx206_0); (try clear p205); (try clear p206); (try clear q205); (try clear q206)
     obtain ⟨kq, x34_5, rfl, HA, HJ5, BK204, HB⟩ := hcut
     cases kq with
     | zero => exact absurd HA.out (by simp [spec_l6rowOK.j0])
     | succ kj5 =>
      have H := HA.out
      clear HA
      simp only [spec_l6rowOK.j0] at H
      by_cases c10 : x34_5 = true
      ·subst c10
       have H1 : (some false) = some r := by rw [if_pos rfl] at H; exact H
       clear H
       have H := H1
       clear H1
       obtain rfl := Option.some.inj H
       go_wp2
       repeat (go_quiet (fail); try go_wp2)
       go_ret
       exact ⟨ze, (zs GE204.out)⟩
      ·replace c10 := Bool.eq_false_iff.mpr c10
       subst c10
       have H1 : (spec_l6rowOK.l0 kj5 a1 (wrap64 (a0_0 * a0_1)) (rd_L4 l0_3 a1) (rd_L4 l0_4 a1) 0 a0_0 a0_1 l0_2 l0_3 l0_4) = some r := by rw [if_neg (show ¬ (false = true) by decide)] at H; exact H
       clear H
       have H := H1
       clear H1
       have H' := zA H
       clear H
       go_wp2
       repeat (go_quiet (fail); try go_wp2)
       go_loopg [8] kj5 (fun kq v8 w' => ∃ (x8_2 : Int), v8 = .int .i64 x8_2 ∧ Aside0 (spec_l6rowOK.l0 kq a1 (wrap64 (a0_0 * a0_1)) (rd_L4 l0_3 a1) (rd_L4 l0_4 a1) x8_2 a0_0 a0_1 l0_2 l0_3 l0_4 = some r) ∧ Aside0 (kq ≤ kj5) ∧ Aside0 (w'.heap[gb204]? = some (.cells #[.int .i64 a0_0, .int .i64 a0_1, (.slice A0_2 l0_2.length c0_2), (.slice (some ad205) l0_3.length c0_3), (.slice (some ad206) l0_4.length c0_4)] 47 (0, 0))) ∧ Aside0 (Below w.heap.size w w'))
       case atStart => exact ⟨(0), zr, H', ⟨Nat.le_refl _⟩, ⟨zb BK204.out⟩, ⟨zs GE204.out⟩⟩
       case round =>
        clear H'
        (try clear c1); (try clear c2); (try clear p2); (try clear q2); (try clear hx2); (try clear c3); (try clear c3b0); (try clear c4); (try clear c4b0); (try clear c5); (try clear c5b0); (try clear p6); (try clear c9); (try clear c9b0); (try clear c9b1); (try clear c10); (try clear hcz8_0 hcz8_1 hcz8_2 hcz8_3 hcz8_4); (try clear hfz8_0 hfz8_1 hfz8_2 hfz8_3 hfz8_4); (try clear hx205_0); (try clear hx206_0); (try clear p2); (try clear p205); (try clear p206); (try clear p6); (try clear q2); (try clear q205); (try clear q206)
        obtain ⟨x8_2, rfl, HA, HK2, BK204, HB⟩ := hrel
        cases gk with
        | zero => exact absurd HA.out (by simp [spec_l6rowOK.l0])
        | succ k2 =>
         have H := HA.out
         clear HA
         simp only [spec_l6rowOK.l0] at H
         by_cases c11 : x8_2 < (wrap64 (a0_0 * a0_1))
         ·rw [if_pos c11] at H
          have c11b0 : decide (x8_2 < (wrap64 (a0_0 * a0_1))) = true := decide_eq_true c11
          clear c11
          by_cases c12 : 0 ≤ a1
          ·rw [if_pos c12] at H
           have c12b0 : decide (0 ≤ a1) = true := decide_eq_true c12
           clear c12
           by_cases c13 : a1 < (l0_2.length : Int)
           ·rw [if_pos c13] at H
            have c13b0 : decide (a1 < (l0_2.length : Int)) = true := decide_eq_true c13
            clear c13
            by_cases c14 : x8_2 = ((rd_T120 l0_2 a1).f2)
            ·rw [if_pos c14] at H
             have c14b0 : (x8_2 == ((rd_T120 l0_2 a1).f2)) = true := beq_iff_eq.mpr c14
             have c14b1 : (x8_2 != ((rd_T120 l0_2 a1).f2)) = false := bne_eq_false_iff_eq.mpr c14
             clear c14
             by_cases c15 : 0 ≤ x8_2
             ·rw [if_pos c15] at H
              have c15b0 : decide (0 ≤ x8_2) = true := decide_eq_true c15
              clear c15
              by_cases c16 : x8_2 < ((rd_L4 l0_3 a1).length : Int)
              ·rw [if_pos c16] at H
               have c16b0 : decide (x8_2 < ((rd_L4 l0_3 a1).length : Int)) = true := decide_eq_true c16
               clear c16
               by_cases c17 : (rd (rd_L4 l0_3 a1) x8_2) = 0
               ·rw [if_pos c17] at H
                have c17b0 : ((rd (rd_L4 l0_3 a1) x8_2) == 0) = true := beq_iff_eq.mpr c17
                have c17b1 : ((rd (rd_L4 l0_3 a1) x8_2) != 0) = false := bne_eq_false_iff_eq.mpr c17
                clear c17
                by_cases c18 : x8_2 < ((rd_L4 l0_4 a1).length : Int)
                ·rw [if_pos c18] at H
                 have c18b0 : decide (x8_2 < ((rd_L4 l0_4 a1).length : Int)) = true := decide_eq_true c18
                 clear c18
                 by_cases c19 : (rd (rd_L4 l0_4 a1) x8_2) = (-1)
                 ·rw [if_pos c19] at H
                  have c19b0 : ((rd (rd_L4 l0_4 a1) x8_2) == (-1)) = true := beq_iff_eq.mpr c19
                  have c19b1 : ((rd (rd_L4 l0_4 a1) x8_2) != (-1)) = false := bne_eq_false_iff_eq.mpr c19
                  clear c19
                  have H' := zA H
                  clear H
                  obtain ⟨hcz20_0, hcz20_1, hcz20_2, hcz20_3, hcz20_4, hfz20_0, hfz20_1, hfz20_2, hfz20_3, hfz20_4⟩ := zh5 BK204.out
                  have p207 : 0 ≤ (a1 : Int) := zd
                  have q207 : a1 < (l0_2.length : Int) := zd
                  obtain ⟨ad207, A207_0, c207_0, e207, hx207_0, hx207_1, hx207_2, hl207_0, hi207_0⟩ := at_T120 HR0_2.out a1 p207 q207
                  cases e207
                  replace hx207_0 := zx HB.out hx207_0
                  replace hx207_1 := zx HB.out hx207_1
                  replace hx207_2 := zx HB.out hx207_2
                  have HR207_0 := zA hi207_0
                  have HC207_0 := zA hl207_0
                  clear hi207_0 hl207_0
                  replace p207 := eq_true p207
                  replace q207 := eq_true q207
                  have p208 : 0 ≤ (x8_2 : Int) := zd
                  have q208 : x8_2 < ((rd_L4 l0_3 a1).length : Int) := zd
                  obtain ⟨ad208, e208, hx208_0⟩ := Kd.at_int HR205_0.out x8_2 p208 q208
                  cases e208
                  replace hx208_0 := zx HB.out hx208_0
                  replace p208 := eq_true p208
                  replace q208 := eq_true q208
                  have p209 : 0 ≤ (x8_2 : Int) := zd
                  have q209 : x8_2 < ((rd_L4 l0_4 a1).length : Int) := zd
                  obtain ⟨ad209, e209, hx209_0⟩ := Kd.at_int HR206_0.out x8_2 p209 q209
                  cases e209
                  replace hx209_0 := zx HB.out hx209_0
                  replace p209 := eq_true p209
                  replace q209 := eq_true q209
                  go_wp2
                  repeat (go_quiet (fail); try go_wp2)
                  go_roundg k2
                  case measure => have := HJ5.out; have := HK2.out; omega
                  case rel => exact ⟨(wrap64 (x8_2 + 1)), zr, H', ⟨by have := HJ5.out; have := HK2.out; omega⟩, ⟨zb BK204.out⟩, ⟨zs GE204.out⟩⟩
                 ·rw [if_neg c19] at H
                  have c19b0 : ((rd (rd_L4 l0_4 a1) x8_2) == (-1)) = false := beq_eq_false_iff_ne.mpr c19
                  have c19b1 : ((rd (rd_L4 l0_4 a1) x8_2) != (-1)) = true := bne_iff_ne.mpr c19
                  obtain rfl := Option.some.inj H
                  obtain ⟨hcz21_0, hcz21_1, hcz21_2, hcz21_3, hcz21_4, hfz21_0, hfz21_1, hfz21_2, hfz21_3, hfz21_4⟩ := zh5 BK204.out
                  have p207 : 0 ≤ (a1 : Int) := zd
                  have q207 : a1 < (l0_2.length : Int) := zd
                  obtain ⟨ad207, A207_0, c207_0, e207, hx207_0, hx207_1, hx207_2, hl207_0, hi207_0⟩ := at_T120 HR0_2.out a1 p207 q207
                  cases e207
                  replace hx207_0 := zx HB.out hx207_0
                  replace hx207_1 := zx HB.out hx207_1
                  replace hx207_2 := zx HB.out hx207_2
                  have HR207_0 := zA hi207_0
                  have HC207_0 := zA hl207_0
                  clear hi207_0 hl207_0
                  replace p207 := eq_true p207
                  replace q207 := eq_true q207
                  have p208 : 0 ≤ (x8_2 : Int) := zd
                  have q208 : x8_2 < ((rd_L4 l0_3 a1).length : Int) := zd
                  obtain ⟨ad208, e208, hx208_0⟩ := Kd.at_int HR205_0.out x8_2 p208 q208
                  cases e208
                  replace hx208_0 := zx HB.out hx208_0
                  replace p208 := eq_true p208
                  replace q208 := eq_true q208
                  have p209 : 0 ≤ (x8_2 : Int) := zd
                  have q209 : x8_2 < ((rd_L4 l0_4 a1).length : Int) := zd
                  obtain ⟨ad209, e209, hx209_0⟩ := Kd.at_int HR206_0.out x8_2 p209 q209
                  cases e209
                  replace hx209_0 := zx HB.out hx209_0
                  replace p209 := eq_true p209
                  replace q209 := eq_true q209
                  go_wp2
                  repeat (go_quiet (fail); try go_wp2)
                  go_ret
                  exact ⟨ze, (zs GE204.out)⟩
                ·rw [if_neg c18] at H
                 exact absurd H (by simp)
               ·rw [if_neg c17] at H
                have c17b0 : ((rd (rd_L4 l0_3 a1) x8_2) == 0) = false := beq_eq_false_iff_ne.mpr c17
                have c17b1 : ((rd (rd_L4 l0_3 a1) x8_2) != 0) = true := bne_iff_ne.mpr c17
                obtain rfl := Option.some.inj H
                obtain ⟨hcz22_0, hcz22_1, hcz22_2, hcz22_3, hcz22_4, hfz22_0, hfz22_1, hfz22_2, hfz22_3, hfz22_4⟩ := zh5 BK204.out
                have p207 : 0 ≤ (a1 : Int) := zd
                have q207 : a1 < (l0_2.length : Int) := zd
                obtain ⟨ad207, A207_0, c207_0, e207, hx207_0, hx207_1, hx207_2, hl207_0, hi207_0⟩ := at_T120 HR0_2.out a1 p207 q207
                cases e207
                replace hx207_0 := zx HB.out hx207_0
                replace hx207_1 := zx HB.out hx207_1
                replace hx207_2 := zx HB.out hx207_2
                have HR207_0 := zA hi207_0
                have HC207_0 := zA hl207_0
                clear hi207_0 hl207_0
                replace p207 := eq_true p207
                replace q207 := eq_true q207
                have p208 : 0 ≤ (x8_2 : Int) := zd
                have q208 : x8_2 < ((rd_L4 l0_3 a1).length : Int) := zd
                obtain ⟨ad208, e208, hx208_0⟩ := Kd.at_int HR205_0.out x8_2 p208 q208
                cases e208
                replace hx208_0 := zx HB.out hx208_0
                replace p208 := eq_true p208
                replace q208 := eq_true q208
                go_wp2
                repeat (go_quiet (fail); try go_wp2)
                go_ret
                exact ⟨ze, (zs GE204.out)⟩
              ·rw [if_neg c16] at H
               exact absurd H (by simp)
             ·rw [if_neg c15] at H
              exact absurd H (by simp)
            ·rw [if_neg c14] at H
             have c14b0 : (x8_2 == ((rd_T120 l0_2 a1).f2)) = false := beq_eq_false_iff_ne.mpr c14
             have c14b1 : (x8_2 != ((rd_T120 l0_2 a1).f2)) = true := bne_iff_ne.mpr c14
             have HC23 := zA H
             clear H
             obtain ⟨hcz24_0, hcz24_1, hcz24_2, hcz24_3, hcz24_4, hfz24_0, hfz24_1, hfz24_2, hfz24_3, hfz24_4⟩ := zh5 BK204.out
             have p207 : 0 ≤ (a1 : Int) := zd
             have q207 : a1 < (l0_2.length : Int) := zd
             obtain ⟨ad207, A207_0, c207_0, e207, hx207_0, hx207_1, hx207_2, hl207_0, hi207_0⟩ := at_T120 HR0_2.out a1 p207 q207
             cases e207
             replace hx207_0 := zx HB.out hx207_0
             replace hx207_1 := zx HB.out hx207_1
             replace hx207_2 := zx HB.out hx207_2
             have HR207_0 := zA hi207_0
             have HC207_0 := zA hl207_0
             clear hi207_0 hl207_0
             replace p207 := eq_true p207
             replace q207 := eq_true q207
             go_upto_region 12 with (fail)
             repeat (go_quiet (fail); go_upto_region 12 with (fail))
             go_cut [71] (fun v71 wc => ∃ (kq : Nat) (x71_22 : Bool), v71 = .bool x71_22 ∧ Aside0 (spec_l6rowOK.j2 kq a1 (wrap64 (a0_0 * a0_1)) (rd_L4 l0_3 a1) (rd_L4 l0_4 a1) x8_2 x71_22 a0_0 a0_1 l0_2 l0_3 l0_4 = some r) ∧ Aside0 (kq ≤ k2) ∧ Aside0 (wc.heap[gb204]? = some (.cells #[.int .i64 a0_0, .int .i64 a0_1, (.slice (some ad207) l0_2.length c0_2), (.slice (some ad205) l0_3.length c0_3), (.slice (some ad206) l0_4.length c0_4)] 47 (0, 0))) ∧ Aside0 (Below w.heap.size w wc))
             case first =>
              have H := HC23.out
              clear HC23
              by_cases c25 : 0 ≤ x8_2
              ·rw [if_pos c25] at H
               have c25b0 : decide (0 ≤ x8_2) = true := decide_eq_true c25
               clear c25
               (first | rw [c25b0] | (simp only [i64_w, i32_w]; rw [c25b0]) | skip)
               by_cases c26 : x8_2 < ((rd_L4 l0_3 a1).length : Int)
               ·rw [if_pos c26] at H
                have c26b0 : decide (x8_2 < ((rd_L4 l0_3 a1).length : Int)) = true := decide_eq_true c26
                clear c26
                by_cases c27 : (rd (rd_L4 l0_3 a1) x8_2) = (-1)
                ·rw [if_pos c27] at H
                 have c27b0 : ((rd (rd_L4 l0_3 a1) x8_2) == (-1)) = true := beq_iff_eq.mpr c27
                 have c27b1 : ((rd (rd_L4 l0_3 a1) x8_2) != (-1)) = false := bne_eq_false_iff_eq.mpr c27
                 clear c27
                 by_cases c28 : x8_2 < ((rd_L4 l0_4 a1).length : Int)
                 ·rw [if_pos c28] at H
                  have c28b0 : decide (x8_2 < ((rd_L4 l0_4 a1).length : Int)) = true := decide_eq_true c28
                  clear c28
                  have H' := zA H
                  clear H
                  have p210 : 0 ≤ (x8_2 : Int) := zd
                  have q210 : x8_2 < ((rd_L4 l0_3 a1).length : Int) := zd
                  obtain ⟨ad210, e210, hx210_0⟩ := Kd.at_int HR205_0.out x8_2 p210 q210
                  cases e210
                  replace hx210_0 := zx HB.out hx210_0
                  replace p210 := eq_true p210
                  replace q210 := eq_true q210
                  have p211 : 0 ≤ (x8_2 : Int) := zd
                  have q211 : x8_2 < ((rd_L4 l0_4 a1).length : Int) := zd
                  obtain ⟨ad211, e211, hx211_0⟩ := Kd.at_int HR206_0.out x8_2 p211 q211
                  cases e211
                  replace hx211_0 := zx HB.out hx211_0
                  replace p211 := eq_true p211
                  replace q211 := eq_true q211
                  go_wp2
                  repeat (go_quiet (fail); try go_wp2)
                  go_meet
                  case rel => exact ⟨_, (((rd (rd_L4 l0_4 a1) x8_2) == (-1))), zr, H', ⟨by have := HJ5.out; have := HK2.out; first | omega | exact Nat.le_refl _⟩, ⟨zb BK204.out⟩, ⟨zs GE204.out⟩⟩
                 ·rw [if_neg c28] at H
                  exact absurd H (by simp)
                ·rw [if_neg c27] at H
                 have c27b0 : ((rd (rd_L4 l0_3 a1) x8_2) == (-1)) = false := beq_eq_false_iff_ne.mpr c27
                 have c27b1 : ((rd (rd_L4 l0_3 a1) x8_2) != (-1)) = true := bne_iff_ne.mpr c27
                 have H' := zA H
                 clear H
                 have p210 : 0 ≤ (x8_2 : Int) := zd
                 have q210 : x8_2 < ((rd_L4 l0_3 a1).length : Int) := zd
                 obtain ⟨ad210, e210, hx210_0⟩ := Kd.at_int HR205_0.out x8_2 p210 q210
                 cases e210
                 replace hx210_0 := zx HB.out hx210_0
                 replace p210 := eq_true p210
                 replace q210 := eq_true q210
                 go_wp2
                 repeat (go_quiet (fail); try go_wp2)
                 go_meet
                 case rel => exact ⟨_, (false), zr, H', ⟨by have := HJ5.out; have := HK2.out; first | omega | exact Nat.le_refl _⟩, ⟨zb BK204.out⟩, ⟨zs GE204.out⟩⟩
               ·rw [if_neg c26] at H
                exact absurd H (by simp)
              ·rw [if_neg c25] at H
               exact absurd H (by simp)
             case rest =>
              clear HC23
              (try clear c1); (try clear c2); (try clear p2); (try clear q2); (try clear hx2); (try clear c3); (try clear c3b0); (try clear c4); (try clear c4b0); (try clear c5); (try clear c5b0); (try clear p6); (try clear c9); (try clear c9b0); (try clear c9b1); (try clear c10); (try clear c11); (try clear c11b0); (try clear c12); (try clear c12b0); (try clear c13); (try clear c13b0); (try clear c14); (try clear c14b0); (try clear c14b1); (try clear c15); (try clear c15b0); (try clear c16); (try clear c16b0); (try clear c17); (try clear c17b0); (try clear c17b1); (try clear c18); (try clear c18b0); (try clear c19); (try clear c19b0); (try clear c19b1); (try clear c20); (try clear p20); (try clear q20); (try clear hx20); (try clear p21); (try clear q21); (try clear hx21); (try clear c25); (try clear c25b0); (try clear c26); (try clear c26b0); (try clear c27); (try clear c27b0); (try clear c27b1); (try clear c28); (try clear c28b0); (try clear hcz20_0 hcz20_1 hcz20_2 hcz20_3 hcz20_4); (try clear hcz21_0 hcz21_1 hcz21_2 hcz21_3 hcz21_4); (try clear hcz22_0 hcz22_1 hcz22_2 hcz22_3 hcz22_4); (try clear hcz24_0 hcz24_1 hcz24_2 hcz24_3 hcz24_4); (try clear hcz8_0 hcz8_1 hcz8_2 hcz8_3 hcz8_4); (try clear hfz20_0 hfz20_1 hfz20_2 hfz20_3 hfz20_4); (try clear hfz21_0 hfz21_1 hfz21_2 hfz21_3 hfz21_4); (try clear hfz22_0 hfz22_1 hfz22_2 hfz22_3 hfz22_4); (try clear hfz24_0 hfz24_1 hfz24_2 hfz24_3 hfz24_4); (try clear hfz8_0 hfz8_1 hfz8_2 hfz8_3 hfz8_4); (try clear hx205_0); (try clear hx206_0); (try clear hx207_0); (try clear hx207_1); (try clear hx207_2); (try clear hx208_0); (try clear hx209_0); (try clear hx210_0); (try clear hx211_0); (try clear p2); (try clear p205); (try clear p206); (try clear p207); (try clear p208); (try clear p209); (try clear p210); (try clear p211); (try clear p6); (try clear q2); (try clear q205); (try clear q206); (try clear q207); (try clear q208); (try clear q209); (try clear q210); (try clear q211)
              obtain ⟨kq, x71_22, rfl, HA, HJ22, BK204, HB⟩ := hcut
              cases kq with
              | zero => exact absurd HA.out (by simp [spec_l6rowOK.j2])
              | succ kj22 =>
               have H := HA.out
               clear HA
               simp only [spec_l6rowOK.j2] at H
               by_cases c29 : x71_22 = true
               ·subst c29
                have H1 : (spec_l6rowOK.l0 kj22 a1 (wrap64 (a0_0 * a0_1)) (rd_L4 l0_3 a1) (rd_L4 l0_4 a1) (wrap64 (x8_2 + 1)) a0_0 a0_1 l0_2 l0_3 l0_4) = some r := by rw [if_pos rfl] at H; exact H
                clear H
                have H := H1
                clear H1
                have H' := zA H
                clear H
                go_wp2
                repeat (go_quiet (fail); try go_wp2)
                go_roundg kj22
                case measure => have := HJ5.out; have := HK2.out; have := HJ22.out; omega
                case rel => exact ⟨(wrap64 (x8_2 + 1)), zr, H', ⟨by have := HJ5.out; have := HK2.out; have := HJ22.out; omega⟩, ⟨zb BK204.out⟩, ⟨zs GE204.out⟩⟩
               ·replace c29 := Bool.eq_false_iff.mpr c29
                subst c29
                have H1 : (if 0 ≤ x8_2 then (if x8_2 < ((rd_L4 l0_3 a1).length : Int) then (if (rd (rd_L4 l0_3 a1) x8_2) < 1 then (spec_l6rowOK.j3 kj22 a1 (wrap64 (a0_0 * a0_1)) (rd_L4 l0_3 a1) (rd_L4 l0_4 a1) x8_2 true a0_0 a0_1 l0_2 l0_3 l0_4) else (if (rd (rd_L4 l0_3 a1) x8_2) > 65534 then (spec_l6rowOK.j3 kj22 a1 (wrap64 (a0_0 * a0_1)) (rd_L4 l0_3 a1) (rd_L4 l0_4 a1) x8_2 true a0_0 a0_1 l0_2 l0_3 l0_4) else (if x8_2 < ((rd_L4 l0_4 a1).length : Int) then (if (rd (rd_L4 l0_4 a1) x8_2) < 0 then (spec_l6rowOK.j3 kj22 a1 (wrap64 (a0_0 * a0_1)) (rd_L4 l0_3 a1) (rd_L4 l0_4 a1) x8_2 true a0_0 a0_1 l0_2 l0_3 l0_4) else (spec_l6rowOK.j3 kj22 a1 (wrap64 (a0_0 * a0_1)) (rd_L4 l0_3 a1) (rd_L4 l0_4 a1) x8_2 (decide ((rd (rd_L4 l0_4 a1) x8_2) > 3)) a0_0 a0_1 l0_2 l0_3 l0_4)) else (none)))) else (none)) else (none)) = some r := by rw [if_neg (show ¬ (false = true) by decide)] at H; exact H
                clear H
                have H := H1
                clear H1
                have HC30 := zA H
                clear H
                go_upto_region 13 with (fail)
                repeat (go_quiet (fail); go_upto_region 13 with (fail))
                go_cut [97] (fun v97 wc => ∃ (kq : Nat) (x97_29 : Bool), v97 = .bool x97_29 ∧ Aside0 (spec_l6rowOK.j3 kq a1 (wrap64 (a0_0 * a0_1)) (rd_L4 l0_3 a1) (rd_L4 l0_4 a1) x8_2 x97_29 a0_0 a0_1 l0_2 l0_3 l0_4 = some r) ∧ Aside0 (kq ≤ kj22) ∧ Aside0 (wc.heap[gb204]? = some (.cells #[.int .i64 a0_0, .int .i64 a0_1, (.slice (some ad207) l0_2.length c0_2), (.slice (some ad205) l0_3.length c0_3), (.slice (some ad206) l0_4.length c0_4)] 47 (0, 0))) ∧ Aside0 (Below w.heap.size w wc))
                case first =>
                 have H := HC30.out
                 clear HC30
                 by_cases c31 : 0 ≤ x8_2
                 ·rw [if_pos c31] at H
                  have c31b0 : decide (0 ≤ x8_2) = true := decide_eq_true c31
                  clear c31
                  (first | rw [c31b0] | (simp only [i64_w, i32_w]; rw [c31b0]) | skip)
                  by_cases c32 : x8_2 < ((rd_L4 l0_3 a1).length : Int)
                  ·rw [if_pos c32] at H
                   have c32b0 : decide (x8_2 < ((rd_L4 l0_3 a1).length : Int)) = true := decide_eq_true c32
                   clear c32
                   by_cases c33 : (rd (rd_L4 l0_3 a1) x8_2) < 1
                   ·rw [if_pos c33] at H
                    have c33b0 : decide ((rd (rd_L4 l0_3 a1) x8_2) < 1) = true := decide_eq_true c33
                    clear c33
                    have H' := zA H
                    clear H
                    have p212 : 0 ≤ (x8_2 : Int) := zd
                    have q212 : x8_2 < ((rd_L4 l0_3 a1).length : Int) := zd
                    obtain ⟨ad212, e212, hx212_0⟩ := Kd.at_int HR205_0.out x8_2 p212 q212
                    cases e212
                    replace hx212_0 := zx HB.out hx212_0
                    replace p212 := eq_true p212
                    replace q212 := eq_true q212
                    go_wp2
                    repeat (go_quiet (fail); try go_wp2)
                    go_meet
                    case rel => exact ⟨_, (true), zr, H', ⟨by have := HJ5.out; have := HK2.out; have := HJ22.out; first | omega | exact Nat.le_refl _⟩, ⟨zb BK204.out⟩, ⟨zs GE204.out⟩⟩
                   ·rw [if_neg c33] at H
                    have c33b0 : decide ((rd (rd_L4 l0_3 a1) x8_2) < 1) = false := decide_eq_false c33
                    clear c33
                    by_cases c34 : (rd (rd_L4 l0_3 a1) x8_2) > 65534
                    ·rw [if_pos c34] at H
                     have c34b0 : decide (65534 < (rd (rd_L4 l0_3 a1) x8_2)) = true := decide_eq_true c34
                     clear c34
                     have H' := zA H
                     clear H
                     have p212 : 0 ≤ (x8_2 : Int) := zd
                     have q212 : x8_2 < ((rd_L4 l0_3 a1).length : Int) := zd
                     obtain ⟨ad212, e212, hx212_0⟩ := Kd.at_int HR205_0.out x8_2 p212 q212
                     cases e212
                     replace hx212_0 := zx HB.out hx212_0
                     replace p212 := eq_true p212
                     replace q212 := eq_true q212
                     have p213 : 0 ≤ (x8_2 : Int) := zd
                     have q213 : x8_2 < ((rd_L4 l0_3 a1).length : Int) := zd
                     obtain ⟨ad213, e213, hx213_0⟩ := Kd.at_int HR205_0.out x8_2 p213 q213
                     obtain rfl : ad212 = ad213 := (by injection e213)
                     replace hx213_0 := zx HB.out hx213_0
                     replace p213 := eq_true p213
                     replace q213 := eq_true q213
                     go_wp2
                     repeat (go_quiet (fail); try go_wp2)
                     go_meet
                     case rel => exact ⟨_, (true), zr, H', ⟨by have := HJ5.out; have := HK2.out; have := HJ22.out; first | omega | exact Nat.le_refl _⟩, ⟨zb BK204.out⟩, ⟨zs GE204.out⟩⟩
                    ·rw [if_neg c34] at H
                     have c34b0 : decide (65534 < (rd (rd_L4 l0_3 a1) x8_2)) = false := decide_eq_false c34
                     clear c34
                     by_cases c35 : x8_2 < ((rd_L4 l0_4 a1).length : Int)
                     ·rw [if_pos c35] at H
                      have c35b0 : decide (x8_2 < ((rd_L4 l0_4 a1).length : Int)) = true := decide_eq_true c35
                      clear c35
                      by_cases c36 : (rd (rd_L4 l0_4 a1) x8_2) < 0
                      ·rw [if_pos c36] at H
                       have c36b0 : decide ((rd (rd_L4 l0_4 a1) x8_2) < 0) = true := decide_eq_true c36
                       clear c36
                       have H' := zA H
                       clear H
                       have p212 : 0 ≤ (x8_2 : Int) := zd
                       have q212 : x8_2 < ((rd_L4 l0_3 a1).length : Int) := zd
                       obtain ⟨ad212, e212, hx212_0⟩ := Kd.at_int HR205_0.out x8_2 p212 q212
                       cases e212
                       replace hx212_0 := zx HB.out hx212_0
                       replace p212 := eq_true p212
                       replace q212 := eq_true q212
                       have p213 : 0 ≤ (x8_2 : Int) := zd
                       have q213 : x8_2 < ((rd_L4 l0_3 a1).length : Int) := zd
                       obtain ⟨ad213, e213, hx213_0⟩ := Kd.at_int HR205_0.out x8_2 p213 q213
                       obtain rfl : ad212 = ad213 := (by injection e213)
                       replace hx213_0 := zx HB.out hx213_0
                       replace p213 := eq_true p213
                       replace q213 := eq_true q213
                       have p214 : 0 ≤ (x8_2 : Int) := zd
                       have q214 : x8_2 < ((rd_L4 l0_4 a1).length : Int) := zd
                       obtain ⟨ad214, e214, hx214_0⟩ := Kd.at_int HR206_0.out x8_2 p214 q214
                       cases e214
                       replace hx214_0 := zx HB.out hx214_0
                       replace p214 := eq_true p214
                       replace q214 := eq_true q214
                       go_wp2
                       repeat (go_quiet (fail); try go_wp2)
                       go_meet
                       case rel => exact ⟨_, (true), zr, H', ⟨by have := HJ5.out; have := HK2.out; have := HJ22.out; first | omega | exact Nat.le_refl _⟩, ⟨zb BK204.out⟩, ⟨zs GE204.out⟩⟩
                      ·rw [if_neg c36] at H
                       have c36b0 : decide ((rd (rd_L4 l0_4 a1) x8_2) < 0) = false := decide_eq_false c36
                       clear c36
                       have H' := zA H
                       clear H
                       have p212 : 0 ≤ (x8_2 : Int) := zd
                       have q212 : x8_2 < ((rd_L4 l0_3 a1).length : Int) := zd
                       obtain ⟨ad212, e212, hx212_0⟩ := Kd.at_int HR205_0.out x8_2 p212 q212
                       cases e212
                       replace hx212_0 := zx HB.out hx212_0
                       replace p212 := eq_true p212
                       replace q212 := eq_true q212
                       have p213 : 0 ≤ (x8_2 : Int) := zd
                       have q213 : x8_2 < ((rd_L4 l0_3 a1).length : Int) := zd
                       obtain ⟨ad213, e213, hx213_0⟩ := Kd.at_int HR205_0.out x8_2 p213 q213
                       obtain rfl : ad212 = ad213 := (by injection e213)
                       replace hx213_0 := zx HB.out hx213_0
                       replace p213 := eq_true p213
                       replace q213 := eq_true q213
                       have p214 : 0 ≤ (x8_2 : Int) := zd
                       have q214 : x8_2 < ((rd_L4 l0_4 a1).length : Int) := zd
                       obtain ⟨ad214, e214, hx214_0⟩ := Kd.at_int HR206_0.out x8_2 p214 q214
                       cases e214
                       replace hx214_0 := zx HB.out hx214_0
                       replace p214 := eq_true p214
                       replace q214 := eq_true q214
                       have p215 : 0 ≤ (x8_2 : Int) := zd
                       have q215 : x8_2 < ((rd_L4 l0_4 a1).length : Int) := zd
                       obtain ⟨ad215, e215, hx215_0⟩ := Kd.at_int HR206_0.out x8_2 p215 q215
                       obtain rfl : ad214 = ad215 := (by injection e215)
                       replace hx215_0 := zx HB.out hx215_0
                       replace p215 := eq_true p215
                       replace q215 := eq_true q215
                       go_wp2
                       repeat (go_quiet (fail); try go_wp2)
                       go_meet
                       case rel => exact ⟨_, (decide ((rd (rd_L4 l0_4 a1) x8_2) > 3)), zr, H', ⟨by have := HJ5.out; have := HK2.out; have := HJ22.out; first | omega | exact Nat.le_refl _⟩, ⟨zb BK204.out⟩, ⟨zs GE204.out⟩⟩
                     ·rw [if_neg c35] at H
                      exact absurd H (by simp)
                  ·rw [if_neg c32] at H
                   exact absurd H (by simp)
                 ·rw [if_neg c31] at H
                  exact absurd H (by simp)
                case rest =>
                 clear HC30
                 (try clear c1); (try clear c2); (try clear p2); (try clear q2); (try clear hx2); (try clear c3); (try clear c3b0); (try clear c4); (try clear c4b0); (try clear c5); (try clear c5b0); (try clear p6); (try clear c9); (try clear c9b0); (try clear c9b1); (try clear c10); (try clear c11); (try clear c11b0); (try clear c12); (try clear c12b0); (try clear c13); (try clear c13b0); (try clear c14); (try clear c14b0); (try clear c14b1); (try clear c15); (try clear c15b0); (try clear c16); (try clear c16b0); (try clear c17); (try clear c17b0); (try clear c17b1); (try clear c18); (try clear c18b0); (try clear c19); (try clear c19b0); (try clear c19b1); (try clear c20); (try clear p20); (try clear q20); (try clear hx20); (try clear p21); (try clear q21); (try clear hx21); (try clear c25); (try clear c25b0); (try clear c26); (try clear c26b0); (try clear c27); (try clear c27b0); (try clear c27b1); (try clear c28); (try clear c28b0); (try clear c29); (try clear c31); (try clear c31b0); (try clear c32); (try clear c32b0); (try clear c33); (try clear c33b0); (try clear c34); (try clear c34b0); (try clear c35); (try clear c35b0); (try clear c36); (try clear c36b0); (try clear hcz20_0 hcz20_1 hcz20_2 hcz20_3 hcz20_4); (try clear hcz21_0 hcz21_1 hcz21_2 hcz21_3 hcz21_4); (try clear hcz22_0 hcz22_1 hcz22_2 hcz22_3 hcz22_4); (try clear hcz24_0 hcz24_1 hcz24_2 hcz24_3 hcz24_4); (try clear hcz8_0 hcz8_1 hcz8_2 hcz8_3 hcz8_4); (try clear hfz20_0 hfz20_1 hfz20_2 hfz20_3 hfz20_4); (try clear hfz21_0 hfz21_1 hfz21_2 hfz21_3 hfz21_4); (try clear hfz22_0 hfz22_1 hfz22_2 hfz22_3 hfz22_4); (try clear hfz24_0 hfz24_1 hfz24_2 hfz24_3 hfz24_4); (try clear hfz8_0 hfz8_1 hfz8_2 hfz8_3 hfz8_4); (try clear hx205_0); (try clear hx206_0); (try clear hx207_0); (try clear hx207_1); (try clear hx207_2); (try clear hx208_0); (try clear hx209_0); (try clear hx210_0); (try clear hx211_0); (try clear hx212_0); (try clear hx213_0); (try clear hx214_0); (try clear hx215_0); (try clear p2); (try clear p20); (try clear p205); (try clear p206); (try clear p207); (try clear p208); (try clear p209); (try clear p21); (try clear p210); (try clear p211); (try clear p212); (try clear p213); (try clear p214); (try clear p215); (try clear p6); (try clear q2); (try clear q20); (try clear q205); (try clear q206); (try clear q207); (try clear q208); (try clear q209); (try clear q21); (try clear q210); (try clear q211); (try clear q212); (try clear q213); (try clear q214); (try clear q215)
                 obtain ⟨kq, x97_29, rfl, HA, HJ29, BK204, HB⟩ := hcut
                 cases kq with
                 | zero => exact absurd HA.out (by simp [spec_l6rowOK.j3])
                 | succ kj29 =>
                  have H := HA.out
                  clear HA
                  simp only [spec_l6rowOK.j3] at H
                  by_cases c37 : x97_29 = true
                  ·subst c37
                   have H1 : (some false) = some r := by rw [if_pos rfl] at H; exact H
                   clear H
                   have H := H1
                   clear H1
                   obtain rfl := Option.some.inj H
                   go_wp2
                   repeat (go_quiet (fail); try go_wp2)
                   go_ret
                   exact ⟨ze, (zs GE204.out)⟩
                  ·replace c37 := Bool.eq_false_iff.mpr c37
                   subst c37
                   have H1 : (if 0 ≤ x8_2 then (if x8_2 < ((rd_L4 l0_4 a1).length : Int) then ((spec_l4to.f a0_0 a0_1 x8_2 (rd (rd_L4 l0_4 a1) x8_2)).bind fun t217 => (if t217 < 0 then (some false) else (if 0 ≤ t217 then (if t217 < ((rd_L4 l0_3 a1).length : Int) then (if (rd (rd_L4 l0_3 a1) t217) < 0 then (some false) else (if x8_2 < ((rd_L4 l0_3 a1).length : Int) then (if (rd (rd_L4 l0_3 a1) t217) ≥ (rd (rd_L4 l0_3 a1) x8_2) then (some false) else (spec_l6rowOK.l0 kj29 a1 (wrap64 (a0_0 * a0_1)) (rd_L4 l0_3 a1) (rd_L4 l0_4 a1) (wrap64 (x8_2 + 1)) a0_0 a0_1 l0_2 l0_3 l0_4)) else (none))) else (none)) else (none)))) else (none)) else (none)) = some r := by rw [if_neg (show ¬ (false = true) by decide)] at H; exact H
                   clear H
                   have H := H1
                   clear H1
                   by_cases c38 : 0 ≤ x8_2
                   ·rw [if_pos c38] at H
                    have c38b0 : decide (0 ≤ x8_2) = true := decide_eq_true c38
                    clear c38
                    by_cases c39 : x8_2 < ((rd_L4 l0_4 a1).length : Int)
                    ·rw [if_pos c39] at H
                     have c39b0 : decide (x8_2 < ((rd_L4 l0_4 a1).length : Int)) = true := decide_eq_true c39
                     clear c39
                     replace H := Option.bind_eq_some_iff.mp H
                     obtain ⟨t217, A400, H⟩ := H
                     replace H : (if t217 < 0 then (some false) else (if 0 ≤ t217 then (if t217 < ((rd_L4 l0_3 a1).length : Int) then (if (rd (rd_L4 l0_3 a1) t217) < 0 then (some false) else (if x8_2 < ((rd_L4 l0_3 a1).length : Int) then (if (rd (rd_L4 l0_3 a1) t217) ≥ (rd (rd_L4 l0_3 a1) x8_2) then (some false) else (spec_l6rowOK.l0 kj29 a1 (wrap64 (a0_0 * a0_1)) (rd_L4 l0_3 a1) (rd_L4 l0_4 a1) (wrap64 (x8_2 + 1)) a0_0 a0_1 l0_2 l0_3 l0_4)) else (none))) else (none)) else (none))) = some r := H
                     have A40 := zA A400
                     clear A400
                     by_cases c41 : t217 < 0
                     ·rw [if_pos c41] at H
                      have c41b0 : decide (t217 < 0) = true := decide_eq_true c41
                      clear c41
                      obtain rfl := Option.some.inj H
                      obtain ⟨hcz42_0, hcz42_1, hcz42_2, hcz42_3, hcz42_4, hfz42_0, hfz42_1, hfz42_2, hfz42_3, hfz42_4⟩ := zh5 BK204.out
                      have p216 : 0 ≤ (x8_2 : Int) := zd
                      have q216 : x8_2 < ((rd_L4 l0_4 a1).length : Int) := zd
                      obtain ⟨ad216, e216, hx216_0⟩ := Kd.at_int HR206_0.out x8_2 p216 q216
                      cases e216
                      replace hx216_0 := zx HB.out hx216_0
                      replace p216 := eq_true p216
                      replace q216 := eq_true q216
                      go_wp2_with (first | (go_at_call 70; (with_reducible refine (spec_l4to.calls a0_0 a0_1 x8_2 (rd (rd_L4 l0_4 a1) x8_2) t217 _ A40.out).mono ?_); rintro e w' ⟨rfl, ⟨nd, rfl⟩⟩; (try first | exact ⟨rfl, _, World.drewN_drewN _ _ _⟩ | exact ⟨rfl, _, Eq.trans (World.drewN_drewN _ _ _) (congrArg (World.drewN _) (Nat.add_assoc _ _ _))⟩)))
                      repeat (go_quiet (first | (go_at_call 70; (with_reducible refine (spec_l4to.calls a0_0 a0_1 x8_2 (rd (rd_L4 l0_4 a1) x8_2) t217 _ A40.out).mono ?_); rintro e w' ⟨rfl, ⟨nd, rfl⟩⟩; (try first | exact ⟨rfl, _, World.drewN_drewN _ _ _⟩ | exact ⟨rfl, _, Eq.trans (World.drewN_drewN _ _ _) (congrArg (World.drewN _) (Nat.add_assoc _ _ _))⟩))); try go_wp2_with (first | (go_at_call 70; (with_reducible refine (spec_l4to.calls a0_0 a0_1 x8_2 (rd (rd_L4 l0_4 a1) x8_2) t217 _ A40.out).mono ?_); rintro e w' ⟨rfl, ⟨nd, rfl⟩⟩; (try first | exact ⟨rfl, _, World.drewN_drewN _ _ _⟩ | exact ⟨rfl, _, Eq.trans (World.drewN_drewN _ _ _) (congrArg (World.drewN _) (Nat.add_assoc _ _ _))⟩))))
                      go_ret
                      exact ⟨ze, (zs GE204.out)⟩
                     ·rw [if_neg c41] at H
                      have c41b0 : decide (t217 < 0) = false := decide_eq_false c41
                      clear c41
                      by_cases c43 : 0 ≤ t217
                      ·rw [if_pos c43] at H
                       have c43b0 : decide (0 ≤ t217) = true := decide_eq_true c43
                       clear c43
                       by_cases c44 : t217 < ((rd_L4 l0_3 a1).length : Int)
                       ·rw [if_pos c44] at H
                        have c44b0 : decide (t217 < ((rd_L4 l0_3 a1).length : Int)) = true := decide_eq_true c44
                        clear c44
                        by_cases c45 : (rd (rd_L4 l0_3 a1) t217) < 0
                        ·rw [if_pos c45] at H
                         have c45b0 : decide ((rd (rd_L4 l0_3 a1) t217) < 0) = true := decide_eq_true c45
                         clear c45
                         obtain rfl := Option.some.inj H
                         obtain ⟨hcz46_0, hcz46_1, hcz46_2, hcz46_3, hcz46_4, hfz46_0, hfz46_1, hfz46_2, hfz46_3, hfz46_4⟩ := zh5 BK204.out
                         have p216 : 0 ≤ (x8_2 : Int) := zd
                         have q216 : x8_2 < ((rd_L4 l0_4 a1).length : Int) := zd
                         obtain ⟨ad216, e216, hx216_0⟩ := Kd.at_int HR206_0.out x8_2 p216 q216
                         cases e216
                         replace hx216_0 := zx HB.out hx216_0
                         replace p216 := eq_true p216
                         replace q216 := eq_true q216
                         go_wp2_with (first | (go_at_call 70; (with_reducible refine (spec_l4to.calls a0_0 a0_1 x8_2 (rd (rd_L4 l0_4 a1) x8_2) t217 _ A40.out).mono ?_); rintro e w' ⟨rfl, ⟨nd, rfl⟩⟩; (try first | exact ⟨rfl, _, World.drewN_drewN _ _ _⟩ | exact ⟨rfl, _, Eq.trans (World.drewN_drewN _ _ _) (congrArg (World.drewN _) (Nat.add_assoc _ _ _))⟩); have p218 : 0 ≤ (t217 : Int) := zd; have q218 : t217 < ((rd_L4 l0_3 a1).length : Int) := zd; obtain ⟨ad218, e218, hx218_0⟩ := Kd.at_int HR205_0.out t217 p218 q218; cases e218; replace hx218_0 := zx HB.out hx218_0; replace p218 := eq_true p218; replace q218 := eq_true q218))
                         repeat (go_quiet (first | (go_at_call 70; (with_reducible refine (spec_l4to.calls a0_0 a0_1 x8_2 (rd (rd_L4 l0_4 a1) x8_2) t217 _ A40.out).mono ?_); rintro e w' ⟨rfl, ⟨nd, rfl⟩⟩; (try first | exact ⟨rfl, _, World.drewN_drewN _ _ _⟩ | exact ⟨rfl, _, Eq.trans (World.drewN_drewN _ _ _) (congrArg (World.drewN _) (Nat.add_assoc _ _ _))⟩); have p218 : 0 ≤ (t217 : Int) := zd; have q218 : t217 < ((rd_L4 l0_3 a1).length : Int) := zd; obtain ⟨ad218, e218, hx218_0⟩ := Kd.at_int HR205_0.out t217 p218 q218; cases e218; replace hx218_0 := zx HB.out hx218_0; replace p218 := eq_true p218; replace q218 := eq_true q218)); try go_wp2_with (first | (go_at_call 70; (with_reducible refine (spec_l4to.calls a0_0 a0_1 x8_2 (rd (rd_L4 l0_4 a1) x8_2) t217 _ A40.out).mono ?_); rintro e w' ⟨rfl, ⟨nd, rfl⟩⟩; (try first | exact ⟨rfl, _, World.drewN_drewN _ _ _⟩ | exact ⟨rfl, _, Eq.trans (World.drewN_drewN _ _ _) (congrArg (World.drewN _) (Nat.add_assoc _ _ _))⟩); have p218 : 0 ≤ (t217 : Int) := zd; have q218 : t217 < ((rd_L4 l0_3 a1).length : Int) := zd; obtain ⟨ad218, e218, hx218_0⟩ := Kd.at_int HR205_0.out t217 p218 q218; cases e218; replace hx218_0 := zx HB.out hx218_0; replace p218 := eq_true p218; replace q218 := eq_true q218)))
                         go_ret
                         exact ⟨ze, (zs GE204.out)⟩
                        ·rw [if_neg c45] at H
                         have c45b0 : decide ((rd (rd_L4 l0_3 a1) t217) < 0) = false := decide_eq_false c45
                         clear c45
                         by_cases c47 : x8_2 < ((rd_L4 l0_3 a1).length : Int)
                         ·rw [if_pos c47] at H
                          have c47b0 : decide (x8_2 < ((rd_L4 l0_3 a1).length : Int)) = true := decide_eq_true c47
                          clear c47
                          by_cases c48 : (rd (rd_L4 l0_3 a1) t217) ≥ (rd (rd_L4 l0_3 a1) x8_2)
                          ·rw [if_pos c48] at H
                           have c48b0 : decide ((rd (rd_L4 l0_3 a1) x8_2) ≤ (rd (rd_L4 l0_3 a1) t217)) = true := decide_eq_true c48
                           clear c48
                           obtain rfl := Option.some.inj H
                           obtain ⟨hcz49_0, hcz49_1, hcz49_2, hcz49_3, hcz49_4, hfz49_0, hfz49_1, hfz49_2, hfz49_3, hfz49_4⟩ := zh5 BK204.out
                           have p216 : 0 ≤ (x8_2 : Int) := zd
                           have q216 : x8_2 < ((rd_L4 l0_4 a1).length : Int) := zd
                           obtain ⟨ad216, e216, hx216_0⟩ := Kd.at_int HR206_0.out x8_2 p216 q216
                           cases e216
                           replace hx216_0 := zx HB.out hx216_0
                           replace p216 := eq_true p216
                           replace q216 := eq_true q216
                           go_wp2_with (first | (go_at_call 70; (with_reducible refine (spec_l4to.calls a0_0 a0_1 x8_2 (rd (rd_L4 l0_4 a1) x8_2) t217 _ A40.out).mono ?_); rintro e w' ⟨rfl, ⟨nd, rfl⟩⟩; (try first | exact ⟨rfl, _, World.drewN_drewN _ _ _⟩ | exact ⟨rfl, _, Eq.trans (World.drewN_drewN _ _ _) (congrArg (World.drewN _) (Nat.add_assoc _ _ _))⟩); have p218 : 0 ≤ (t217 : Int) := zd; have q218 : t217 < ((rd_L4 l0_3 a1).length : Int) := zd; obtain ⟨ad218, e218, hx218_0⟩ := Kd.at_int HR205_0.out t217 p218 q218; cases e218; replace hx218_0 := zx HB.out hx218_0; replace p218 := eq_true p218; replace q218 := eq_true q218; have p219 : 0 ≤ (t217 : Int) := zd; have q219 : t217 < ((rd_L4 l0_3 a1).length : Int) := zd; obtain ⟨ad219, e219, hx219_0⟩ := Kd.at_int HR205_0.out t217 p219 q219; obtain rfl : ad218 = ad219 := (by injection e219); replace hx219_0 := zx HB.out hx219_0; replace p219 := eq_true p219; replace q219 := eq_true q219; have p220 : 0 ≤ (x8_2 : Int) := zd; have q220 : x8_2 < ((rd_L4 l0_3 a1).length : Int) := zd; obtain ⟨ad220, e220, hx220_0⟩ := Kd.at_int HR205_0.out x8_2 p220 q220; obtain rfl : ad218 = ad220 := (by injection e220); replace hx220_0 := zx HB.out hx220_0; replace p220 := eq_true p220; replace q220 := eq_true q220))
                           repeat (go_quiet (first | (go_at_call 70; (with_reducible refine (spec_l4to.calls a0_0 a0_1 x8_2 (rd (rd_L4 l0_4 a1) x8_2) t217 _ A40.out).mono ?_); rintro e w' ⟨rfl, ⟨nd, rfl⟩⟩; (try first | exact ⟨rfl, _, World.drewN_drewN _ _ _⟩ | exact ⟨rfl, _, Eq.trans (World.drewN_drewN _ _ _) (congrArg (World.drewN _) (Nat.add_assoc _ _ _))⟩); have p218 : 0 ≤ (t217 : Int) := zd; have q218 : t217 < ((rd_L4 l0_3 a1).length : Int) := zd; obtain ⟨ad218, e218, hx218_0⟩ := Kd.at_int HR205_0.out t217 p218 q218; cases e218; replace hx218_0 := zx HB.out hx218_0; replace p218 := eq_true p218; replace q218 := eq_true q218; have p219 : 0 ≤ (t217 : Int) := zd; have q219 : t217 < ((rd_L4 l0_3 a1).length : Int) := zd; obtain ⟨ad219, e219, hx219_0⟩ := Kd.at_int HR205_0.out t217 p219 q219; obtain rfl : ad218 = ad219 := (by injection e219); replace hx219_0 := zx HB.out hx219_0; replace p219 := eq_true p219; replace q219 := eq_true q219; have p220 : 0 ≤ (x8_2 : Int) := zd; have q220 : x8_2 < ((rd_L4 l0_3 a1).length : Int) := zd; obtain ⟨ad220, e220, hx220_0⟩ := Kd.at_int HR205_0.out x8_2 p220 q220; obtain rfl : ad218 = ad220 := (by injection e220); replace hx220_0 := zx HB.out hx220_0; replace p220 := eq_true p220; replace q220 := eq_true q220)); try go_wp2_with (first | (go_at_call 70; (with_reducible refine (spec_l4to.calls a0_0 a0_1 x8_2 (rd (rd_L4 l0_4 a1) x8_2) t217 _ A40.out).mono ?_); rintro e w' ⟨rfl, ⟨nd, rfl⟩⟩; (try first | exact ⟨rfl, _, World.drewN_drewN _ _ _⟩ | exact ⟨rfl, _, Eq.trans (World.drewN_drewN _ _ _) (congrArg (World.drewN _) (Nat.add_assoc _ _ _))⟩); have p218 : 0 ≤ (t217 : Int) := zd; have q218 : t217 < ((rd_L4 l0_3 a1).length : Int) := zd; obtain ⟨ad218, e218, hx218_0⟩ := Kd.at_int HR205_0.out t217 p218 q218; cases e218; replace hx218_0 := zx HB.out hx218_0; replace p218 := eq_true p218; replace q218 := eq_true q218; have p219 : 0 ≤ (t217 : Int) := zd; have q219 : t217 < ((rd_L4 l0_3 a1).length : Int) := zd; obtain ⟨ad219, e219, hx219_0⟩ := Kd.at_int HR205_0.out t217 p219 q219; obtain rfl : ad218 = ad219 := (by injection e219); replace hx219_0 := zx HB.out hx219_0; replace p219 := eq_true p219; replace q219 := eq_true q219; have p220 : 0 ≤ (x8_2 : Int) := zd; have q220 : x8_2 < ((rd_L4 l0_3 a1).length : Int) := zd; obtain ⟨ad220, e220, hx220_0⟩ := Kd.at_int HR205_0.out x8_2 p220 q220; obtain rfl : ad218 = ad220 := (by injection e220); replace hx220_0 := zx HB.out hx220_0; replace p220 := eq_true p220; replace q220 := eq_true q220)))
                           go_ret
                           exact ⟨ze, (zs GE204.out)⟩
                          ·rw [if_neg c48] at H
                           have c48b0 : decide ((rd (rd_L4 l0_3 a1) x8_2) ≤ (rd (rd_L4 l0_3 a1) t217)) = false := decide_eq_false c48
                           clear c48
                           have H' := zA H
                           clear H
                           obtain ⟨hcz50_0, hcz50_1, hcz50_2, hcz50_3, hcz50_4, hfz50_0, hfz50_1, hfz50_2, hfz50_3, hfz50_4⟩ := zh5 BK204.out
                           have p216 : 0 ≤ (x8_2 : Int) := zd
                           have q216 : x8_2 < ((rd_L4 l0_4 a1).length : Int) := zd
                           obtain ⟨ad216, e216, hx216_0⟩ := Kd.at_int HR206_0.out x8_2 p216 q216
                           cases e216
                           replace hx216_0 := zx HB.out hx216_0
                           replace p216 := eq_true p216
                           replace q216 := eq_true q216
                           go_wp2_with (first | (go_at_call 70; (with_reducible refine (spec_l4to.calls a0_0 a0_1 x8_2 (rd (rd_L4 l0_4 a1) x8_2) t217 _ A40.out).mono ?_); rintro e w' ⟨rfl, ⟨nd, rfl⟩⟩; (try first | exact ⟨rfl, _, World.drewN_drewN _ _ _⟩ | exact ⟨rfl, _, Eq.trans (World.drewN_drewN _ _ _) (congrArg (World.drewN _) (Nat.add_assoc _ _ _))⟩); have p218 : 0 ≤ (t217 : Int) := zd; have q218 : t217 < ((rd_L4 l0_3 a1).length : Int) := zd; obtain ⟨ad218, e218, hx218_0⟩ := Kd.at_int HR205_0.out t217 p218 q218; cases e218; replace hx218_0 := zx HB.out hx218_0; replace p218 := eq_true p218; replace q218 := eq_true q218; have p219 : 0 ≤ (t217 : Int) := zd; have q219 : t217 < ((rd_L4 l0_3 a1).length : Int) := zd; obtain ⟨ad219, e219, hx219_0⟩ := Kd.at_int HR205_0.out t217 p219 q219; obtain rfl : ad218 = ad219 := (by injection e219); replace hx219_0 := zx HB.out hx219_0; replace p219 := eq_true p219; replace q219 := eq_true q219; have p220 : 0 ≤ (x8_2 : Int) := zd; have q220 : x8_2 < ((rd_L4 l0_3 a1).length : Int) := zd; obtain ⟨ad220, e220, hx220_0⟩ := Kd.at_int HR205_0.out x8_2 p220 q220; obtain rfl : ad218 = ad220 := (by injection e220); replace hx220_0 := zx HB.out hx220_0; replace p220 := eq_true p220; replace q220 := eq_true q220))
                           repeat (go_quiet (first | (go_at_call 70; (with_reducible refine (spec_l4to.calls a0_0 a0_1 x8_2 (rd (rd_L4 l0_4 a1) x8_2) t217 _ A40.out).mono ?_); rintro e w' ⟨rfl, ⟨nd, rfl⟩⟩; (try first | exact ⟨rfl, _, World.drewN_drewN _ _ _⟩ | exact ⟨rfl, _, Eq.trans (World.drewN_drewN _ _ _) (congrArg (World.drewN _) (Nat.add_assoc _ _ _))⟩); have p218 : 0 ≤ (t217 : Int) := zd; have q218 : t217 < ((rd_L4 l0_3 a1).length : Int) := zd; obtain ⟨ad218, e218, hx218_0⟩ := Kd.at_int HR205_0.out t217 p218 q218; cases e218; replace hx218_0 := zx HB.out hx218_0; replace p218 := eq_true p218; replace q218 := eq_true q218; have p219 : 0 ≤ (t217 : Int) := zd; have q219 : t217 < ((rd_L4 l0_3 a1).length : Int) := zd; obtain ⟨ad219, e219, hx219_0⟩ := Kd.at_int HR205_0.out t217 p219 q219; obtain rfl : ad218 = ad219 := (by injection e219); replace hx219_0 := zx HB.out hx219_0; replace p219 := eq_true p219; replace q219 := eq_true q219; have p220 : 0 ≤ (x8_2 : Int) := zd; have q220 : x8_2 < ((rd_L4 l0_3 a1).length : Int) := zd; obtain ⟨ad220, e220, hx220_0⟩ := Kd.at_int HR205_0.out x8_2 p220 q220; obtain rfl : ad218 = ad220 := (by injection e220); replace hx220_0 := zx HB.out hx220_0; replace p220 := eq_true p220; replace q220 := eq_true q220)); try go_wp2_with (first | (go_at_call 70; (with_reducible refine (spec_l4to.calls a0_0 a0_1 x8_2 (rd (rd_L4 l0_4 a1) x8_2) t217 _ A40.out).mono ?_); rintro e w' ⟨rfl, ⟨nd, rfl⟩⟩; (try first | exact ⟨rfl, _, World.drewN_drewN _ _ _⟩ | exact ⟨rfl, _, Eq.trans (World.drewN_drewN _ _ _) (congrArg (World.drewN _) (Nat.add_assoc _ _ _))⟩); have p218 : 0 ≤ (t217 : Int) := zd; have q218 : t217 < ((rd_L4 l0_3 a1).length : Int) := zd; obtain ⟨ad218, e218, hx218_0⟩ := Kd.at_int HR205_0.out t217 p218 q218; cases e218; replace hx218_0 := zx HB.out hx218_0; replace p218 := eq_true p218; replace q218 := eq_true q218; have p219 : 0 ≤ (t217 : Int) := zd; have q219 : t217 < ((rd_L4 l0_3 a1).length : Int) := zd; obtain ⟨ad219, e219, hx219_0⟩ := Kd.at_int HR205_0.out t217 p219 q219; obtain rfl : ad218 = ad219 := (by injection e219); replace hx219_0 := zx HB.out hx219_0; replace p219 := eq_true p219; replace q219 := eq_true q219; have p220 : 0 ≤ (x8_2 : Int) := zd; have q220 : x8_2 < ((rd_L4 l0_3 a1).length : Int) := zd; obtain ⟨ad220, e220, hx220_0⟩ := Kd.at_int HR205_0.out x8_2 p220 q220; obtain rfl : ad218 = ad220 := (by injection e220); replace hx220_0 := zx HB.out hx220_0; replace p220 := eq_true p220; replace q220 := eq_true q220)))
                           go_roundg kj29
                           case measure => have := HJ5.out; have := HK2.out; have := HJ22.out; have := HJ29.out; omega
                           case rel => exact ⟨(wrap64 (x8_2 + 1)), zr, H', ⟨by have := HJ5.out; have := HK2.out; have := HJ22.out; have := HJ29.out; omega⟩, ⟨zb BK204.out⟩, ⟨zs GE204.out⟩⟩
                         ·rw [if_neg c47] at H
                          exact absurd H (by simp)
                       ·rw [if_neg c44] at H
                        exact absurd H (by simp)
                      ·rw [if_neg c43] at H
                       exact absurd H (by simp)
                    ·rw [if_neg c39] at H
                     exact absurd H (by simp)
                   ·rw [if_neg c38] at H
                    exact absurd H (by simp)
           ·rw [if_neg c13] at H
            exact absurd H (by simp)
          ·rw [if_neg c12] at H
           exact absurd H (by simp)
         ·rw [if_neg c11] at H
          have c11b0 : decide (x8_2 < (wrap64 (a0_0 * a0_1))) = false := decide_eq_false c11
          clear c11
          obtain rfl := Option.some.inj H
          go_wp2
          repeat (go_quiet (fail); try go_wp2)
          go_ret
          exact ⟨ze, (zs GE204.out)⟩
   ·rw [if_neg c5] at H
    exact absurd H (by simp)
  ·rw [if_neg c4] at H
   exact absurd H (by simp)
 ·rw [if_neg c3] at H
  exact absurd H (by simp)

end Go.Proofs.YthbeplmihjhoeaaDoor.PFnExactEncodeImage
