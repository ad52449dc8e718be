-- made by wip/tools/myprint.py (this session's own program, over the kit's printer)
import Derived.Test.YthbeplmihjhoeaaDoorPFnExactBuildGraphx0
import Derived.Test.YthbeplmihjhoeaaDoorPFnExactBuildGraphx1
import Derived.Test.YthbeplmihjhoeaaDoorPFnExactBuildGraphx3
namespace Go.Proofs.YthbeplmihjhoeaaDoor.PFnExactBuildGraph
open Go.RowKit Go.Proofs.YthbeplmihjhoeaaDoorW.PrintWords Go.Proofs.YthbeplmihjhoeaaDoorW.PrintLast Go.Proofs.YthbeplmihjhoeaaDoorW.PrintMore
attribute [local go_sem] max2_int min2_int max_two min_two max_three min_three max_four min_four   -- for this text's walks alone
set_option linter.unusedVariables false
set_option linter.unusedSimpArgs false

/-! ### spec_ValidLayout: function 68 -/
mutual
def spec_ValidLayout.j0 : Nat → Bool → Int → Int → List Int → List Int → List (S120) → Option (Bool)
 | 0, _, _, _, _, _, _ => none
 | k + 1, x26, x140000, x140001, x140002, x140003, x140004 => if x26 = true then (some false) else (if (x140002.length : Int) = (wrap64 (x140000 * x140001)) then (if (x140003.length : Int) = (wrap64 (x140000 * x140001)) then ((spec_l4targetsOK.f k x140004 (wrap64 (x140000 * x140001))).bind fun t140 => (spec_ValidLayout.j1 k (wrap64 (x140000 * x140001)) (!t140) x140000 x140001 x140002 x140003 x140004)) else (spec_ValidLayout.j1 k (wrap64 (x140000 * x140001)) true x140000 x140001 x140002 x140003 x140004)) else (spec_ValidLayout.j1 k (wrap64 (x140000 * x140001)) true x140000 x140001 x140002 x140003 x140004))
def spec_ValidLayout.j1 : Nat → Int → Bool → Int → Int → List Int → List Int → List (S120) → Option (Bool)
 | 0, _, _, _, _, _, _, _ => none
 | k + 1, x3, x50, x140000, x140001, x140002, x140003, x140004 => if x50 = true then (some false) else (spec_ValidLayout.l0 k x3 0 x140000 x140001 x140002 x140003 x140004)
def spec_ValidLayout.l0 : Nat → Int → Int → Int → Int → List Int → List Int → List (S120) → Option (Bool)
 | 0, _, _, _, _, _, _, _ => none
 | k + 1, x3, x4, x140000, x140001, x140002, x140003, x140004 => if x4 < x3 then (if 0 ≤ x4 then (if x4 < (x140002.length : Int) then (if (rd x140002 x4) < 0 then (spec_ValidLayout.j3 k x3 x4 true x140000 x140001 x140002 x140003 x140004) else (if (rd x140002 x4) > 9 then (spec_ValidLayout.j3 k x3 x4 true x140000 x140001 x140002 x140003 x140004) else (if x4 < (x140003.length : Int) then (if (rd x140003 x4) < 0 then (spec_ValidLayout.j3 k x3 x4 true x140000 x140001 x140002 x140003 x140004) else (if (rd x140003 x4) > 15 then (spec_ValidLayout.j3 k x3 x4 true x140000 x140001 x140002 x140003 x140004) else (if (rd x140002 x4) = 0 then (spec_ValidLayout.j3 k x3 x4 ((rd x140003 x4) != 0) x140000 x140001 x140002 x140003 x140004) else (spec_ValidLayout.j3 k x3 x4 false x140000 x140001 x140002 x140003 x140004)))) else (none)))) else (none)) else (none)) else (spec_ValidLayout.l2 k 0 x140000 x140001 x140002 x140003 x140004)
def spec_ValidLayout.j3 : Nat → Int → Int → Bool → Int → Int → List Int → List Int → List (S120) → Option (Bool)
 | 0, _, _, _, _, _, _, _, _ => none
 | k + 1, x3, x4, x101, x140000, x140001, x140002, x140003, x140004 => if x101 = true then (some false) else (if 0 ≤ x4 then (if x4 < (x140003.length : Int) then ((spec_l4bits.f k (rd x140003 x4)).bind fun t148 => (spec_ValidLayout.l1 k x3 x4 t148 0 x140000 x140001 x140002 x140003 x140004)) else (none)) else (none))
def spec_ValidLayout.l1 : Nat → Int → Int → List Bool → Int → Int → Int → List Int → List Int → List (S120) → Option (Bool)
 | 0, _, _, _, _, _, _, _, _, _ => none
 | k + 1, x3, x4, x5, x6, x140000, x140001, x140002, x140003, x140004 => if x6 < 4 then ((spec_l4to.f x140000 x140001 x4 x6).bind fun t151 => (if 0 ≤ x6 then (if x6 < (x5.length : Int) then (if rdOf false x5 x6 = true then (if t151 < 0 then (some false) else (if 0 ≤ t151 then (if t151 < (x140002.length : Int) then (if (rd x140002 t151) = 0 then (some false) else (spec_ValidLayout.l1 k x3 x4 x5 (wrap64 (x6 + 1)) x140000 x140001 x140002 x140003 x140004)) else (none)) else (none))) else (spec_ValidLayout.l1 k x3 x4 x5 (wrap64 (x6 + 1)) x140000 x140001 x140002 x140003 x140004)) else (none)) else (none))) else (spec_ValidLayout.l0 k x3 (wrap64 (x4 + 1)) x140000 x140001 x140002 x140003 x140004)
def spec_ValidLayout.l2 : Nat → Int → Int → Int → List Int → List Int → List (S120) → Option (Bool)
 | 0, _, _, _, _, _, _ => none
 | k + 1, x8, x140000, x140001, x140002, x140003, x140004 => if x8 < (x140004.length : Int) then (if 0 ≤ x8 then (if 0 ≤ ((rd_T120 x140004 x8).f2) then (if ((rd_T120 x140004 x8).f2) < (x140002.length : Int) then (if (rd x140002 ((rd_T120 x140004 x8).f2)) = 0 then (some false) else (spec_ValidLayout.l2 k (wrap64 (x8 + 1)) x140000 x140001 x140002 x140003 x140004)) else (none)) else (none)) else (none)) else (some true)
end
def spec_ValidLayout.f (k : Nat) (a0_0 : Int) (a0_1 : Int) (l0_2 : List Int) (l0_3 : List Int) (l0_4 : List (S120)) : Option (Bool) := if a0_0 < 1 then (spec_ValidLayout.j0 k true a0_0 a0_1 l0_2 l0_3 l0_4) else (if a0_0 > 40 then (spec_ValidLayout.j0 k true a0_0 a0_1 l0_2 l0_3 l0_4) else (if a0_1 < 1 then (spec_ValidLayout.j0 k true a0_0 a0_1 l0_2 l0_3 l0_4) else (spec_ValidLayout.j0 k (decide (a0_1 > 40)) a0_0 a0_1 l0_2 l0_3 l0_4)))
theorem spec_ValidLayout.mono_l : ∀ k, (∀ y0 y1 y2 y3 y4 y5, LeO (spec_ValidLayout.j0 k y0 y1 y2 y3 y4 y5) (spec_ValidLayout.j0 (k + 1) y0 y1 y2 y3 y4 y5)) ∧ (∀ y0 y1 y2 y3 y4 y5 y6, LeO (spec_ValidLayout.j1 k y0 y1 y2 y3 y4 y5 y6) (spec_ValidLayout.j1 (k + 1) y0 y1 y2 y3 y4 y5 y6)) ∧ (∀ y0 y1 y2 y3 y4 y5 y6, LeO (spec_ValidLayout.l0 k y0 y1 y2 y3 y4 y5 y6) (spec_ValidLayout.l0 (k + 1) y0 y1 y2 y3 y4 y5 y6)) ∧ (∀ y0 y1 y2 y3 y4 y5 y6 y7, LeO (spec_ValidLayout.j3 k y0 y1 y2 y3 y4 y5 y6 y7) (spec_ValidLayout.j3 (k + 1) y0 y1 y2 y3 y4 y5 y6 y7)) ∧ (∀ y0 y1 y2 y3 y4 y5 y6 y7 y8, LeO (spec_ValidLayout.l1 k y0 y1 y2 y3 y4 y5 y6 y7 y8) (spec_ValidLayout.l1 (k + 1) y0 y1 y2 y3 y4 y5 y6 y7 y8)) ∧ (∀ y0 y1 y2 y3 y4 y5, LeO (spec_ValidLayout.l2 k y0 y1 y2 y3 y4 y5) (spec_ValidLayout.l2 (k + 1) y0 y1 y2 y3 y4 y5))
 | 0 => ⟨fun _ _ _ _ _ _ r h => by simp [spec_ValidLayout.j0] at h, fun _ _ _ _ _ _ _ r h => by simp [spec_ValidLayout.j1] at h, fun _ _ _ _ _ _ _ r h => by simp [spec_ValidLayout.l0] at h, fun _ _ _ _ _ _ _ _ r h => by simp [spec_ValidLayout.j3] at h, fun _ _ _ _ _ _ _ _ _ r h => by simp [spec_ValidLayout.l1] at h, fun _ _ _ _ _ _ r h => by simp [spec_ValidLayout.l2] at h⟩
 | k + 1 => by
  obtain ⟨ih0, ih1, ih2, ih3, ih4, ih5⟩ := spec_ValidLayout.mono_l k
  refine ⟨?_, ?_, ?_, ?_, ?_, ?_⟩
  ·intro y0 y1 y2 y3 y4 y5
   unfold spec_ValidLayout.j0
   have m1 := @spec_l4bits.mono
   have m2 := @spec_l4targetsOK.mono
   exact zm
  ·intro y0 y1 y2 y3 y4 y5 y6
   unfold spec_ValidLayout.j1
   have m1 := @spec_l4bits.mono
   have m2 := @spec_l4targetsOK.mono
   exact zm
  ·intro y0 y1 y2 y3 y4 y5 y6
   unfold spec_ValidLayout.l0
   have m1 := @spec_l4bits.mono
   have m2 := @spec_l4targetsOK.mono
   exact zm
  ·intro y0 y1 y2 y3 y4 y5 y6 y7
   unfold spec_ValidLayout.j3
   have m1 := @spec_l4bits.mono
   have m2 := @spec_l4targetsOK.mono
   exact zm
  ·intro y0 y1 y2 y3 y4 y5 y6 y7 y8
   unfold spec_ValidLayout.l1
   have m1 := @spec_l4bits.mono
   have m2 := @spec_l4targetsOK.mono
   exact zm
  ·intro y0 y1 y2 y3 y4 y5
   unfold spec_ValidLayout.l2
   have m1 := @spec_l4bits.mono
   have m2 := @spec_l4targetsOK.mono
   exact zm
theorem spec_ValidLayout.mono : ∀ a0 a1 a2 a3 a4 k, LeO (spec_ValidLayout.f k a0 a1 a2 a3 a4) (spec_ValidLayout.f (k + 1) a0 a1 a2 a3 a4) := by
 intro a0 a1 a2 a3 a4 k
 obtain ⟨ih0, ih1, ih2, ih3, ih4, ih5⟩ := spec_ValidLayout.mono_l k
 unfold spec_ValidLayout.f
 have m1 := @spec_l4bits.mono
 have m2 := @spec_l4targetsOK.mono
 exact zm
set_option maxHeartbeats 8000000 in
set_option maxRecDepth 100000 in
theorem spec_ValidLayout.calls (k : Nat) (a0_0 : Int) (a0_1 : Int) (A0_2 : Option Addr) (c0_2 : Nat) (l0_2 : List Int) (A0_3 : Option Addr) (c0_3 : Nat) (l0_3 : List Int) (A0_4 : Option Addr) (c0_4 : Nat) (l0_4 : List (S120)) (r : Bool) (w : World) (hr0_2 : Kd.C (Kd.int .i64) w A0_2 l0_2.length l0_2) (hc0_2 : l0_2.length ≤ c0_2) (hr0_3 : Kd.C (Kd.int .i64) w A0_3 l0_3.length l0_3) (hc0_3 : l0_3.length ≤ c0_3) (hr0_4 : Kd.C k120 w A0_4 l0_4.length l0_4) (hc0_4 : l0_4.length ≤ c0_4) (h : spec_ValidLayout.f k a0_0 a0_1 l0_2 l0_3 l0_4 = some r) :
  Calls Tryd.prog 68 #[.agg #[.int .i64 a0_0, .int .i64 a0_1, .slice A0_2 l0_2.length c0_2, .slice A0_3 l0_3.length c0_3, .slice A0_4 l0_4.length c0_4]] w fun e w' => e = .returned (.bool r) ∧ Below w.heap.size w w' := by
 have hu33 := Tryd.underlying33
 have HR0_2 := zA hr0_2
 have HC0_2 := zA hc0_2
 clear hr0_2 hc0_2
 have HR0_3 := zA hr0_3
 have HC0_3 := zA hc0_3
 clear hr0_3 hc0_3
 have HR0_4 := zA hr0_4
 have HC0_4 := zA hc0_4
 clear hr0_4 hc0_4
 have HB := zA (Below.refl w.heap.size w)
 have H : (if a0_0 < 1 then (spec_ValidLayout.j0 k true a0_0 a0_1 l0_2 l0_3 l0_4) else (if a0_0 > 40 then (spec_ValidLayout.j0 k true a0_0 a0_1 l0_2 l0_3 l0_4) else (if a0_1 < 1 then (spec_ValidLayout.j0 k true a0_0 a0_1 l0_2 l0_3 l0_4) else (spec_ValidLayout.j0 k (decide (a0_1 > 40)) a0_0 a0_1 l0_2 l0_3 l0_4)))) = some r := h
 clear h
 have HC2 := zA H
 clear H
 go_enter Tryd.func68, Tryd.ntmps68
 go_upto_region 1 with (first | ((with_reducible refine gate_dst (N := 1) rfl ?_); (try (refine gate_guard (by rfl) ?_; dsimp only)); refine box_event ?hg (N := 1) ?hd (cs := #[.int .i64 a0_0, .int .i64 a0_1, .slice A0_2 l0_2.length c0_2, .slice A0_3 l0_3.length c0_3, .slice A0_4 l0_4.length c0_4]) (t := 33) ?hr ?_; (case hd => rfl); (case hg => rfl); (case hr => first | (go_simp; done) | (go_simp; rfl)); intro gb139 hg w3 hbox hb; have n0_ := zA (below_step z_ hb); have n1_ := zA (hbox); have n2_ := zA ((by rw [hg]; exact (below_size z_) : w.heap.size ≤ gb139)); have n3_ := zA ((by rw [hg]; exact (below_size z_) : w.heap.size ≤ gb139)); clear HB; have HB := n0_; have BK139 := n1_; have GW139 := n2_; have GE139 := n3_; clear n0_ n1_ n2_ n3_; clear hb hbox hg))
 repeat (go_quiet (first | ((with_reducible refine gate_dst (N := 1) rfl ?_); (try (refine gate_guard (by rfl) ?_; dsimp only)); refine box_event ?hg (N := 1) ?hd (cs := #[.int .i64 a0_0, .int .i64 a0_1, .slice A0_2 l0_2.length c0_2, .slice A0_3 l0_3.length c0_3, .slice A0_4 l0_4.length c0_4]) (t := 33) ?hr ?_; (case hd => rfl); (case hg => rfl); (case hr => first | (go_simp; done) | (go_simp; rfl)); intro gb139 hg w3 hbox hb; have n0_ := zA (below_step z_ hb); have n1_ := zA (hbox); have n2_ := zA ((by rw [hg]; exact (below_size z_) : w.heap.size ≤ gb139)); have n3_ := zA ((by rw [hg]; exact (below_size z_) : w.heap.size ≤ gb139)); clear HB; have HB := n0_; have BK139 := n1_; have GW139 := n2_; have GE139 := n3_; clear n0_ n1_ n2_ n3_; clear hb hbox hg)); go_upto_region 1 with (first | ((with_reducible refine gate_dst (N := 1) rfl ?_); (try (refine gate_guard (by rfl) ?_; dsimp only)); refine box_event ?hg (N := 1) ?hd (cs := #[.int .i64 a0_0, .int .i64 a0_1, .slice A0_2 l0_2.length c0_2, .slice A0_3 l0_3.length c0_3, .slice A0_4 l0_4.length c0_4]) (t := 33) ?hr ?_; (case hd => rfl); (case hg => rfl); (case hr => first | (go_simp; done) | (go_simp; rfl)); intro gb139 hg w3 hbox hb; have n0_ := zA (below_step z_ hb); have n1_ := zA (hbox); have n2_ := zA ((by rw [hg]; exact (below_size z_) : w.heap.size ≤ gb139)); have n3_ := zA ((by rw [hg]; exact (below_size z_) : w.heap.size ≤ gb139)); clear HB; have HB := n0_; have BK139 := n1_; have GW139 := n2_; have GE139 := n3_; clear n0_ n1_ n2_ n3_; clear hb hbox hg)))
 (try simp only [Act.put, List.setIfInBounds_toArray, List.set_cons_zero, List.set_cons_succ])
 go_cut [26] (fun v26 wc => ∃ (kq : Nat) (x26_1 : Bool), v26 = .bool x26_1 ∧ Aside0 (spec_ValidLayout.j0 kq x26_1 a0_0 a0_1 l0_2 l0_3 l0_4 = some r) ∧ Aside0 (kq ≤ k) ∧ Aside0 (wc.heap[gb139]? = some (.cells #[.int .i64 a0_0, .int .i64 a0_1, (.slice A0_2 l0_2.length c0_2), (.slice A0_3 l0_3.length c0_3), (.slice A0_4 l0_4.length c0_4)] 33 (0, 0))) ∧ Aside0 (Below w.heap.size w wc))
 case first =>
  have H := HC2.out
  clear HC2
  by_cases c4 : a0_0 < 1
  ·rw [if_pos c4] at H
   have c4b0 : decide (a0_0 < 1) = true := decide_eq_true c4
   clear c4
   (first | rw [c4b0] | (simp only [i64_w, i32_w]; rw [c4b0]) | skip)
   have H' := zA H
   clear H
   obtain ⟨hcz5_0, hcz5_1, hcz5_2, hcz5_3, hcz5_4, hfz5_0, hfz5_1, hfz5_2, hfz5_3, hfz5_4⟩ := zh5 BK139.out
   go_wp2
   repeat (go_quiet (fail); try go_wp2)
   go_meet
   case rel => exact ⟨_, (true), zr, H', ⟨by first | omega | exact Nat.le_refl _⟩, ⟨zb BK139.out⟩, ⟨zs GE139.out⟩⟩
  ·rw [if_neg c4] at H
   have c4b0 : decide (a0_0 < 1) = false := decide_eq_false c4
   clear c4
   (first | rw [c4b0] | (simp only [i64_w, i32_w]; rw [c4b0]) | skip)
   by_cases c6 : a0_0 > 40
   ·rw [if_pos c6] at H
    have c6b0 : decide (40 < a0_0) = true := decide_eq_true c6
    clear c6
    have H' := zA H
    clear H
    obtain ⟨hcz7_0, hcz7_1, hcz7_2, hcz7_3, hcz7_4, hfz7_0, hfz7_1, hfz7_2, hfz7_3, hfz7_4⟩ := zh5 BK139.out
    go_wp2
    repeat (go_quiet (fail); try go_wp2)
    go_meet
    case rel => exact ⟨_, (true), zr, H', ⟨by first | omega | exact Nat.le_refl _⟩, ⟨zb BK139.out⟩, ⟨zs GE139.out⟩⟩
   ·rw [if_neg c6] at H
    have c6b0 : decide (40 < a0_0) = false := decide_eq_false c6
    clear c6
    by_cases c8 : a0_1 < 1
    ·rw [if_pos c8] at H
     have c8b0 : decide (a0_1 < 1) = true := decide_eq_true c8
     clear c8
     have H' := zA H
     clear H
     obtain ⟨hcz9_0, hcz9_1, hcz9_2, hcz9_3, hcz9_4, hfz9_0, hfz9_1, hfz9_2, hfz9_3, hfz9_4⟩ := zh5 BK139.out
     go_wp2
     repeat (go_quiet (fail); try go_wp2)
     go_meet
     case rel => exact ⟨_, (true), zr, H', ⟨by first | omega | exact Nat.le_refl _⟩, ⟨zb BK139.out⟩, ⟨zs GE139.out⟩⟩
    ·rw [if_neg c8] at H
     have c8b0 : decide (a0_1 < 1) = false := decide_eq_false c8
     clear c8
     have H' := zA H
     clear H
     obtain ⟨hcz10_0, hcz10_1, hcz10_2, hcz10_3, hcz10_4, hfz10_0, hfz10_1, hfz10_2, hfz10_3, hfz10_4⟩ := zh5 BK139.out
     go_wp2
     repeat (go_quiet (fail); try go_wp2)
     go_meet
     case rel => exact ⟨_, (decide (a0_1 > 40)), zr, H', ⟨by first | omega | exact Nat.le_refl _⟩, ⟨zb BK139.out⟩, ⟨zs GE139.out⟩⟩
 case rest =>
  clear HC2
  (try clear p2); (try clear c4); (try clear c4b0); (try clear c6); (try clear c6b0); (try clear c8); (try clear c8b0); (try clear hcz10_0 hcz10_1 hcz10_2 hcz10_3 hcz10_4); (try clear hcz5_0 hcz5_1 hcz5_2 hcz5_3 hcz5_4); (try clear hcz7_0 hcz7_1 hcz7_2 hcz7_3 hcz7_4); (try clear hcz9_0 hcz9_1 hcz9_2 hcz9_3 hcz9_4); (try clear hfz10_0 hfz10_1 hfz10_2 hfz10_3 hfz10_4); (try clear hfz5_0 hfz5_1 hfz5_2 hfz5_3 hfz5_4); (try clear hfz7_0 hfz7_1 hfz7_2 hfz7_3 hfz7_4); (try clear hfz9_0 hfz9_1 hfz9_2 hfz9_3 hfz9_4)
  obtain ⟨kq, x26_1, rfl, HA, HJ1, BK139, HB⟩ := hcut
  cases kq with
  | zero => exact absurd HA.out (by simp [spec_ValidLayout.j0])
  | succ kj1 =>
   have H := HA.out
   clear HA
   simp only [spec_ValidLayout.j0] at H
   by_cases c11 : x26_1 = true
   ·subst c11
    have H1 : (some false) = some r := by rw [if_pos rfl] at H; exact H
    clear H
    have H := H1
    clear H1
    obtain rfl := Option.some.inj H
    go_wp2
    repeat (go_quiet (fail); try go_wp2)
    go_ret
    exact ⟨ze, (zs GE139.out)⟩
   ·replace c11 := Bool.eq_false_iff.mpr c11
    subst c11
    have H1 : (if (l0_2.length : Int) = (wrap64 (a0_0 * a0_1)) then (if (l0_3.length : Int) = (wrap64 (a0_0 * a0_1)) then ((spec_l4targetsOK.f kj1 l0_4 (wrap64 (a0_0 * a0_1))).bind fun t140 => (spec_ValidLayout.j1 kj1 (wrap64 (a0_0 * a0_1)) (!t140) a0_0 a0_1 l0_2 l0_3 l0_4)) else (spec_ValidLayout.j1 kj1 (wrap64 (a0_0 * a0_1)) true a0_0 a0_1 l0_2 l0_3 l0_4)) else (spec_ValidLayout.j1 kj1 (wrap64 (a0_0 * a0_1)) true a0_0 a0_1 l0_2 l0_3 l0_4)) = some r := by rw [if_neg (show ¬ (false = true) by decide)] at H; exact H
    clear H
    have H := H1
    clear H1
    have HC12 := zA H
    clear H
    obtain ⟨hcz13_0, hcz13_1, hcz13_2, hcz13_3, hcz13_4, hfz13_0, hfz13_1, hfz13_2, hfz13_3, hfz13_4⟩ := zh5 BK139.out
    go_upto_region 4 with (fail)
    repeat (go_quiet (fail); go_upto_region 4 with (fail))
    go_cut [50] (fun v50 wc => ∃ (kq : Nat) (x50_11 : Bool), v50 = .bool x50_11 ∧ Aside0 (spec_ValidLayout.j1 kq (wrap64 (a0_0 * a0_1)) x50_11 a0_0 a0_1 l0_2 l0_3 l0_4 = some r) ∧ Aside0 (kq ≤ kj1) ∧ Aside0 (wc.heap[gb139]? = some (.cells #[.int .i64 a0_0, .int .i64 a0_1, (.slice A0_2 l0_2.length c0_2), (.slice A0_3 l0_3.length c0_3), (.slice A0_4 l0_4.length c0_4)] 33 (0, 0))) ∧ Aside0 (Below w.heap.size w wc))
    case first =>
     have H := HC12.out
     clear HC12
     by_cases c14 : (l0_2.length : Int) = (wrap64 (a0_0 * a0_1))
     ·rw [if_pos c14] at H
      have c14b0 : ((l0_2.length : Int) == (wrap64 (a0_0 * a0_1))) = true := beq_iff_eq.mpr c14
      have c14b1 : ((l0_2.length : Int) != (wrap64 (a0_0 * a0_1))) = false := bne_eq_false_iff_eq.mpr c14
      clear c14
      (first | rw [c14b0] | (simp only [i64_w, i32_w]; rw [c14b0]) | skip)
      by_cases c15 : (l0_3.length : Int) = (wrap64 (a0_0 * a0_1))
      ·rw [if_pos c15] at H
       have c15b0 : ((l0_3.length : Int) == (wrap64 (a0_0 * a0_1))) = true := beq_iff_eq.mpr c15
       have c15b1 : ((l0_3.length : Int) != (wrap64 (a0_0 * a0_1))) = false := bne_eq_false_iff_eq.mpr c15
       clear c15
       replace H := Option.bind_eq_some_iff.mp H
       obtain ⟨t140, A160, H⟩ := H
       replace H : (spec_ValidLayout.j1 kj1 (wrap64 (a0_0 * a0_1)) (!t140) a0_0 a0_1 l0_2 l0_3 l0_4) = some r := H
       have A16 := zA A160
       clear A160
       have H' := zA H
       clear H
       obtain ⟨hcz17_0, hcz17_1, hcz17_2, hcz17_3, hcz17_4, hfz17_0, hfz17_1, hfz17_2, hfz17_3, hfz17_4⟩ := zh5 BK139.out
       go_wp2_with (first | (go_at_call 136; (with_reducible refine (spec_l4targetsOK.calls kj1 _ _ l0_4 (wrap64 (a0_0 * a0_1)) t140 _ ?side1 ?side2 A16.out).mono ?_); (case side1 => exact zc (Kd.C_below HR0_4.out HB.out)); (case side2 => exact HC0_4.out); rintro e w18 ⟨rfl, hb⟩; have n0_ := zA (zB BK139.out hb); have n1_ := zA (below_step (zs GE139.out) hb); clear BK139 HB; have BK139 := n0_; have HB := n1_; clear n0_ n1_; (try clear hb); (try clear hb2); (try clear hk); (try clear hi)))
       repeat (go_quiet (first | (go_at_call 136; (with_reducible refine (spec_l4targetsOK.calls kj1 _ _ l0_4 (wrap64 (a0_0 * a0_1)) t140 _ ?side1 ?side2 A16.out).mono ?_); (case side1 => exact zc (Kd.C_below HR0_4.out HB.out)); (case side2 => exact HC0_4.out); rintro e w18 ⟨rfl, hb⟩; have n0_ := zA (zB BK139.out hb); have n1_ := zA (below_step (zs GE139.out) hb); clear BK139 HB; have BK139 := n0_; have HB := n1_; clear n0_ n1_; (try clear hb); (try clear hb2); (try clear hk); (try clear hi))); try go_wp2_with (first | (go_at_call 136; (with_reducible refine (spec_l4targetsOK.calls kj1 _ _ l0_4 (wrap64 (a0_0 * a0_1)) t140 _ ?side1 ?side2 A16.out).mono ?_); (case side1 => exact zc (Kd.C_below HR0_4.out HB.out)); (case side2 => exact HC0_4.out); rintro e w18 ⟨rfl, hb⟩; have n0_ := zA (zB BK139.out hb); have n1_ := zA (below_step (zs GE139.out) hb); clear BK139 HB; have BK139 := n0_; have HB := n1_; clear n0_ n1_; (try clear hb); (try clear hb2); (try clear hk); (try clear hi))))
       go_meet
       case rel => exact ⟨_, (!t140), zr, H', ⟨by have := HJ1.out; first | omega | exact Nat.le_refl _⟩, ⟨zb BK139.out⟩, ⟨zs GE139.out⟩⟩
      ·rw [if_neg c15] at H
       have c15b0 : ((l0_3.length : Int) == (wrap64 (a0_0 * a0_1))) = false := beq_eq_false_iff_ne.mpr c15
       have c15b1 : ((l0_3.length : Int) != (wrap64 (a0_0 * a0_1))) = true := bne_iff_ne.mpr c15
       have H' := zA H
       clear H
       obtain ⟨hcz19_0, hcz19_1, hcz19_2, hcz19_3, hcz19_4, hfz19_0, hfz19_1, hfz19_2, hfz19_3, hfz19_4⟩ := zh5 BK139.out
       go_wp2
       repeat (go_quiet (fail); try go_wp2)
       go_meet
       case rel => exact ⟨_, (true), zr, H', ⟨by have := HJ1.out; first | omega | exact Nat.le_refl _⟩, ⟨zb BK139.out⟩, ⟨zs GE139.out⟩⟩
     ·rw [if_neg c14] at H
      have c14b0 : ((l0_2.length : Int) == (wrap64 (a0_0 * a0_1))) = false := beq_eq_false_iff_ne.mpr c14
      have c14b1 : ((l0_2.length : Int) != (wrap64 (a0_0 * a0_1))) = true := bne_iff_ne.mpr c14
      (first | rw [c14b0] | (simp only [i64_w, i32_w]; rw [c14b0]) | skip)
      have H' := zA H
      clear H
      obtain ⟨hcz20_0, hcz20_1, hcz20_2, hcz20_3, hcz20_4, hfz20_0, hfz20_1, hfz20_2, hfz20_3, hfz20_4⟩ := zh5 BK139.out
      go_wp2
      repeat (go_quiet (fail); try go_wp2)
      go_meet
      case rel => exact ⟨_, (true), zr, H', ⟨by have := HJ1.out; first | omega | exact Nat.le_refl _⟩, ⟨zb BK139.out⟩, ⟨zs GE139.out⟩⟩
    case rest =>
     clear HC12
     (try clear c1); (try clear p2); (try clear c4); (try clear c4b0); (try clear c6); (try clear c6b0); (try clear p6); (try clear c8); (try clear c8b0); (try clear c11); (try clear c14); (try clear c14b0); (try clear c14b1); (try clear c15); (try clear c15b0); (try clear c15b1); (try clear hcz10_0 hcz10_1 hcz10_2 hcz10_3 hcz10_4); (try clear hcz13_0 hcz13_1 hcz13_2 hcz13_3 hcz13_4); (try clear hcz17_0 hcz17_1 hcz17_2 hcz17_3 hcz17_4); (try clear hcz19_0 hcz19_1 hcz19_2 hcz19_3 hcz19_4); (try clear hcz20_0 hcz20_1 hcz20_2 hcz20_3 hcz20_4); (try clear hcz5_0 hcz5_1 hcz5_2 hcz5_3 hcz5_4); (try clear hcz7_0 hcz7_1 hcz7_2 hcz7_3 hcz7_4); (try clear hcz9_0 hcz9_1 hcz9_2 hcz9_3 hcz9_4); (try clear hfz10_0 hfz10_1 hfz10_2 hfz10_3 hfz10_4); (try clear hfz13_0 hfz13_1 hfz13_2 hfz13_3 hfz13_4); (try clear hfz17_0 hfz17_1 hfz17_2 hfz17_3 hfz17_4); (try clear hfz19_0 hfz19_1 hfz19_2 hfz19_3 hfz19_4); (try clear hfz20_0 hfz20_1 hfz20_2 hfz20_3 hfz20_4); (try clear hfz5_0 hfz5_1 hfz5_2 hfz5_3 hfz5_4); (try clear hfz7_0 hfz7_1 hfz7_2 hfz7_3 hfz7_4); (try clear hfz9_0 hfz9_1 hfz9_2 hfz9_3 hfz9_4); (try clear p2)
     obtain ⟨kq, x50_11, rfl, HA, HJ11, BK139, HB⟩ := hcut
     cases kq with
     | zero => exact absurd HA.out (by simp [spec_ValidLayout.j1])
     | succ kj11 =>
      have H := HA.out
      clear HA
      simp only [spec_ValidLayout.j1] at H
      by_cases c21 : x50_11 = true
      ·subst c21
       have H1 : (some false) = some r := by rw [if_pos rfl] at H; exact H
       clear H
       have H := H1
       clear H1
       obtain rfl := Option.some.inj H
       go_wp2
       repeat (go_quiet (fail); try go_wp2)
       go_ret
       exact ⟨ze, (zs GE139.out)⟩
      ·replace c21 := Bool.eq_false_iff.mpr c21
       subst c21
       have H1 : (spec_ValidLayout.l0 kj11 (wrap64 (a0_0 * a0_1)) 0 a0_0 a0_1 l0_2 l0_3 l0_4) = some r := by rw [if_neg (show ¬ (false = true) by decide)] at H; exact H
       clear H
       have H := H1
       clear H1
       have H' := zA H
       clear H
       go_wp2
       repeat (go_quiet (fail); try go_wp2)
       go_loopg [4] kj11 (fun kq v4 w' => ∃ (x4_3 : Int), v4 = .int .i64 x4_3 ∧ Aside0 (spec_ValidLayout.l0 kq (wrap64 (a0_0 * a0_1)) x4_3 a0_0 a0_1 l0_2 l0_3 l0_4 = some r) ∧ Aside0 (kq ≤ kj11) ∧ Aside0 (w'.heap[gb139]? = some (.cells #[.int .i64 a0_0, .int .i64 a0_1, (.slice A0_2 l0_2.length c0_2), (.slice A0_3 l0_3.length c0_3), (.slice A0_4 l0_4.length c0_4)] 33 (0, 0))) ∧ Aside0 (Below w.heap.size w w'))
       case atStart => exact ⟨(0), zr, H', ⟨Nat.le_refl _⟩, ⟨zb BK139.out⟩, ⟨zs GE139.out⟩⟩
       case round =>
        clear H'
        (try clear c1); (try clear c2); (try clear p2); (try clear c4); (try clear c4b0); (try clear c6); (try clear c6b0); (try clear p6); (try clear c8); (try clear c8b0); (try clear c11); (try clear c14); (try clear c14b0); (try clear c14b1); (try clear c15); (try clear c15b0); (try clear c15b1); (try clear c21); (try clear hcz10_0 hcz10_1 hcz10_2 hcz10_3 hcz10_4); (try clear hcz13_0 hcz13_1 hcz13_2 hcz13_3 hcz13_4); (try clear hcz17_0 hcz17_1 hcz17_2 hcz17_3 hcz17_4); (try clear hcz19_0 hcz19_1 hcz19_2 hcz19_3 hcz19_4); (try clear hcz20_0 hcz20_1 hcz20_2 hcz20_3 hcz20_4); (try clear hcz5_0 hcz5_1 hcz5_2 hcz5_3 hcz5_4); (try clear hcz7_0 hcz7_1 hcz7_2 hcz7_3 hcz7_4); (try clear hcz9_0 hcz9_1 hcz9_2 hcz9_3 hcz9_4); (try clear hfz10_0 hfz10_1 hfz10_2 hfz10_3 hfz10_4); (try clear hfz13_0 hfz13_1 hfz13_2 hfz13_3 hfz13_4); (try clear hfz17_0 hfz17_1 hfz17_2 hfz17_3 hfz17_4); (try clear hfz19_0 hfz19_1 hfz19_2 hfz19_3 hfz19_4); (try clear hfz20_0 hfz20_1 hfz20_2 hfz20_3 hfz20_4); (try clear hfz5_0 hfz5_1 hfz5_2 hfz5_3 hfz5_4); (try clear hfz7_0 hfz7_1 hfz7_2 hfz7_3 hfz7_4); (try clear hfz9_0 hfz9_1 hfz9_2 hfz9_3 hfz9_4); (try clear p2); (try clear p6)
        obtain ⟨x4_3, rfl, HA, HK3, BK139, HB⟩ := hrel
        cases gk with
        | zero => exact absurd HA.out (by simp [spec_ValidLayout.l0])
        | succ k3 =>
         have H := HA.out
         clear HA
         simp only [spec_ValidLayout.l0] at H
         by_cases c22 : x4_3 < (wrap64 (a0_0 * a0_1))
         ·rw [if_pos c22] at H
          have c22b0 : decide (x4_3 < (wrap64 (a0_0 * a0_1))) = true := decide_eq_true c22
          clear c22
          have HC23 := zA H
          clear H
          go_upto_region 9 with (fail)
          repeat (go_quiet (fail); go_upto_region 9 with (fail))
          go_cut [101] (fun v101 wc => ∃ (kq : Nat) (x101_22 : Bool), v101 = .bool x101_22 ∧ Aside0 (spec_ValidLayout.j3 kq (wrap64 (a0_0 * a0_1)) x4_3 x101_22 a0_0 a0_1 l0_2 l0_3 l0_4 = some r) ∧ Aside0 (kq ≤ k3) ∧ Aside0 (wc.heap[gb139]? = some (.cells #[.int .i64 a0_0, .int .i64 a0_1, (.slice A0_2 l0_2.length c0_2), (.slice A0_3 l0_3.length c0_3), (.slice A0_4 l0_4.length c0_4)] 33 (0, 0))) ∧ Aside0 (Below w.heap.size w wc))
          case first =>
           have H := HC23.out
           clear HC23
           by_cases c24 : 0 ≤ x4_3
           ·rw [if_pos c24] at H
            have c24b0 : decide (0 ≤ x4_3) = true := decide_eq_true c24
            clear c24
            (first | rw [c24b0] | (simp only [i64_w, i32_w]; rw [c24b0]) | skip)
            by_cases c25 : x4_3 < (l0_2.length : Int)
            ·rw [if_pos c25] at H
             have c25b0 : decide (x4_3 < (l0_2.length : Int)) = true := decide_eq_true c25
             clear c25
             by_cases c26 : (rd l0_2 x4_3) < 0
             ·rw [if_pos c26] at H
              have c26b0 : decide ((rd l0_2 x4_3) < 0) = true := decide_eq_true c26
              clear c26
              have H' := zA H
              clear H
              obtain ⟨hcz27_0, hcz27_1, hcz27_2, hcz27_3, hcz27_4, hfz27_0, hfz27_1, hfz27_2, hfz27_3, hfz27_4⟩ := zh5 BK139.out
              have p141 : 0 ≤ (x4_3 : Int) := zd
              have q141 : x4_3 < (l0_2.length : Int) := zd
              obtain ⟨ad141, e141, hx141_0⟩ := Kd.at_int HR0_2.out x4_3 p141 q141
              cases e141
              replace hx141_0 := zx HB.out hx141_0
              replace p141 := eq_true p141
              replace q141 := eq_true q141
              go_wp2
              repeat (go_quiet (fail); try go_wp2)
              go_meet
              case rel => exact ⟨_, (true), zr, H', ⟨by have := HJ1.out; have := HJ11.out; have := HK3.out; first | omega | exact Nat.le_refl _⟩, ⟨zb BK139.out⟩, ⟨zs GE139.out⟩⟩
             ·rw [if_neg c26] at H
              have c26b0 : decide ((rd l0_2 x4_3) < 0) = false := decide_eq_false c26
              clear c26
              by_cases c28 : (rd l0_2 x4_3) > 9
              ·rw [if_pos c28] at H
               have c28b0 : decide (9 < (rd l0_2 x4_3)) = true := decide_eq_true c28
               clear c28
               have H' := zA H
               clear H
               obtain ⟨hcz29_0, hcz29_1, hcz29_2, hcz29_3, hcz29_4, hfz29_0, hfz29_1, hfz29_2, hfz29_3, hfz29_4⟩ := zh5 BK139.out
               have p141 : 0 ≤ (x4_3 : Int) := zd
               have q141 : x4_3 < (l0_2.length : Int) := zd
               obtain ⟨ad141, e141, hx141_0⟩ := Kd.at_int HR0_2.out x4_3 p141 q141
               cases e141
               replace hx141_0 := zx HB.out hx141_0
               replace p141 := eq_true p141
               replace q141 := eq_true q141
               have p142 : 0 ≤ (x4_3 : Int) := zd
               have q142 : x4_3 < (l0_2.length : Int) := zd
               obtain ⟨ad142, e142, hx142_0⟩ := Kd.at_int HR0_2.out x4_3 p142 q142
               obtain rfl : ad141 = ad142 := (by injection e142)
               replace hx142_0 := zx HB.out hx142_0
               replace p142 := eq_true p142
               replace q142 := eq_true q142
               go_wp2
               repeat (go_quiet (fail); try go_wp2)
               go_meet
               case rel => exact ⟨_, (true), zr, H', ⟨by have := HJ1.out; have := HJ11.out; have := HK3.out; first | omega | exact Nat.le_refl _⟩, ⟨zb BK139.out⟩, ⟨zs GE139.out⟩⟩
              ·rw [if_neg c28] at H
               have c28b0 : decide (9 < (rd l0_2 x4_3)) = false := decide_eq_false c28
               clear c28
               by_cases c30 : x4_3 < (l0_3.length : Int)
               ·rw [if_pos c30] at H
                have c30b0 : decide (x4_3 < (l0_3.length : Int)) = true := decide_eq_true c30
                clear c30
                by_cases c31 : (rd l0_3 x4_3) < 0
                ·rw [if_pos c31] at H
                 have c31b0 : decide ((rd l0_3 x4_3) < 0) = true := decide_eq_true c31
                 clear c31
                 have H' := zA H
                 clear H
                 obtain ⟨hcz32_0, hcz32_1, hcz32_2, hcz32_3, hcz32_4, hfz32_0, hfz32_1, hfz32_2, hfz32_3, hfz32_4⟩ := zh5 BK139.out
                 have p141 : 0 ≤ (x4_3 : Int) := zd
                 have q141 : x4_3 < (l0_2.length : Int) := zd
                 obtain ⟨ad141, e141, hx141_0⟩ := Kd.at_int HR0_2.out x4_3 p141 q141
                 cases e141
                 replace hx141_0 := zx HB.out hx141_0
                 replace p141 := eq_true p141
                 replace q141 := eq_true q141
                 have p142 : 0 ≤ (x4_3 : Int) := zd
                 have q142 : x4_3 < (l0_2.length : Int) := zd
                 obtain ⟨ad142, e142, hx142_0⟩ := Kd.at_int HR0_2.out x4_3 p142 q142
                 obtain rfl : ad141 = ad142 := (by injection e142)
                 replace hx142_0 := zx HB.out hx142_0
                 replace p142 := eq_true p142
                 replace q142 := eq_true q142
                 have p143 : 0 ≤ (x4_3 : Int) := zd
                 have q143 : x4_3 < (l0_3.length : Int) := zd
                 obtain ⟨ad143, e143, hx143_0⟩ := Kd.at_int HR0_3.out x4_3 p143 q143
                 cases e143
                 replace hx143_0 := zx HB.out hx143_0
                 replace p143 := eq_true p143
                 replace q143 := eq_true q143
                 go_wp2
                 repeat (go_quiet (fail); try go_wp2)
                 go_meet
                 case rel => exact ⟨_, (true), zr, H', ⟨by have := HJ1.out; have := HJ11.out; have := HK3.out; first | omega | exact Nat.le_refl _⟩, ⟨zb BK139.out⟩, ⟨zs GE139.out⟩⟩
                ·rw [if_neg c31] at H
                 have c31b0 : decide ((rd l0_3 x4_3) < 0) = false := decide_eq_false c31
                 clear c31
                 by_cases c33 : (rd l0_3 x4_3) > 15
                 ·rw [if_pos c33] at H
                  have c33b0 : decide (15 < (rd l0_3 x4_3)) = true := decide_eq_true c33
                  clear c33
                  have H' := zA H
                  clear H
                  obtain ⟨hcz34_0, hcz34_1, hcz34_2, hcz34_3, hcz34_4, hfz34_0, hfz34_1, hfz34_2, hfz34_3, hfz34_4⟩ := zh5 BK139.out
                  have p141 : 0 ≤ (x4_3 : Int) := zd
                  have q141 : x4_3 < (l0_2.length : Int) := zd
                  obtain ⟨ad141, e141, hx141_0⟩ := Kd.at_int HR0_2.out x4_3 p141 q141
                  cases e141
                  replace hx141_0 := zx HB.out hx141_0
                  replace p141 := eq_true p141
                  replace q141 := eq_true q141
                  have p142 : 0 ≤ (x4_3 : Int) := zd
                  have q142 : x4_3 < (l0_2.length : Int) := zd
                  obtain ⟨ad142, e142, hx142_0⟩ := Kd.at_int HR0_2.out x4_3 p142 q142
                  obtain rfl : ad141 = ad142 := (by injection e142)
                  replace hx142_0 := zx HB.out hx142_0
                  replace p142 := eq_true p142
                  replace q142 := eq_true q142
                  have p143 : 0 ≤ (x4_3 : Int) := zd
                  have q143 : x4_3 < (l0_3.length : Int) := zd
                  obtain ⟨ad143, e143, hx143_0⟩ := Kd.at_int HR0_3.out x4_3 p143 q143
                  cases e143
                  replace hx143_0 := zx HB.out hx143_0
                  replace p143 := eq_true p143
                  replace q143 := eq_true q143
                  have p144 : 0 ≤ (x4_3 : Int) := zd
                  have q144 : x4_3 < (l0_3.length : Int) := zd
                  obtain ⟨ad144, e144, hx144_0⟩ := Kd.at_int HR0_3.out x4_3 p144 q144
                  obtain rfl : ad143 = ad144 := (by injection e144)
                  replace hx144_0 := zx HB.out hx144_0
                  replace p144 := eq_true p144
                  replace q144 := eq_true q144
                  go_wp2
                  repeat (go_quiet (fail); try go_wp2)
                  go_meet
                  case rel => exact ⟨_, (true), zr, H', ⟨by have := HJ1.out; have := HJ11.out; have := HK3.out; first | omega | exact Nat.le_refl _⟩, ⟨zb BK139.out⟩, ⟨zs GE139.out⟩⟩
                 ·rw [if_neg c33] at H
                  have c33b0 : decide (15 < (rd l0_3 x4_3)) = false := decide_eq_false c33
                  clear c33
                  by_cases c35 : (rd l0_2 x4_3) = 0
                  ·rw [if_pos c35] at H
                   have c35b0 : ((rd l0_2 x4_3) == 0) = true := beq_iff_eq.mpr c35
                   have c35b1 : ((rd l0_2 x4_3) != 0) = false := bne_eq_false_iff_eq.mpr c35
                   clear c35
                   have H' := zA H
                   clear H
                   obtain ⟨hcz36_0, hcz36_1, hcz36_2, hcz36_3, hcz36_4, hfz36_0, hfz36_1, hfz36_2, hfz36_3, hfz36_4⟩ := zh5 BK139.out
                   have p141 : 0 ≤ (x4_3 : Int) := zd
                   have q141 : x4_3 < (l0_2.length : Int) := zd
                   obtain ⟨ad141, e141, hx141_0⟩ := Kd.at_int HR0_2.out x4_3 p141 q141
                   cases e141
                   replace hx141_0 := zx HB.out hx141_0
                   replace p141 := eq_true p141
                   replace q141 := eq_true q141
                   have p142 : 0 ≤ (x4_3 : Int) := zd
                   have q142 : x4_3 < (l0_2.length : Int) := zd
                   obtain ⟨ad142, e142, hx142_0⟩ := Kd.at_int HR0_2.out x4_3 p142 q142
                   obtain rfl : ad141 = ad142 := (by injection e142)
                   replace hx142_0 := zx HB.out hx142_0
                   replace p142 := eq_true p142
                   replace q142 := eq_true q142
                   have p143 : 0 ≤ (x4_3 : Int) := zd
                   have q143 : x4_3 < (l0_3.length : Int) := zd
                   obtain ⟨ad143, e143, hx143_0⟩ := Kd.at_int HR0_3.out x4_3 p143 q143
                   cases e143
                   replace hx143_0 := zx HB.out hx143_0
                   replace p143 := eq_true p143
                   replace q143 := eq_true q143
                   have p144 : 0 ≤ (x4_3 : Int) := zd
                   have q144 : x4_3 < (l0_3.length : Int) := zd
                   obtain ⟨ad144, e144, hx144_0⟩ := Kd.at_int HR0_3.out x4_3 p144 q144
                   obtain rfl : ad143 = ad144 := (by injection e144)
                   replace hx144_0 := zx HB.out hx144_0
                   replace p144 := eq_true p144
                   replace q144 := eq_true q144
                   have p145 : 0 ≤ (x4_3 : Int) := zd
                   have q145 : x4_3 < (l0_2.length : Int) := zd
                   obtain ⟨ad145, e145, hx145_0⟩ := Kd.at_int HR0_2.out x4_3 p145 q145
                   obtain rfl : ad141 = ad145 := (by injection e145)
                   replace hx145_0 := zx HB.out hx145_0
                   replace p145 := eq_true p145
                   replace q145 := eq_true q145
                   have p146 : 0 ≤ (x4_3 : Int) := zd
                   have q146 : x4_3 < (l0_3.length : Int) := zd
                   obtain ⟨ad146, e146, hx146_0⟩ := Kd.at_int HR0_3.out x4_3 p146 q146
                   obtain rfl : ad143 = ad146 := (by injection e146)
                   replace hx146_0 := zx HB.out hx146_0
                   replace p146 := eq_true p146
                   replace q146 := eq_true q146
                   go_wp2
                   repeat (go_quiet (fail); try go_wp2)
                   go_meet
                   case rel => exact ⟨_, (((rd l0_3 x4_3) != 0)), zr, H', ⟨by have := HJ1.out; have := HJ11.out; have := HK3.out; first | omega | exact Nat.le_refl _⟩, ⟨zb BK139.out⟩, ⟨zs GE139.out⟩⟩
                  ·rw [if_neg c35] at H
                   have c35b0 : ((rd l0_2 x4_3) == 0) = false := beq_eq_false_iff_ne.mpr c35
                   have c35b1 : ((rd l0_2 x4_3) != 0) = true := bne_iff_ne.mpr c35
                   have H' := zA H
                   clear H
                   obtain ⟨hcz37_0, hcz37_1, hcz37_2, hcz37_3, hcz37_4, hfz37_0, hfz37_1, hfz37_2, hfz37_3, hfz37_4⟩ := zh5 BK139.out
                   have p141 : 0 ≤ (x4_3 : Int) := zd
                   have q141 : x4_3 < (l0_2.length : Int) := zd
                   obtain ⟨ad141, e141, hx141_0⟩ := Kd.at_int HR0_2.out x4_3 p141 q141
                   cases e141
                   replace hx141_0 := zx HB.out hx141_0
                   replace p141 := eq_true p141
                   replace q141 := eq_true q141
                   have p142 : 0 ≤ (x4_3 : Int) := zd
                   have q142 : x4_3 < (l0_2.length : Int) := zd
                   obtain ⟨ad142, e142, hx142_0⟩ := Kd.at_int HR0_2.out x4_3 p142 q142
                   obtain rfl : ad141 = ad142 := (by injection e142)
                   replace hx142_0 := zx HB.out hx142_0
                   replace p142 := eq_true p142
                   replace q142 := eq_true q142
                   have p143 : 0 ≤ (x4_3 : Int) := zd
                   have q143 : x4_3 < (l0_3.length : Int) := zd
                   obtain ⟨ad143, e143, hx143_0⟩ := Kd.at_int HR0_3.out x4_3 p143 q143
                   cases e143
                   replace hx143_0 := zx HB.out hx143_0
                   replace p143 := eq_true p143
                   replace q143 := eq_true q143
                   have p144 : 0 ≤ (x4_3 : Int) := zd
                   have q144 : x4_3 < (l0_3.length : Int) := zd
                   obtain ⟨ad144, e144, hx144_0⟩ := Kd.at_int HR0_3.out x4_3 p144 q144
                   obtain rfl : ad143 = ad144 := (by injection e144)
                   replace hx144_0 := zx HB.out hx144_0
                   replace p144 := eq_true p144
                   replace q144 := eq_true q144
                   have p145 : 0 ≤ (x4_3 : Int) := zd
                   have q145 : x4_3 < (l0_2.length : Int) := zd
                   obtain ⟨ad145, e145, hx145_0⟩ := Kd.at_int HR0_2.out x4_3 p145 q145
                   obtain rfl : ad141 = ad145 := (by injection e145)
                   replace hx145_0 := zx HB.out hx145_0
                   replace p145 := eq_true p145
                   replace q145 := eq_true q145
                   go_wp2
                   repeat (go_quiet (fail); try go_wp2)
                   go_meet
                   case rel => exact ⟨_, (false), zr, H', ⟨by have := HJ1.out; have := HJ11.out; have := HK3.out; first | omega | exact Nat.le_refl _⟩, ⟨zb BK139.out⟩, ⟨zs GE139.out⟩⟩
               ·rw [if_neg c30] at H
                exact absurd H (by simp)
            ·rw [if_neg c25] at H
             exact absurd H (by simp)
           ·rw [if_neg c24] at H
            exact absurd H (by simp)
          case rest =>
           clear HC23
           (try clear c1); (try clear p1); (try clear q1); (try clear hx1); (try clear c2); (try clear p2); (try clear c3); (try clear c4); (try clear c4b0); (try clear c6); (try clear c6b0); (try clear p6); (try clear c8); (try clear c8b0); (try clear c11); (try clear c14); (try clear c14b0); (try clear c14b1); (try clear p14); (try clear q14); (try clear hx14); (try clear c15); (try clear c15b0); (try clear c15b1); (try clear c21); (try clear c22); (try clear c22b0); (try clear c24); (try clear c24b0); (try clear c25); (try clear c25b0); (try clear c26); (try clear c26b0); (try clear c28); (try clear c28b0); (try clear c30); (try clear c30b0); (try clear c31); (try clear c31b0); (try clear c33); (try clear c33b0); (try clear c35); (try clear c35b0); (try clear c35b1); (try clear hcz10_0 hcz10_1 hcz10_2 hcz10_3 hcz10_4); (try clear hcz13_0 hcz13_1 hcz13_2 hcz13_3 hcz13_4); (try clear hcz17_0 hcz17_1 hcz17_2 hcz17_3 hcz17_4); (try clear hcz19_0 hcz19_1 hcz19_2 hcz19_3 hcz19_4); (try clear hcz20_0 hcz20_1 hcz20_2 hcz20_3 hcz20_4); (try clear hcz27_0 hcz27_1 hcz27_2 hcz27_3 hcz27_4); (try clear hcz29_0 hcz29_1 hcz29_2 hcz29_3 hcz29_4); (try clear hcz32_0 hcz32_1 hcz32_2 hcz32_3 hcz32_4); (try clear hcz34_0 hcz34_1 hcz34_2 hcz34_3 hcz34_4); (try clear hcz36_0 hcz36_1 hcz36_2 hcz36_3 hcz36_4); (try clear hcz37_0 hcz37_1 hcz37_2 hcz37_3 hcz37_4); (try clear hcz5_0 hcz5_1 hcz5_2 hcz5_3 hcz5_4); (try clear hcz7_0 hcz7_1 hcz7_2 hcz7_3 hcz7_4); (try clear hcz9_0 hcz9_1 hcz9_2 hcz9_3 hcz9_4); (try clear hfz10_0 hfz10_1 hfz10_2 hfz10_3 hfz10_4); (try clear hfz13_0 hfz13_1 hfz13_2 hfz13_3 hfz13_4); (try clear hfz17_0 hfz17_1 hfz17_2 hfz17_3 hfz17_4); (try clear hfz19_0 hfz19_1 hfz19_2 hfz19_3 hfz19_4); (try clear hfz20_0 hfz20_1 hfz20_2 hfz20_3 hfz20_4); (try clear hfz27_0 hfz27_1 hfz27_2 hfz27_3 hfz27_4); (try clear hfz29_0 hfz29_1 hfz29_2 hfz29_3 hfz29_4); (try clear hfz32_0 hfz32_1 hfz32_2 hfz32_3 hfz32_4); (try clear hfz34_0 hfz34_1 hfz34_2 hfz34_3 hfz34_4); (try clear hfz36_0 hfz36_1 hfz36_2 hfz36_3 hfz36_4); (try clear hfz37_0 hfz37_1 hfz37_2 hfz37_3 hfz37_4); (try clear hfz5_0 hfz5_1 hfz5_2 hfz5_3 hfz5_4); (try clear hfz7_0 hfz7_1 hfz7_2 hfz7_3 hfz7_4); (try clear hfz9_0 hfz9_1 hfz9_2 hfz9_3 hfz9_4); (try clear hx141_0); (try clear hx142_0); (try clear hx143_0); (try clear hx144_0); (try clear hx145_0); (try clear hx146_0); (try clear p141); (try clear p142); (try clear p143); (try clear p144); (try clear p145); (try clear p146); (try clear p2); (try clear p6); (try clear q141); (try clear q142); (try clear q143); (try clear q144); (try clear q145); (try clear q146)
           obtain ⟨kq, x101_22, rfl, HA, HJ22, BK139, HB⟩ := hcut
           cases kq with
           | zero => exact absurd HA.out (by simp [spec_ValidLayout.j3])
           | succ kj22 =>
            have H := HA.out
            clear HA
            simp only [spec_ValidLayout.j3] at H
            by_cases c38 : x101_22 = true
            ·subst c38
             have H1 : (some false) = some r := by rw [if_pos rfl] at H; exact H
             clear H
             have H := H1
             clear H1
             obtain rfl := Option.some.inj H
             go_wp2
             repeat (go_quiet (fail); try go_wp2)
             go_ret
             exact ⟨ze, (zs GE139.out)⟩
            ·replace c38 := Bool.eq_false_iff.mpr c38
             subst c38
             have H1 : (if 0 ≤ x4_3 then (if x4_3 < (l0_3.length : Int) then ((spec_l4bits.f kj22 (rd l0_3 x4_3)).bind fun t148 => (spec_ValidLayout.l1 kj22 (wrap64 (a0_0 * a0_1)) x4_3 t148 0 a0_0 a0_1 l0_2 l0_3 l0_4)) else (none)) else (none)) = some r := by rw [if_neg (show ¬ (false = true) by decide)] at H; exact H
             clear H
             have H := H1
             clear H1
             by_cases c39 : 0 ≤ x4_3
             ·rw [if_pos c39] at H
              have c39b0 : decide (0 ≤ x4_3) = true := decide_eq_true c39
              clear c39
              by_cases c40 : x4_3 < (l0_3.length : Int)
              ·rw [if_pos c40] at H
               have c40b0 : decide (x4_3 < (l0_3.length : Int)) = true := decide_eq_true c40
               clear c40
               replace H := Option.bind_eq_some_iff.mp H
               obtain ⟨t148, A410, H⟩ := H
               replace H : (spec_ValidLayout.l1 kj22 (wrap64 (a0_0 * a0_1)) x4_3 t148 0 a0_0 a0_1 l0_2 l0_3 l0_4) = some r := H
               have A41 := zA A410
               clear A410
               have H' := zA H
               clear H
               obtain ⟨hcz42_0, hcz42_1, hcz42_2, hcz42_3, hcz42_4, hfz42_0, hfz42_1, hfz42_2, hfz42_3, hfz42_4⟩ := zh5 BK139.out
               have p147 : 0 ≤ (x4_3 : Int) := zd
               have q147 : x4_3 < (l0_3.length : Int) := zd
               obtain ⟨ad147, e147, hx147_0⟩ := Kd.at_int HR0_3.out x4_3 p147 q147
               cases e147
               replace hx147_0 := zx HB.out hx147_0
               replace p147 := eq_true p147
               replace q147 := eq_true q147
               go_wp2_with (first | (go_at_call 69; (with_reducible refine (spec_l4bits.calls kj22 (rd l0_3 x4_3) t148 _ A41.out).mono ?_); rintro e w43 ⟨v149, rfl, ho0, hb⟩; have n0_ := zA (Kd.R_lower ho0 (below_size (zs GE139.out))); have n1_ := zA (zB BK139.out hb); have n2_ := zA (below_step (zs GE139.out) hb); clear BK139 HB; have HO150 := n0_; have BK139 := n1_; have HB := n2_; clear n0_ n1_ n2_; (try clear hb); (try clear hb2); (try clear hk); (try clear hi); (try clear ho0)))
               repeat (go_quiet (first | (go_at_call 69; (with_reducible refine (spec_l4bits.calls kj22 (rd l0_3 x4_3) t148 _ A41.out).mono ?_); rintro e w43 ⟨v149, rfl, ho0, hb⟩; have n0_ := zA (Kd.R_lower ho0 (below_size (zs GE139.out))); have n1_ := zA (zB BK139.out hb); have n2_ := zA (below_step (zs GE139.out) hb); clear BK139 HB; have HO150 := n0_; have BK139 := n1_; have HB := n2_; clear n0_ n1_ n2_; (try clear hb); (try clear hb2); (try clear hk); (try clear hi); (try clear ho0))); try go_wp2_with (first | (go_at_call 69; (with_reducible refine (spec_l4bits.calls kj22 (rd l0_3 x4_3) t148 _ A41.out).mono ?_); rintro e w43 ⟨v149, rfl, ho0, hb⟩; have n0_ := zA (Kd.R_lower ho0 (below_size (zs GE139.out))); have n1_ := zA (zB BK139.out hb); have n2_ := zA (below_step (zs GE139.out) hb); clear BK139 HB; have HO150 := n0_; have BK139 := n1_; have HB := n2_; clear n0_ n1_ n2_; (try clear hb); (try clear hb2); (try clear hk); (try clear hi); (try clear ho0))))
               go_loopg [6] kj22 (fun kq v6 w' => ∃ (x6_5 : Int), v6 = .int .i64 x6_5 ∧ Aside0 (spec_ValidLayout.l1 kq (wrap64 (a0_0 * a0_1)) x4_3 t148 x6_5 a0_0 a0_1 l0_2 l0_3 l0_4 = some r) ∧ Aside0 (kq ≤ kj22) ∧ Aside0 (Kd.R Kd.bool 4 w' w.heap.size (fun _ => True) v149 t148) ∧ Aside0 (w'.heap[gb139]? = some (.cells #[.int .i64 a0_0, .int .i64 a0_1, (.slice A0_2 l0_2.length c0_2), (.slice (some ad147) l0_3.length c0_3), (.slice A0_4 l0_4.length c0_4)] 33 (0, 0))) ∧ Aside0 (Below w.heap.size w w'))
               case atStart => exact ⟨(0), zr, H', ⟨Nat.le_refl _⟩, ⟨zR HO150.out⟩, ⟨zb BK139.out⟩, ⟨zs GE139.out⟩⟩
               case round =>
                clear H'
                (try clear c1); (try clear p1); (try clear q1); (try clear hx1); (try clear c2); (try clear p2); (try clear c3); (try clear c4); (try clear c4b0); (try clear c6); (try clear c6b0); (try clear p6); (try clear c8); (try clear c8b0); (try clear c11); (try clear c14); (try clear c14b0); (try clear c14b1); (try clear p14); (try clear q14); (try clear hx14); (try clear c15); (try clear c15b0); (try clear c15b1); (try clear c21); (try clear c22); (try clear c22b0); (try clear c24); (try clear c24b0); (try clear c25); (try clear c25b0); (try clear c26); (try clear c26b0); (try clear c28); (try clear c28b0); (try clear c30); (try clear c30b0); (try clear c31); (try clear c31b0); (try clear c33); (try clear c33b0); (try clear c35); (try clear c35b0); (try clear c35b1); (try clear c38); (try clear c39); (try clear c39b0); (try clear c40); (try clear c40b0); (try clear hcz10_0 hcz10_1 hcz10_2 hcz10_3 hcz10_4); (try clear hcz13_0 hcz13_1 hcz13_2 hcz13_3 hcz13_4); (try clear hcz17_0 hcz17_1 hcz17_2 hcz17_3 hcz17_4); (try clear hcz19_0 hcz19_1 hcz19_2 hcz19_3 hcz19_4); (try clear hcz20_0 hcz20_1 hcz20_2 hcz20_3 hcz20_4); (try clear hcz27_0 hcz27_1 hcz27_2 hcz27_3 hcz27_4); (try clear hcz29_0 hcz29_1 hcz29_2 hcz29_3 hcz29_4); (try clear hcz32_0 hcz32_1 hcz32_2 hcz32_3 hcz32_4); (try clear hcz34_0 hcz34_1 hcz34_2 hcz34_3 hcz34_4); (try clear hcz36_0 hcz36_1 hcz36_2 hcz36_3 hcz36_4); (try clear hcz37_0 hcz37_1 hcz37_2 hcz37_3 hcz37_4); (try clear hcz42_0 hcz42_1 hcz42_2 hcz42_3 hcz42_4); (try clear hcz5_0 hcz5_1 hcz5_2 hcz5_3 hcz5_4); (try clear hcz7_0 hcz7_1 hcz7_2 hcz7_3 hcz7_4); (try clear hcz9_0 hcz9_1 hcz9_2 hcz9_3 hcz9_4); (try clear hfz10_0 hfz10_1 hfz10_2 hfz10_3 hfz10_4); (try clear hfz13_0 hfz13_1 hfz13_2 hfz13_3 hfz13_4); (try clear hfz17_0 hfz17_1 hfz17_2 hfz17_3 hfz17_4); (try clear hfz19_0 hfz19_1 hfz19_2 hfz19_3 hfz19_4); (try clear hfz20_0 hfz20_1 hfz20_2 hfz20_3 hfz20_4); (try clear hfz27_0 hfz27_1 hfz27_2 hfz27_3 hfz27_4); (try clear hfz29_0 hfz29_1 hfz29_2 hfz29_3 hfz29_4); (try clear hfz32_0 hfz32_1 hfz32_2 hfz32_3 hfz32_4); (try clear hfz34_0 hfz34_1 hfz34_2 hfz34_3 hfz34_4); (try clear hfz36_0 hfz36_1 hfz36_2 hfz36_3 hfz36_4); (try clear hfz37_0 hfz37_1 hfz37_2 hfz37_3 hfz37_4); (try clear hfz42_0 hfz42_1 hfz42_2 hfz42_3 hfz42_4); (try clear hfz5_0 hfz5_1 hfz5_2 hfz5_3 hfz5_4); (try clear hfz7_0 hfz7_1 hfz7_2 hfz7_3 hfz7_4); (try clear hfz9_0 hfz9_1 hfz9_2 hfz9_3 hfz9_4); (try clear hx141_0); (try clear hx142_0); (try clear hx143_0); (try clear hx144_0); (try clear hx145_0); (try clear hx146_0); (try clear hx147_0); (try clear p1); (try clear p14); (try clear p141); (try clear p142); (try clear p143); (try clear p144); (try clear p145); (try clear p146); (try clear p147); (try clear p2); (try clear p6); (try clear q1); (try clear q14); (try clear q141); (try clear q142); (try clear q143); (try clear q144); (try clear q145); (try clear q146); (try clear q147)
                obtain ⟨x6_5, rfl, HA, HK5, HO_5, BK139, HB⟩ := hrel
                cases gk with
                | zero => exact absurd HA.out (by simp [spec_ValidLayout.l1])
                | succ k5 =>
                 have H := HA.out
                 clear HA
                 simp only [spec_ValidLayout.l1] at H
                 by_cases c44 : x6_5 < 4
                 ·rw [if_pos c44] at H
                  have c44b0 : decide (x6_5 < 4) = true := decide_eq_true c44
                  clear c44
                  replace H := Option.bind_eq_some_iff.mp H
                  obtain ⟨t151, A450, H⟩ := H
                  replace H : (if 0 ≤ x6_5 then (if x6_5 < (t148.length : Int) then (if rdOf false t148 x6_5 = true then (if t151 < 0 then (some false) else (if 0 ≤ t151 then (if t151 < (l0_2.length : Int) then (if (rd l0_2 t151) = 0 then (some false) else (spec_ValidLayout.l1 k5 (wrap64 (a0_0 * a0_1)) x4_3 t148 (wrap64 (x6_5 + 1)) a0_0 a0_1 l0_2 l0_3 l0_4)) else (none)) else (none))) else (spec_ValidLayout.l1 k5 (wrap64 (a0_0 * a0_1)) x4_3 t148 (wrap64 (x6_5 + 1)) a0_0 a0_1 l0_2 l0_3 l0_4)) else (none)) else (none)) = some r := H
                  have A45 := zA A450
                  clear A450
                  by_cases c46 : 0 ≤ x6_5
                  ·rw [if_pos c46] at H
                   have c46b0 : decide (0 ≤ x6_5) = true := decide_eq_true c46
                   clear c46
                   by_cases c47 : x6_5 < (t148.length : Int)
                   ·rw [if_pos c47] at H
                    have c47b0 : decide (x6_5 < (t148.length : Int)) = true := decide_eq_true c47
                    clear c47
                    obtain ⟨bq48, hbq48⟩ : ∃ b_ : Bool, b_ = (rdOf false t148 x6_5) := ⟨_, rfl⟩
                    replace H : (if bq48 = true then (if t151 < 0 then (some false) else (if 0 ≤ t151 then (if t151 < (l0_2.length : Int) then (if (rd l0_2 t151) = 0 then (some false) else (spec_ValidLayout.l1 k5 (wrap64 (a0_0 * a0_1)) x4_3 t148 (wrap64 (x6_5 + 1)) a0_0 a0_1 l0_2 l0_3 l0_4)) else (none)) else (none))) else (spec_ValidLayout.l1 k5 (wrap64 (a0_0 * a0_1)) x4_3 t148 (wrap64 (x6_5 + 1)) a0_0 a0_1 l0_2 l0_3 l0_4)) = some r := by rw [← hbq48] at H; exact H
                    have Nbq48 := zA hbq48
                    clear hbq48
                    by_cases c49 : bq48 = true
                    ·subst c49
                     have H1 : (if t151 < 0 then (some false) else (if 0 ≤ t151 then (if t151 < (l0_2.length : Int) then (if (rd l0_2 t151) = 0 then (some false) else (spec_ValidLayout.l1 k5 (wrap64 (a0_0 * a0_1)) x4_3 t148 (wrap64 (x6_5 + 1)) a0_0 a0_1 l0_2 l0_3 l0_4)) else (none)) else (none))) = some r := by rw [if_pos rfl] at H; exact H
                     clear H
                     have H := H1
                     clear H1
                     by_cases c50 : t151 < 0
                     ·rw [if_pos c50] at H
                      have c50b0 : decide (t151 < 0) = true := decide_eq_true c50
                      clear c50
                      obtain rfl := Option.some.inj H
                      obtain ⟨hcz51_0, hcz51_1, hcz51_2, hcz51_3, hcz51_4, hfz51_0, hfz51_1, hfz51_2, hfz51_3, hfz51_4⟩ := zh5 BK139.out
                      go_wp2_with (first | (go_at_call 70; (with_reducible refine (spec_l4to.calls a0_0 a0_1 x4_3 x6_5 t151 _ A45.out).mono ?_); rintro e w' ⟨rfl, ⟨nd, rfl⟩⟩; (try first | exact ⟨rfl, _, World.drewN_drewN _ _ _⟩ | exact ⟨rfl, _, Eq.trans (World.drewN_drewN _ _ _) (congrArg (World.drewN _) (Nat.add_assoc _ _ _))⟩); obtain ⟨Ao52, co52, eo52⟩ := Kd.R_slice HO_5.out; subst eo52; have p152 : 0 ≤ (x6_5 : Int) := zd; have q152 : x6_5 < (t148.length : Int) := zd; obtain ⟨ad152, e152, hx152_0⟩ := Kd.at_bool (Kd.R_reads' HO_5.out).2.2 x6_5 p152 q152; (try rw [← Nbq48.out] at hx152_0); cases e152; replace p152 := eq_true p152; replace q152 := eq_true q152))
                      repeat (go_quiet (first | (go_at_call 70; (with_reducible refine (spec_l4to.calls a0_0 a0_1 x4_3 x6_5 t151 _ A45.out).mono ?_); rintro e w' ⟨rfl, ⟨nd, rfl⟩⟩; (try first | exact ⟨rfl, _, World.drewN_drewN _ _ _⟩ | exact ⟨rfl, _, Eq.trans (World.drewN_drewN _ _ _) (congrArg (World.drewN _) (Nat.add_assoc _ _ _))⟩); obtain ⟨Ao52, co52, eo52⟩ := Kd.R_slice HO_5.out; subst eo52; have p152 : 0 ≤ (x6_5 : Int) := zd; have q152 : x6_5 < (t148.length : Int) := zd; obtain ⟨ad152, e152, hx152_0⟩ := Kd.at_bool (Kd.R_reads' HO_5.out).2.2 x6_5 p152 q152; (try rw [← Nbq48.out] at hx152_0); cases e152; replace p152 := eq_true p152; replace q152 := eq_true q152)); try go_wp2_with (first | (go_at_call 70; (with_reducible refine (spec_l4to.calls a0_0 a0_1 x4_3 x6_5 t151 _ A45.out).mono ?_); rintro e w' ⟨rfl, ⟨nd, rfl⟩⟩; (try first | exact ⟨rfl, _, World.drewN_drewN _ _ _⟩ | exact ⟨rfl, _, Eq.trans (World.drewN_drewN _ _ _) (congrArg (World.drewN _) (Nat.add_assoc _ _ _))⟩); obtain ⟨Ao52, co52, eo52⟩ := Kd.R_slice HO_5.out; subst eo52; have p152 : 0 ≤ (x6_5 : Int) := zd; have q152 : x6_5 < (t148.length : Int) := zd; obtain ⟨ad152, e152, hx152_0⟩ := Kd.at_bool (Kd.R_reads' HO_5.out).2.2 x6_5 p152 q152; (try rw [← Nbq48.out] at hx152_0); cases e152; replace p152 := eq_true p152; replace q152 := eq_true q152)))
                      go_ret
                      exact ⟨ze, (zs GE139.out)⟩
                     ·rw [if_neg c50] at H
                      have c50b0 : decide (t151 < 0) = false := decide_eq_false c50
                      clear c50
                      by_cases c53 : 0 ≤ t151
                      ·rw [if_pos c53] at H
                       have c53b0 : decide (0 ≤ t151) = true := decide_eq_true c53
                       clear c53
                       by_cases c54 : t151 < (l0_2.length : Int)
                       ·rw [if_pos c54] at H
                        have c54b0 : decide (t151 < (l0_2.length : Int)) = true := decide_eq_true c54
                        clear c54
                        by_cases c55 : (rd l0_2 t151) = 0
                        ·rw [if_pos c55] at H
                         have c55b0 : ((rd l0_2 t151) == 0) = true := beq_iff_eq.mpr c55
                         have c55b1 : ((rd l0_2 t151) != 0) = false := bne_eq_false_iff_eq.mpr c55
                         clear c55
                         obtain rfl := Option.some.inj H
                         obtain ⟨hcz56_0, hcz56_1, hcz56_2, hcz56_3, hcz56_4, hfz56_0, hfz56_1, hfz56_2, hfz56_3, hfz56_4⟩ := zh5 BK139.out
                         go_wp2_with (first | (go_at_call 70; (with_reducible refine (spec_l4to.calls a0_0 a0_1 x4_3 x6_5 t151 _ A45.out).mono ?_); rintro e w' ⟨rfl, ⟨nd, rfl⟩⟩; (try first | exact ⟨rfl, _, World.drewN_drewN _ _ _⟩ | exact ⟨rfl, _, Eq.trans (World.drewN_drewN _ _ _) (congrArg (World.drewN _) (Nat.add_assoc _ _ _))⟩); obtain ⟨Ao57, co57, eo57⟩ := Kd.R_slice HO_5.out; subst eo57; have p152 : 0 ≤ (x6_5 : Int) := zd; have q152 : x6_5 < (t148.length : Int) := zd; obtain ⟨ad152, e152, hx152_0⟩ := Kd.at_bool (Kd.R_reads' HO_5.out).2.2 x6_5 p152 q152; (try rw [← Nbq48.out] at hx152_0); cases e152; replace p152 := eq_true p152; replace q152 := eq_true q152; have p153 : 0 ≤ (t151 : Int) := zd; have q153 : t151 < (l0_2.length : Int) := zd; obtain ⟨ad153, e153, hx153_0⟩ := Kd.at_int HR0_2.out t151 p153 q153; cases e153; replace hx153_0 := zx HB.out hx153_0; replace p153 := eq_true p153; replace q153 := eq_true q153))
                         repeat (go_quiet (first | (go_at_call 70; (with_reducible refine (spec_l4to.calls a0_0 a0_1 x4_3 x6_5 t151 _ A45.out).mono ?_); rintro e w' ⟨rfl, ⟨nd, rfl⟩⟩; (try first | exact ⟨rfl, _, World.drewN_drewN _ _ _⟩ | exact ⟨rfl, _, Eq.trans (World.drewN_drewN _ _ _) (congrArg (World.drewN _) (Nat.add_assoc _ _ _))⟩); obtain ⟨Ao57, co57, eo57⟩ := Kd.R_slice HO_5.out; subst eo57; have p152 : 0 ≤ (x6_5 : Int) := zd; have q152 : x6_5 < (t148.length : Int) := zd; obtain ⟨ad152, e152, hx152_0⟩ := Kd.at_bool (Kd.R_reads' HO_5.out).2.2 x6_5 p152 q152; (try rw [← Nbq48.out] at hx152_0); cases e152; replace p152 := eq_true p152; replace q152 := eq_true q152; have p153 : 0 ≤ (t151 : Int) := zd; have q153 : t151 < (l0_2.length : Int) := zd; obtain ⟨ad153, e153, hx153_0⟩ := Kd.at_int HR0_2.out t151 p153 q153; cases e153; replace hx153_0 := zx HB.out hx153_0; replace p153 := eq_true p153; replace q153 := eq_true q153)); try go_wp2_with (first | (go_at_call 70; (with_reducible refine (spec_l4to.calls a0_0 a0_1 x4_3 x6_5 t151 _ A45.out).mono ?_); rintro e w' ⟨rfl, ⟨nd, rfl⟩⟩; (try first | exact ⟨rfl, _, World.drewN_drewN _ _ _⟩ | exact ⟨rfl, _, Eq.trans (World.drewN_drewN _ _ _) (congrArg (World.drewN _) (Nat.add_assoc _ _ _))⟩); obtain ⟨Ao57, co57, eo57⟩ := Kd.R_slice HO_5.out; subst eo57; have p152 : 0 ≤ (x6_5 : Int) := zd; have q152 : x6_5 < (t148.length : Int) := zd; obtain ⟨ad152, e152, hx152_0⟩ := Kd.at_bool (Kd.R_reads' HO_5.out).2.2 x6_5 p152 q152; (try rw [← Nbq48.out] at hx152_0); cases e152; replace p152 := eq_true p152; replace q152 := eq_true q152; have p153 : 0 ≤ (t151 : Int) := zd; have q153 : t151 < (l0_2.length : Int) := zd; obtain ⟨ad153, e153, hx153_0⟩ := Kd.at_int HR0_2.out t151 p153 q153; cases e153; replace hx153_0 := zx HB.out hx153_0; replace p153 := eq_true p153; replace q153 := eq_true q153)))
                         go_ret
                         exact ⟨ze, (zs GE139.out)⟩
                        ·rw [if_neg c55] at H
                         have c55b0 : ((rd l0_2 t151) == 0) = false := beq_eq_false_iff_ne.mpr c55
                         have c55b1 : ((rd l0_2 t151) != 0) = true := bne_iff_ne.mpr c55
                         have H' := zA H
                         clear H
                         obtain ⟨hcz58_0, hcz58_1, hcz58_2, hcz58_3, hcz58_4, hfz58_0, hfz58_1, hfz58_2, hfz58_3, hfz58_4⟩ := zh5 BK139.out
                         go_wp2_with (first | (go_at_call 70; (with_reducible refine (spec_l4to.calls a0_0 a0_1 x4_3 x6_5 t151 _ A45.out).mono ?_); rintro e w' ⟨rfl, ⟨nd, rfl⟩⟩; (try first | exact ⟨rfl, _, World.drewN_drewN _ _ _⟩ | exact ⟨rfl, _, Eq.trans (World.drewN_drewN _ _ _) (congrArg (World.drewN _) (Nat.add_assoc _ _ _))⟩); obtain ⟨Ao59, co59, eo59⟩ := Kd.R_slice HO_5.out; subst eo59; have p152 : 0 ≤ (x6_5 : Int) := zd; have q152 : x6_5 < (t148.length : Int) := zd; obtain ⟨ad152, e152, hx152_0⟩ := Kd.at_bool (Kd.R_reads' HO_5.out).2.2 x6_5 p152 q152; (try rw [← Nbq48.out] at hx152_0); cases e152; replace p152 := eq_true p152; replace q152 := eq_true q152; have p153 : 0 ≤ (t151 : Int) := zd; have q153 : t151 < (l0_2.length : Int) := zd; obtain ⟨ad153, e153, hx153_0⟩ := Kd.at_int HR0_2.out t151 p153 q153; cases e153; replace hx153_0 := zx HB.out hx153_0; replace p153 := eq_true p153; replace q153 := eq_true q153))
                         repeat (go_quiet (first | (go_at_call 70; (with_reducible refine (spec_l4to.calls a0_0 a0_1 x4_3 x6_5 t151 _ A45.out).mono ?_); rintro e w' ⟨rfl, ⟨nd, rfl⟩⟩; (try first | exact ⟨rfl, _, World.drewN_drewN _ _ _⟩ | exact ⟨rfl, _, Eq.trans (World.drewN_drewN _ _ _) (congrArg (World.drewN _) (Nat.add_assoc _ _ _))⟩); obtain ⟨Ao59, co59, eo59⟩ := Kd.R_slice HO_5.out; subst eo59; have p152 : 0 ≤ (x6_5 : Int) := zd; have q152 : x6_5 < (t148.length : Int) := zd; obtain ⟨ad152, e152, hx152_0⟩ := Kd.at_bool (Kd.R_reads' HO_5.out).2.2 x6_5 p152 q152; (try rw [← Nbq48.out] at hx152_0); cases e152; replace p152 := eq_true p152; replace q152 := eq_true q152; have p153 : 0 ≤ (t151 : Int) := zd; have q153 : t151 < (l0_2.length : Int) := zd; obtain ⟨ad153, e153, hx153_0⟩ := Kd.at_int HR0_2.out t151 p153 q153; cases e153; replace hx153_0 := zx HB.out hx153_0; replace p153 := eq_true p153; replace q153 := eq_true q153)); try go_wp2_with (first | (go_at_call 70; (with_reducible refine (spec_l4to.calls a0_0 a0_1 x4_3 x6_5 t151 _ A45.out).mono ?_); rintro e w' ⟨rfl, ⟨nd, rfl⟩⟩; (try first | exact ⟨rfl, _, World.drewN_drewN _ _ _⟩ | exact ⟨rfl, _, Eq.trans (World.drewN_drewN _ _ _) (congrArg (World.drewN _) (Nat.add_assoc _ _ _))⟩); obtain ⟨Ao59, co59, eo59⟩ := Kd.R_slice HO_5.out; subst eo59; have p152 : 0 ≤ (x6_5 : Int) := zd; have q152 : x6_5 < (t148.length : Int) := zd; obtain ⟨ad152, e152, hx152_0⟩ := Kd.at_bool (Kd.R_reads' HO_5.out).2.2 x6_5 p152 q152; (try rw [← Nbq48.out] at hx152_0); cases e152; replace p152 := eq_true p152; replace q152 := eq_true q152; have p153 : 0 ≤ (t151 : Int) := zd; have q153 : t151 < (l0_2.length : Int) := zd; obtain ⟨ad153, e153, hx153_0⟩ := Kd.at_int HR0_2.out t151 p153 q153; cases e153; replace hx153_0 := zx HB.out hx153_0; replace p153 := eq_true p153; replace q153 := eq_true q153)))
                         go_roundg k5
                         case measure => have := HJ1.out; have := HJ11.out; have := HK3.out; have := HJ22.out; have := HK5.out; omega
                         case rel => exact ⟨(wrap64 (x6_5 + 1)), zr, H', ⟨by have := HJ1.out; have := HJ11.out; have := HK3.out; have := HJ22.out; have := HK5.out; omega⟩, ⟨zR HO_5.out⟩, ⟨zb BK139.out⟩, ⟨zs GE139.out⟩⟩
                       ·rw [if_neg c54] at H
                        exact absurd H (by simp)
                      ·rw [if_neg c53] at H
                       exact absurd H (by simp)
                    ·replace c49 := Bool.eq_false_iff.mpr c49
                     subst c49
                     have H1 : (spec_ValidLayout.l1 k5 (wrap64 (a0_0 * a0_1)) x4_3 t148 (wrap64 (x6_5 + 1)) a0_0 a0_1 l0_2 l0_3 l0_4) = some r := by rw [if_neg (show ¬ (false = true) by decide)] at H; exact H
                     clear H
                     have H := H1
                     clear H1
                     have H' := zA H
                     clear H
                     obtain ⟨hcz60_0, hcz60_1, hcz60_2, hcz60_3, hcz60_4, hfz60_0, hfz60_1, hfz60_2, hfz60_3, hfz60_4⟩ := zh5 BK139.out
                     go_wp2_with (first | (go_at_call 70; (with_reducible refine (spec_l4to.calls a0_0 a0_1 x4_3 x6_5 t151 _ A45.out).mono ?_); rintro e w' ⟨rfl, ⟨nd, rfl⟩⟩; (try first | exact ⟨rfl, _, World.drewN_drewN _ _ _⟩ | exact ⟨rfl, _, Eq.trans (World.drewN_drewN _ _ _) (congrArg (World.drewN _) (Nat.add_assoc _ _ _))⟩); obtain ⟨Ao61, co61, eo61⟩ := Kd.R_slice HO_5.out; subst eo61; have p152 : 0 ≤ (x6_5 : Int) := zd; have q152 : x6_5 < (t148.length : Int) := zd; obtain ⟨ad152, e152, hx152_0⟩ := Kd.at_bool (Kd.R_reads' HO_5.out).2.2 x6_5 p152 q152; (try rw [← Nbq48.out] at hx152_0); cases e152; replace p152 := eq_true p152; replace q152 := eq_true q152))
                     repeat (go_quiet (first | (go_at_call 70; (with_reducible refine (spec_l4to.calls a0_0 a0_1 x4_3 x6_5 t151 _ A45.out).mono ?_); rintro e w' ⟨rfl, ⟨nd, rfl⟩⟩; (try first | exact ⟨rfl, _, World.drewN_drewN _ _ _⟩ | exact ⟨rfl, _, Eq.trans (World.drewN_drewN _ _ _) (congrArg (World.drewN _) (Nat.add_assoc _ _ _))⟩); obtain ⟨Ao61, co61, eo61⟩ := Kd.R_slice HO_5.out; subst eo61; have p152 : 0 ≤ (x6_5 : Int) := zd; have q152 : x6_5 < (t148.length : Int) := zd; obtain ⟨ad152, e152, hx152_0⟩ := Kd.at_bool (Kd.R_reads' HO_5.out).2.2 x6_5 p152 q152; (try rw [← Nbq48.out] at hx152_0); cases e152; replace p152 := eq_true p152; replace q152 := eq_true q152)); try go_wp2_with (first | (go_at_call 70; (with_reducible refine (spec_l4to.calls a0_0 a0_1 x4_3 x6_5 t151 _ A45.out).mono ?_); rintro e w' ⟨rfl, ⟨nd, rfl⟩⟩; (try first | exact ⟨rfl, _, World.drewN_drewN _ _ _⟩ | exact ⟨rfl, _, Eq.trans (World.drewN_drewN _ _ _) (congrArg (World.drewN _) (Nat.add_assoc _ _ _))⟩); obtain ⟨Ao61, co61, eo61⟩ := Kd.R_slice HO_5.out; subst eo61; have p152 : 0 ≤ (x6_5 : Int) := zd; have q152 : x6_5 < (t148.length : Int) := zd; obtain ⟨ad152, e152, hx152_0⟩ := Kd.at_bool (Kd.R_reads' HO_5.out).2.2 x6_5 p152 q152; (try rw [← Nbq48.out] at hx152_0); cases e152; replace p152 := eq_true p152; replace q152 := eq_true q152)))
                     go_roundg k5
                     case measure => have := HJ1.out; have := HJ11.out; have := HK3.out; have := HJ22.out; have := HK5.out; omega
                     case rel => exact ⟨(wrap64 (x6_5 + 1)), zr, H', ⟨by have := HJ1.out; have := HJ11.out; have := HK3.out; have := HJ22.out; have := HK5.out; omega⟩, ⟨zR HO_5.out⟩, ⟨zb BK139.out⟩, ⟨zs GE139.out⟩⟩
                   ·rw [if_neg c47] at H
                    exact absurd H (by simp)
                  ·rw [if_neg c46] at H
                   exact absurd H (by simp)
                 ·rw [if_neg c44] at H
                  have c44b0 : decide (x6_5 < 4) = false := decide_eq_false c44
                  clear c44
                  have H' := zA H
                  clear H
                  go_wp2
                  repeat (go_quiet (fail); try go_wp2)
                  go_roundg k5
                  case measure => have := HJ1.out; have := HJ11.out; have := HK3.out; have := HJ22.out; have := HK5.out; omega
                  case rel => exact ⟨(wrap64 (x4_3 + 1)), zr, H', ⟨by have := HJ1.out; have := HJ11.out; have := HK3.out; have := HJ22.out; have := HK5.out; omega⟩, ⟨zb BK139.out⟩, ⟨zs GE139.out⟩⟩
              ·rw [if_neg c40] at H
               exact absurd H (by simp)
             ·rw [if_neg c39] at H
              exact absurd H (by simp)
         ·rw [if_neg c22] at H
          have c22b0 : decide (x4_3 < (wrap64 (a0_0 * a0_1))) = false := decide_eq_false c22
          clear c22
          have H' := zA H
          clear H
          go_wp2
          repeat (go_quiet (fail); try go_wp2)
          go_loopg [8] k3 (fun kq v8 w' => ∃ (x8_4 : Int), v8 = .int .i64 x8_4 ∧ Aside0 (spec_ValidLayout.l2 kq x8_4 a0_0 a0_1 l0_2 l0_3 l0_4 = some r) ∧ Aside0 (kq ≤ k3) ∧ Aside0 (w'.heap[gb139]? = some (.cells #[.int .i64 a0_0, .int .i64 a0_1, (.slice A0_2 l0_2.length c0_2), (.slice A0_3 l0_3.length c0_3), (.slice A0_4 l0_4.length c0_4)] 33 (0, 0))) ∧ Aside0 (Below w.heap.size w w'))
          case atStart => exact ⟨(0), zr, H', ⟨Nat.le_refl _⟩, ⟨zb BK139.out⟩, ⟨zs GE139.out⟩⟩
          case round =>
           clear H'
           (try clear c1); (try clear p1); (try clear q1); (try clear hx1); (try clear c2); (try clear p2); (try clear c3); (try clear c4); (try clear c4b0); (try clear q4); (try clear c5); (try clear c6); (try clear c6b0); (try clear p6); (try clear c8); (try clear c8b0); (try clear c11); (try clear c14); (try clear c14b0); (try clear c14b1); (try clear p14); (try clear q14); (try clear hx14); (try clear c15); (try clear c15b0); (try clear c15b1); (try clear p15); (try clear q15); (try clear hx15); (try clear c21); (try clear c22); (try clear c22b0); (try clear c24); (try clear c24b0); (try clear c25); (try clear c25b0); (try clear c26); (try clear c26b0); (try clear c28); (try clear c28b0); (try clear c30); (try clear c30b0); (try clear c31); (try clear c31b0); (try clear c33); (try clear c33b0); (try clear c35); (try clear c35b0); (try clear c35b1); (try clear c38); (try clear c39); (try clear c39b0); (try clear c40); (try clear c40b0); (try clear c44); (try clear c44b0); (try clear c46); (try clear c46b0); (try clear c47); (try clear c47b0); (try clear q48); (try clear c49); (try clear c50); (try clear c50b0); (try clear c53); (try clear c53b0); (try clear c54); (try clear c54b0); (try clear c55); (try clear c55b0); (try clear c55b1); (try clear hcz10_0 hcz10_1 hcz10_2 hcz10_3 hcz10_4); (try clear hcz13_0 hcz13_1 hcz13_2 hcz13_3 hcz13_4); (try clear hcz17_0 hcz17_1 hcz17_2 hcz17_3 hcz17_4); (try clear hcz19_0 hcz19_1 hcz19_2 hcz19_3 hcz19_4); (try clear hcz20_0 hcz20_1 hcz20_2 hcz20_3 hcz20_4); (try clear hcz27_0 hcz27_1 hcz27_2 hcz27_3 hcz27_4); (try clear hcz29_0 hcz29_1 hcz29_2 hcz29_3 hcz29_4); (try clear hcz32_0 hcz32_1 hcz32_2 hcz32_3 hcz32_4); (try clear hcz34_0 hcz34_1 hcz34_2 hcz34_3 hcz34_4); (try clear hcz36_0 hcz36_1 hcz36_2 hcz36_3 hcz36_4); (try clear hcz37_0 hcz37_1 hcz37_2 hcz37_3 hcz37_4); (try clear hcz42_0 hcz42_1 hcz42_2 hcz42_3 hcz42_4); (try clear hcz51_0 hcz51_1 hcz51_2 hcz51_3 hcz51_4); (try clear hcz56_0 hcz56_1 hcz56_2 hcz56_3 hcz56_4); (try clear hcz58_0 hcz58_1 hcz58_2 hcz58_3 hcz58_4); (try clear hcz5_0 hcz5_1 hcz5_2 hcz5_3 hcz5_4); (try clear hcz60_0 hcz60_1 hcz60_2 hcz60_3 hcz60_4); (try clear hcz7_0 hcz7_1 hcz7_2 hcz7_3 hcz7_4); (try clear hcz9_0 hcz9_1 hcz9_2 hcz9_3 hcz9_4); (try clear hfz10_0 hfz10_1 hfz10_2 hfz10_3 hfz10_4); (try clear hfz13_0 hfz13_1 hfz13_2 hfz13_3 hfz13_4); (try clear hfz17_0 hfz17_1 hfz17_2 hfz17_3 hfz17_4); (try clear hfz19_0 hfz19_1 hfz19_2 hfz19_3 hfz19_4); (try clear hfz20_0 hfz20_1 hfz20_2 hfz20_3 hfz20_4); (try clear hfz27_0 hfz27_1 hfz27_2 hfz27_3 hfz27_4); (try clear hfz29_0 hfz29_1 hfz29_2 hfz29_3 hfz29_4); (try clear hfz32_0 hfz32_1 hfz32_2 hfz32_3 hfz32_4); (try clear hfz34_0 hfz34_1 hfz34_2 hfz34_3 hfz34_4); (try clear hfz36_0 hfz36_1 hfz36_2 hfz36_3 hfz36_4); (try clear hfz37_0 hfz37_1 hfz37_2 hfz37_3 hfz37_4); (try clear hfz42_0 hfz42_1 hfz42_2 hfz42_3 hfz42_4); (try clear hfz51_0 hfz51_1 hfz51_2 hfz51_3 hfz51_4); (try clear hfz56_0 hfz56_1 hfz56_2 hfz56_3 hfz56_4); (try clear hfz58_0 hfz58_1 hfz58_2 hfz58_3 hfz58_4); (try clear hfz5_0 hfz5_1 hfz5_2 hfz5_3 hfz5_4); (try clear hfz60_0 hfz60_1 hfz60_2 hfz60_3 hfz60_4); (try clear hfz7_0 hfz7_1 hfz7_2 hfz7_3 hfz7_4); (try clear hfz9_0 hfz9_1 hfz9_2 hfz9_3 hfz9_4); (try clear hx141_0); (try clear hx142_0); (try clear hx143_0); (try clear hx144_0); (try clear hx145_0); (try clear hx146_0); (try clear hx147_0); (try clear hx152_0); (try clear hx153_0); (try clear p1); (try clear p14); (try clear p141); (try clear p142); (try clear p143); (try clear p144); (try clear p145); (try clear p146); (try clear p147); (try clear p152); (try clear p153); (try clear p2); (try clear p6); (try clear q1); (try clear q14); (try clear q141); (try clear q142); (try clear q143); (try clear q144); (try clear q145); (try clear q146); (try clear q147); (try clear q152); (try clear q153)
           obtain ⟨x8_4, rfl, HA, HK4, BK139, HB⟩ := hrel
           cases gk with
           | zero => exact absurd HA.out (by simp [spec_ValidLayout.l2])
           | succ k4 =>
            have H := HA.out
            clear HA
            simp only [spec_ValidLayout.l2] at H
            by_cases c62 : x8_4 < (l0_4.length : Int)
            ·rw [if_pos c62] at H
             have c62b0 : decide (x8_4 < (l0_4.length : Int)) = true := decide_eq_true c62
             clear c62
             by_cases c63 : 0 ≤ x8_4
             ·rw [if_pos c63] at H
              have c63b0 : decide (0 ≤ x8_4) = true := decide_eq_true c63
              clear c63
              by_cases c64 : 0 ≤ ((rd_T120 l0_4 x8_4).f2)
              ·rw [if_pos c64] at H
               have c64b0 : decide (0 ≤ ((rd_T120 l0_4 x8_4).f2)) = true := decide_eq_true c64
               clear c64
               by_cases c65 : ((rd_T120 l0_4 x8_4).f2) < (l0_2.length : Int)
               ·rw [if_pos c65] at H
                have c65b0 : decide (((rd_T120 l0_4 x8_4).f2) < (l0_2.length : Int)) = true := decide_eq_true c65
                clear c65
                by_cases c66 : (rd l0_2 ((rd_T120 l0_4 x8_4).f2)) = 0
                ·rw [if_pos c66] at H
                 have c66b0 : ((rd l0_2 ((rd_T120 l0_4 x8_4).f2)) == 0) = true := beq_iff_eq.mpr c66
                 have c66b1 : ((rd l0_2 ((rd_T120 l0_4 x8_4).f2)) != 0) = false := bne_eq_false_iff_eq.mpr c66
                 clear c66
                 obtain rfl := Option.some.inj H
                 obtain ⟨hcz67_0, hcz67_1, hcz67_2, hcz67_3, hcz67_4, hfz67_0, hfz67_1, hfz67_2, hfz67_3, hfz67_4⟩ := zh5 BK139.out
                 have p154 : 0 ≤ (x8_4 : Int) := zd
                 have q154 : x8_4 < (l0_4.length : Int) := zd
                 obtain ⟨ad154, A154_0, c154_0, e154, hx154_0, hx154_1, hx154_2, hl154_0, hi154_0⟩ := at_T120 HR0_4.out x8_4 p154 q154
                 cases e154
                 replace hx154_0 := zx HB.out hx154_0
                 replace hx154_1 := zx HB.out hx154_1
                 replace hx154_2 := zx HB.out hx154_2
                 have HR154_0 := zA hi154_0
                 have HC154_0 := zA hl154_0
                 clear hi154_0 hl154_0
                 replace p154 := eq_true p154
                 replace q154 := eq_true q154
                 have p155 : 0 ≤ (((rd_T120 l0_4 x8_4).f2) : Int) := zd
                 have q155 : ((rd_T120 l0_4 x8_4).f2) < (l0_2.length : Int) := zd
                 obtain ⟨ad155, e155, hx155_0⟩ := Kd.at_int HR0_2.out ((rd_T120 l0_4 x8_4).f2) p155 q155
                 cases e155
                 replace hx155_0 := zx HB.out hx155_0
                 replace p155 := eq_true p155
                 replace q155 := eq_true q155
                 go_wp2
                 repeat (go_quiet (fail); try go_wp2)
                 go_ret
                 exact ⟨ze, (zs GE139.out)⟩
                ·rw [if_neg c66] at H
                 have c66b0 : ((rd l0_2 ((rd_T120 l0_4 x8_4).f2)) == 0) = false := beq_eq_false_iff_ne.mpr c66
                 have c66b1 : ((rd l0_2 ((rd_T120 l0_4 x8_4).f2)) != 0) = true := bne_iff_ne.mpr c66
                 have H' := zA H
                 clear H
                 obtain ⟨hcz68_0, hcz68_1, hcz68_2, hcz68_3, hcz68_4, hfz68_0, hfz68_1, hfz68_2, hfz68_3, hfz68_4⟩ := zh5 BK139.out
                 have p154 : 0 ≤ (x8_4 : Int) := zd
                 have q154 : x8_4 < (l0_4.length : Int) := zd
                 obtain ⟨ad154, A154_0, c154_0, e154, hx154_0, hx154_1, hx154_2, hl154_0, hi154_0⟩ := at_T120 HR0_4.out x8_4 p154 q154
                 cases e154
                 replace hx154_0 := zx HB.out hx154_0
                 replace hx154_1 := zx HB.out hx154_1
                 replace hx154_2 := zx HB.out hx154_2
                 have HR154_0 := zA hi154_0
                 have HC154_0 := zA hl154_0
                 clear hi154_0 hl154_0
                 replace p154 := eq_true p154
                 replace q154 := eq_true q154
                 have p155 : 0 ≤ (((rd_T120 l0_4 x8_4).f2) : Int) := zd
                 have q155 : ((rd_T120 l0_4 x8_4).f2) < (l0_2.length : Int) := zd
                 obtain ⟨ad155, e155, hx155_0⟩ := Kd.at_int HR0_2.out ((rd_T120 l0_4 x8_4).f2) p155 q155
                 cases e155
                 replace hx155_0 := zx HB.out hx155_0
                 replace p155 := eq_true p155
                 replace q155 := eq_true q155
                 go_wp2
                 repeat (go_quiet (fail); try go_wp2)
                 go_roundg k4
                 case measure => have := HJ1.out; have := HJ11.out; have := HK3.out; have := HK4.out; omega
                 case rel => exact ⟨(wrap64 (x8_4 + 1)), zr, H', ⟨by have := HJ1.out; have := HJ11.out; have := HK3.out; have := HK4.out; omega⟩, ⟨zb BK139.out⟩, ⟨zs GE139.out⟩⟩
               ·rw [if_neg c65] at H
                exact absurd H (by simp)
              ·rw [if_neg c64] at H
               exact absurd H (by simp)
             ·rw [if_neg c63] at H
              exact absurd H (by simp)
            ·rw [if_neg c62] at H
             have c62b0 : decide (x8_4 < (l0_4.length : Int)) = false := decide_eq_false c62
             clear c62
             obtain rfl := Option.some.inj H
             obtain ⟨hcz69_0, hcz69_1, hcz69_2, hcz69_3, hcz69_4, hfz69_0, hfz69_1, hfz69_2, hfz69_3, hfz69_4⟩ := zh5 BK139.out
             go_wp2
             repeat (go_quiet (fail); try go_wp2)
             go_ret
             exact ⟨ze, (zs GE139.out)⟩

end Go.Proofs.YthbeplmihjhoeaaDoor.PFnExactBuildGraph
