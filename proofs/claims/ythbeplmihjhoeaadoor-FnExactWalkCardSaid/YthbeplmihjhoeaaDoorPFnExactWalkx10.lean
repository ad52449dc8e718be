-- made by wip/tools/myprint.py (this session's own program, over the kit's printer)
import Derived.Test.YthbeplmihjhoeaaDoorPFnExactWalkx0
import Derived.Test.YthbeplmihjhoeaaDoorPFnExactWalkx9
namespace Go.Proofs.YthbeplmihjhoeaaDoor.PFnExactWalk
open Go.RowKit Go.Proofs.YthbeplmihjhoeaaDoorW.PrintWords Go.Proofs.YthbeplmihjhoeaaDoorW.PrintLast Go.Proofs.YthbeplmihjhoeaaDoorW.PrintMore
attribute [local go_sem] max2_int min2_int max_two min_two max_three min_three max_four min_four   -- for this text's walks alone
set_option linter.unusedVariables false
set_option linter.unusedSimpArgs false

/-! ### impl_Tables_listOk: function 144 -/
mutual
def impl_Tables_listOk.j0 : Nat → Int → List Int → List Int → Bool → Int → Int → List (S120) → List (List Int) → List (List Int) → Option (Bool)
 | 0, _, _, _, _, _, _, _, _, _ => none
 | k + 1, x1, x5, x6, x36, x229000, x229001, x229002, x229003, x229004 => if x36 = true then (some false) else (impl_Tables_listOk.l0 k x1 x5 x6 (x5.length : Int) 0 x229000 x229001 x229002 x229003 x229004)
def impl_Tables_listOk.l0 : Nat → Int → List Int → List Int → Int → Int → Int → Int → List (S120) → List (List Int) → List (List Int) → Option (Bool)
 | 0, _, _, _, _, _, _, _, _, _, _ => none
 | k + 1, x1, x5, x6, x38, x39, x229000, x229001, x229002, x229003, x229004 => if x39 < x38 then (if 0 ≤ x1 then (if x1 < (x229002.length : Int) then (if x39 = ((rd_T120 x229002 x1).f2) then (if 0 ≤ x39 then (if x39 < (x5.length : Int) then (if (rd x5 x39) = 0 then (if x39 < (x6.length : Int) then (if (rd x6 x39) = (-1) then (impl_Tables_listOk.l0 k x1 x5 x6 x38 (wrap64 (x39 + 1)) x229000 x229001 x229002 x229003 x229004) else (some false)) else (none)) else (some false)) else (none)) else (none)) else (if 0 ≤ x39 then (if x39 < (x5.length : Int) then (if (rd x5 x39) = (-1) then (if x39 < (x6.length : Int) then (if (rd x6 x39) = (-1) then (impl_Tables_listOk.l0 k x1 x5 x6 x38 (wrap64 (x39 + 1)) x229000 x229001 x229002 x229003 x229004) else (some false)) else (none)) else (if (rd x5 x39) < 1 then (impl_Tables_listOk.j2 k x1 x5 x6 x39 x38 x39 true x229000 x229001 x229002 x229003 x229004) else (if (rd x5 x39) > 65534 then (impl_Tables_listOk.j2 k x1 x5 x6 x39 x38 x39 true x229000 x229001 x229002 x229003 x229004) else (if x39 < (x6.length : Int) then (if (rd x6 x39) < 0 then (impl_Tables_listOk.j2 k x1 x5 x6 x39 x38 x39 true x229000 x229001 x229002 x229003 x229004) else (impl_Tables_listOk.j2 k x1 x5 x6 x39 x38 x39 (decide ((rd x6 x39) > 3)) x229000 x229001 x229002 x229003 x229004)) else (none))))) else (none)) else (none))) else (none)) else (none)) else (some true)
def impl_Tables_listOk.j2 : Nat → Int → List Int → List Int → Int → Int → Int → Bool → Int → Int → List (S120) → List (List Int) → List (List Int) → Option (Bool)
 | 0, _, _, _, _, _, _, _, _, _, _, _, _ => none
 | k + 1, x1, x5, x6, x7, x38, x39, x67, x229000, x229001, x229002, x229003, x229004 => if x67 = true then (some false) else (if 0 ≤ x7 then (if x7 < (x6.length : Int) then ((impl_side.f x229000 x229001 x7 (rd x6 x7)).bind fun t241 => (if t241 < 0 then (some false) else (if 0 ≤ t241 then (if t241 < (x5.length : Int) then (if (rd x5 t241) < 0 then (some false) else (if x7 < (x5.length : Int) then (if (rd x5 t241) ≥ (rd x5 x7) then (some false) else (impl_Tables_listOk.l0 k x1 x5 x6 x38 (wrap64 (x39 + 1)) x229000 x229001 x229002 x229003 x229004)) else (none))) else (none)) else (none)))) else (none)) else (none))
end
def impl_Tables_listOk.f (k : Nat) (a0_0 : Int) (a0_1 : Int) (l0_2 : List (S120)) (l0_3 : List (List Int)) (l0_4 : List (List Int)) (a1 : Int) : Option (Bool) := if 0 ≤ a1 then (if a1 < (l0_3.length : Int) then (if a1 < (l0_4.length : Int) then (if ((rd_L4 l0_3 a1).length : Int) = (wrap64 (a0_0 * a0_1)) then (impl_Tables_listOk.j0 k a1 (rd_L4 l0_3 a1) (rd_L4 l0_4 a1) (((rd_L4 l0_4 a1).length : Int) != (wrap64 (a0_0 * a0_1))) a0_0 a0_1 l0_2 l0_3 l0_4) else (impl_Tables_listOk.j0 k a1 (rd_L4 l0_3 a1) (rd_L4 l0_4 a1) true a0_0 a0_1 l0_2 l0_3 l0_4)) else (none)) else (none)) else (none)
theorem impl_Tables_listOk.mono_l : ∀ k, (∀ y0 y1 y2 y3 y4 y5 y6 y7 y8, LeO (impl_Tables_listOk.j0 k y0 y1 y2 y3 y4 y5 y6 y7 y8) (impl_Tables_listOk.j0 (k + 1) y0 y1 y2 y3 y4 y5 y6 y7 y8)) ∧ (∀ y0 y1 y2 y3 y4 y5 y6 y7 y8 y9, LeO (impl_Tables_listOk.l0 k y0 y1 y2 y3 y4 y5 y6 y7 y8 y9) (impl_Tables_listOk.l0 (k + 1) y0 y1 y2 y3 y4 y5 y6 y7 y8 y9)) ∧ (∀ y0 y1 y2 y3 y4 y5 y6 y7 y8 y9 y10 y11, LeO (impl_Tables_listOk.j2 k y0 y1 y2 y3 y4 y5 y6 y7 y8 y9 y10 y11) (impl_Tables_listOk.j2 (k + 1) y0 y1 y2 y3 y4 y5 y6 y7 y8 y9 y10 y11))
 | 0 => ⟨fun _ _ _ _ _ _ _ _ _ r h => by simp [impl_Tables_listOk.j0] at h, fun _ _ _ _ _ _ _ _ _ _ r h => by simp [impl_Tables_listOk.l0] at h, fun _ _ _ _ _ _ _ _ _ _ _ _ r h => by simp [impl_Tables_listOk.j2] at h⟩
 | k + 1 => by
  obtain ⟨ih0, ih1, ih2⟩ := impl_Tables_listOk.mono_l k
  refine ⟨?_, ?_, ?_⟩
  ·intro y0 y1 y2 y3 y4 y5 y6 y7 y8
   unfold impl_Tables_listOk.j0
   repeat' first
   | (with_reducible exact ih0 _ _ _ _ _ _ _ _ _)
   | (with_reducible exact ih1 _ _ _ _ _ _ _ _ _ _)
   | (with_reducible exact ih2 _ _ _ _ _ _ _ _ _ _ _ _)
   | (with_reducible exact LeO.refl _)
   | (with_reducible exact LeO.none _)
   | (with_reducible refine LeO.ite ?_ ?_)
   | (with_reducible refine LeO.bind ?_ (fun _ => ?_))
   | exact LeO.none _
   | refine LeO.ite ?_ ?_
   | refine LeO.bind ?_ (fun _ => ?_)
  ·intro y0 y1 y2 y3 y4 y5 y6 y7 y8 y9
   unfold impl_Tables_listOk.l0
   repeat' first
   | (with_reducible exact ih0 _ _ _ _ _ _ _ _ _)
   | (with_reducible exact ih1 _ _ _ _ _ _ _ _ _ _)
   | (with_reducible exact ih2 _ _ _ _ _ _ _ _ _ _ _ _)
   | (with_reducible exact LeO.refl _)
   | (with_reducible exact LeO.none _)
   | (with_reducible refine LeO.ite ?_ ?_)
   | (with_reducible refine LeO.bind ?_ (fun _ => ?_))
   | exact LeO.none _
   | refine LeO.ite ?_ ?_
   | refine LeO.bind ?_ (fun _ => ?_)
  ·intro y0 y1 y2 y3 y4 y5 y6 y7 y8 y9 y10 y11
   unfold impl_Tables_listOk.j2
   repeat' first
   | (with_reducible exact ih0 _ _ _ _ _ _ _ _ _)
   | (with_reducible exact ih1 _ _ _ _ _ _ _ _ _ _)
   | (with_reducible exact ih2 _ _ _ _ _ _ _ _ _ _ _ _)
   | (with_reducible exact LeO.refl _)
   | (with_reducible exact LeO.none _)
   | (with_reducible refine LeO.ite ?_ ?_)
   | (with_reducible refine LeO.bind ?_ (fun _ => ?_))
   | exact LeO.none _
   | refine LeO.ite ?_ ?_
   | refine LeO.bind ?_ (fun _ => ?_)
theorem impl_Tables_listOk.mono : ∀ a0 a1 a2 a3 a4 a5 k, LeO (impl_Tables_listOk.f k a0 a1 a2 a3 a4 a5) (impl_Tables_listOk.f (k + 1) a0 a1 a2 a3 a4 a5) := by
 intro a0 a1 a2 a3 a4 a5 k
 obtain ⟨ih0, ih1, ih2⟩ := impl_Tables_listOk.mono_l k
 unfold impl_Tables_listOk.f
 repeat' first
   | (with_reducible exact ih0 _ _ _ _ _ _ _ _ _)
   | (with_reducible exact ih1 _ _ _ _ _ _ _ _ _ _)
   | (with_reducible exact ih2 _ _ _ _ _ _ _ _ _ _ _ _)
   | (with_reducible exact LeO.refl _)
   | (with_reducible exact LeO.none _)
   | (with_reducible refine LeO.ite ?_ ?_)
   | (with_reducible refine LeO.bind ?_ (fun _ => ?_))
   | exact LeO.none _
   | refine LeO.ite ?_ ?_
   | refine LeO.bind ?_ (fun _ => ?_)
set_option maxHeartbeats 8000000 in
set_option maxRecDepth 100000 in
theorem impl_Tables_listOk.calls (k : Nat) (a0_0 : Int) (a0_1 : Int) (A0_2 : Option Addr) (c0_2 : Nat) (l0_2 : List (S120)) (A0_3 : Option Addr) (c0_3 : Nat) (l0_3 : List (List Int)) (A0_4 : Option Addr) (c0_4 : Nat) (l0_4 : List (List Int)) (a1 : Int) (r : Bool) (w : World) (hr0_2 : Kd.C k120 w A0_2 l0_2.length l0_2) (hc0_2 : l0_2.length ≤ c0_2) (hr0_3 : Kd.C (Kd.slice 3 (Kd.int .i64)) w A0_3 l0_3.length l0_3) (hc0_3 : l0_3.length ≤ c0_3) (hr0_4 : Kd.C (Kd.slice 3 (Kd.int .i64)) w A0_4 l0_4.length l0_4) (hc0_4 : l0_4.length ≤ c0_4) (h : impl_Tables_listOk.f k a0_0 a0_1 l0_2 l0_3 l0_4 a1 = some r) :
  Calls Tryd.prog 144 #[.agg #[.int .i64 a0_0, .int .i64 a0_1, .slice A0_2 l0_2.length c0_2, .slice A0_3 l0_3.length c0_3, .slice A0_4 l0_4.length c0_4], .int .i64 a1] w fun e w' => e = .returned (.bool r) ∧ Below w.heap.size w w' := by
 have hu47 := Tryd.underlying47
 have HR0_2 := Aside0.mk hr0_2
 have HC0_2 := Aside0.mk hc0_2
 clear hr0_2 hc0_2
 have HR0_3 := Aside0.mk hr0_3
 have HC0_3 := Aside0.mk hc0_3
 clear hr0_3 hc0_3
 have HR0_4 := Aside0.mk hr0_4
 have HC0_4 := Aside0.mk hc0_4
 clear hr0_4 hc0_4
 have HB := Aside0.mk (Below.refl w.heap.size w)
 have H : (if 0 ≤ a1 then (if a1 < (l0_3.length : Int) then (if a1 < (l0_4.length : Int) then (if ((rd_L4 l0_3 a1).length : Int) = (wrap64 (a0_0 * a0_1)) then (impl_Tables_listOk.j0 k a1 (rd_L4 l0_3 a1) (rd_L4 l0_4 a1) (((rd_L4 l0_4 a1).length : Int) != (wrap64 (a0_0 * a0_1))) a0_0 a0_1 l0_2 l0_3 l0_4) else (impl_Tables_listOk.j0 k a1 (rd_L4 l0_3 a1) (rd_L4 l0_4 a1) true a0_0 a0_1 l0_2 l0_3 l0_4)) else (none)) else (none)) else (none)) = some r := h
 clear h
 by_cases c3 : 0 ≤ a1
 ·rw [if_pos c3] at H
  have c3b0 : decide (0 ≤ a1) = true := decide_eq_true c3
  clear c3
  by_cases c4 : a1 < (l0_3.length : Int)
  ·rw [if_pos c4] at H
   have c4b0 : decide (a1 < (l0_3.length : Int)) = true := decide_eq_true c4
   clear c4
   by_cases c5 : a1 < (l0_4.length : Int)
   ·rw [if_pos c5] at H
    have c5b0 : decide (a1 < (l0_4.length : Int)) = true := decide_eq_true c5
    clear c5
    have HC6 := Aside0.mk H
    clear H
    go_enter Tryd.func144, Tryd.ntmps144
    go_upto_region 2 with (first | ((with_reducible refine gate_dst (N := 2) rfl ?_); (try (refine gate_guard (by rfl) ?_; dsimp only)); refine box_event ?hg (N := 2) ?hd (cs := #[.int .i64 a0_0, .int .i64 a0_1, .slice A0_2 l0_2.length c0_2, .slice A0_3 l0_3.length c0_3, .slice A0_4 l0_4.length c0_4]) (t := 47) ?hr ?_; (case hd => rfl); (case hg => rfl); (case hr => first | (go_simp; done) | (go_simp; rfl)); intro gb228 hg w7 hbox hb; have n0_ := Aside0.mk (below_step z_ hb); have n1_ := Aside0.mk (hbox); have n2_ := Aside0.mk ((by rw [hg]; exact (below_size z_) : w.heap.size ≤ gb228)); have n3_ := Aside0.mk ((by rw [hg]; exact (below_size z_) : w.heap.size ≤ gb228)); clear HB; have HB := n0_; have BK228 := n1_; have GW228 := n2_; have GE228 := n3_; clear n0_ n1_ n2_ n3_; clear hb hbox hg; have hcz8_0 : w7.cell? ⟨gb228, 0, none⟩ = some (.int .i64 a0_0) := (blk_cell BK228.out 0).trans rfl; have hcz8_1 : w7.cell? ⟨gb228, 1, none⟩ = some (.int .i64 a0_1) := (blk_cell BK228.out 1).trans rfl; have hcz8_2 : w7.cell? ⟨gb228, 2, none⟩ = some (.slice A0_2 l0_2.length c0_2) := (blk_cell BK228.out 2).trans rfl; have hcz8_3 : w7.cell? ⟨gb228, 3, none⟩ = some (.slice A0_3 l0_3.length c0_3) := (blk_cell BK228.out 3).trans rfl; have hcz8_4 : w7.cell? ⟨gb228, 4, none⟩ = some (.slice A0_4 l0_4.length c0_4) := (blk_cell BK228.out 4).trans rfl; have hfz8_0 := blk_frozen BK228.out 0; have hfz8_1 := blk_frozen BK228.out 1; have hfz8_2 := blk_frozen BK228.out 2; have hfz8_3 := blk_frozen BK228.out 3; have hfz8_4 := blk_frozen BK228.out 4; have p229 : 0 ≤ (a1 : Int) := zd; have q229 : a1 < (l0_3.length : Int) := zd; obtain ⟨ad229, A229_0, c229_0, e229, hx229_0, hl229_0, hi229_0⟩ := at_L4 HR0_3.out a1 p229 q229; cases e229; replace hx229_0 := (HB.out.cell (World.block_lt_of_cell? w _ hx229_0)).trans hx229_0; have HR229_0 := Aside0.mk hi229_0; have HC229_0 := Aside0.mk hl229_0; clear hi229_0 hl229_0; replace p229 := eq_true p229; replace q229 := eq_true q229; have p230 : 0 ≤ (a1 : Int) := zd; have q230 : a1 < (l0_4.length : Int) := zd; obtain ⟨ad230, A230_0, c230_0, e230, hx230_0, hl230_0, hi230_0⟩ := at_L4 HR0_4.out a1 p230 q230; cases e230; replace hx230_0 := (HB.out.cell (World.block_lt_of_cell? w _ hx230_0)).trans hx230_0; have HR230_0 := Aside0.mk hi230_0; have HC230_0 := Aside0.mk hl230_0; clear hi230_0 hl230_0; replace p230 := eq_true p230; replace q230 := eq_true q230))
    repeat (go_quiet (first | ((with_reducible refine gate_dst (N := 2) rfl ?_); (try (refine gate_guard (by rfl) ?_; dsimp only)); refine box_event ?hg (N := 2) ?hd (cs := #[.int .i64 a0_0, .int .i64 a0_1, .slice A0_2 l0_2.length c0_2, .slice A0_3 l0_3.length c0_3, .slice A0_4 l0_4.length c0_4]) (t := 47) ?hr ?_; (case hd => rfl); (case hg => rfl); (case hr => first | (go_simp; done) | (go_simp; rfl)); intro gb228 hg w7 hbox hb; have n0_ := Aside0.mk (below_step z_ hb); have n1_ := Aside0.mk (hbox); have n2_ := Aside0.mk ((by rw [hg]; exact (below_size z_) : w.heap.size ≤ gb228)); have n3_ := Aside0.mk ((by rw [hg]; exact (below_size z_) : w.heap.size ≤ gb228)); clear HB; have HB := n0_; have BK228 := n1_; have GW228 := n2_; have GE228 := n3_; clear n0_ n1_ n2_ n3_; clear hb hbox hg; have hcz8_0 : w7.cell? ⟨gb228, 0, none⟩ = some (.int .i64 a0_0) := (blk_cell BK228.out 0).trans rfl; have hcz8_1 : w7.cell? ⟨gb228, 1, none⟩ = some (.int .i64 a0_1) := (blk_cell BK228.out 1).trans rfl; have hcz8_2 : w7.cell? ⟨gb228, 2, none⟩ = some (.slice A0_2 l0_2.length c0_2) := (blk_cell BK228.out 2).trans rfl; have hcz8_3 : w7.cell? ⟨gb228, 3, none⟩ = some (.slice A0_3 l0_3.length c0_3) := (blk_cell BK228.out 3).trans rfl; have hcz8_4 : w7.cell? ⟨gb228, 4, none⟩ = some (.slice A0_4 l0_4.length c0_4) := (blk_cell BK228.out 4).trans rfl; have hfz8_0 := blk_frozen BK228.out 0; have hfz8_1 := blk_frozen BK228.out 1; have hfz8_2 := blk_frozen BK228.out 2; have hfz8_3 := blk_frozen BK228.out 3; have hfz8_4 := blk_frozen BK228.out 4; have p229 : 0 ≤ (a1 : Int) := zd; have q229 : a1 < (l0_3.length : Int) := zd; obtain ⟨ad229, A229_0, c229_0, e229, hx229_0, hl229_0, hi229_0⟩ := at_L4 HR0_3.out a1 p229 q229; cases e229; replace hx229_0 := (HB.out.cell (World.block_lt_of_cell? w _ hx229_0)).trans hx229_0; have HR229_0 := Aside0.mk hi229_0; have HC229_0 := Aside0.mk hl229_0; clear hi229_0 hl229_0; replace p229 := eq_true p229; replace q229 := eq_true q229; have p230 : 0 ≤ (a1 : Int) := zd; have q230 : a1 < (l0_4.length : Int) := zd; obtain ⟨ad230, A230_0, c230_0, e230, hx230_0, hl230_0, hi230_0⟩ := at_L4 HR0_4.out a1 p230 q230; cases e230; replace hx230_0 := (HB.out.cell (World.block_lt_of_cell? w _ hx230_0)).trans hx230_0; have HR230_0 := Aside0.mk hi230_0; have HC230_0 := Aside0.mk hl230_0; clear hi230_0 hl230_0; replace p230 := eq_true p230; replace q230 := eq_true q230)); go_upto_region 2 with (first | ((with_reducible refine gate_dst (N := 2) rfl ?_); (try (refine gate_guard (by rfl) ?_; dsimp only)); refine box_event ?hg (N := 2) ?hd (cs := #[.int .i64 a0_0, .int .i64 a0_1, .slice A0_2 l0_2.length c0_2, .slice A0_3 l0_3.length c0_3, .slice A0_4 l0_4.length c0_4]) (t := 47) ?hr ?_; (case hd => rfl); (case hg => rfl); (case hr => first | (go_simp; done) | (go_simp; rfl)); intro gb228 hg w7 hbox hb; have n0_ := Aside0.mk (below_step z_ hb); have n1_ := Aside0.mk (hbox); have n2_ := Aside0.mk ((by rw [hg]; exact (below_size z_) : w.heap.size ≤ gb228)); have n3_ := Aside0.mk ((by rw [hg]; exact (below_size z_) : w.heap.size ≤ gb228)); clear HB; have HB := n0_; have BK228 := n1_; have GW228 := n2_; have GE228 := n3_; clear n0_ n1_ n2_ n3_; clear hb hbox hg; have hcz8_0 : w7.cell? ⟨gb228, 0, none⟩ = some (.int .i64 a0_0) := (blk_cell BK228.out 0).trans rfl; have hcz8_1 : w7.cell? ⟨gb228, 1, none⟩ = some (.int .i64 a0_1) := (blk_cell BK228.out 1).trans rfl; have hcz8_2 : w7.cell? ⟨gb228, 2, none⟩ = some (.slice A0_2 l0_2.length c0_2) := (blk_cell BK228.out 2).trans rfl; have hcz8_3 : w7.cell? ⟨gb228, 3, none⟩ = some (.slice A0_3 l0_3.length c0_3) := (blk_cell BK228.out 3).trans rfl; have hcz8_4 : w7.cell? ⟨gb228, 4, none⟩ = some (.slice A0_4 l0_4.length c0_4) := (blk_cell BK228.out 4).trans rfl; have hfz8_0 := blk_frozen BK228.out 0; have hfz8_1 := blk_frozen BK228.out 1; have hfz8_2 := blk_frozen BK228.out 2; have hfz8_3 := blk_frozen BK228.out 3; have hfz8_4 := blk_frozen BK228.out 4; have p229 : 0 ≤ (a1 : Int) := zd; have q229 : a1 < (l0_3.length : Int) := zd; obtain ⟨ad229, A229_0, c229_0, e229, hx229_0, hl229_0, hi229_0⟩ := at_L4 HR0_3.out a1 p229 q229; cases e229; replace hx229_0 := (HB.out.cell (World.block_lt_of_cell? w _ hx229_0)).trans hx229_0; have HR229_0 := Aside0.mk hi229_0; have HC229_0 := Aside0.mk hl229_0; clear hi229_0 hl229_0; replace p229 := eq_true p229; replace q229 := eq_true q229; have p230 : 0 ≤ (a1 : Int) := zd; have q230 : a1 < (l0_4.length : Int) := zd; obtain ⟨ad230, A230_0, c230_0, e230, hx230_0, hl230_0, hi230_0⟩ := at_L4 HR0_4.out a1 p230 q230; cases e230; replace hx230_0 := (HB.out.cell (World.block_lt_of_cell? w _ hx230_0)).trans hx230_0; have HR230_0 := Aside0.mk hi230_0; have HC230_0 := Aside0.mk hl230_0; clear hi230_0 hl230_0; replace p230 := eq_true p230; replace q230 := eq_true q230)))
    (try simp only [Act.put, List.setIfInBounds_toArray, List.set_cons_zero, List.set_cons_succ])
    go_cut [36] (fun v36 wc => ∃ (kq : Nat) (x36_5 : Bool), v36 = .bool x36_5 ∧ Aside0 (impl_Tables_listOk.j0 kq a1 (rd_L4 l0_3 a1) (rd_L4 l0_4 a1) x36_5 a0_0 a0_1 l0_2 l0_3 l0_4 = some r) ∧ Aside0 (kq ≤ k) ∧ Aside0 (wc.heap[gb228]? = some (.cells #[.int .i64 a0_0, .int .i64 a0_1, (.slice A0_2 l0_2.length c0_2), (.slice (some ad229) l0_3.length c0_3), (.slice (some ad230) l0_4.length c0_4)] 47 (0, 0))) ∧ Aside0 (Below w.heap.size w wc))
    case first =>
     have H := HC6.out
     clear HC6
     by_cases c9 : ((rd_L4 l0_3 a1).length : Int) = (wrap64 (a0_0 * a0_1))
     ·rw [if_pos c9] at H
      have c9b0 : (((rd_L4 l0_3 a1).length : Int) == (wrap64 (a0_0 * a0_1))) = true := beq_iff_eq.mpr c9
      have c9b1 : (((rd_L4 l0_3 a1).length : Int) != (wrap64 (a0_0 * a0_1))) = false := bne_eq_false_iff_eq.mpr c9
      clear c9
      (first | rw [c9b0] | (simp only [i64_w, i32_w]; rw [c9b0]) | skip)
      have H' := Aside0.mk H
      clear H
      have hcz10_0 : w7.cell? ⟨gb228, 0, none⟩ = some (.int .i64 a0_0) := (blk_cell BK228.out 0).trans rfl
      have hcz10_1 : w7.cell? ⟨gb228, 1, none⟩ = some (.int .i64 a0_1) := (blk_cell BK228.out 1).trans rfl
      have hcz10_2 : w7.cell? ⟨gb228, 2, none⟩ = some (.slice A0_2 l0_2.length c0_2) := (blk_cell BK228.out 2).trans rfl
      have hcz10_3 : w7.cell? ⟨gb228, 3, none⟩ = some (.slice (some ad229) l0_3.length c0_3) := (blk_cell BK228.out 3).trans rfl
      have hcz10_4 : w7.cell? ⟨gb228, 4, none⟩ = some (.slice (some ad230) l0_4.length c0_4) := (blk_cell BK228.out 4).trans rfl
      have hfz10_0 := blk_frozen BK228.out 0
      have hfz10_1 := blk_frozen BK228.out 1
      have hfz10_2 := blk_frozen BK228.out 2
      have hfz10_3 := blk_frozen BK228.out 3
      have hfz10_4 := blk_frozen BK228.out 4
      go_wp2
      repeat (go_quiet (fail); try go_wp2)
      go_meet
      case rel => exact ⟨_, ((((rd_L4 l0_4 a1).length : Int) != (wrap64 (a0_0 * a0_1)))), zr, H', ⟨by first | omega | exact Nat.le_refl _⟩, ⟨zb BK228.out⟩, ⟨zs GE228.out⟩⟩
     ·rw [if_neg c9] at H
      have c9b0 : (((rd_L4 l0_3 a1).length : Int) == (wrap64 (a0_0 * a0_1))) = false := beq_eq_false_iff_ne.mpr c9
      have c9b1 : (((rd_L4 l0_3 a1).length : Int) != (wrap64 (a0_0 * a0_1))) = true := bne_iff_ne.mpr c9
      (first | rw [c9b0] | (simp only [i64_w, i32_w]; rw [c9b0]) | skip)
      have H' := Aside0.mk H
      clear H
      have hcz11_0 : w7.cell? ⟨gb228, 0, none⟩ = some (.int .i64 a0_0) := (blk_cell BK228.out 0).trans rfl
      have hcz11_1 : w7.cell? ⟨gb228, 1, none⟩ = some (.int .i64 a0_1) := (blk_cell BK228.out 1).trans rfl
      have hcz11_2 : w7.cell? ⟨gb228, 2, none⟩ = some (.slice A0_2 l0_2.length c0_2) := (blk_cell BK228.out 2).trans rfl
      have hcz11_3 : w7.cell? ⟨gb228, 3, none⟩ = some (.slice (some ad229) l0_3.length c0_3) := (blk_cell BK228.out 3).trans rfl
      have hcz11_4 : w7.cell? ⟨gb228, 4, none⟩ = some (.slice (some ad230) l0_4.length c0_4) := (blk_cell BK228.out 4).trans rfl
      have hfz11_0 := blk_frozen BK228.out 0
      have hfz11_1 := blk_frozen BK228.out 1
      have hfz11_2 := blk_frozen BK228.out 2
      have hfz11_3 := blk_frozen BK228.out 3
      have hfz11_4 := blk_frozen BK228.out 4
      go_wp2
      repeat (go_quiet (fail); try go_wp2)
      go_meet
      case rel => exact ⟨_, (true), zr, H', ⟨by first | omega | exact Nat.le_refl _⟩, ⟨zb BK228.out⟩, ⟨zs GE228.out⟩⟩
    case rest =>
     clear HC6
     try clear c1
     try clear c2
     try clear p2
     try clear q2
     try clear hx2
     try clear c3
     try clear c3b0
     try clear c4
     try clear c4b0
     try clear c5
     try clear c5b0
     try clear p6
     try clear c9
     try clear c9b0
     try clear c9b1
     try clear hcz10_0
     try clear hcz10_1
     try clear hcz10_2
     try clear hcz10_3
     try clear hcz10_4
     try clear hcz11_0
     try clear hcz11_1
     try clear hcz11_2
     try clear hcz11_3
     try clear hcz11_4
     try clear hcz8_0
     try clear hcz8_1
     try clear hcz8_2
     try clear hcz8_3
     try clear hcz8_4
     try clear hfz10_0
     try clear hfz10_1
     try clear hfz10_2
     try clear hfz10_3
     try clear hfz10_4
     try clear hfz11_0
     try clear hfz11_1
     try clear hfz11_2
     try clear hfz11_3
     try clear hfz11_4
     try clear hfz8_0
     try clear hfz8_1
     try clear hfz8_2
     try clear hfz8_3
     try clear hfz8_4
     try clear hx229_0
     try clear hx230_0
     try clear p229
     try clear p230
     try clear q229
     try clear q230
     obtain ⟨kq, x36_5, rfl, HA, HJ5, BK228, HB⟩ := hcut
     cases kq with
     | zero => exact absurd HA.out (by simp [impl_Tables_listOk.j0])
     | succ kj5 =>
      have H := HA.out
      clear HA
      simp only [impl_Tables_listOk.j0] at H
      by_cases c12 : x36_5 = true
      ·subst c12
       have H1 : (some false) = some r := by rw [if_pos rfl] at H; exact H
       clear H
       have H := H1
       clear H1
       obtain rfl := Option.some.inj H
       go_wp2
       repeat (go_quiet (fail); try go_wp2)
       go_ret
       exact ⟨ze, (zs GE228.out)⟩
      ·replace c12 := Bool.eq_false_iff.mpr c12
       subst c12
       have H1 : (impl_Tables_listOk.l0 kj5 a1 (rd_L4 l0_3 a1) (rd_L4 l0_4 a1) ((rd_L4 l0_3 a1).length : Int) 0 a0_0 a0_1 l0_2 l0_3 l0_4) = some r := by rw [if_neg (show ¬ (false = true) by decide)] at H; exact H
       clear H
       have H := H1
       clear H1
       have H' := Aside0.mk H
       clear H
       go_wp2
       repeat (go_quiet (fail); try go_wp2)
       go_loopg [39] kj5 (fun kq v39 w' => ∃ (x39_2 : Int), v39 = .int .i64 x39_2 ∧ Aside0 (impl_Tables_listOk.l0 kq a1 (rd_L4 l0_3 a1) (rd_L4 l0_4 a1) ((rd_L4 l0_3 a1).length : Int) x39_2 a0_0 a0_1 l0_2 l0_3 l0_4 = some r) ∧ Aside0 (kq ≤ kj5) ∧ Aside0 (w'.heap[gb228]? = some (.cells #[.int .i64 a0_0, .int .i64 a0_1, (.slice A0_2 l0_2.length c0_2), (.slice (some ad229) l0_3.length c0_3), (.slice (some ad230) l0_4.length c0_4)] 47 (0, 0))) ∧ Aside0 (Below w.heap.size w w'))
       case atStart => exact ⟨(0), zr, H', ⟨Nat.le_refl _⟩, ⟨zb BK228.out⟩, ⟨zs GE228.out⟩⟩
       case round =>
        clear H'
        try clear c1
        try clear c2
        try clear p2
        try clear q2
        try clear hx2
        try clear c3
        try clear c3b0
        try clear c4
        try clear c4b0
        try clear c5
        try clear c5b0
        try clear p6
        try clear c9
        try clear c9b0
        try clear c9b1
        try clear c12
        try clear hcz10_0
        try clear hcz10_1
        try clear hcz10_2
        try clear hcz10_3
        try clear hcz10_4
        try clear hcz11_0
        try clear hcz11_1
        try clear hcz11_2
        try clear hcz11_3
        try clear hcz11_4
        try clear hcz8_0
        try clear hcz8_1
        try clear hcz8_2
        try clear hcz8_3
        try clear hcz8_4
        try clear hfz10_0
        try clear hfz10_1
        try clear hfz10_2
        try clear hfz10_3
        try clear hfz10_4
        try clear hfz11_0
        try clear hfz11_1
        try clear hfz11_2
        try clear hfz11_3
        try clear hfz11_4
        try clear hfz8_0
        try clear hfz8_1
        try clear hfz8_2
        try clear hfz8_3
        try clear hfz8_4
        try clear hx229_0
        try clear hx230_0
        try clear p2
        try clear p229
        try clear p230
        try clear p6
        try clear q2
        try clear q229
        try clear q230
        obtain ⟨x39_2, rfl, HA, HK2, BK228, HB⟩ := hrel
        cases gk with
        | zero => exact absurd HA.out (by simp [impl_Tables_listOk.l0])
        | succ k2 =>
         have H := HA.out
         clear HA
         simp only [impl_Tables_listOk.l0] at H
         by_cases c13 : x39_2 < ((rd_L4 l0_3 a1).length : Int)
         ·rw [if_pos c13] at H
          have c13b0 : decide (x39_2 < ((rd_L4 l0_3 a1).length : Int)) = true := decide_eq_true c13
          clear c13
          by_cases c14 : 0 ≤ a1
          ·rw [if_pos c14] at H
           have c14b0 : decide (0 ≤ a1) = true := decide_eq_true c14
           clear c14
           by_cases c15 : a1 < (l0_2.length : Int)
           ·rw [if_pos c15] at H
            have c15b0 : decide (a1 < (l0_2.length : Int)) = true := decide_eq_true c15
            clear c15
            by_cases c16 : x39_2 = ((rd_T120 l0_2 a1).f2)
            ·rw [if_pos c16] at H
             have c16b0 : (x39_2 == ((rd_T120 l0_2 a1).f2)) = true := beq_iff_eq.mpr c16
             have c16b1 : (x39_2 != ((rd_T120 l0_2 a1).f2)) = false := bne_eq_false_iff_eq.mpr c16
             clear c16
             by_cases c17 : 0 ≤ x39_2
             ·rw [if_pos c17] at H
              have c17b0 : decide (0 ≤ x39_2) = true := decide_eq_true c17
              clear c17
              by_cases c18 : x39_2 < ((rd_L4 l0_3 a1).length : Int)
              ·rw [if_pos c18] at H
               have c18b0 : decide (x39_2 < ((rd_L4 l0_3 a1).length : Int)) = true := decide_eq_true c18
               clear c18
               by_cases c19 : (rd (rd_L4 l0_3 a1) x39_2) = 0
               ·rw [if_pos c19] at H
                have c19b0 : ((rd (rd_L4 l0_3 a1) x39_2) == 0) = true := beq_iff_eq.mpr c19
                have c19b1 : ((rd (rd_L4 l0_3 a1) x39_2) != 0) = false := bne_eq_false_iff_eq.mpr c19
                clear c19
                by_cases c20 : x39_2 < ((rd_L4 l0_4 a1).length : Int)
                ·rw [if_pos c20] at H
                 have c20b0 : decide (x39_2 < ((rd_L4 l0_4 a1).length : Int)) = true := decide_eq_true c20
                 clear c20
                 by_cases c21 : (rd (rd_L4 l0_4 a1) x39_2) = (-1)
                 ·rw [if_pos c21] at H
                  have c21b0 : ((rd (rd_L4 l0_4 a1) x39_2) == (-1)) = true := beq_iff_eq.mpr c21
                  have c21b1 : ((rd (rd_L4 l0_4 a1) x39_2) != (-1)) = false := bne_eq_false_iff_eq.mpr c21
                  clear c21
                  have H' := Aside0.mk H
                  clear H
                  have hcz22_0 : wr.cell? ⟨gb228, 0, none⟩ = some (.int .i64 a0_0) := (blk_cell BK228.out 0).trans rfl
                  have hcz22_1 : wr.cell? ⟨gb228, 1, none⟩ = some (.int .i64 a0_1) := (blk_cell BK228.out 1).trans rfl
                  have hcz22_2 : wr.cell? ⟨gb228, 2, none⟩ = some (.slice A0_2 l0_2.length c0_2) := (blk_cell BK228.out 2).trans rfl
                  have hcz22_3 : wr.cell? ⟨gb228, 3, none⟩ = some (.slice (some ad229) l0_3.length c0_3) := (blk_cell BK228.out 3).trans rfl
                  have hcz22_4 : wr.cell? ⟨gb228, 4, none⟩ = some (.slice (some ad230) l0_4.length c0_4) := (blk_cell BK228.out 4).trans rfl
                  have hfz22_0 := blk_frozen BK228.out 0
                  have hfz22_1 := blk_frozen BK228.out 1
                  have hfz22_2 := blk_frozen BK228.out 2
                  have hfz22_3 := blk_frozen BK228.out 3
                  have hfz22_4 := blk_frozen BK228.out 4
                  have p231 : 0 ≤ (a1 : Int) := zd
                  have q231 : a1 < (l0_2.length : Int) := zd
                  obtain ⟨ad231, A231_0, c231_0, e231, hx231_0, hx231_1, hx231_2, hl231_0, hi231_0⟩ := at_T120 HR0_2.out a1 p231 q231
                  cases e231
                  replace hx231_0 := (HB.out.cell (World.block_lt_of_cell? w _ hx231_0)).trans hx231_0
                  replace hx231_1 := (HB.out.cell (World.block_lt_of_cell? w _ hx231_1)).trans hx231_1
                  replace hx231_2 := (HB.out.cell (World.block_lt_of_cell? w _ hx231_2)).trans hx231_2
                  have HR231_0 := Aside0.mk hi231_0
                  have HC231_0 := Aside0.mk hl231_0
                  clear hi231_0 hl231_0
                  replace p231 := eq_true p231
                  replace q231 := eq_true q231
                  have p232 : 0 ≤ (x39_2 : Int) := zd
                  have q232 : x39_2 < ((rd_L4 l0_3 a1).length : Int) := zd
                  obtain ⟨ad232, e232, hx232_0⟩ := Kd.at_int HR229_0.out x39_2 p232 q232
                  cases e232
                  replace hx232_0 := (HB.out.cell (World.block_lt_of_cell? w _ hx232_0)).trans hx232_0
                  replace p232 := eq_true p232
                  replace q232 := eq_true q232
                  have p233 : 0 ≤ (x39_2 : Int) := zd
                  have q233 : x39_2 < ((rd_L4 l0_4 a1).length : Int) := zd
                  obtain ⟨ad233, e233, hx233_0⟩ := Kd.at_int HR230_0.out x39_2 p233 q233
                  cases e233
                  replace hx233_0 := (HB.out.cell (World.block_lt_of_cell? w _ hx233_0)).trans hx233_0
                  replace p233 := eq_true p233
                  replace q233 := eq_true q233
                  go_wp2
                  repeat (go_quiet (fail); try go_wp2)
                  go_roundg k2
                  case measure => have := HJ5.out; have := HK2.out; omega
                  case rel => exact ⟨(wrap64 (x39_2 + 1)), zr, H', ⟨by have := HJ5.out; have := HK2.out; omega⟩, ⟨zb BK228.out⟩, ⟨zs GE228.out⟩⟩
                 ·rw [if_neg c21] at H
                  have c21b0 : ((rd (rd_L4 l0_4 a1) x39_2) == (-1)) = false := beq_eq_false_iff_ne.mpr c21
                  have c21b1 : ((rd (rd_L4 l0_4 a1) x39_2) != (-1)) = true := bne_iff_ne.mpr c21
                  obtain rfl := Option.some.inj H
                  have hcz23_0 : wr.cell? ⟨gb228, 0, none⟩ = some (.int .i64 a0_0) := (blk_cell BK228.out 0).trans rfl
                  have hcz23_1 : wr.cell? ⟨gb228, 1, none⟩ = some (.int .i64 a0_1) := (blk_cell BK228.out 1).trans rfl
                  have hcz23_2 : wr.cell? ⟨gb228, 2, none⟩ = some (.slice A0_2 l0_2.length c0_2) := (blk_cell BK228.out 2).trans rfl
                  have hcz23_3 : wr.cell? ⟨gb228, 3, none⟩ = some (.slice (some ad229) l0_3.length c0_3) := (blk_cell BK228.out 3).trans rfl
                  have hcz23_4 : wr.cell? ⟨gb228, 4, none⟩ = some (.slice (some ad230) l0_4.length c0_4) := (blk_cell BK228.out 4).trans rfl
                  have hfz23_0 := blk_frozen BK228.out 0
                  have hfz23_1 := blk_frozen BK228.out 1
                  have hfz23_2 := blk_frozen BK228.out 2
                  have hfz23_3 := blk_frozen BK228.out 3
                  have hfz23_4 := blk_frozen BK228.out 4
                  have p231 : 0 ≤ (a1 : Int) := zd
                  have q231 : a1 < (l0_2.length : Int) := zd
                  obtain ⟨ad231, A231_0, c231_0, e231, hx231_0, hx231_1, hx231_2, hl231_0, hi231_0⟩ := at_T120 HR0_2.out a1 p231 q231
                  cases e231
                  replace hx231_0 := (HB.out.cell (World.block_lt_of_cell? w _ hx231_0)).trans hx231_0
                  replace hx231_1 := (HB.out.cell (World.block_lt_of_cell? w _ hx231_1)).trans hx231_1
                  replace hx231_2 := (HB.out.cell (World.block_lt_of_cell? w _ hx231_2)).trans hx231_2
                  have HR231_0 := Aside0.mk hi231_0
                  have HC231_0 := Aside0.mk hl231_0
                  clear hi231_0 hl231_0
                  replace p231 := eq_true p231
                  replace q231 := eq_true q231
                  have p232 : 0 ≤ (x39_2 : Int) := zd
                  have q232 : x39_2 < ((rd_L4 l0_3 a1).length : Int) := zd
                  obtain ⟨ad232, e232, hx232_0⟩ := Kd.at_int HR229_0.out x39_2 p232 q232
                  cases e232
                  replace hx232_0 := (HB.out.cell (World.block_lt_of_cell? w _ hx232_0)).trans hx232_0
                  replace p232 := eq_true p232
                  replace q232 := eq_true q232
                  have p233 : 0 ≤ (x39_2 : Int) := zd
                  have q233 : x39_2 < ((rd_L4 l0_4 a1).length : Int) := zd
                  obtain ⟨ad233, e233, hx233_0⟩ := Kd.at_int HR230_0.out x39_2 p233 q233
                  cases e233
                  replace hx233_0 := (HB.out.cell (World.block_lt_of_cell? w _ hx233_0)).trans hx233_0
                  replace p233 := eq_true p233
                  replace q233 := eq_true q233
                  go_wp2
                  repeat (go_quiet (fail); try go_wp2)
                  go_ret
                  exact ⟨ze, (zs GE228.out)⟩
                ·rw [if_neg c20] at H
                 exact absurd H (by simp)
               ·rw [if_neg c19] at H
                have c19b0 : ((rd (rd_L4 l0_3 a1) x39_2) == 0) = false := beq_eq_false_iff_ne.mpr c19
                have c19b1 : ((rd (rd_L4 l0_3 a1) x39_2) != 0) = true := bne_iff_ne.mpr c19
                obtain rfl := Option.some.inj H
                have hcz24_0 : wr.cell? ⟨gb228, 0, none⟩ = some (.int .i64 a0_0) := (blk_cell BK228.out 0).trans rfl
                have hcz24_1 : wr.cell? ⟨gb228, 1, none⟩ = some (.int .i64 a0_1) := (blk_cell BK228.out 1).trans rfl
                have hcz24_2 : wr.cell? ⟨gb228, 2, none⟩ = some (.slice A0_2 l0_2.length c0_2) := (blk_cell BK228.out 2).trans rfl
                have hcz24_3 : wr.cell? ⟨gb228, 3, none⟩ = some (.slice (some ad229) l0_3.length c0_3) := (blk_cell BK228.out 3).trans rfl
                have hcz24_4 : wr.cell? ⟨gb228, 4, none⟩ = some (.slice (some ad230) l0_4.length c0_4) := (blk_cell BK228.out 4).trans rfl
                have hfz24_0 := blk_frozen BK228.out 0
                have hfz24_1 := blk_frozen BK228.out 1
                have hfz24_2 := blk_frozen BK228.out 2
                have hfz24_3 := blk_frozen BK228.out 3
                have hfz24_4 := blk_frozen BK228.out 4
                have p231 : 0 ≤ (a1 : Int) := zd
                have q231 : a1 < (l0_2.length : Int) := zd
                obtain ⟨ad231, A231_0, c231_0, e231, hx231_0, hx231_1, hx231_2, hl231_0, hi231_0⟩ := at_T120 HR0_2.out a1 p231 q231
                cases e231
                replace hx231_0 := (HB.out.cell (World.block_lt_of_cell? w _ hx231_0)).trans hx231_0
                replace hx231_1 := (HB.out.cell (World.block_lt_of_cell? w _ hx231_1)).trans hx231_1
                replace hx231_2 := (HB.out.cell (World.block_lt_of_cell? w _ hx231_2)).trans hx231_2
                have HR231_0 := Aside0.mk hi231_0
                have HC231_0 := Aside0.mk hl231_0
                clear hi231_0 hl231_0
                replace p231 := eq_true p231
                replace q231 := eq_true q231
                have p232 : 0 ≤ (x39_2 : Int) := zd
                have q232 : x39_2 < ((rd_L4 l0_3 a1).length : Int) := zd
                obtain ⟨ad232, e232, hx232_0⟩ := Kd.at_int HR229_0.out x39_2 p232 q232
                cases e232
                replace hx232_0 := (HB.out.cell (World.block_lt_of_cell? w _ hx232_0)).trans hx232_0
                replace p232 := eq_true p232
                replace q232 := eq_true q232
                go_wp2
                repeat (go_quiet (fail); try go_wp2)
                go_ret
                exact ⟨ze, (zs GE228.out)⟩
              ·rw [if_neg c18] at H
               exact absurd H (by simp)
             ·rw [if_neg c17] at H
              exact absurd H (by simp)
            ·rw [if_neg c16] at H
             have c16b0 : (x39_2 == ((rd_T120 l0_2 a1).f2)) = false := beq_eq_false_iff_ne.mpr c16
             have c16b1 : (x39_2 != ((rd_T120 l0_2 a1).f2)) = true := bne_iff_ne.mpr c16
             by_cases c25 : 0 ≤ x39_2
             ·rw [if_pos c25] at H
              have c25b0 : decide (0 ≤ x39_2) = true := decide_eq_true c25
              clear c25
              by_cases c26 : x39_2 < ((rd_L4 l0_3 a1).length : Int)
              ·rw [if_pos c26] at H
               have c26b0 : decide (x39_2 < ((rd_L4 l0_3 a1).length : Int)) = true := decide_eq_true c26
               clear c26
               by_cases c27 : (rd (rd_L4 l0_3 a1) x39_2) = (-1)
               ·rw [if_pos c27] at H
                have c27b0 : ((rd (rd_L4 l0_3 a1) x39_2) == (-1)) = true := beq_iff_eq.mpr c27
                have c27b1 : ((rd (rd_L4 l0_3 a1) x39_2) != (-1)) = false := bne_eq_false_iff_eq.mpr c27
                clear c27
                by_cases c28 : x39_2 < ((rd_L4 l0_4 a1).length : Int)
                ·rw [if_pos c28] at H
                 have c28b0 : decide (x39_2 < ((rd_L4 l0_4 a1).length : Int)) = true := decide_eq_true c28
                 clear c28
                 by_cases c29 : (rd (rd_L4 l0_4 a1) x39_2) = (-1)
                 ·rw [if_pos c29] at H
                  have c29b0 : ((rd (rd_L4 l0_4 a1) x39_2) == (-1)) = true := beq_iff_eq.mpr c29
                  have c29b1 : ((rd (rd_L4 l0_4 a1) x39_2) != (-1)) = false := bne_eq_false_iff_eq.mpr c29
                  clear c29
                  have H' := Aside0.mk H
                  clear H
                  have hcz30_0 : wr.cell? ⟨gb228, 0, none⟩ = some (.int .i64 a0_0) := (blk_cell BK228.out 0).trans rfl
                  have hcz30_1 : wr.cell? ⟨gb228, 1, none⟩ = some (.int .i64 a0_1) := (blk_cell BK228.out 1).trans rfl
                  have hcz30_2 : wr.cell? ⟨gb228, 2, none⟩ = some (.slice A0_2 l0_2.length c0_2) := (blk_cell BK228.out 2).trans rfl
                  have hcz30_3 : wr.cell? ⟨gb228, 3, none⟩ = some (.slice (some ad229) l0_3.length c0_3) := (blk_cell BK228.out 3).trans rfl
                  have hcz30_4 : wr.cell? ⟨gb228, 4, none⟩ = some (.slice (some ad230) l0_4.length c0_4) := (blk_cell BK228.out 4).trans rfl
                  have hfz30_0 := blk_frozen BK228.out 0
                  have hfz30_1 := blk_frozen BK228.out 1
                  have hfz30_2 := blk_frozen BK228.out 2
                  have hfz30_3 := blk_frozen BK228.out 3
                  have hfz30_4 := blk_frozen BK228.out 4
                  have p231 : 0 ≤ (a1 : Int) := zd
                  have q231 : a1 < (l0_2.length : Int) := zd
                  obtain ⟨ad231, A231_0, c231_0, e231, hx231_0, hx231_1, hx231_2, hl231_0, hi231_0⟩ := at_T120 HR0_2.out a1 p231 q231
                  cases e231
                  replace hx231_0 := (HB.out.cell (World.block_lt_of_cell? w _ hx231_0)).trans hx231_0
                  replace hx231_1 := (HB.out.cell (World.block_lt_of_cell? w _ hx231_1)).trans hx231_1
                  replace hx231_2 := (HB.out.cell (World.block_lt_of_cell? w _ hx231_2)).trans hx231_2
                  have HR231_0 := Aside0.mk hi231_0
                  have HC231_0 := Aside0.mk hl231_0
                  clear hi231_0 hl231_0
                  replace p231 := eq_true p231
                  replace q231 := eq_true q231
                  have p234 : 0 ≤ (x39_2 : Int) := zd
                  have q234 : x39_2 < ((rd_L4 l0_3 a1).length : Int) := zd
                  obtain ⟨ad234, e234, hx234_0⟩ := Kd.at_int HR229_0.out x39_2 p234 q234
                  cases e234
                  replace hx234_0 := (HB.out.cell (World.block_lt_of_cell? w _ hx234_0)).trans hx234_0
                  replace p234 := eq_true p234
                  replace q234 := eq_true q234
                  have p235 : 0 ≤ (x39_2 : Int) := zd
                  have q235 : x39_2 < ((rd_L4 l0_4 a1).length : Int) := zd
                  obtain ⟨ad235, e235, hx235_0⟩ := Kd.at_int HR230_0.out x39_2 p235 q235
                  cases e235
                  replace hx235_0 := (HB.out.cell (World.block_lt_of_cell? w _ hx235_0)).trans hx235_0
                  replace p235 := eq_true p235
                  replace q235 := eq_true q235
                  go_wp2
                  repeat (go_quiet (fail); try go_wp2)
                  go_roundg k2
                  case measure => have := HJ5.out; have := HK2.out; omega
                  case rel => exact ⟨(wrap64 (x39_2 + 1)), zr, H', ⟨by have := HJ5.out; have := HK2.out; omega⟩, ⟨zb BK228.out⟩, ⟨zs GE228.out⟩⟩
                 ·rw [if_neg c29] at H
                  have c29b0 : ((rd (rd_L4 l0_4 a1) x39_2) == (-1)) = false := beq_eq_false_iff_ne.mpr c29
                  have c29b1 : ((rd (rd_L4 l0_4 a1) x39_2) != (-1)) = true := bne_iff_ne.mpr c29
                  obtain rfl := Option.some.inj H
                  have hcz31_0 : wr.cell? ⟨gb228, 0, none⟩ = some (.int .i64 a0_0) := (blk_cell BK228.out 0).trans rfl
                  have hcz31_1 : wr.cell? ⟨gb228, 1, none⟩ = some (.int .i64 a0_1) := (blk_cell BK228.out 1).trans rfl
                  have hcz31_2 : wr.cell? ⟨gb228, 2, none⟩ = some (.slice A0_2 l0_2.length c0_2) := (blk_cell BK228.out 2).trans rfl
                  have hcz31_3 : wr.cell? ⟨gb228, 3, none⟩ = some (.slice (some ad229) l0_3.length c0_3) := (blk_cell BK228.out 3).trans rfl
                  have hcz31_4 : wr.cell? ⟨gb228, 4, none⟩ = some (.slice (some ad230) l0_4.length c0_4) := (blk_cell BK228.out 4).trans rfl
                  have hfz31_0 := blk_frozen BK228.out 0
                  have hfz31_1 := blk_frozen BK228.out 1
                  have hfz31_2 := blk_frozen BK228.out 2
                  have hfz31_3 := blk_frozen BK228.out 3
                  have hfz31_4 := blk_frozen BK228.out 4
                  have p231 : 0 ≤ (a1 : Int) := zd
                  have q231 : a1 < (l0_2.length : Int) := zd
                  obtain ⟨ad231, A231_0, c231_0, e231, hx231_0, hx231_1, hx231_2, hl231_0, hi231_0⟩ := at_T120 HR0_2.out a1 p231 q231
                  cases e231
                  replace hx231_0 := (HB.out.cell (World.block_lt_of_cell? w _ hx231_0)).trans hx231_0
                  replace hx231_1 := (HB.out.cell (World.block_lt_of_cell? w _ hx231_1)).trans hx231_1
                  replace hx231_2 := (HB.out.cell (World.block_lt_of_cell? w _ hx231_2)).trans hx231_2
                  have HR231_0 := Aside0.mk hi231_0
                  have HC231_0 := Aside0.mk hl231_0
                  clear hi231_0 hl231_0
                  replace p231 := eq_true p231
                  replace q231 := eq_true q231
                  have p234 : 0 ≤ (x39_2 : Int) := zd
                  have q234 : x39_2 < ((rd_L4 l0_3 a1).length : Int) := zd
                  obtain ⟨ad234, e234, hx234_0⟩ := Kd.at_int HR229_0.out x39_2 p234 q234
                  cases e234
                  replace hx234_0 := (HB.out.cell (World.block_lt_of_cell? w _ hx234_0)).trans hx234_0
                  replace p234 := eq_true p234
                  replace q234 := eq_true q234
                  have p235 : 0 ≤ (x39_2 : Int) := zd
                  have q235 : x39_2 < ((rd_L4 l0_4 a1).length : Int) := zd
                  obtain ⟨ad235, e235, hx235_0⟩ := Kd.at_int HR230_0.out x39_2 p235 q235
                  cases e235
                  replace hx235_0 := (HB.out.cell (World.block_lt_of_cell? w _ hx235_0)).trans hx235_0
                  replace p235 := eq_true p235
                  replace q235 := eq_true q235
                  go_wp2
                  repeat (go_quiet (fail); try go_wp2)
                  go_ret
                  exact ⟨ze, (zs GE228.out)⟩
                ·rw [if_neg c28] at H
                 exact absurd H (by simp)
               ·rw [if_neg c27] at H
                have c27b0 : ((rd (rd_L4 l0_3 a1) x39_2) == (-1)) = false := beq_eq_false_iff_ne.mpr c27
                have c27b1 : ((rd (rd_L4 l0_3 a1) x39_2) != (-1)) = true := bne_iff_ne.mpr c27
                have HC32 := Aside0.mk H
                clear H
                have hcz33_0 : wr.cell? ⟨gb228, 0, none⟩ = some (.int .i64 a0_0) := (blk_cell BK228.out 0).trans rfl
                have hcz33_1 : wr.cell? ⟨gb228, 1, none⟩ = some (.int .i64 a0_1) := (blk_cell BK228.out 1).trans rfl
                have hcz33_2 : wr.cell? ⟨gb228, 2, none⟩ = some (.slice A0_2 l0_2.length c0_2) := (blk_cell BK228.out 2).trans rfl
                have hcz33_3 : wr.cell? ⟨gb228, 3, none⟩ = some (.slice (some ad229) l0_3.length c0_3) := (blk_cell BK228.out 3).trans rfl
                have hcz33_4 : wr.cell? ⟨gb228, 4, none⟩ = some (.slice (some ad230) l0_4.length c0_4) := (blk_cell BK228.out 4).trans rfl
                have hfz33_0 := blk_frozen BK228.out 0
                have hfz33_1 := blk_frozen BK228.out 1
                have hfz33_2 := blk_frozen BK228.out 2
                have hfz33_3 := blk_frozen BK228.out 3
                have hfz33_4 := blk_frozen BK228.out 4
                have p231 : 0 ≤ (a1 : Int) := zd
                have q231 : a1 < (l0_2.length : Int) := zd
                obtain ⟨ad231, A231_0, c231_0, e231, hx231_0, hx231_1, hx231_2, hl231_0, hi231_0⟩ := at_T120 HR0_2.out a1 p231 q231
                cases e231
                replace hx231_0 := (HB.out.cell (World.block_lt_of_cell? w _ hx231_0)).trans hx231_0
                replace hx231_1 := (HB.out.cell (World.block_lt_of_cell? w _ hx231_1)).trans hx231_1
                replace hx231_2 := (HB.out.cell (World.block_lt_of_cell? w _ hx231_2)).trans hx231_2
                have HR231_0 := Aside0.mk hi231_0
                have HC231_0 := Aside0.mk hl231_0
                clear hi231_0 hl231_0
                replace p231 := eq_true p231
                replace q231 := eq_true q231
                have p234 : 0 ≤ (x39_2 : Int) := zd
                have q234 : x39_2 < ((rd_L4 l0_3 a1).length : Int) := zd
                obtain ⟨ad234, e234, hx234_0⟩ := Kd.at_int HR229_0.out x39_2 p234 q234
                cases e234
                replace hx234_0 := (HB.out.cell (World.block_lt_of_cell? w _ hx234_0)).trans hx234_0
                replace p234 := eq_true p234
                replace q234 := eq_true q234
                go_upto_region 7 with (fail)
                repeat (go_quiet (fail); go_upto_region 7 with (fail))
                go_cut [67] (fun v67 wc => ∃ (kq : Nat) (x67_31 : Bool), v67 = .bool x67_31 ∧ Aside0 (impl_Tables_listOk.j2 kq a1 (rd_L4 l0_3 a1) (rd_L4 l0_4 a1) x39_2 ((rd_L4 l0_3 a1).length : Int) x39_2 x67_31 a0_0 a0_1 l0_2 l0_3 l0_4 = some r) ∧ Aside0 (kq ≤ k2) ∧ Aside0 (wc.heap[gb228]? = some (.cells #[.int .i64 a0_0, .int .i64 a0_1, (.slice (some ad231) l0_2.length c0_2), (.slice (some ad229) l0_3.length c0_3), (.slice (some ad230) l0_4.length c0_4)] 47 (0, 0))) ∧ Aside0 (Below w.heap.size w wc))
                case first =>
                 have H := HC32.out
                 clear HC32
                 by_cases c34 : (rd (rd_L4 l0_3 a1) x39_2) < 1
                 ·rw [if_pos c34] at H
                  have c34b0 : decide ((rd (rd_L4 l0_3 a1) x39_2) < 1) = true := decide_eq_true c34
                  clear c34
                  (first | rw [c34b0] | (simp only [i64_w, i32_w]; rw [c34b0]) | skip)
                  have H' := Aside0.mk H
                  clear H
                  have p236 : 0 ≤ (x39_2 : Int) := zd
                  have q236 : x39_2 < ((rd_L4 l0_3 a1).length : Int) := zd
                  obtain ⟨ad236, e236, hx236_0⟩ := Kd.at_int HR229_0.out x39_2 p236 q236
                  obtain rfl : ad234 = ad236 := (by injection e236)
                  replace hx236_0 := (HB.out.cell (World.block_lt_of_cell? w _ hx236_0)).trans hx236_0
                  replace p236 := eq_true p236
                  replace q236 := eq_true q236
                  go_wp2
                  repeat (go_quiet (fail); try go_wp2)
                  go_meet
                  case rel => exact ⟨_, (true), zr, H', ⟨by have := HJ5.out; have := HK2.out; first | omega | exact Nat.le_refl _⟩, ⟨zb BK228.out⟩, ⟨zs GE228.out⟩⟩
                 ·rw [if_neg c34] at H
                  have c34b0 : decide ((rd (rd_L4 l0_3 a1) x39_2) < 1) = false := decide_eq_false c34
                  clear c34
                  (first | rw [c34b0] | (simp only [i64_w, i32_w]; rw [c34b0]) | skip)
                  by_cases c35 : (rd (rd_L4 l0_3 a1) x39_2) > 65534
                  ·rw [if_pos c35] at H
                   have c35b0 : decide (65534 < (rd (rd_L4 l0_3 a1) x39_2)) = true := decide_eq_true c35
                   clear c35
                   have H' := Aside0.mk H
                   clear H
                   have p236 : 0 ≤ (x39_2 : Int) := zd
                   have q236 : x39_2 < ((rd_L4 l0_3 a1).length : Int) := zd
                   obtain ⟨ad236, e236, hx236_0⟩ := Kd.at_int HR229_0.out x39_2 p236 q236
                   obtain rfl : ad234 = ad236 := (by injection e236)
                   replace hx236_0 := (HB.out.cell (World.block_lt_of_cell? w _ hx236_0)).trans hx236_0
                   replace p236 := eq_true p236
                   replace q236 := eq_true q236
                   have p237 : 0 ≤ (x39_2 : Int) := zd
                   have q237 : x39_2 < ((rd_L4 l0_3 a1).length : Int) := zd
                   obtain ⟨ad237, e237, hx237_0⟩ := Kd.at_int HR229_0.out x39_2 p237 q237
                   obtain rfl : ad234 = ad237 := (by injection e237)
                   replace hx237_0 := (HB.out.cell (World.block_lt_of_cell? w _ hx237_0)).trans hx237_0
                   replace p237 := eq_true p237
                   replace q237 := eq_true q237
                   go_wp2
                   repeat (go_quiet (fail); try go_wp2)
                   go_meet
                   case rel => exact ⟨_, (true), zr, H', ⟨by have := HJ5.out; have := HK2.out; first | omega | exact Nat.le_refl _⟩, ⟨zb BK228.out⟩, ⟨zs GE228.out⟩⟩
                  ·rw [if_neg c35] at H
                   have c35b0 : decide (65534 < (rd (rd_L4 l0_3 a1) x39_2)) = false := decide_eq_false c35
                   clear c35
                   by_cases c36 : x39_2 < ((rd_L4 l0_4 a1).length : Int)
                   ·rw [if_pos c36] at H
                    have c36b0 : decide (x39_2 < ((rd_L4 l0_4 a1).length : Int)) = true := decide_eq_true c36
                    clear c36
                    by_cases c37 : (rd (rd_L4 l0_4 a1) x39_2) < 0
                    ·rw [if_pos c37] at H
                     have c37b0 : decide ((rd (rd_L4 l0_4 a1) x39_2) < 0) = true := decide_eq_true c37
                     clear c37
                     have H' := Aside0.mk H
                     clear H
                     have p236 : 0 ≤ (x39_2 : Int) := zd
                     have q236 : x39_2 < ((rd_L4 l0_3 a1).length : Int) := zd
                     obtain ⟨ad236, e236, hx236_0⟩ := Kd.at_int HR229_0.out x39_2 p236 q236
                     obtain rfl : ad234 = ad236 := (by injection e236)
                     replace hx236_0 := (HB.out.cell (World.block_lt_of_cell? w _ hx236_0)).trans hx236_0
                     replace p236 := eq_true p236
                     replace q236 := eq_true q236
                     have p237 : 0 ≤ (x39_2 : Int) := zd
                     have q237 : x39_2 < ((rd_L4 l0_3 a1).length : Int) := zd
                     obtain ⟨ad237, e237, hx237_0⟩ := Kd.at_int HR229_0.out x39_2 p237 q237
                     obtain rfl : ad234 = ad237 := (by injection e237)
                     replace hx237_0 := (HB.out.cell (World.block_lt_of_cell? w _ hx237_0)).trans hx237_0
                     replace p237 := eq_true p237
                     replace q237 := eq_true q237
                     have p238 : 0 ≤ (x39_2 : Int) := zd
                     have q238 : x39_2 < ((rd_L4 l0_4 a1).length : Int) := zd
                     obtain ⟨ad238, e238, hx238_0⟩ := Kd.at_int HR230_0.out x39_2 p238 q238
                     cases e238
                     replace hx238_0 := (HB.out.cell (World.block_lt_of_cell? w _ hx238_0)).trans hx238_0
                     replace p238 := eq_true p238
                     replace q238 := eq_true q238
                     go_wp2
                     repeat (go_quiet (fail); try go_wp2)
                     go_meet
                     case rel => exact ⟨_, (true), zr, H', ⟨by have := HJ5.out; have := HK2.out; first | omega | exact Nat.le_refl _⟩, ⟨zb BK228.out⟩, ⟨zs GE228.out⟩⟩
                    ·rw [if_neg c37] at H
                     have c37b0 : decide ((rd (rd_L4 l0_4 a1) x39_2) < 0) = false := decide_eq_false c37
                     clear c37
                     have H' := Aside0.mk H
                     clear H
                     have p236 : 0 ≤ (x39_2 : Int) := zd
                     have q236 : x39_2 < ((rd_L4 l0_3 a1).length : Int) := zd
                     obtain ⟨ad236, e236, hx236_0⟩ := Kd.at_int HR229_0.out x39_2 p236 q236
                     obtain rfl : ad234 = ad236 := (by injection e236)
                     replace hx236_0 := (HB.out.cell (World.block_lt_of_cell? w _ hx236_0)).trans hx236_0
                     replace p236 := eq_true p236
                     replace q236 := eq_true q236
                     have p237 : 0 ≤ (x39_2 : Int) := zd
                     have q237 : x39_2 < ((rd_L4 l0_3 a1).length : Int) := zd
                     obtain ⟨ad237, e237, hx237_0⟩ := Kd.at_int HR229_0.out x39_2 p237 q237
                     obtain rfl : ad234 = ad237 := (by injection e237)
                     replace hx237_0 := (HB.out.cell (World.block_lt_of_cell? w _ hx237_0)).trans hx237_0
                     replace p237 := eq_true p237
                     replace q237 := eq_true q237
                     have p238 : 0 ≤ (x39_2 : Int) := zd
                     have q238 : x39_2 < ((rd_L4 l0_4 a1).length : Int) := zd
                     obtain ⟨ad238, e238, hx238_0⟩ := Kd.at_int HR230_0.out x39_2 p238 q238
                     cases e238
                     replace hx238_0 := (HB.out.cell (World.block_lt_of_cell? w _ hx238_0)).trans hx238_0
                     replace p238 := eq_true p238
                     replace q238 := eq_true q238
                     have p239 : 0 ≤ (x39_2 : Int) := zd
                     have q239 : x39_2 < ((rd_L4 l0_4 a1).length : Int) := zd
                     obtain ⟨ad239, e239, hx239_0⟩ := Kd.at_int HR230_0.out x39_2 p239 q239
                     obtain rfl : ad238 = ad239 := (by injection e239)
                     replace hx239_0 := (HB.out.cell (World.block_lt_of_cell? w _ hx239_0)).trans hx239_0
                     replace p239 := eq_true p239
                     replace q239 := eq_true q239
                     go_wp2
                     repeat (go_quiet (fail); try go_wp2)
                     go_meet
                     case rel => exact ⟨_, (decide ((rd (rd_L4 l0_4 a1) x39_2) > 3)), zr, H', ⟨by have := HJ5.out; have := HK2.out; first | omega | exact Nat.le_refl _⟩, ⟨zb BK228.out⟩, ⟨zs GE228.out⟩⟩
                   ·rw [if_neg c36] at H
                    exact absurd H (by simp)
                case rest =>
                 clear HC32
                 try clear c1
                 try clear c2
                 try clear p2
                 try clear q2
                 try clear hx2
                 try clear c3
                 try clear c3b0
                 try clear c4
                 try clear c4b0
                 try clear c5
                 try clear c5b0
                 try clear p6
                 try clear c9
                 try clear c9b0
                 try clear c9b1
                 try clear c12
                 try clear c13
                 try clear c13b0
                 try clear c14
                 try clear c14b0
                 try clear c15
                 try clear c15b0
                 try clear c16
                 try clear c16b0
                 try clear c16b1
                 try clear c17
                 try clear c17b0
                 try clear c18
                 try clear c18b0
                 try clear c19
                 try clear c19b0
                 try clear c19b1
                 try clear c20
                 try clear c20b0
                 try clear c21
                 try clear c21b0
                 try clear c21b1
                 try clear p22
                 try clear q22
                 try clear hx22
                 try clear c23
                 try clear p23
                 try clear q23
                 try clear hx23
                 try clear c25
                 try clear c25b0
                 try clear c26
                 try clear c26b0
                 try clear c27
                 try clear c27b0
                 try clear c27b1
                 try clear c28
                 try clear c28b0
                 try clear c29
                 try clear c29b0
                 try clear c29b1
                 try clear c34
                 try clear c34b0
                 try clear c35
                 try clear c35b0
                 try clear c36
                 try clear c36b0
                 try clear c37
                 try clear c37b0
                 try clear hcz10_0
                 try clear hcz10_1
                 try clear hcz10_2
                 try clear hcz10_3
                 try clear hcz10_4
                 try clear hcz11_0
                 try clear hcz11_1
                 try clear hcz11_2
                 try clear hcz11_3
                 try clear hcz11_4
                 try clear hcz22_0
                 try clear hcz22_1
                 try clear hcz22_2
                 try clear hcz22_3
                 try clear hcz22_4
                 try clear hcz23_0
                 try clear hcz23_1
                 try clear hcz23_2
                 try clear hcz23_3
                 try clear hcz23_4
                 try clear hcz24_0
                 try clear hcz24_1
                 try clear hcz24_2
                 try clear hcz24_3
                 try clear hcz24_4
                 try clear hcz30_0
                 try clear hcz30_1
                 try clear hcz30_2
                 try clear hcz30_3
                 try clear hcz30_4
                 try clear hcz31_0
                 try clear hcz31_1
                 try clear hcz31_2
                 try clear hcz31_3
                 try clear hcz31_4
                 try clear hcz33_0
                 try clear hcz33_1
                 try clear hcz33_2
                 try clear hcz33_3
                 try clear hcz33_4
                 try clear hcz8_0
                 try clear hcz8_1
                 try clear hcz8_2
                 try clear hcz8_3
                 try clear hcz8_4
                 try clear hfz10_0
                 try clear hfz10_1
                 try clear hfz10_2
                 try clear hfz10_3
                 try clear hfz10_4
                 try clear hfz11_0
                 try clear hfz11_1
                 try clear hfz11_2
                 try clear hfz11_3
                 try clear hfz11_4
                 try clear hfz22_0
                 try clear hfz22_1
                 try clear hfz22_2
                 try clear hfz22_3
                 try clear hfz22_4
                 try clear hfz23_0
                 try clear hfz23_1
                 try clear hfz23_2
                 try clear hfz23_3
                 try clear hfz23_4
                 try clear hfz24_0
                 try clear hfz24_1
                 try clear hfz24_2
                 try clear hfz24_3
                 try clear hfz24_4
                 try clear hfz30_0
                 try clear hfz30_1
                 try clear hfz30_2
                 try clear hfz30_3
                 try clear hfz30_4
                 try clear hfz31_0
                 try clear hfz31_1
                 try clear hfz31_2
                 try clear hfz31_3
                 try clear hfz31_4
                 try clear hfz33_0
                 try clear hfz33_1
                 try clear hfz33_2
                 try clear hfz33_3
                 try clear hfz33_4
                 try clear hfz8_0
                 try clear hfz8_1
                 try clear hfz8_2
                 try clear hfz8_3
                 try clear hfz8_4
                 try clear hx229_0
                 try clear hx230_0
                 try clear hx231_0
                 try clear hx231_1
                 try clear hx231_2
                 try clear hx232_0
                 try clear hx233_0
                 try clear hx234_0
                 try clear hx235_0
                 try clear hx236_0
                 try clear hx237_0
                 try clear hx238_0
                 try clear hx239_0
                 try clear p2
                 try clear p229
                 try clear p230
                 try clear p231
                 try clear p232
                 try clear p233
                 try clear p234
                 try clear p235
                 try clear p236
                 try clear p237
                 try clear p238
                 try clear p239
                 try clear p6
                 try clear q2
                 try clear q229
                 try clear q230
                 try clear q231
                 try clear q232
                 try clear q233
                 try clear q234
                 try clear q235
                 try clear q236
                 try clear q237
                 try clear q238
                 try clear q239
                 obtain ⟨kq, x67_31, rfl, HA, HJ31, BK228, HB⟩ := hcut
                 cases kq with
                 | zero => exact absurd HA.out (by simp [impl_Tables_listOk.j2])
                 | succ kj31 =>
                  have H := HA.out
                  clear HA
                  simp only [impl_Tables_listOk.j2] at H
                  by_cases c38 : x67_31 = true
                  ·subst c38
                   have H1 : (some false) = some r := by rw [if_pos rfl] at H; exact H
                   clear H
                   have H := H1
                   clear H1
                   obtain rfl := Option.some.inj H
                   go_wp2
                   repeat (go_quiet (fail); try go_wp2)
                   go_ret
                   exact ⟨ze, (zs GE228.out)⟩
                  ·replace c38 := Bool.eq_false_iff.mpr c38
                   subst c38
                   have H1 : (if 0 ≤ x39_2 then (if x39_2 < ((rd_L4 l0_4 a1).length : Int) then ((impl_side.f a0_0 a0_1 x39_2 (rd (rd_L4 l0_4 a1) x39_2)).bind fun t241 => (if t241 < 0 then (some false) else (if 0 ≤ t241 then (if t241 < ((rd_L4 l0_3 a1).length : Int) then (if (rd (rd_L4 l0_3 a1) t241) < 0 then (some false) else (if x39_2 < ((rd_L4 l0_3 a1).length : Int) then (if (rd (rd_L4 l0_3 a1) t241) ≥ (rd (rd_L4 l0_3 a1) x39_2) then (some false) else (impl_Tables_listOk.l0 kj31 a1 (rd_L4 l0_3 a1) (rd_L4 l0_4 a1) ((rd_L4 l0_3 a1).length : Int) (wrap64 (x39_2 + 1)) a0_0 a0_1 l0_2 l0_3 l0_4)) else (none))) else (none)) else (none)))) else (none)) else (none)) = some r := by rw [if_neg (show ¬ (false = true) by decide)] at H; exact H
                   clear H
                   have H := H1
                   clear H1
                   by_cases c39 : 0 ≤ x39_2
                   ·rw [if_pos c39] at H
                    have c39b0 : decide (0 ≤ x39_2) = true := decide_eq_true c39
                    clear c39
                    by_cases c40 : x39_2 < ((rd_L4 l0_4 a1).length : Int)
                    ·rw [if_pos c40] at H
                     have c40b0 : decide (x39_2 < ((rd_L4 l0_4 a1).length : Int)) = true := decide_eq_true c40
                     clear c40
                     replace H := Option.bind_eq_some_iff.mp H
                     obtain ⟨t241, A410, H⟩ := H
                     replace H : (if t241 < 0 then (some false) else (if 0 ≤ t241 then (if t241 < ((rd_L4 l0_3 a1).length : Int) then (if (rd (rd_L4 l0_3 a1) t241) < 0 then (some false) else (if x39_2 < ((rd_L4 l0_3 a1).length : Int) then (if (rd (rd_L4 l0_3 a1) t241) ≥ (rd (rd_L4 l0_3 a1) x39_2) then (some false) else (impl_Tables_listOk.l0 kj31 a1 (rd_L4 l0_3 a1) (rd_L4 l0_4 a1) ((rd_L4 l0_3 a1).length : Int) (wrap64 (x39_2 + 1)) a0_0 a0_1 l0_2 l0_3 l0_4)) else (none))) else (none)) else (none))) = some r := H
                     have A41 := Aside0.mk A410
                     clear A410
                     by_cases c42 : t241 < 0
                     ·rw [if_pos c42] at H
                      have c42b0 : decide (t241 < 0) = true := decide_eq_true c42
                      clear c42
                      obtain rfl := Option.some.inj H
                      have hcz43_0 : wc.cell? ⟨gb228, 0, none⟩ = some (.int .i64 a0_0) := (blk_cell BK228.out 0).trans rfl
                      have hcz43_1 : wc.cell? ⟨gb228, 1, none⟩ = some (.int .i64 a0_1) := (blk_cell BK228.out 1).trans rfl
                      have hcz43_2 : wc.cell? ⟨gb228, 2, none⟩ = some (.slice (some ad231) l0_2.length c0_2) := (blk_cell BK228.out 2).trans rfl
                      have hcz43_3 : wc.cell? ⟨gb228, 3, none⟩ = some (.slice (some ad229) l0_3.length c0_3) := (blk_cell BK228.out 3).trans rfl
                      have hcz43_4 : wc.cell? ⟨gb228, 4, none⟩ = some (.slice (some ad230) l0_4.length c0_4) := (blk_cell BK228.out 4).trans rfl
                      have hfz43_0 := blk_frozen BK228.out 0
                      have hfz43_1 := blk_frozen BK228.out 1
                      have hfz43_2 := blk_frozen BK228.out 2
                      have hfz43_3 := blk_frozen BK228.out 3
                      have hfz43_4 := blk_frozen BK228.out 4
                      have p240 : 0 ≤ (x39_2 : Int) := zd
                      have q240 : x39_2 < ((rd_L4 l0_4 a1).length : Int) := zd
                      obtain ⟨ad240, e240, hx240_0⟩ := Kd.at_int HR230_0.out x39_2 p240 q240
                      cases e240
                      replace hx240_0 := (HB.out.cell (World.block_lt_of_cell? w _ hx240_0)).trans hx240_0
                      replace p240 := eq_true p240
                      replace q240 := eq_true q240
                      go_wp2_with (first | (go_at_call 75; (with_reducible refine (impl_side.calls a0_0 a0_1 x39_2 (rd (rd_L4 l0_4 a1) x39_2) t241 _ A41.out).mono ?_); rintro e w' ⟨rfl, ⟨nd, rfl⟩⟩; (try first | exact ⟨rfl, _, World.drewN_drewN _ _ _⟩ | exact ⟨rfl, _, Eq.trans (World.drewN_drewN _ _ _) (congrArg (World.drewN _) (Nat.add_assoc _ _ _))⟩)))
                      repeat (go_quiet (first | (go_at_call 75; (with_reducible refine (impl_side.calls a0_0 a0_1 x39_2 (rd (rd_L4 l0_4 a1) x39_2) t241 _ A41.out).mono ?_); rintro e w' ⟨rfl, ⟨nd, rfl⟩⟩; (try first | exact ⟨rfl, _, World.drewN_drewN _ _ _⟩ | exact ⟨rfl, _, Eq.trans (World.drewN_drewN _ _ _) (congrArg (World.drewN _) (Nat.add_assoc _ _ _))⟩))); try go_wp2_with (first | (go_at_call 75; (with_reducible refine (impl_side.calls a0_0 a0_1 x39_2 (rd (rd_L4 l0_4 a1) x39_2) t241 _ A41.out).mono ?_); rintro e w' ⟨rfl, ⟨nd, rfl⟩⟩; (try first | exact ⟨rfl, _, World.drewN_drewN _ _ _⟩ | exact ⟨rfl, _, Eq.trans (World.drewN_drewN _ _ _) (congrArg (World.drewN _) (Nat.add_assoc _ _ _))⟩))))
                      go_ret
                      exact ⟨ze, (zs GE228.out)⟩
                     ·rw [if_neg c42] at H
                      have c42b0 : decide (t241 < 0) = false := decide_eq_false c42
                      clear c42
                      by_cases c44 : 0 ≤ t241
                      ·rw [if_pos c44] at H
                       have c44b0 : decide (0 ≤ t241) = true := decide_eq_true c44
                       clear c44
                       by_cases c45 : t241 < ((rd_L4 l0_3 a1).length : Int)
                       ·rw [if_pos c45] at H
                        have c45b0 : decide (t241 < ((rd_L4 l0_3 a1).length : Int)) = true := decide_eq_true c45
                        clear c45
                        by_cases c46 : (rd (rd_L4 l0_3 a1) t241) < 0
                        ·rw [if_pos c46] at H
                         have c46b0 : decide ((rd (rd_L4 l0_3 a1) t241) < 0) = true := decide_eq_true c46
                         clear c46
                         obtain rfl := Option.some.inj H
                         have hcz47_0 : wc.cell? ⟨gb228, 0, none⟩ = some (.int .i64 a0_0) := (blk_cell BK228.out 0).trans rfl
                         have hcz47_1 : wc.cell? ⟨gb228, 1, none⟩ = some (.int .i64 a0_1) := (blk_cell BK228.out 1).trans rfl
                         have hcz47_2 : wc.cell? ⟨gb228, 2, none⟩ = some (.slice (some ad231) l0_2.length c0_2) := (blk_cell BK228.out 2).trans rfl
                         have hcz47_3 : wc.cell? ⟨gb228, 3, none⟩ = some (.slice (some ad229) l0_3.length c0_3) := (blk_cell BK228.out 3).trans rfl
                         have hcz47_4 : wc.cell? ⟨gb228, 4, none⟩ = some (.slice (some ad230) l0_4.length c0_4) := (blk_cell BK228.out 4).trans rfl
                         have hfz47_0 := blk_frozen BK228.out 0
                         have hfz47_1 := blk_frozen BK228.out 1
                         have hfz47_2 := blk_frozen BK228.out 2
                         have hfz47_3 := blk_frozen BK228.out 3
                         have hfz47_4 := blk_frozen BK228.out 4
                         have p240 : 0 ≤ (x39_2 : Int) := zd
                         have q240 : x39_2 < ((rd_L4 l0_4 a1).length : Int) := zd
                         obtain ⟨ad240, e240, hx240_0⟩ := Kd.at_int HR230_0.out x39_2 p240 q240
                         cases e240
                         replace hx240_0 := (HB.out.cell (World.block_lt_of_cell? w _ hx240_0)).trans hx240_0
                         replace p240 := eq_true p240
                         replace q240 := eq_true q240
                         go_wp2_with (first | (go_at_call 75; (with_reducible refine (impl_side.calls a0_0 a0_1 x39_2 (rd (rd_L4 l0_4 a1) x39_2) t241 _ A41.out).mono ?_); rintro e w' ⟨rfl, ⟨nd, rfl⟩⟩; (try first | exact ⟨rfl, _, World.drewN_drewN _ _ _⟩ | exact ⟨rfl, _, Eq.trans (World.drewN_drewN _ _ _) (congrArg (World.drewN _) (Nat.add_assoc _ _ _))⟩); have p242 : 0 ≤ (t241 : Int) := zd; have q242 : t241 < ((rd_L4 l0_3 a1).length : Int) := zd; obtain ⟨ad242, e242, hx242_0⟩ := Kd.at_int HR229_0.out t241 p242 q242; obtain rfl : ad234 = ad242 := (by injection e242); replace hx242_0 := (HB.out.cell (World.block_lt_of_cell? w _ hx242_0)).trans hx242_0; replace p242 := eq_true p242; replace q242 := eq_true q242))
                         repeat (go_quiet (first | (go_at_call 75; (with_reducible refine (impl_side.calls a0_0 a0_1 x39_2 (rd (rd_L4 l0_4 a1) x39_2) t241 _ A41.out).mono ?_); rintro e w' ⟨rfl, ⟨nd, rfl⟩⟩; (try first | exact ⟨rfl, _, World.drewN_drewN _ _ _⟩ | exact ⟨rfl, _, Eq.trans (World.drewN_drewN _ _ _) (congrArg (World.drewN _) (Nat.add_assoc _ _ _))⟩); have p242 : 0 ≤ (t241 : Int) := zd; have q242 : t241 < ((rd_L4 l0_3 a1).length : Int) := zd; obtain ⟨ad242, e242, hx242_0⟩ := Kd.at_int HR229_0.out t241 p242 q242; obtain rfl : ad234 = ad242 := (by injection e242); replace hx242_0 := (HB.out.cell (World.block_lt_of_cell? w _ hx242_0)).trans hx242_0; replace p242 := eq_true p242; replace q242 := eq_true q242)); try go_wp2_with (first | (go_at_call 75; (with_reducible refine (impl_side.calls a0_0 a0_1 x39_2 (rd (rd_L4 l0_4 a1) x39_2) t241 _ A41.out).mono ?_); rintro e w' ⟨rfl, ⟨nd, rfl⟩⟩; (try first | exact ⟨rfl, _, World.drewN_drewN _ _ _⟩ | exact ⟨rfl, _, Eq.trans (World.drewN_drewN _ _ _) (congrArg (World.drewN _) (Nat.add_assoc _ _ _))⟩); have p242 : 0 ≤ (t241 : Int) := zd; have q242 : t241 < ((rd_L4 l0_3 a1).length : Int) := zd; obtain ⟨ad242, e242, hx242_0⟩ := Kd.at_int HR229_0.out t241 p242 q242; obtain rfl : ad234 = ad242 := (by injection e242); replace hx242_0 := (HB.out.cell (World.block_lt_of_cell? w _ hx242_0)).trans hx242_0; replace p242 := eq_true p242; replace q242 := eq_true q242)))
                         go_ret
                         exact ⟨ze, (zs GE228.out)⟩
                        ·rw [if_neg c46] at H
                         have c46b0 : decide ((rd (rd_L4 l0_3 a1) t241) < 0) = false := decide_eq_false c46
                         clear c46
                         by_cases c48 : x39_2 < ((rd_L4 l0_3 a1).length : Int)
                         ·rw [if_pos c48] at H
                          have c48b0 : decide (x39_2 < ((rd_L4 l0_3 a1).length : Int)) = true := decide_eq_true c48
                          clear c48
                          by_cases c49 : (rd (rd_L4 l0_3 a1) t241) ≥ (rd (rd_L4 l0_3 a1) x39_2)
                          ·rw [if_pos c49] at H
                           have c49b0 : decide ((rd (rd_L4 l0_3 a1) x39_2) ≤ (rd (rd_L4 l0_3 a1) t241)) = true := decide_eq_true c49
                           clear c49
                           obtain rfl := Option.some.inj H
                           have hcz50_0 : wc.cell? ⟨gb228, 0, none⟩ = some (.int .i64 a0_0) := (blk_cell BK228.out 0).trans rfl
                           have hcz50_1 : wc.cell? ⟨gb228, 1, none⟩ = some (.int .i64 a0_1) := (blk_cell BK228.out 1).trans rfl
                           have hcz50_2 : wc.cell? ⟨gb228, 2, none⟩ = some (.slice (some ad231) l0_2.length c0_2) := (blk_cell BK228.out 2).trans rfl
                           have hcz50_3 : wc.cell? ⟨gb228, 3, none⟩ = some (.slice (some ad229) l0_3.length c0_3) := (blk_cell BK228.out 3).trans rfl
                           have hcz50_4 : wc.cell? ⟨gb228, 4, none⟩ = some (.slice (some ad230) l0_4.length c0_4) := (blk_cell BK228.out 4).trans rfl
                           have hfz50_0 := blk_frozen BK228.out 0
                           have hfz50_1 := blk_frozen BK228.out 1
                           have hfz50_2 := blk_frozen BK228.out 2
                           have hfz50_3 := blk_frozen BK228.out 3
                           have hfz50_4 := blk_frozen BK228.out 4
                           have p240 : 0 ≤ (x39_2 : Int) := zd
                           have q240 : x39_2 < ((rd_L4 l0_4 a1).length : Int) := zd
                           obtain ⟨ad240, e240, hx240_0⟩ := Kd.at_int HR230_0.out x39_2 p240 q240
                           cases e240
                           replace hx240_0 := (HB.out.cell (World.block_lt_of_cell? w _ hx240_0)).trans hx240_0
                           replace p240 := eq_true p240
                           replace q240 := eq_true q240
                           go_wp2_with (first | (go_at_call 75; (with_reducible refine (impl_side.calls a0_0 a0_1 x39_2 (rd (rd_L4 l0_4 a1) x39_2) t241 _ A41.out).mono ?_); rintro e w' ⟨rfl, ⟨nd, rfl⟩⟩; (try first | exact ⟨rfl, _, World.drewN_drewN _ _ _⟩ | exact ⟨rfl, _, Eq.trans (World.drewN_drewN _ _ _) (congrArg (World.drewN _) (Nat.add_assoc _ _ _))⟩); have p242 : 0 ≤ (t241 : Int) := zd; have q242 : t241 < ((rd_L4 l0_3 a1).length : Int) := zd; obtain ⟨ad242, e242, hx242_0⟩ := Kd.at_int HR229_0.out t241 p242 q242; obtain rfl : ad234 = ad242 := (by injection e242); replace hx242_0 := (HB.out.cell (World.block_lt_of_cell? w _ hx242_0)).trans hx242_0; replace p242 := eq_true p242; replace q242 := eq_true q242; have p243 : 0 ≤ (t241 : Int) := zd; have q243 : t241 < ((rd_L4 l0_3 a1).length : Int) := zd; obtain ⟨ad243, e243, hx243_0⟩ := Kd.at_int HR229_0.out t241 p243 q243; obtain rfl : ad234 = ad243 := (by injection e243); replace hx243_0 := (HB.out.cell (World.block_lt_of_cell? w _ hx243_0)).trans hx243_0; replace p243 := eq_true p243; replace q243 := eq_true q243; have p244 : 0 ≤ (x39_2 : Int) := zd; have q244 : x39_2 < ((rd_L4 l0_3 a1).length : Int) := zd; obtain ⟨ad244, e244, hx244_0⟩ := Kd.at_int HR229_0.out x39_2 p244 q244; obtain rfl : ad234 = ad244 := (by injection e244); replace hx244_0 := (HB.out.cell (World.block_lt_of_cell? w _ hx244_0)).trans hx244_0; replace p244 := eq_true p244; replace q244 := eq_true q244))
                           repeat (go_quiet (first | (go_at_call 75; (with_reducible refine (impl_side.calls a0_0 a0_1 x39_2 (rd (rd_L4 l0_4 a1) x39_2) t241 _ A41.out).mono ?_); rintro e w' ⟨rfl, ⟨nd, rfl⟩⟩; (try first | exact ⟨rfl, _, World.drewN_drewN _ _ _⟩ | exact ⟨rfl, _, Eq.trans (World.drewN_drewN _ _ _) (congrArg (World.drewN _) (Nat.add_assoc _ _ _))⟩); have p242 : 0 ≤ (t241 : Int) := zd; have q242 : t241 < ((rd_L4 l0_3 a1).length : Int) := zd; obtain ⟨ad242, e242, hx242_0⟩ := Kd.at_int HR229_0.out t241 p242 q242; obtain rfl : ad234 = ad242 := (by injection e242); replace hx242_0 := (HB.out.cell (World.block_lt_of_cell? w _ hx242_0)).trans hx242_0; replace p242 := eq_true p242; replace q242 := eq_true q242; have p243 : 0 ≤ (t241 : Int) := zd; have q243 : t241 < ((rd_L4 l0_3 a1).length : Int) := zd; obtain ⟨ad243, e243, hx243_0⟩ := Kd.at_int HR229_0.out t241 p243 q243; obtain rfl : ad234 = ad243 := (by injection e243); replace hx243_0 := (HB.out.cell (World.block_lt_of_cell? w _ hx243_0)).trans hx243_0; replace p243 := eq_true p243; replace q243 := eq_true q243; have p244 : 0 ≤ (x39_2 : Int) := zd; have q244 : x39_2 < ((rd_L4 l0_3 a1).length : Int) := zd; obtain ⟨ad244, e244, hx244_0⟩ := Kd.at_int HR229_0.out x39_2 p244 q244; obtain rfl : ad234 = ad244 := (by injection e244); replace hx244_0 := (HB.out.cell (World.block_lt_of_cell? w _ hx244_0)).trans hx244_0; replace p244 := eq_true p244; replace q244 := eq_true q244)); try go_wp2_with (first | (go_at_call 75; (with_reducible refine (impl_side.calls a0_0 a0_1 x39_2 (rd (rd_L4 l0_4 a1) x39_2) t241 _ A41.out).mono ?_); rintro e w' ⟨rfl, ⟨nd, rfl⟩⟩; (try first | exact ⟨rfl, _, World.drewN_drewN _ _ _⟩ | exact ⟨rfl, _, Eq.trans (World.drewN_drewN _ _ _) (congrArg (World.drewN _) (Nat.add_assoc _ _ _))⟩); have p242 : 0 ≤ (t241 : Int) := zd; have q242 : t241 < ((rd_L4 l0_3 a1).length : Int) := zd; obtain ⟨ad242, e242, hx242_0⟩ := Kd.at_int HR229_0.out t241 p242 q242; obtain rfl : ad234 = ad242 := (by injection e242); replace hx242_0 := (HB.out.cell (World.block_lt_of_cell? w _ hx242_0)).trans hx242_0; replace p242 := eq_true p242; replace q242 := eq_true q242; have p243 : 0 ≤ (t241 : Int) := zd; have q243 : t241 < ((rd_L4 l0_3 a1).length : Int) := zd; obtain ⟨ad243, e243, hx243_0⟩ := Kd.at_int HR229_0.out t241 p243 q243; obtain rfl : ad234 = ad243 := (by injection e243); replace hx243_0 := (HB.out.cell (World.block_lt_of_cell? w _ hx243_0)).trans hx243_0; replace p243 := eq_true p243; replace q243 := eq_true q243; have p244 : 0 ≤ (x39_2 : Int) := zd; have q244 : x39_2 < ((rd_L4 l0_3 a1).length : Int) := zd; obtain ⟨ad244, e244, hx244_0⟩ := Kd.at_int HR229_0.out x39_2 p244 q244; obtain rfl : ad234 = ad244 := (by injection e244); replace hx244_0 := (HB.out.cell (World.block_lt_of_cell? w _ hx244_0)).trans hx244_0; replace p244 := eq_true p244; replace q244 := eq_true q244)))
                           go_ret
                           exact ⟨ze, (zs GE228.out)⟩
                          ·rw [if_neg c49] at H
                           have c49b0 : decide ((rd (rd_L4 l0_3 a1) x39_2) ≤ (rd (rd_L4 l0_3 a1) t241)) = false := decide_eq_false c49
                           clear c49
                           have H' := Aside0.mk H
                           clear H
                           have hcz51_0 : wc.cell? ⟨gb228, 0, none⟩ = some (.int .i64 a0_0) := (blk_cell BK228.out 0).trans rfl
                           have hcz51_1 : wc.cell? ⟨gb228, 1, none⟩ = some (.int .i64 a0_1) := (blk_cell BK228.out 1).trans rfl
                           have hcz51_2 : wc.cell? ⟨gb228, 2, none⟩ = some (.slice (some ad231) l0_2.length c0_2) := (blk_cell BK228.out 2).trans rfl
                           have hcz51_3 : wc.cell? ⟨gb228, 3, none⟩ = some (.slice (some ad229) l0_3.length c0_3) := (blk_cell BK228.out 3).trans rfl
                           have hcz51_4 : wc.cell? ⟨gb228, 4, none⟩ = some (.slice (some ad230) l0_4.length c0_4) := (blk_cell BK228.out 4).trans rfl
                           have hfz51_0 := blk_frozen BK228.out 0
                           have hfz51_1 := blk_frozen BK228.out 1
                           have hfz51_2 := blk_frozen BK228.out 2
                           have hfz51_3 := blk_frozen BK228.out 3
                           have hfz51_4 := blk_frozen BK228.out 4
                           have p240 : 0 ≤ (x39_2 : Int) := zd
                           have q240 : x39_2 < ((rd_L4 l0_4 a1).length : Int) := zd
                           obtain ⟨ad240, e240, hx240_0⟩ := Kd.at_int HR230_0.out x39_2 p240 q240
                           cases e240
                           replace hx240_0 := (HB.out.cell (World.block_lt_of_cell? w _ hx240_0)).trans hx240_0
                           replace p240 := eq_true p240
                           replace q240 := eq_true q240
                           go_wp2_with (first | (go_at_call 75; (with_reducible refine (impl_side.calls a0_0 a0_1 x39_2 (rd (rd_L4 l0_4 a1) x39_2) t241 _ A41.out).mono ?_); rintro e w' ⟨rfl, ⟨nd, rfl⟩⟩; (try first | exact ⟨rfl, _, World.drewN_drewN _ _ _⟩ | exact ⟨rfl, _, Eq.trans (World.drewN_drewN _ _ _) (congrArg (World.drewN _) (Nat.add_assoc _ _ _))⟩); have p242 : 0 ≤ (t241 : Int) := zd; have q242 : t241 < ((rd_L4 l0_3 a1).length : Int) := zd; obtain ⟨ad242, e242, hx242_0⟩ := Kd.at_int HR229_0.out t241 p242 q242; obtain rfl : ad234 = ad242 := (by injection e242); replace hx242_0 := (HB.out.cell (World.block_lt_of_cell? w _ hx242_0)).trans hx242_0; replace p242 := eq_true p242; replace q242 := eq_true q242; have p243 : 0 ≤ (t241 : Int) := zd; have q243 : t241 < ((rd_L4 l0_3 a1).length : Int) := zd; obtain ⟨ad243, e243, hx243_0⟩ := Kd.at_int HR229_0.out t241 p243 q243; obtain rfl : ad234 = ad243 := (by injection e243); replace hx243_0 := (HB.out.cell (World.block_lt_of_cell? w _ hx243_0)).trans hx243_0; replace p243 := eq_true p243; replace q243 := eq_true q243; have p244 : 0 ≤ (x39_2 : Int) := zd; have q244 : x39_2 < ((rd_L4 l0_3 a1).length : Int) := zd; obtain ⟨ad244, e244, hx244_0⟩ := Kd.at_int HR229_0.out x39_2 p244 q244; obtain rfl : ad234 = ad244 := (by injection e244); replace hx244_0 := (HB.out.cell (World.block_lt_of_cell? w _ hx244_0)).trans hx244_0; replace p244 := eq_true p244; replace q244 := eq_true q244))
                           repeat (go_quiet (first | (go_at_call 75; (with_reducible refine (impl_side.calls a0_0 a0_1 x39_2 (rd (rd_L4 l0_4 a1) x39_2) t241 _ A41.out).mono ?_); rintro e w' ⟨rfl, ⟨nd, rfl⟩⟩; (try first | exact ⟨rfl, _, World.drewN_drewN _ _ _⟩ | exact ⟨rfl, _, Eq.trans (World.drewN_drewN _ _ _) (congrArg (World.drewN _) (Nat.add_assoc _ _ _))⟩); have p242 : 0 ≤ (t241 : Int) := zd; have q242 : t241 < ((rd_L4 l0_3 a1).length : Int) := zd; obtain ⟨ad242, e242, hx242_0⟩ := Kd.at_int HR229_0.out t241 p242 q242; obtain rfl : ad234 = ad242 := (by injection e242); replace hx242_0 := (HB.out.cell (World.block_lt_of_cell? w _ hx242_0)).trans hx242_0; replace p242 := eq_true p242; replace q242 := eq_true q242; have p243 : 0 ≤ (t241 : Int) := zd; have q243 : t241 < ((rd_L4 l0_3 a1).length : Int) := zd; obtain ⟨ad243, e243, hx243_0⟩ := Kd.at_int HR229_0.out t241 p243 q243; obtain rfl : ad234 = ad243 := (by injection e243); replace hx243_0 := (HB.out.cell (World.block_lt_of_cell? w _ hx243_0)).trans hx243_0; replace p243 := eq_true p243; replace q243 := eq_true q243; have p244 : 0 ≤ (x39_2 : Int) := zd; have q244 : x39_2 < ((rd_L4 l0_3 a1).length : Int) := zd; obtain ⟨ad244, e244, hx244_0⟩ := Kd.at_int HR229_0.out x39_2 p244 q244; obtain rfl : ad234 = ad244 := (by injection e244); replace hx244_0 := (HB.out.cell (World.block_lt_of_cell? w _ hx244_0)).trans hx244_0; replace p244 := eq_true p244; replace q244 := eq_true q244)); try go_wp2_with (first | (go_at_call 75; (with_reducible refine (impl_side.calls a0_0 a0_1 x39_2 (rd (rd_L4 l0_4 a1) x39_2) t241 _ A41.out).mono ?_); rintro e w' ⟨rfl, ⟨nd, rfl⟩⟩; (try first | exact ⟨rfl, _, World.drewN_drewN _ _ _⟩ | exact ⟨rfl, _, Eq.trans (World.drewN_drewN _ _ _) (congrArg (World.drewN _) (Nat.add_assoc _ _ _))⟩); have p242 : 0 ≤ (t241 : Int) := zd; have q242 : t241 < ((rd_L4 l0_3 a1).length : Int) := zd; obtain ⟨ad242, e242, hx242_0⟩ := Kd.at_int HR229_0.out t241 p242 q242; obtain rfl : ad234 = ad242 := (by injection e242); replace hx242_0 := (HB.out.cell (World.block_lt_of_cell? w _ hx242_0)).trans hx242_0; replace p242 := eq_true p242; replace q242 := eq_true q242; have p243 : 0 ≤ (t241 : Int) := zd; have q243 : t241 < ((rd_L4 l0_3 a1).length : Int) := zd; obtain ⟨ad243, e243, hx243_0⟩ := Kd.at_int HR229_0.out t241 p243 q243; obtain rfl : ad234 = ad243 := (by injection e243); replace hx243_0 := (HB.out.cell (World.block_lt_of_cell? w _ hx243_0)).trans hx243_0; replace p243 := eq_true p243; replace q243 := eq_true q243; have p244 : 0 ≤ (x39_2 : Int) := zd; have q244 : x39_2 < ((rd_L4 l0_3 a1).length : Int) := zd; obtain ⟨ad244, e244, hx244_0⟩ := Kd.at_int HR229_0.out x39_2 p244 q244; obtain rfl : ad234 = ad244 := (by injection e244); replace hx244_0 := (HB.out.cell (World.block_lt_of_cell? w _ hx244_0)).trans hx244_0; replace p244 := eq_true p244; replace q244 := eq_true q244)))
                           go_roundg kj31
                           case measure => have := HJ5.out; have := HK2.out; have := HJ31.out; omega
                           case rel => exact ⟨(wrap64 (x39_2 + 1)), zr, H', ⟨by have := HJ5.out; have := HK2.out; have := HJ31.out; omega⟩, ⟨zb BK228.out⟩, ⟨zs GE228.out⟩⟩
                         ·rw [if_neg c48] at H
                          exact absurd H (by simp)
                       ·rw [if_neg c45] at H
                        exact absurd H (by simp)
                      ·rw [if_neg c44] at H
                       exact absurd H (by simp)
                    ·rw [if_neg c40] at H
                     exact absurd H (by simp)
                   ·rw [if_neg c39] at H
                    exact absurd H (by simp)
              ·rw [if_neg c26] at H
               exact absurd H (by simp)
             ·rw [if_neg c25] at H
              exact absurd H (by simp)
           ·rw [if_neg c15] at H
            exact absurd H (by simp)
          ·rw [if_neg c14] at H
           exact absurd H (by simp)
         ·rw [if_neg c13] at H
          have c13b0 : decide (x39_2 < ((rd_L4 l0_3 a1).length : Int)) = false := decide_eq_false c13
          clear c13
          obtain rfl := Option.some.inj H
          go_wp2
          repeat (go_quiet (fail); try go_wp2)
          go_ret
          exact ⟨ze, (zs GE228.out)⟩
   ·rw [if_neg c5] at H
    exact absurd H (by simp)
  ·rw [if_neg c4] at H
   exact absurd H (by simp)
 ·rw [if_neg c3] at H
  exact absurd H (by simp)

end Go.Proofs.YthbeplmihjhoeaaDoor.PFnExactWalk
