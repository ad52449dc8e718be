-- made by wip/tools/myprint.py (this session's own program, over the kit's printer)
import Derived.Test.YthbeplmihjhoeaaDoorPFnExactWalkx0
import Derived.Test.YthbeplmihjhoeaaDoorPFnExactWalkx4
namespace Go.Proofs.YthbeplmihjhoeaaDoor.PFnExactWalk
open Go.RowKit Go.Proofs.YthbeplmihjhoeaaDoorW.PrintWords Go.Proofs.YthbeplmihjhoeaaDoorW.PrintLast Go.Proofs.YthbeplmihjhoeaaDoorW.PrintMore
attribute [local go_sem] max2_int min2_int max_two min_two max_three min_three max_four min_four   -- for this text's walks alone
set_option linter.unusedVariables false
set_option linter.unusedSimpArgs false

/-! ### spec_l6rowOK: function 143 -/
mutual
def spec_l6rowOK.j0 : Nat → Int → Int → List Int → List Int → Bool → Int → Int → List (S120) → List (List Int) → List (List Int) → Option (Bool)
 | 0, _, _, _, _, _, _, _, _, _, _ => none
 | k + 1, x1, x5, x6, x7, x34, x139000, x139001, x139002, x139003, x139004 => if x34 = true then (some false) else (spec_l6rowOK.l0 k x1 x5 x6 x7 0 x139000 x139001 x139002 x139003 x139004)
def spec_l6rowOK.l0 : Nat → Int → Int → List Int → List Int → Int → Int → Int → List (S120) → List (List Int) → List (List Int) → Option (Bool)
 | 0, _, _, _, _, _, _, _, _, _, _ => none
 | k + 1, x1, x5, x6, x7, x8, x139000, x139001, x139002, x139003, x139004 => if x8 < x5 then (if 0 ≤ x1 then (if x1 < (x139002.length : Int) then (if x8 = ((rd_T120 x139002 x1).f2) then (if 0 ≤ x8 then (if x8 < (x6.length : Int) then (if (rd x6 x8) = 0 then (if x8 < (x7.length : Int) then (if (rd x7 x8) = (-1) then (spec_l6rowOK.l0 k x1 x5 x6 x7 (wrap64 (x8 + 1)) x139000 x139001 x139002 x139003 x139004) else (some false)) else (none)) else (some false)) else (none)) else (none)) else (if 0 ≤ x8 then (if x8 < (x6.length : Int) then (if (rd x6 x8) = (-1) then (if x8 < (x7.length : Int) then (spec_l6rowOK.j2 k x1 x5 x6 x7 x8 ((rd x7 x8) == (-1)) x139000 x139001 x139002 x139003 x139004) else (none)) else (spec_l6rowOK.j2 k x1 x5 x6 x7 x8 false x139000 x139001 x139002 x139003 x139004)) else (none)) else (none))) else (none)) else (none)) else (some true)
def spec_l6rowOK.j2 : Nat → Int → Int → List Int → List Int → Int → Bool → Int → Int → List (S120) → List (List Int) → List (List Int) → Option (Bool)
 | 0, _, _, _, _, _, _, _, _, _, _, _ => none
 | k + 1, x1, x5, x6, x7, x8, x71, x139000, x139001, x139002, x139003, x139004 => if x71 = true then (spec_l6rowOK.l0 k x1 x5 x6 x7 (wrap64 (x8 + 1)) x139000 x139001 x139002 x139003 x139004) else (if 0 ≤ x8 then (if x8 < (x6.length : Int) then (if (rd x6 x8) < 1 then (spec_l6rowOK.j3 k x1 x5 x6 x7 x8 true x139000 x139001 x139002 x139003 x139004) else (if (rd x6 x8) > 65534 then (spec_l6rowOK.j3 k x1 x5 x6 x7 x8 true x139000 x139001 x139002 x139003 x139004) else (if x8 < (x7.length : Int) then (if (rd x7 x8) < 0 then (spec_l6rowOK.j3 k x1 x5 x6 x7 x8 true x139000 x139001 x139002 x139003 x139004) else (spec_l6rowOK.j3 k x1 x5 x6 x7 x8 (decide ((rd x7 x8) > 3)) x139000 x139001 x139002 x139003 x139004)) else (none)))) else (none)) else (none))
def spec_l6rowOK.j3 : Nat → Int → Int → List Int → List Int → Int → Bool → Int → Int → List (S120) → List (List Int) → List (List Int) → Option (Bool)
 | 0, _, _, _, _, _, _, _, _, _, _, _ => none
 | k + 1, x1, x5, x6, x7, x8, x97, x139000, x139001, x139002, x139003, x139004 => if x97 = true then (some false) else (if 0 ≤ x8 then (if x8 < (x7.length : Int) then ((spec_l4to.f x139000 x139001 x8 (rd x7 x8)).bind fun t151 => (if t151 < 0 then (some false) else (if 0 ≤ t151 then (if t151 < (x6.length : Int) then (if (rd x6 t151) < 0 then (some false) else (if x8 < (x6.length : Int) then (if (rd x6 t151) ≥ (rd x6 x8) then (some false) else (spec_l6rowOK.l0 k x1 x5 x6 x7 (wrap64 (x8 + 1)) x139000 x139001 x139002 x139003 x139004)) else (none))) else (none)) else (none)))) else (none)) else (none))
end
def spec_l6rowOK.f (k : Nat) (a0_0 : Int) (a0_1 : Int) (l0_2 : List (S120)) (l0_3 : List (List Int)) (l0_4 : List (List Int)) (a1 : Int) : Option (Bool) := if 0 ≤ a1 then (if a1 < (l0_3.length : Int) then (if a1 < (l0_4.length : Int) then (if ((rd_L4 l0_3 a1).length : Int) = (wrap64 (a0_0 * a0_1)) then (spec_l6rowOK.j0 k a1 (wrap64 (a0_0 * a0_1)) (rd_L4 l0_3 a1) (rd_L4 l0_4 a1) (((rd_L4 l0_4 a1).length : Int) != (wrap64 (a0_0 * a0_1))) a0_0 a0_1 l0_2 l0_3 l0_4) else (spec_l6rowOK.j0 k a1 (wrap64 (a0_0 * a0_1)) (rd_L4 l0_3 a1) (rd_L4 l0_4 a1) true a0_0 a0_1 l0_2 l0_3 l0_4)) else (none)) else (none)) else (none)
theorem spec_l6rowOK.mono_l : ∀ k, (∀ y0 y1 y2 y3 y4 y5 y6 y7 y8 y9, LeO (spec_l6rowOK.j0 k y0 y1 y2 y3 y4 y5 y6 y7 y8 y9) (spec_l6rowOK.j0 (k + 1) y0 y1 y2 y3 y4 y5 y6 y7 y8 y9)) ∧ (∀ y0 y1 y2 y3 y4 y5 y6 y7 y8 y9, LeO (spec_l6rowOK.l0 k y0 y1 y2 y3 y4 y5 y6 y7 y8 y9) (spec_l6rowOK.l0 (k + 1) y0 y1 y2 y3 y4 y5 y6 y7 y8 y9)) ∧ (∀ y0 y1 y2 y3 y4 y5 y6 y7 y8 y9 y10, LeO (spec_l6rowOK.j2 k y0 y1 y2 y3 y4 y5 y6 y7 y8 y9 y10) (spec_l6rowOK.j2 (k + 1) y0 y1 y2 y3 y4 y5 y6 y7 y8 y9 y10)) ∧ (∀ y0 y1 y2 y3 y4 y5 y6 y7 y8 y9 y10, LeO (spec_l6rowOK.j3 k y0 y1 y2 y3 y4 y5 y6 y7 y8 y9 y10) (spec_l6rowOK.j3 (k + 1) y0 y1 y2 y3 y4 y5 y6 y7 y8 y9 y10))
 | 0 => ⟨fun _ _ _ _ _ _ _ _ _ _ r h => by simp [spec_l6rowOK.j0] at h, fun _ _ _ _ _ _ _ _ _ _ r h => by simp [spec_l6rowOK.l0] at h, fun _ _ _ _ _ _ _ _ _ _ _ r h => by simp [spec_l6rowOK.j2] at h, fun _ _ _ _ _ _ _ _ _ _ _ r h => by simp [spec_l6rowOK.j3] at h⟩
 | k + 1 => by
  obtain ⟨ih0, ih1, ih2, ih3⟩ := spec_l6rowOK.mono_l k
  refine ⟨?_, ?_, ?_, ?_⟩
  ·intro y0 y1 y2 y3 y4 y5 y6 y7 y8 y9
   unfold spec_l6rowOK.j0
   repeat' first
   | (with_reducible exact ih0 _ _ _ _ _ _ _ _ _ _)
   | (with_reducible exact ih1 _ _ _ _ _ _ _ _ _ _)
   | (with_reducible exact ih2 _ _ _ _ _ _ _ _ _ _ _)
   | (with_reducible exact ih3 _ _ _ _ _ _ _ _ _ _ _)
   | (with_reducible exact LeO.refl _)
   | (with_reducible exact LeO.none _)
   | (with_reducible refine LeO.ite ?_ ?_)
   | (with_reducible refine LeO.bind ?_ (fun _ => ?_))
   | exact LeO.none _
   | refine LeO.ite ?_ ?_
   | refine LeO.bind ?_ (fun _ => ?_)
  ·intro y0 y1 y2 y3 y4 y5 y6 y7 y8 y9
   unfold spec_l6rowOK.l0
   repeat' first
   | (with_reducible exact ih0 _ _ _ _ _ _ _ _ _ _)
   | (with_reducible exact ih1 _ _ _ _ _ _ _ _ _ _)
   | (with_reducible exact ih2 _ _ _ _ _ _ _ _ _ _ _)
   | (with_reducible exact ih3 _ _ _ _ _ _ _ _ _ _ _)
   | (with_reducible exact LeO.refl _)
   | (with_reducible exact LeO.none _)
   | (with_reducible refine LeO.ite ?_ ?_)
   | (with_reducible refine LeO.bind ?_ (fun _ => ?_))
   | exact LeO.none _
   | refine LeO.ite ?_ ?_
   | refine LeO.bind ?_ (fun _ => ?_)
  ·intro y0 y1 y2 y3 y4 y5 y6 y7 y8 y9 y10
   unfold spec_l6rowOK.j2
   repeat' first
   | (with_reducible exact ih0 _ _ _ _ _ _ _ _ _ _)
   | (with_reducible exact ih1 _ _ _ _ _ _ _ _ _ _)
   | (with_reducible exact ih2 _ _ _ _ _ _ _ _ _ _ _)
   | (with_reducible exact ih3 _ _ _ _ _ _ _ _ _ _ _)
   | (with_reducible exact LeO.refl _)
   | (with_reducible exact LeO.none _)
   | (with_reducible refine LeO.ite ?_ ?_)
   | (with_reducible refine LeO.bind ?_ (fun _ => ?_))
   | exact LeO.none _
   | refine LeO.ite ?_ ?_
   | refine LeO.bind ?_ (fun _ => ?_)
  ·intro y0 y1 y2 y3 y4 y5 y6 y7 y8 y9 y10
   unfold spec_l6rowOK.j3
   repeat' first
   | (with_reducible exact ih0 _ _ _ _ _ _ _ _ _ _)
   | (with_reducible exact ih1 _ _ _ _ _ _ _ _ _ _)
   | (with_reducible exact ih2 _ _ _ _ _ _ _ _ _ _ _)
   | (with_reducible exact ih3 _ _ _ _ _ _ _ _ _ _ _)
   | (with_reducible exact LeO.refl _)
   | (with_reducible exact LeO.none _)
   | (with_reducible refine LeO.ite ?_ ?_)
   | (with_reducible refine LeO.bind ?_ (fun _ => ?_))
   | exact LeO.none _
   | refine LeO.ite ?_ ?_
   | refine LeO.bind ?_ (fun _ => ?_)
theorem spec_l6rowOK.mono : ∀ a0 a1 a2 a3 a4 a5 k, LeO (spec_l6rowOK.f k a0 a1 a2 a3 a4 a5) (spec_l6rowOK.f (k + 1) a0 a1 a2 a3 a4 a5) := by
 intro a0 a1 a2 a3 a4 a5 k
 obtain ⟨ih0, ih1, ih2, ih3⟩ := spec_l6rowOK.mono_l k
 unfold spec_l6rowOK.f
 repeat' first
   | (with_reducible exact ih0 _ _ _ _ _ _ _ _ _ _)
   | (with_reducible exact ih1 _ _ _ _ _ _ _ _ _ _)
   | (with_reducible exact ih2 _ _ _ _ _ _ _ _ _ _ _)
   | (with_reducible exact ih3 _ _ _ _ _ _ _ _ _ _ _)
   | (with_reducible exact LeO.refl _)
   | (with_reducible exact LeO.none _)
   | (with_reducible refine LeO.ite ?_ ?_)
   | (with_reducible refine LeO.bind ?_ (fun _ => ?_))
   | exact LeO.none _
   | refine LeO.ite ?_ ?_
   | refine LeO.bind ?_ (fun _ => ?_)
set_option maxHeartbeats 8000000 in
set_option maxRecDepth 100000 in
theorem spec_l6rowOK.calls (k : Nat) (a0_0 : Int) (a0_1 : Int) (A0_2 : Option Addr) (c0_2 : Nat) (l0_2 : List (S120)) (A0_3 : Option Addr) (c0_3 : Nat) (l0_3 : List (List Int)) (A0_4 : Option Addr) (c0_4 : Nat) (l0_4 : List (List Int)) (a1 : Int) (r : Bool) (w : World) (hr0_2 : Kd.C k120 w A0_2 l0_2.length l0_2) (hc0_2 : l0_2.length ≤ c0_2) (hr0_3 : Kd.C (Kd.slice 3 (Kd.int .i64)) w A0_3 l0_3.length l0_3) (hc0_3 : l0_3.length ≤ c0_3) (hr0_4 : Kd.C (Kd.slice 3 (Kd.int .i64)) w A0_4 l0_4.length l0_4) (hc0_4 : l0_4.length ≤ c0_4) (h : spec_l6rowOK.f k a0_0 a0_1 l0_2 l0_3 l0_4 a1 = some r) :
  Calls Tryd.prog 143 #[.agg #[.int .i64 a0_0, .int .i64 a0_1, .slice A0_2 l0_2.length c0_2, .slice A0_3 l0_3.length c0_3, .slice A0_4 l0_4.length c0_4], .int .i64 a1] w fun e w' => e = .returned (.bool r) ∧ Below w.heap.size w w' := by
 have hu47 := Tryd.underlying47
 have HR0_2 := Aside0.mk hr0_2
 have HC0_2 := Aside0.mk hc0_2
 clear hr0_2 hc0_2
 have HR0_3 := Aside0.mk hr0_3
 have HC0_3 := Aside0.mk hc0_3
 clear hr0_3 hc0_3
 have HR0_4 := Aside0.mk hr0_4
 have HC0_4 := Aside0.mk hc0_4
 clear hr0_4 hc0_4
 have HB := Aside0.mk (Below.refl w.heap.size w)
 have H : (if 0 ≤ a1 then (if a1 < (l0_3.length : Int) then (if a1 < (l0_4.length : Int) then (if ((rd_L4 l0_3 a1).length : Int) = (wrap64 (a0_0 * a0_1)) then (spec_l6rowOK.j0 k a1 (wrap64 (a0_0 * a0_1)) (rd_L4 l0_3 a1) (rd_L4 l0_4 a1) (((rd_L4 l0_4 a1).length : Int) != (wrap64 (a0_0 * a0_1))) a0_0 a0_1 l0_2 l0_3 l0_4) else (spec_l6rowOK.j0 k a1 (wrap64 (a0_0 * a0_1)) (rd_L4 l0_3 a1) (rd_L4 l0_4 a1) true a0_0 a0_1 l0_2 l0_3 l0_4)) else (none)) else (none)) else (none)) = some r := h
 clear h
 by_cases c3 : 0 ≤ a1
 ·rw [if_pos c3] at H
  have c3b0 : decide (0 ≤ a1) = true := decide_eq_true c3
  clear c3
  by_cases c4 : a1 < (l0_3.length : Int)
  ·rw [if_pos c4] at H
   have c4b0 : decide (a1 < (l0_3.length : Int)) = true := decide_eq_true c4
   clear c4
   by_cases c5 : a1 < (l0_4.length : Int)
   ·rw [if_pos c5] at H
    have c5b0 : decide (a1 < (l0_4.length : Int)) = true := decide_eq_true c5
    clear c5
    have HC6 := Aside0.mk H
    clear H
    go_enter Tryd.func143, Tryd.ntmps143
    go_upto_region 4 with (first | ((with_reducible refine gate_dst (N := 2) rfl ?_); (try (refine gate_guard (by rfl) ?_; dsimp only)); refine box_event ?hg (N := 2) ?hd (cs := #[.int .i64 a0_0, .int .i64 a0_1, .slice A0_2 l0_2.length c0_2, .slice A0_3 l0_3.length c0_3, .slice A0_4 l0_4.length c0_4]) (t := 47) ?hr ?_; (case hd => rfl); (case hg => rfl); (case hr => first | (go_simp; done) | (go_simp; rfl)); intro gb138 hg w7 hbox hb; have n0_ := Aside0.mk (below_step z_ hb); have n1_ := Aside0.mk (hbox); have n2_ := Aside0.mk ((by rw [hg]; exact (below_size z_) : w.heap.size ≤ gb138)); have n3_ := Aside0.mk ((by rw [hg]; exact (below_size z_) : w.heap.size ≤ gb138)); clear HB; have HB := n0_; have BK138 := n1_; have GW138 := n2_; have GE138 := n3_; clear n0_ n1_ n2_ n3_; clear hb hbox hg; have hcz8_0 : w7.cell? ⟨gb138, 0, none⟩ = some (.int .i64 a0_0) := (blk_cell BK138.out 0).trans rfl; have hcz8_1 : w7.cell? ⟨gb138, 1, none⟩ = some (.int .i64 a0_1) := (blk_cell BK138.out 1).trans rfl; have hcz8_2 : w7.cell? ⟨gb138, 2, none⟩ = some (.slice A0_2 l0_2.length c0_2) := (blk_cell BK138.out 2).trans rfl; have hcz8_3 : w7.cell? ⟨gb138, 3, none⟩ = some (.slice A0_3 l0_3.length c0_3) := (blk_cell BK138.out 3).trans rfl; have hcz8_4 : w7.cell? ⟨gb138, 4, none⟩ = some (.slice A0_4 l0_4.length c0_4) := (blk_cell BK138.out 4).trans rfl; have hfz8_0 := blk_frozen BK138.out 0; have hfz8_1 := blk_frozen BK138.out 1; have hfz8_2 := blk_frozen BK138.out 2; have hfz8_3 := blk_frozen BK138.out 3; have hfz8_4 := blk_frozen BK138.out 4; have p139 : 0 ≤ (a1 : Int) := zd; have q139 : a1 < (l0_3.length : Int) := zd; obtain ⟨ad139, A139_0, c139_0, e139, hx139_0, hl139_0, hi139_0⟩ := at_L4 HR0_3.out a1 p139 q139; cases e139; replace hx139_0 := (HB.out.cell (World.block_lt_of_cell? w _ hx139_0)).trans hx139_0; have HR139_0 := Aside0.mk hi139_0; have HC139_0 := Aside0.mk hl139_0; clear hi139_0 hl139_0; replace p139 := eq_true p139; replace q139 := eq_true q139; have p140 : 0 ≤ (a1 : Int) := zd; have q140 : a1 < (l0_4.length : Int) := zd; obtain ⟨ad140, A140_0, c140_0, e140, hx140_0, hl140_0, hi140_0⟩ := at_L4 HR0_4.out a1 p140 q140; cases e140; replace hx140_0 := (HB.out.cell (World.block_lt_of_cell? w _ hx140_0)).trans hx140_0; have HR140_0 := Aside0.mk hi140_0; have HC140_0 := Aside0.mk hl140_0; clear hi140_0 hl140_0; replace p140 := eq_true p140; replace q140 := eq_true q140))
    repeat (go_quiet (first | ((with_reducible refine gate_dst (N := 2) rfl ?_); (try (refine gate_guard (by rfl) ?_; dsimp only)); refine box_event ?hg (N := 2) ?hd (cs := #[.int .i64 a0_0, .int .i64 a0_1, .slice A0_2 l0_2.length c0_2, .slice A0_3 l0_3.length c0_3, .slice A0_4 l0_4.length c0_4]) (t := 47) ?hr ?_; (case hd => rfl); (case hg => rfl); (case hr => first | (go_simp; done) | (go_simp; rfl)); intro gb138 hg w7 hbox hb; have n0_ := Aside0.mk (below_step z_ hb); have n1_ := Aside0.mk (hbox); have n2_ := Aside0.mk ((by rw [hg]; exact (below_size z_) : w.heap.size ≤ gb138)); have n3_ := Aside0.mk ((by rw [hg]; exact (below_size z_) : w.heap.size ≤ gb138)); clear HB; have HB := n0_; have BK138 := n1_; have GW138 := n2_; have GE138 := n3_; clear n0_ n1_ n2_ n3_; clear hb hbox hg; have hcz8_0 : w7.cell? ⟨gb138, 0, none⟩ = some (.int .i64 a0_0) := (blk_cell BK138.out 0).trans rfl; have hcz8_1 : w7.cell? ⟨gb138, 1, none⟩ = some (.int .i64 a0_1) := (blk_cell BK138.out 1).trans rfl; have hcz8_2 : w7.cell? ⟨gb138, 2, none⟩ = some (.slice A0_2 l0_2.length c0_2) := (blk_cell BK138.out 2).trans rfl; have hcz8_3 : w7.cell? ⟨gb138, 3, none⟩ = some (.slice A0_3 l0_3.length c0_3) := (blk_cell BK138.out 3).trans rfl; have hcz8_4 : w7.cell? ⟨gb138, 4, none⟩ = some (.slice A0_4 l0_4.length c0_4) := (blk_cell BK138.out 4).trans rfl; have hfz8_0 := blk_frozen BK138.out 0; have hfz8_1 := blk_frozen BK138.out 1; have hfz8_2 := blk_frozen BK138.out 2; have hfz8_3 := blk_frozen BK138.out 3; have hfz8_4 := blk_frozen BK138.out 4; have p139 : 0 ≤ (a1 : Int) := zd; have q139 : a1 < (l0_3.length : Int) := zd; obtain ⟨ad139, A139_0, c139_0, e139, hx139_0, hl139_0, hi139_0⟩ := at_L4 HR0_3.out a1 p139 q139; cases e139; replace hx139_0 := (HB.out.cell (World.block_lt_of_cell? w _ hx139_0)).trans hx139_0; have HR139_0 := Aside0.mk hi139_0; have HC139_0 := Aside0.mk hl139_0; clear hi139_0 hl139_0; replace p139 := eq_true p139; replace q139 := eq_true q139; have p140 : 0 ≤ (a1 : Int) := zd; have q140 : a1 < (l0_4.length : Int) := zd; obtain ⟨ad140, A140_0, c140_0, e140, hx140_0, hl140_0, hi140_0⟩ := at_L4 HR0_4.out a1 p140 q140; cases e140; replace hx140_0 := (HB.out.cell (World.block_lt_of_cell? w _ hx140_0)).trans hx140_0; have HR140_0 := Aside0.mk hi140_0; have HC140_0 := Aside0.mk hl140_0; clear hi140_0 hl140_0; replace p140 := eq_true p140; replace q140 := eq_true q140)); go_upto_region 4 with (first | ((with_reducible refine gate_dst (N := 2) rfl ?_); (try (refine gate_guard (by rfl) ?_; dsimp only)); refine box_event ?hg (N := 2) ?hd (cs := #[.int .i64 a0_0, .int .i64 a0_1, .slice A0_2 l0_2.length c0_2, .slice A0_3 l0_3.length c0_3, .slice A0_4 l0_4.length c0_4]) (t := 47) ?hr ?_; (case hd => rfl); (case hg => rfl); (case hr => first | (go_simp; done) | (go_simp; rfl)); intro gb138 hg w7 hbox hb; have n0_ := Aside0.mk (below_step z_ hb); have n1_ := Aside0.mk (hbox); have n2_ := Aside0.mk ((by rw [hg]; exact (below_size z_) : w.heap.size ≤ gb138)); have n3_ := Aside0.mk ((by rw [hg]; exact (below_size z_) : w.heap.size ≤ gb138)); clear HB; have HB := n0_; have BK138 := n1_; have GW138 := n2_; have GE138 := n3_; clear n0_ n1_ n2_ n3_; clear hb hbox hg; have hcz8_0 : w7.cell? ⟨gb138, 0, none⟩ = some (.int .i64 a0_0) := (blk_cell BK138.out 0).trans rfl; have hcz8_1 : w7.cell? ⟨gb138, 1, none⟩ = some (.int .i64 a0_1) := (blk_cell BK138.out 1).trans rfl; have hcz8_2 : w7.cell? ⟨gb138, 2, none⟩ = some (.slice A0_2 l0_2.length c0_2) := (blk_cell BK138.out 2).trans rfl; have hcz8_3 : w7.cell? ⟨gb138, 3, none⟩ = some (.slice A0_3 l0_3.length c0_3) := (blk_cell BK138.out 3).trans rfl; have hcz8_4 : w7.cell? ⟨gb138, 4, none⟩ = some (.slice A0_4 l0_4.length c0_4) := (blk_cell BK138.out 4).trans rfl; have hfz8_0 := blk_frozen BK138.out 0; have hfz8_1 := blk_frozen BK138.out 1; have hfz8_2 := blk_frozen BK138.out 2; have hfz8_3 := blk_frozen BK138.out 3; have hfz8_4 := blk_frozen BK138.out 4; have p139 : 0 ≤ (a1 : Int) := zd; have q139 : a1 < (l0_3.length : Int) := zd; obtain ⟨ad139, A139_0, c139_0, e139, hx139_0, hl139_0, hi139_0⟩ := at_L4 HR0_3.out a1 p139 q139; cases e139; replace hx139_0 := (HB.out.cell (World.block_lt_of_cell? w _ hx139_0)).trans hx139_0; have HR139_0 := Aside0.mk hi139_0; have HC139_0 := Aside0.mk hl139_0; clear hi139_0 hl139_0; replace p139 := eq_true p139; replace q139 := eq_true q139; have p140 : 0 ≤ (a1 : Int) := zd; have q140 : a1 < (l0_4.length : Int) := zd; obtain ⟨ad140, A140_0, c140_0, e140, hx140_0, hl140_0, hi140_0⟩ := at_L4 HR0_4.out a1 p140 q140; cases e140; replace hx140_0 := (HB.out.cell (World.block_lt_of_cell? w _ hx140_0)).trans hx140_0; have HR140_0 := Aside0.mk hi140_0; have HC140_0 := Aside0.mk hl140_0; clear hi140_0 hl140_0; replace p140 := eq_true p140; replace q140 := eq_true q140)))
    (try simp only [Act.put, List.setIfInBounds_toArray, List.set_cons_zero, List.set_cons_succ])
    go_cut [34] (fun v34 wc => ∃ (kq : Nat) (x34_5 : Bool), v34 = .bool x34_5 ∧ Aside0 (spec_l6rowOK.j0 kq a1 (wrap64 (a0_0 * a0_1)) (rd_L4 l0_3 a1) (rd_L4 l0_4 a1) x34_5 a0_0 a0_1 l0_2 l0_3 l0_4 = some r) ∧ Aside0 (kq ≤ k) ∧ Aside0 (wc.heap[gb138]? = some (.cells #[.int .i64 a0_0, .int .i64 a0_1, (.slice A0_2 l0_2.length c0_2), (.slice (some ad139) l0_3.length c0_3), (.slice (some ad140) l0_4.length c0_4)] 47 (0, 0))) ∧ Aside0 (Below w.heap.size w wc))
    case first =>
     have H := HC6.out
     clear HC6
     by_cases c9 : ((rd_L4 l0_3 a1).length : Int) = (wrap64 (a0_0 * a0_1))
     ·rw [if_pos c9] at H
      have c9b0 : (((rd_L4 l0_3 a1).length : Int) == (wrap64 (a0_0 * a0_1))) = true := beq_iff_eq.mpr c9
      have c9b1 : (((rd_L4 l0_3 a1).length : Int) != (wrap64 (a0_0 * a0_1))) = false := bne_eq_false_iff_eq.mpr c9
      clear c9
      (first | rw [c9b0] | (simp only [i64_w, i32_w]; rw [c9b0]) | skip)
      have H' := Aside0.mk H
      clear H
      go_wp2
      repeat (go_quiet (fail); try go_wp2)
      go_meet
      case rel => exact ⟨_, ((((rd_L4 l0_4 a1).length : Int) != (wrap64 (a0_0 * a0_1)))), zr, H', ⟨by first | omega | exact Nat.le_refl _⟩, ⟨zb BK138.out⟩, ⟨zs GE138.out⟩⟩
     ·rw [if_neg c9] at H
      have c9b0 : (((rd_L4 l0_3 a1).length : Int) == (wrap64 (a0_0 * a0_1))) = false := beq_eq_false_iff_ne.mpr c9
      have c9b1 : (((rd_L4 l0_3 a1).length : Int) != (wrap64 (a0_0 * a0_1))) = true := bne_iff_ne.mpr c9
      (first | rw [c9b0] | (simp only [i64_w, i32_w]; rw [c9b0]) | skip)
      have H' := Aside0.mk H
      clear H
      go_wp2
      repeat (go_quiet (fail); try go_wp2)
      go_meet
      case rel => exact ⟨_, (true), zr, H', ⟨by first | omega | exact Nat.le_refl _⟩, ⟨zb BK138.out⟩, ⟨zs GE138.out⟩⟩
    case rest =>
     clear HC6
     try clear c1
     try clear p1
     try clear q1
     try clear hx1
     try clear p2
     try clear c3
     try clear c3b0
     try clear c4
     try clear c4b0
     try clear c5
     try clear c5b0
     try clear p6
     try clear c9
     try clear c9b0
     try clear c9b1
     try clear hcz8_0
     try clear hcz8_1
     try clear hcz8_2
     try clear hcz8_3
     try clear hcz8_4
     try clear hfz8_0
     try clear hfz8_1
     try clear hfz8_2
     try clear hfz8_3
     try clear hfz8_4
     try clear hx139_0
     try clear hx140_0
     try clear p139
     try clear p140
     try clear q139
     try clear q140
     obtain ⟨kq, x34_5, rfl, HA, HJ5, BK138, HB⟩ := hcut
     cases kq with
     | zero => exact absurd HA.out (by simp [spec_l6rowOK.j0])
     | succ kj5 =>
      have H := HA.out
      clear HA
      simp only [spec_l6rowOK.j0] at H
      by_cases c10 : x34_5 = true
      ·subst c10
       have H1 : (some false) = some r := by rw [if_pos rfl] at H; exact H
       clear H
       have H := H1
       clear H1
       obtain rfl := Option.some.inj H
       go_wp2
       repeat (go_quiet (fail); try go_wp2)
       go_ret
       exact ⟨ze, (zs GE138.out)⟩
      ·replace c10 := Bool.eq_false_iff.mpr c10
       subst c10
       have H1 : (spec_l6rowOK.l0 kj5 a1 (wrap64 (a0_0 * a0_1)) (rd_L4 l0_3 a1) (rd_L4 l0_4 a1) 0 a0_0 a0_1 l0_2 l0_3 l0_4) = some r := by rw [if_neg (show ¬ (false = true) by decide)] at H; exact H
       clear H
       have H := H1
       clear H1
       have H' := Aside0.mk H
       clear H
       go_wp2
       repeat (go_quiet (fail); try go_wp2)
       go_loopg [8] kj5 (fun kq v8 w' => ∃ (x8_2 : Int), v8 = .int .i64 x8_2 ∧ Aside0 (spec_l6rowOK.l0 kq a1 (wrap64 (a0_0 * a0_1)) (rd_L4 l0_3 a1) (rd_L4 l0_4 a1) x8_2 a0_0 a0_1 l0_2 l0_3 l0_4 = some r) ∧ Aside0 (kq ≤ kj5) ∧ Aside0 (w'.heap[gb138]? = some (.cells #[.int .i64 a0_0, .int .i64 a0_1, (.slice A0_2 l0_2.length c0_2), (.slice (some ad139) l0_3.length c0_3), (.slice (some ad140) l0_4.length c0_4)] 47 (0, 0))) ∧ Aside0 (Below w.heap.size w w'))
       case atStart => exact ⟨(0), zr, H', ⟨Nat.le_refl _⟩, ⟨zb BK138.out⟩, ⟨zs GE138.out⟩⟩
       case round =>
        clear H'
        try clear c1
        try clear p1
        try clear q1
        try clear hx1
        try clear p2
        try clear c3
        try clear c3b0
        try clear c4
        try clear c4b0
        try clear c5
        try clear c5b0
        try clear p6
        try clear c9
        try clear c9b0
        try clear c9b1
        try clear c10
        try clear hcz8_0
        try clear hcz8_1
        try clear hcz8_2
        try clear hcz8_3
        try clear hcz8_4
        try clear hfz8_0
        try clear hfz8_1
        try clear hfz8_2
        try clear hfz8_3
        try clear hfz8_4
        try clear hx139_0
        try clear hx140_0
        try clear p1
        try clear p139
        try clear p140
        try clear p2
        try clear p6
        try clear q1
        try clear q139
        try clear q140
        obtain ⟨x8_2, rfl, HA, HK2, BK138, HB⟩ := hrel
        cases gk with
        | zero => exact absurd HA.out (by simp [spec_l6rowOK.l0])
        | succ k2 =>
         have H := HA.out
         clear HA
         simp only [spec_l6rowOK.l0] at H
         by_cases c11 : x8_2 < (wrap64 (a0_0 * a0_1))
         ·rw [if_pos c11] at H
          have c11b0 : decide (x8_2 < (wrap64 (a0_0 * a0_1))) = true := decide_eq_true c11
          clear c11
          by_cases c12 : 0 ≤ a1
          ·rw [if_pos c12] at H
           have c12b0 : decide (0 ≤ a1) = true := decide_eq_true c12
           clear c12
           by_cases c13 : a1 < (l0_2.length : Int)
           ·rw [if_pos c13] at H
            have c13b0 : decide (a1 < (l0_2.length : Int)) = true := decide_eq_true c13
            clear c13
            by_cases c14 : x8_2 = ((rd_T120 l0_2 a1).f2)
            ·rw [if_pos c14] at H
             have c14b0 : (x8_2 == ((rd_T120 l0_2 a1).f2)) = true := beq_iff_eq.mpr c14
             have c14b1 : (x8_2 != ((rd_T120 l0_2 a1).f2)) = false := bne_eq_false_iff_eq.mpr c14
             clear c14
             by_cases c15 : 0 ≤ x8_2
             ·rw [if_pos c15] at H
              have c15b0 : decide (0 ≤ x8_2) = true := decide_eq_true c15
              clear c15
              by_cases c16 : x8_2 < ((rd_L4 l0_3 a1).length : Int)
              ·rw [if_pos c16] at H
               have c16b0 : decide (x8_2 < ((rd_L4 l0_3 a1).length : Int)) = true := decide_eq_true c16
               clear c16
               by_cases c17 : (rd (rd_L4 l0_3 a1) x8_2) = 0
               ·rw [if_pos c17] at H
                have c17b0 : ((rd (rd_L4 l0_3 a1) x8_2) == 0) = true := beq_iff_eq.mpr c17
                have c17b1 : ((rd (rd_L4 l0_3 a1) x8_2) != 0) = false := bne_eq_false_iff_eq.mpr c17
                clear c17
                by_cases c18 : x8_2 < ((rd_L4 l0_4 a1).length : Int)
                ·rw [if_pos c18] at H
                 have c18b0 : decide (x8_2 < ((rd_L4 l0_4 a1).length : Int)) = true := decide_eq_true c18
                 clear c18
                 by_cases c19 : (rd (rd_L4 l0_4 a1) x8_2) = (-1)
                 ·rw [if_pos c19] at H
                  have c19b0 : ((rd (rd_L4 l0_4 a1) x8_2) == (-1)) = true := beq_iff_eq.mpr c19
                  have c19b1 : ((rd (rd_L4 l0_4 a1) x8_2) != (-1)) = false := bne_eq_false_iff_eq.mpr c19
                  clear c19
                  have H' := Aside0.mk H
                  clear H
                  have hcz20_0 : wr.cell? ⟨gb138, 0, none⟩ = some (.int .i64 a0_0) := (blk_cell BK138.out 0).trans rfl
                  have hcz20_1 : wr.cell? ⟨gb138, 1, none⟩ = some (.int .i64 a0_1) := (blk_cell BK138.out 1).trans rfl
                  have hcz20_2 : wr.cell? ⟨gb138, 2, none⟩ = some (.slice A0_2 l0_2.length c0_2) := (blk_cell BK138.out 2).trans rfl
                  have hcz20_3 : wr.cell? ⟨gb138, 3, none⟩ = some (.slice (some ad139) l0_3.length c0_3) := (blk_cell BK138.out 3).trans rfl
                  have hcz20_4 : wr.cell? ⟨gb138, 4, none⟩ = some (.slice (some ad140) l0_4.length c0_4) := (blk_cell BK138.out 4).trans rfl
                  have hfz20_0 := blk_frozen BK138.out 0
                  have hfz20_1 := blk_frozen BK138.out 1
                  have hfz20_2 := blk_frozen BK138.out 2
                  have hfz20_3 := blk_frozen BK138.out 3
                  have hfz20_4 := blk_frozen BK138.out 4
                  have p141 : 0 ≤ (a1 : Int) := zd
                  have q141 : a1 < (l0_2.length : Int) := zd
                  obtain ⟨ad141, A141_0, c141_0, e141, hx141_0, hx141_1, hx141_2, hl141_0, hi141_0⟩ := at_T120 HR0_2.out a1 p141 q141
                  cases e141
                  replace hx141_0 := (HB.out.cell (World.block_lt_of_cell? w _ hx141_0)).trans hx141_0
                  replace hx141_1 := (HB.out.cell (World.block_lt_of_cell? w _ hx141_1)).trans hx141_1
                  replace hx141_2 := (HB.out.cell (World.block_lt_of_cell? w _ hx141_2)).trans hx141_2
                  have HR141_0 := Aside0.mk hi141_0
                  have HC141_0 := Aside0.mk hl141_0
                  clear hi141_0 hl141_0
                  replace p141 := eq_true p141
                  replace q141 := eq_true q141
                  have p142 : 0 ≤ (x8_2 : Int) := zd
                  have q142 : x8_2 < ((rd_L4 l0_3 a1).length : Int) := zd
                  obtain ⟨ad142, e142, hx142_0⟩ := Kd.at_int HR139_0.out x8_2 p142 q142
                  cases e142
                  replace hx142_0 := (HB.out.cell (World.block_lt_of_cell? w _ hx142_0)).trans hx142_0
                  replace p142 := eq_true p142
                  replace q142 := eq_true q142
                  have p143 : 0 ≤ (x8_2 : Int) := zd
                  have q143 : x8_2 < ((rd_L4 l0_4 a1).length : Int) := zd
                  obtain ⟨ad143, e143, hx143_0⟩ := Kd.at_int HR140_0.out x8_2 p143 q143
                  cases e143
                  replace hx143_0 := (HB.out.cell (World.block_lt_of_cell? w _ hx143_0)).trans hx143_0
                  replace p143 := eq_true p143
                  replace q143 := eq_true q143
                  go_wp2
                  repeat (go_quiet (fail); try go_wp2)
                  go_roundg k2
                  case measure => have := HJ5.out; have := HK2.out; omega
                  case rel => exact ⟨(wrap64 (x8_2 + 1)), zr, H', ⟨by have := HJ5.out; have := HK2.out; omega⟩, ⟨zb BK138.out⟩, ⟨zs GE138.out⟩⟩
                 ·rw [if_neg c19] at H
                  have c19b0 : ((rd (rd_L4 l0_4 a1) x8_2) == (-1)) = false := beq_eq_false_iff_ne.mpr c19
                  have c19b1 : ((rd (rd_L4 l0_4 a1) x8_2) != (-1)) = true := bne_iff_ne.mpr c19
                  obtain rfl := Option.some.inj H
                  have hcz21_0 : wr.cell? ⟨gb138, 0, none⟩ = some (.int .i64 a0_0) := (blk_cell BK138.out 0).trans rfl
                  have hcz21_1 : wr.cell? ⟨gb138, 1, none⟩ = some (.int .i64 a0_1) := (blk_cell BK138.out 1).trans rfl
                  have hcz21_2 : wr.cell? ⟨gb138, 2, none⟩ = some (.slice A0_2 l0_2.length c0_2) := (blk_cell BK138.out 2).trans rfl
                  have hcz21_3 : wr.cell? ⟨gb138, 3, none⟩ = some (.slice (some ad139) l0_3.length c0_3) := (blk_cell BK138.out 3).trans rfl
                  have hcz21_4 : wr.cell? ⟨gb138, 4, none⟩ = some (.slice (some ad140) l0_4.length c0_4) := (blk_cell BK138.out 4).trans rfl
                  have hfz21_0 := blk_frozen BK138.out 0
                  have hfz21_1 := blk_frozen BK138.out 1
                  have hfz21_2 := blk_frozen BK138.out 2
                  have hfz21_3 := blk_frozen BK138.out 3
                  have hfz21_4 := blk_frozen BK138.out 4
                  have p141 : 0 ≤ (a1 : Int) := zd
                  have q141 : a1 < (l0_2.length : Int) := zd
                  obtain ⟨ad141, A141_0, c141_0, e141, hx141_0, hx141_1, hx141_2, hl141_0, hi141_0⟩ := at_T120 HR0_2.out a1 p141 q141
                  cases e141
                  replace hx141_0 := (HB.out.cell (World.block_lt_of_cell? w _ hx141_0)).trans hx141_0
                  replace hx141_1 := (HB.out.cell (World.block_lt_of_cell? w _ hx141_1)).trans hx141_1
                  replace hx141_2 := (HB.out.cell (World.block_lt_of_cell? w _ hx141_2)).trans hx141_2
                  have HR141_0 := Aside0.mk hi141_0
                  have HC141_0 := Aside0.mk hl141_0
                  clear hi141_0 hl141_0
                  replace p141 := eq_true p141
                  replace q141 := eq_true q141
                  have p142 : 0 ≤ (x8_2 : Int) := zd
                  have q142 : x8_2 < ((rd_L4 l0_3 a1).length : Int) := zd
                  obtain ⟨ad142, e142, hx142_0⟩ := Kd.at_int HR139_0.out x8_2 p142 q142
                  cases e142
                  replace hx142_0 := (HB.out.cell (World.block_lt_of_cell? w _ hx142_0)).trans hx142_0
                  replace p142 := eq_true p142
                  replace q142 := eq_true q142
                  have p143 : 0 ≤ (x8_2 : Int) := zd
                  have q143 : x8_2 < ((rd_L4 l0_4 a1).length : Int) := zd
                  obtain ⟨ad143, e143, hx143_0⟩ := Kd.at_int HR140_0.out x8_2 p143 q143
                  cases e143
                  replace hx143_0 := (HB.out.cell (World.block_lt_of_cell? w _ hx143_0)).trans hx143_0
                  replace p143 := eq_true p143
                  replace q143 := eq_true q143
                  go_wp2
                  repeat (go_quiet (fail); try go_wp2)
                  go_ret
                  exact ⟨ze, (zs GE138.out)⟩
                ·rw [if_neg c18] at H
                 exact absurd H (by simp)
               ·rw [if_neg c17] at H
                have c17b0 : ((rd (rd_L4 l0_3 a1) x8_2) == 0) = false := beq_eq_false_iff_ne.mpr c17
                have c17b1 : ((rd (rd_L4 l0_3 a1) x8_2) != 0) = true := bne_iff_ne.mpr c17
                obtain rfl := Option.some.inj H
                have hcz22_0 : wr.cell? ⟨gb138, 0, none⟩ = some (.int .i64 a0_0) := (blk_cell BK138.out 0).trans rfl
                have hcz22_1 : wr.cell? ⟨gb138, 1, none⟩ = some (.int .i64 a0_1) := (blk_cell BK138.out 1).trans rfl
                have hcz22_2 : wr.cell? ⟨gb138, 2, none⟩ = some (.slice A0_2 l0_2.length c0_2) := (blk_cell BK138.out 2).trans rfl
                have hcz22_3 : wr.cell? ⟨gb138, 3, none⟩ = some (.slice (some ad139) l0_3.length c0_3) := (blk_cell BK138.out 3).trans rfl
                have hcz22_4 : wr.cell? ⟨gb138, 4, none⟩ = some (.slice (some ad140) l0_4.length c0_4) := (blk_cell BK138.out 4).trans rfl
                have hfz22_0 := blk_frozen BK138.out 0
                have hfz22_1 := blk_frozen BK138.out 1
                have hfz22_2 := blk_frozen BK138.out 2
                have hfz22_3 := blk_frozen BK138.out 3
                have hfz22_4 := blk_frozen BK138.out 4
                have p141 : 0 ≤ (a1 : Int) := zd
                have q141 : a1 < (l0_2.length : Int) := zd
                obtain ⟨ad141, A141_0, c141_0, e141, hx141_0, hx141_1, hx141_2, hl141_0, hi141_0⟩ := at_T120 HR0_2.out a1 p141 q141
                cases e141
                replace hx141_0 := (HB.out.cell (World.block_lt_of_cell? w _ hx141_0)).trans hx141_0
                replace hx141_1 := (HB.out.cell (World.block_lt_of_cell? w _ hx141_1)).trans hx141_1
                replace hx141_2 := (HB.out.cell (World.block_lt_of_cell? w _ hx141_2)).trans hx141_2
                have HR141_0 := Aside0.mk hi141_0
                have HC141_0 := Aside0.mk hl141_0
                clear hi141_0 hl141_0
                replace p141 := eq_true p141
                replace q141 := eq_true q141
                have p142 : 0 ≤ (x8_2 : Int) := zd
                have q142 : x8_2 < ((rd_L4 l0_3 a1).length : Int) := zd
                obtain ⟨ad142, e142, hx142_0⟩ := Kd.at_int HR139_0.out x8_2 p142 q142
                cases e142
                replace hx142_0 := (HB.out.cell (World.block_lt_of_cell? w _ hx142_0)).trans hx142_0
                replace p142 := eq_true p142
                replace q142 := eq_true q142
                go_wp2
                repeat (go_quiet (fail); try go_wp2)
                go_ret
                exact ⟨ze, (zs GE138.out)⟩
              ·rw [if_neg c16] at H
               exact absurd H (by simp)
             ·rw [if_neg c15] at H
              exact absurd H (by simp)
            ·rw [if_neg c14] at H
             have c14b0 : (x8_2 == ((rd_T120 l0_2 a1).f2)) = false := beq_eq_false_iff_ne.mpr c14
             have c14b1 : (x8_2 != ((rd_T120 l0_2 a1).f2)) = true := bne_iff_ne.mpr c14
             have HC23 := Aside0.mk H
             clear H
             have hcz24_0 : wr.cell? ⟨gb138, 0, none⟩ = some (.int .i64 a0_0) := (blk_cell BK138.out 0).trans rfl
             have hcz24_1 : wr.cell? ⟨gb138, 1, none⟩ = some (.int .i64 a0_1) := (blk_cell BK138.out 1).trans rfl
             have hcz24_2 : wr.cell? ⟨gb138, 2, none⟩ = some (.slice A0_2 l0_2.length c0_2) := (blk_cell BK138.out 2).trans rfl
             have hcz24_3 : wr.cell? ⟨gb138, 3, none⟩ = some (.slice (some ad139) l0_3.length c0_3) := (blk_cell BK138.out 3).trans rfl
             have hcz24_4 : wr.cell? ⟨gb138, 4, none⟩ = some (.slice (some ad140) l0_4.length c0_4) := (blk_cell BK138.out 4).trans rfl
             have hfz24_0 := blk_frozen BK138.out 0
             have hfz24_1 := blk_frozen BK138.out 1
             have hfz24_2 := blk_frozen BK138.out 2
             have hfz24_3 := blk_frozen BK138.out 3
             have hfz24_4 := blk_frozen BK138.out 4
             have p141 : 0 ≤ (a1 : Int) := zd
             have q141 : a1 < (l0_2.length : Int) := zd
             obtain ⟨ad141, A141_0, c141_0, e141, hx141_0, hx141_1, hx141_2, hl141_0, hi141_0⟩ := at_T120 HR0_2.out a1 p141 q141
             cases e141
             replace hx141_0 := (HB.out.cell (World.block_lt_of_cell? w _ hx141_0)).trans hx141_0
             replace hx141_1 := (HB.out.cell (World.block_lt_of_cell? w _ hx141_1)).trans hx141_1
             replace hx141_2 := (HB.out.cell (World.block_lt_of_cell? w _ hx141_2)).trans hx141_2
             have HR141_0 := Aside0.mk hi141_0
             have HC141_0 := Aside0.mk hl141_0
             clear hi141_0 hl141_0
             replace p141 := eq_true p141
             replace q141 := eq_true q141
             go_upto_region 12 with (fail)
             repeat (go_quiet (fail); go_upto_region 12 with (fail))
             go_cut [71] (fun v71 wc => ∃ (kq : Nat) (x71_22 : Bool), v71 = .bool x71_22 ∧ Aside0 (spec_l6rowOK.j2 kq a1 (wrap64 (a0_0 * a0_1)) (rd_L4 l0_3 a1) (rd_L4 l0_4 a1) x8_2 x71_22 a0_0 a0_1 l0_2 l0_3 l0_4 = some r) ∧ Aside0 (kq ≤ k2) ∧ Aside0 (wc.heap[gb138]? = some (.cells #[.int .i64 a0_0, .int .i64 a0_1, (.slice (some ad141) l0_2.length c0_2), (.slice (some ad139) l0_3.length c0_3), (.slice (some ad140) l0_4.length c0_4)] 47 (0, 0))) ∧ Aside0 (Below w.heap.size w wc))
             case first =>
              have H := HC23.out
              clear HC23
              by_cases c25 : 0 ≤ x8_2
              ·rw [if_pos c25] at H
               have c25b0 : decide (0 ≤ x8_2) = true := decide_eq_true c25
               clear c25
               (first | rw [c25b0] | (simp only [i64_w, i32_w]; rw [c25b0]) | skip)
               by_cases c26 : x8_2 < ((rd_L4 l0_3 a1).length : Int)
               ·rw [if_pos c26] at H
                have c26b0 : decide (x8_2 < ((rd_L4 l0_3 a1).length : Int)) = true := decide_eq_true c26
                clear c26
                by_cases c27 : (rd (rd_L4 l0_3 a1) x8_2) = (-1)
                ·rw [if_pos c27] at H
                 have c27b0 : ((rd (rd_L4 l0_3 a1) x8_2) == (-1)) = true := beq_iff_eq.mpr c27
                 have c27b1 : ((rd (rd_L4 l0_3 a1) x8_2) != (-1)) = false := bne_eq_false_iff_eq.mpr c27
                 clear c27
                 by_cases c28 : x8_2 < ((rd_L4 l0_4 a1).length : Int)
                 ·rw [if_pos c28] at H
                  have c28b0 : decide (x8_2 < ((rd_L4 l0_4 a1).length : Int)) = true := decide_eq_true c28
                  clear c28
                  have H' := Aside0.mk H
                  clear H
                  have p144 : 0 ≤ (x8_2 : Int) := zd
                  have q144 : x8_2 < ((rd_L4 l0_3 a1).length : Int) := zd
                  obtain ⟨ad144, e144, hx144_0⟩ := Kd.at_int HR139_0.out x8_2 p144 q144
                  cases e144
                  replace hx144_0 := (HB.out.cell (World.block_lt_of_cell? w _ hx144_0)).trans hx144_0
                  replace p144 := eq_true p144
                  replace q144 := eq_true q144
                  have p145 : 0 ≤ (x8_2 : Int) := zd
                  have q145 : x8_2 < ((rd_L4 l0_4 a1).length : Int) := zd
                  obtain ⟨ad145, e145, hx145_0⟩ := Kd.at_int HR140_0.out x8_2 p145 q145
                  cases e145
                  replace hx145_0 := (HB.out.cell (World.block_lt_of_cell? w _ hx145_0)).trans hx145_0
                  replace p145 := eq_true p145
                  replace q145 := eq_true q145
                  go_wp2
                  repeat (go_quiet (fail); try go_wp2)
                  go_meet
                  case rel => exact ⟨_, (((rd (rd_L4 l0_4 a1) x8_2) == (-1))), zr, H', ⟨by have := HJ5.out; have := HK2.out; first | omega | exact Nat.le_refl _⟩, ⟨zb BK138.out⟩, ⟨zs GE138.out⟩⟩
                 ·rw [if_neg c28] at H
                  exact absurd H (by simp)
                ·rw [if_neg c27] at H
                 have c27b0 : ((rd (rd_L4 l0_3 a1) x8_2) == (-1)) = false := beq_eq_false_iff_ne.mpr c27
                 have c27b1 : ((rd (rd_L4 l0_3 a1) x8_2) != (-1)) = true := bne_iff_ne.mpr c27
                 have H' := Aside0.mk H
                 clear H
                 have p144 : 0 ≤ (x8_2 : Int) := zd
                 have q144 : x8_2 < ((rd_L4 l0_3 a1).length : Int) := zd
                 obtain ⟨ad144, e144, hx144_0⟩ := Kd.at_int HR139_0.out x8_2 p144 q144
                 cases e144
                 replace hx144_0 := (HB.out.cell (World.block_lt_of_cell? w _ hx144_0)).trans hx144_0
                 replace p144 := eq_true p144
                 replace q144 := eq_true q144
                 go_wp2
                 repeat (go_quiet (fail); try go_wp2)
                 go_meet
                 case rel => exact ⟨_, (false), zr, H', ⟨by have := HJ5.out; have := HK2.out; first | omega | exact Nat.le_refl _⟩, ⟨zb BK138.out⟩, ⟨zs GE138.out⟩⟩
               ·rw [if_neg c26] at H
                exact absurd H (by simp)
              ·rw [if_neg c25] at H
               exact absurd H (by simp)
             case rest =>
              clear HC23
              try clear c1
              try clear p1
              try clear q1
              try clear hx1
              try clear c2
              try clear p2
              try clear c3
              try clear c3b0
              try clear c4
              try clear c4b0
              try clear c5
              try clear c5b0
              try clear p6
              try clear c9
              try clear c9b0
              try clear c9b1
              try clear c10
              try clear c11
              try clear c11b0
              try clear c12
              try clear c12b0
              try clear c13
              try clear c13b0
              try clear p13
              try clear q13
              try clear hx13
              try clear c14
              try clear c14b0
              try clear c14b1
              try clear p14
              try clear q14
              try clear hx14
              try clear c15
              try clear c15b0
              try clear c16
              try clear c16b0
              try clear c17
              try clear c17b0
              try clear c17b1
              try clear c18
              try clear c18b0
              try clear c19
              try clear c19b0
              try clear c19b1
              try clear c25
              try clear c25b0
              try clear c26
              try clear c26b0
              try clear c27
              try clear c27b0
              try clear c27b1
              try clear c28
              try clear c28b0
              try clear hcz20_0
              try clear hcz20_1
              try clear hcz20_2
              try clear hcz20_3
              try clear hcz20_4
              try clear hcz21_0
              try clear hcz21_1
              try clear hcz21_2
              try clear hcz21_3
              try clear hcz21_4
              try clear hcz22_0
              try clear hcz22_1
              try clear hcz22_2
              try clear hcz22_3
              try clear hcz22_4
              try clear hcz24_0
              try clear hcz24_1
              try clear hcz24_2
              try clear hcz24_3
              try clear hcz24_4
              try clear hcz8_0
              try clear hcz8_1
              try clear hcz8_2
              try clear hcz8_3
              try clear hcz8_4
              try clear hfz20_0
              try clear hfz20_1
              try clear hfz20_2
              try clear hfz20_3
              try clear hfz20_4
              try clear hfz21_0
              try clear hfz21_1
              try clear hfz21_2
              try clear hfz21_3
              try clear hfz21_4
              try clear hfz22_0
              try clear hfz22_1
              try clear hfz22_2
              try clear hfz22_3
              try clear hfz22_4
              try clear hfz24_0
              try clear hfz24_1
              try clear hfz24_2
              try clear hfz24_3
              try clear hfz24_4
              try clear hfz8_0
              try clear hfz8_1
              try clear hfz8_2
              try clear hfz8_3
              try clear hfz8_4
              try clear hx139_0
              try clear hx140_0
              try clear hx141_0
              try clear hx141_1
              try clear hx141_2
              try clear hx142_0
              try clear hx143_0
              try clear hx144_0
              try clear hx145_0
              try clear p1
              try clear p139
              try clear p140
              try clear p141
              try clear p142
              try clear p143
              try clear p144
              try clear p145
              try clear p2
              try clear p6
              try clear q1
              try clear q139
              try clear q140
              try clear q141
              try clear q142
              try clear q143
              try clear q144
              try clear q145
              obtain ⟨kq, x71_22, rfl, HA, HJ22, BK138, HB⟩ := hcut
              cases kq with
              | zero => exact absurd HA.out (by simp [spec_l6rowOK.j2])
              | succ kj22 =>
               have H := HA.out
               clear HA
               simp only [spec_l6rowOK.j2] at H
               by_cases c29 : x71_22 = true
               ·subst c29
                have H1 : (spec_l6rowOK.l0 kj22 a1 (wrap64 (a0_0 * a0_1)) (rd_L4 l0_3 a1) (rd_L4 l0_4 a1) (wrap64 (x8_2 + 1)) a0_0 a0_1 l0_2 l0_3 l0_4) = some r := by rw [if_pos rfl] at H; exact H
                clear H
                have H := H1
                clear H1
                have H' := Aside0.mk H
                clear H
                go_wp2
                repeat (go_quiet (fail); try go_wp2)
                go_roundg kj22
                case measure => have := HJ5.out; have := HK2.out; have := HJ22.out; omega
                case rel => exact ⟨(wrap64 (x8_2 + 1)), zr, H', ⟨by have := HJ5.out; have := HK2.out; have := HJ22.out; omega⟩, ⟨zb BK138.out⟩, ⟨zs GE138.out⟩⟩
               ·replace c29 := Bool.eq_false_iff.mpr c29
                subst c29
                have H1 : (if 0 ≤ x8_2 then (if x8_2 < ((rd_L4 l0_3 a1).length : Int) then (if (rd (rd_L4 l0_3 a1) x8_2) < 1 then (spec_l6rowOK.j3 kj22 a1 (wrap64 (a0_0 * a0_1)) (rd_L4 l0_3 a1) (rd_L4 l0_4 a1) x8_2 true a0_0 a0_1 l0_2 l0_3 l0_4) else (if (rd (rd_L4 l0_3 a1) x8_2) > 65534 then (spec_l6rowOK.j3 kj22 a1 (wrap64 (a0_0 * a0_1)) (rd_L4 l0_3 a1) (rd_L4 l0_4 a1) x8_2 true a0_0 a0_1 l0_2 l0_3 l0_4) else (if x8_2 < ((rd_L4 l0_4 a1).length : Int) then (if (rd (rd_L4 l0_4 a1) x8_2) < 0 then (spec_l6rowOK.j3 kj22 a1 (wrap64 (a0_0 * a0_1)) (rd_L4 l0_3 a1) (rd_L4 l0_4 a1) x8_2 true a0_0 a0_1 l0_2 l0_3 l0_4) else (spec_l6rowOK.j3 kj22 a1 (wrap64 (a0_0 * a0_1)) (rd_L4 l0_3 a1) (rd_L4 l0_4 a1) x8_2 (decide ((rd (rd_L4 l0_4 a1) x8_2) > 3)) a0_0 a0_1 l0_2 l0_3 l0_4)) else (none)))) else (none)) else (none)) = some r := by rw [if_neg (show ¬ (false = true) by decide)] at H; exact H
                clear H
                have H := H1
                clear H1
                have HC30 := Aside0.mk H
                clear H
                go_upto_region 13 with (fail)
                repeat (go_quiet (fail); go_upto_region 13 with (fail))
                go_cut [97] (fun v97 wc => ∃ (kq : Nat) (x97_29 : Bool), v97 = .bool x97_29 ∧ Aside0 (spec_l6rowOK.j3 kq a1 (wrap64 (a0_0 * a0_1)) (rd_L4 l0_3 a1) (rd_L4 l0_4 a1) x8_2 x97_29 a0_0 a0_1 l0_2 l0_3 l0_4 = some r) ∧ Aside0 (kq ≤ kj22) ∧ Aside0 (wc.heap[gb138]? = some (.cells #[.int .i64 a0_0, .int .i64 a0_1, (.slice (some ad141) l0_2.length c0_2), (.slice (some ad139) l0_3.length c0_3), (.slice (some ad140) l0_4.length c0_4)] 47 (0, 0))) ∧ Aside0 (Below w.heap.size w wc))
                case first =>
                 have H := HC30.out
                 clear HC30
                 by_cases c31 : 0 ≤ x8_2
                 ·rw [if_pos c31] at H
                  have c31b0 : decide (0 ≤ x8_2) = true := decide_eq_true c31
                  clear c31
                  (first | rw [c31b0] | (simp only [i64_w, i32_w]; rw [c31b0]) | skip)
                  by_cases c32 : x8_2 < ((rd_L4 l0_3 a1).length : Int)
                  ·rw [if_pos c32] at H
                   have c32b0 : decide (x8_2 < ((rd_L4 l0_3 a1).length : Int)) = true := decide_eq_true c32
                   clear c32
                   by_cases c33 : (rd (rd_L4 l0_3 a1) x8_2) < 1
                   ·rw [if_pos c33] at H
                    have c33b0 : decide ((rd (rd_L4 l0_3 a1) x8_2) < 1) = true := decide_eq_true c33
                    clear c33
                    have H' := Aside0.mk H
                    clear H
                    have p146 : 0 ≤ (x8_2 : Int) := zd
                    have q146 : x8_2 < ((rd_L4 l0_3 a1).length : Int) := zd
                    obtain ⟨ad146, e146, hx146_0⟩ := Kd.at_int HR139_0.out x8_2 p146 q146
                    cases e146
                    replace hx146_0 := (HB.out.cell (World.block_lt_of_cell? w _ hx146_0)).trans hx146_0
                    replace p146 := eq_true p146
                    replace q146 := eq_true q146
                    go_wp2
                    repeat (go_quiet (fail); try go_wp2)
                    go_meet
                    case rel => exact ⟨_, (true), zr, H', ⟨by have := HJ5.out; have := HK2.out; have := HJ22.out; first | omega | exact Nat.le_refl _⟩, ⟨zb BK138.out⟩, ⟨zs GE138.out⟩⟩
                   ·rw [if_neg c33] at H
                    have c33b0 : decide ((rd (rd_L4 l0_3 a1) x8_2) < 1) = false := decide_eq_false c33
                    clear c33
                    by_cases c34 : (rd (rd_L4 l0_3 a1) x8_2) > 65534
                    ·rw [if_pos c34] at H
                     have c34b0 : decide (65534 < (rd (rd_L4 l0_3 a1) x8_2)) = true := decide_eq_true c34
                     clear c34
                     have H' := Aside0.mk H
                     clear H
                     have p146 : 0 ≤ (x8_2 : Int) := zd
                     have q146 : x8_2 < ((rd_L4 l0_3 a1).length : Int) := zd
                     obtain ⟨ad146, e146, hx146_0⟩ := Kd.at_int HR139_0.out x8_2 p146 q146
                     cases e146
                     replace hx146_0 := (HB.out.cell (World.block_lt_of_cell? w _ hx146_0)).trans hx146_0
                     replace p146 := eq_true p146
                     replace q146 := eq_true q146
                     have p147 : 0 ≤ (x8_2 : Int) := zd
                     have q147 : x8_2 < ((rd_L4 l0_3 a1).length : Int) := zd
                     obtain ⟨ad147, e147, hx147_0⟩ := Kd.at_int HR139_0.out x8_2 p147 q147
                     obtain rfl : ad146 = ad147 := (by injection e147)
                     replace hx147_0 := (HB.out.cell (World.block_lt_of_cell? w _ hx147_0)).trans hx147_0
                     replace p147 := eq_true p147
                     replace q147 := eq_true q147
                     go_wp2
                     repeat (go_quiet (fail); try go_wp2)
                     go_meet
                     case rel => exact ⟨_, (true), zr, H', ⟨by have := HJ5.out; have := HK2.out; have := HJ22.out; first | omega | exact Nat.le_refl _⟩, ⟨zb BK138.out⟩, ⟨zs GE138.out⟩⟩
                    ·rw [if_neg c34] at H
                     have c34b0 : decide (65534 < (rd (rd_L4 l0_3 a1) x8_2)) = false := decide_eq_false c34
                     clear c34
                     by_cases c35 : x8_2 < ((rd_L4 l0_4 a1).length : Int)
                     ·rw [if_pos c35] at H
                      have c35b0 : decide (x8_2 < ((rd_L4 l0_4 a1).length : Int)) = true := decide_eq_true c35
                      clear c35
                      by_cases c36 : (rd (rd_L4 l0_4 a1) x8_2) < 0
                      ·rw [if_pos c36] at H
                       have c36b0 : decide ((rd (rd_L4 l0_4 a1) x8_2) < 0) = true := decide_eq_true c36
                       clear c36
                       have H' := Aside0.mk H
                       clear H
                       have p146 : 0 ≤ (x8_2 : Int) := zd
                       have q146 : x8_2 < ((rd_L4 l0_3 a1).length : Int) := zd
                       obtain ⟨ad146, e146, hx146_0⟩ := Kd.at_int HR139_0.out x8_2 p146 q146
                       cases e146
                       replace hx146_0 := (HB.out.cell (World.block_lt_of_cell? w _ hx146_0)).trans hx146_0
                       replace p146 := eq_true p146
                       replace q146 := eq_true q146
                       have p147 : 0 ≤ (x8_2 : Int) := zd
                       have q147 : x8_2 < ((rd_L4 l0_3 a1).length : Int) := zd
                       obtain ⟨ad147, e147, hx147_0⟩ := Kd.at_int HR139_0.out x8_2 p147 q147
                       obtain rfl : ad146 = ad147 := (by injection e147)
                       replace hx147_0 := (HB.out.cell (World.block_lt_of_cell? w _ hx147_0)).trans hx147_0
                       replace p147 := eq_true p147
                       replace q147 := eq_true q147
                       have p148 : 0 ≤ (x8_2 : Int) := zd
                       have q148 : x8_2 < ((rd_L4 l0_4 a1).length : Int) := zd
                       obtain ⟨ad148, e148, hx148_0⟩ := Kd.at_int HR140_0.out x8_2 p148 q148
                       cases e148
                       replace hx148_0 := (HB.out.cell (World.block_lt_of_cell? w _ hx148_0)).trans hx148_0
                       replace p148 := eq_true p148
                       replace q148 := eq_true q148
                       go_wp2
                       repeat (go_quiet (fail); try go_wp2)
                       go_meet
                       case rel => exact ⟨_, (true), zr, H', ⟨by have := HJ5.out; have := HK2.out; have := HJ22.out; first | omega | exact Nat.le_refl _⟩, ⟨zb BK138.out⟩, ⟨zs GE138.out⟩⟩
                      ·rw [if_neg c36] at H
                       have c36b0 : decide ((rd (rd_L4 l0_4 a1) x8_2) < 0) = false := decide_eq_false c36
                       clear c36
                       have H' := Aside0.mk H
                       clear H
                       have p146 : 0 ≤ (x8_2 : Int) := zd
                       have q146 : x8_2 < ((rd_L4 l0_3 a1).length : Int) := zd
                       obtain ⟨ad146, e146, hx146_0⟩ := Kd.at_int HR139_0.out x8_2 p146 q146
                       cases e146
                       replace hx146_0 := (HB.out.cell (World.block_lt_of_cell? w _ hx146_0)).trans hx146_0
                       replace p146 := eq_true p146
                       replace q146 := eq_true q146
                       have p147 : 0 ≤ (x8_2 : Int) := zd
                       have q147 : x8_2 < ((rd_L4 l0_3 a1).length : Int) := zd
                       obtain ⟨ad147, e147, hx147_0⟩ := Kd.at_int HR139_0.out x8_2 p147 q147
                       obtain rfl : ad146 = ad147 := (by injection e147)
                       replace hx147_0 := (HB.out.cell (World.block_lt_of_cell? w _ hx147_0)).trans hx147_0
                       replace p147 := eq_true p147
                       replace q147 := eq_true q147
                       have p148 : 0 ≤ (x8_2 : Int) := zd
                       have q148 : x8_2 < ((rd_L4 l0_4 a1).length : Int) := zd
                       obtain ⟨ad148, e148, hx148_0⟩ := Kd.at_int HR140_0.out x8_2 p148 q148
                       cases e148
                       replace hx148_0 := (HB.out.cell (World.block_lt_of_cell? w _ hx148_0)).trans hx148_0
                       replace p148 := eq_true p148
                       replace q148 := eq_true q148
                       have p149 : 0 ≤ (x8_2 : Int) := zd
                       have q149 : x8_2 < ((rd_L4 l0_4 a1).length : Int) := zd
                       obtain ⟨ad149, e149, hx149_0⟩ := Kd.at_int HR140_0.out x8_2 p149 q149
                       obtain rfl : ad148 = ad149 := (by injection e149)
                       replace hx149_0 := (HB.out.cell (World.block_lt_of_cell? w _ hx149_0)).trans hx149_0
                       replace p149 := eq_true p149
                       replace q149 := eq_true q149
                       go_wp2
                       repeat (go_quiet (fail); try go_wp2)
                       go_meet
                       case rel => exact ⟨_, (decide ((rd (rd_L4 l0_4 a1) x8_2) > 3)), zr, H', ⟨by have := HJ5.out; have := HK2.out; have := HJ22.out; first | omega | exact Nat.le_refl _⟩, ⟨zb BK138.out⟩, ⟨zs GE138.out⟩⟩
                     ·rw [if_neg c35] at H
                      exact absurd H (by simp)
                  ·rw [if_neg c32] at H
                   exact absurd H (by simp)
                 ·rw [if_neg c31] at H
                  exact absurd H (by simp)
                case rest =>
                 clear HC30
                 try clear c1
                 try clear p1
                 try clear q1
                 try clear hx1
                 try clear c2
                 try clear p2
                 try clear c3
                 try clear c3b0
                 try clear c4
                 try clear c4b0
                 try clear c5
                 try clear c5b0
                 try clear p6
                 try clear c9
                 try clear c9b0
                 try clear c9b1
                 try clear c10
                 try clear c11
                 try clear c11b0
                 try clear c12
                 try clear c12b0
                 try clear c13
                 try clear c13b0
                 try clear p13
                 try clear q13
                 try clear hx13
                 try clear c14
                 try clear c14b0
                 try clear c14b1
                 try clear p14
                 try clear q14
                 try clear hx14
                 try clear c15
                 try clear c15b0
                 try clear c16
                 try clear c16b0
                 try clear c17
                 try clear c17b0
                 try clear c17b1
                 try clear c18
                 try clear c18b0
                 try clear c19
                 try clear c19b0
                 try clear c19b1
                 try clear c25
                 try clear c25b0
                 try clear c26
                 try clear c26b0
                 try clear c27
                 try clear c27b0
                 try clear c27b1
                 try clear c28
                 try clear c28b0
                 try clear c29
                 try clear c31
                 try clear c31b0
                 try clear c32
                 try clear c32b0
                 try clear c33
                 try clear c33b0
                 try clear c34
                 try clear c34b0
                 try clear c35
                 try clear c35b0
                 try clear c36
                 try clear c36b0
                 try clear hcz20_0
                 try clear hcz20_1
                 try clear hcz20_2
                 try clear hcz20_3
                 try clear hcz20_4
                 try clear hcz21_0
                 try clear hcz21_1
                 try clear hcz21_2
                 try clear hcz21_3
                 try clear hcz21_4
                 try clear hcz22_0
                 try clear hcz22_1
                 try clear hcz22_2
                 try clear hcz22_3
                 try clear hcz22_4
                 try clear hcz24_0
                 try clear hcz24_1
                 try clear hcz24_2
                 try clear hcz24_3
                 try clear hcz24_4
                 try clear hcz8_0
                 try clear hcz8_1
                 try clear hcz8_2
                 try clear hcz8_3
                 try clear hcz8_4
                 try clear hfz20_0
                 try clear hfz20_1
                 try clear hfz20_2
                 try clear hfz20_3
                 try clear hfz20_4
                 try clear hfz21_0
                 try clear hfz21_1
                 try clear hfz21_2
                 try clear hfz21_3
                 try clear hfz21_4
                 try clear hfz22_0
                 try clear hfz22_1
                 try clear hfz22_2
                 try clear hfz22_3
                 try clear hfz22_4
                 try clear hfz24_0
                 try clear hfz24_1
                 try clear hfz24_2
                 try clear hfz24_3
                 try clear hfz24_4
                 try clear hfz8_0
                 try clear hfz8_1
                 try clear hfz8_2
                 try clear hfz8_3
                 try clear hfz8_4
                 try clear hx139_0
                 try clear hx140_0
                 try clear hx141_0
                 try clear hx141_1
                 try clear hx141_2
                 try clear hx142_0
                 try clear hx143_0
                 try clear hx144_0
                 try clear hx145_0
                 try clear hx146_0
                 try clear hx147_0
                 try clear hx148_0
                 try clear hx149_0
                 try clear p1
                 try clear p13
                 try clear p139
                 try clear p14
                 try clear p140
                 try clear p141
                 try clear p142
                 try clear p143
                 try clear p144
                 try clear p145
                 try clear p146
                 try clear p147
                 try clear p148
                 try clear p149
                 try clear p2
                 try clear p6
                 try clear q1
                 try clear q13
                 try clear q139
                 try clear q14
                 try clear q140
                 try clear q141
                 try clear q142
                 try clear q143
                 try clear q144
                 try clear q145
                 try clear q146
                 try clear q147
                 try clear q148
                 try clear q149
                 obtain ⟨kq, x97_29, rfl, HA, HJ29, BK138, HB⟩ := hcut
                 cases kq with
                 | zero => exact absurd HA.out (by simp [spec_l6rowOK.j3])
                 | succ kj29 =>
                  have H := HA.out
                  clear HA
                  simp only [spec_l6rowOK.j3] at H
                  by_cases c37 : x97_29 = true
                  ·subst c37
                   have H1 : (some false) = some r := by rw [if_pos rfl] at H; exact H
                   clear H
                   have H := H1
                   clear H1
                   obtain rfl := Option.some.inj H
                   go_wp2
                   repeat (go_quiet (fail); try go_wp2)
                   go_ret
                   exact ⟨ze, (zs GE138.out)⟩
                  ·replace c37 := Bool.eq_false_iff.mpr c37
                   subst c37
                   have H1 : (if 0 ≤ x8_2 then (if x8_2 < ((rd_L4 l0_4 a1).length : Int) then ((spec_l4to.f a0_0 a0_1 x8_2 (rd (rd_L4 l0_4 a1) x8_2)).bind fun t151 => (if t151 < 0 then (some false) else (if 0 ≤ t151 then (if t151 < ((rd_L4 l0_3 a1).length : Int) then (if (rd (rd_L4 l0_3 a1) t151) < 0 then (some false) else (if x8_2 < ((rd_L4 l0_3 a1).length : Int) then (if (rd (rd_L4 l0_3 a1) t151) ≥ (rd (rd_L4 l0_3 a1) x8_2) then (some false) else (spec_l6rowOK.l0 kj29 a1 (wrap64 (a0_0 * a0_1)) (rd_L4 l0_3 a1) (rd_L4 l0_4 a1) (wrap64 (x8_2 + 1)) a0_0 a0_1 l0_2 l0_3 l0_4)) else (none))) else (none)) else (none)))) else (none)) else (none)) = some r := by rw [if_neg (show ¬ (false = true) by decide)] at H; exact H
                   clear H
                   have H := H1
                   clear H1
                   by_cases c38 : 0 ≤ x8_2
                   ·rw [if_pos c38] at H
                    have c38b0 : decide (0 ≤ x8_2) = true := decide_eq_true c38
                    clear c38
                    by_cases c39 : x8_2 < ((rd_L4 l0_4 a1).length : Int)
                    ·rw [if_pos c39] at H
                     have c39b0 : decide (x8_2 < ((rd_L4 l0_4 a1).length : Int)) = true := decide_eq_true c39
                     clear c39
                     replace H := Option.bind_eq_some_iff.mp H
                     obtain ⟨t151, A400, H⟩ := H
                     replace H : (if t151 < 0 then (some false) else (if 0 ≤ t151 then (if t151 < ((rd_L4 l0_3 a1).length : Int) then (if (rd (rd_L4 l0_3 a1) t151) < 0 then (some false) else (if x8_2 < ((rd_L4 l0_3 a1).length : Int) then (if (rd (rd_L4 l0_3 a1) t151) ≥ (rd (rd_L4 l0_3 a1) x8_2) then (some false) else (spec_l6rowOK.l0 kj29 a1 (wrap64 (a0_0 * a0_1)) (rd_L4 l0_3 a1) (rd_L4 l0_4 a1) (wrap64 (x8_2 + 1)) a0_0 a0_1 l0_2 l0_3 l0_4)) else (none))) else (none)) else (none))) = some r := H
                     have A40 := Aside0.mk A400
                     clear A400
                     by_cases c41 : t151 < 0
                     ·rw [if_pos c41] at H
                      have c41b0 : decide (t151 < 0) = true := decide_eq_true c41
                      clear c41
                      obtain rfl := Option.some.inj H
                      have hcz42_0 : wc.cell? ⟨gb138, 0, none⟩ = some (.int .i64 a0_0) := (blk_cell BK138.out 0).trans rfl
                      have hcz42_1 : wc.cell? ⟨gb138, 1, none⟩ = some (.int .i64 a0_1) := (blk_cell BK138.out 1).trans rfl
                      have hcz42_2 : wc.cell? ⟨gb138, 2, none⟩ = some (.slice (some ad141) l0_2.length c0_2) := (blk_cell BK138.out 2).trans rfl
                      have hcz42_3 : wc.cell? ⟨gb138, 3, none⟩ = some (.slice (some ad139) l0_3.length c0_3) := (blk_cell BK138.out 3).trans rfl
                      have hcz42_4 : wc.cell? ⟨gb138, 4, none⟩ = some (.slice (some ad140) l0_4.length c0_4) := (blk_cell BK138.out 4).trans rfl
                      have hfz42_0 := blk_frozen BK138.out 0
                      have hfz42_1 := blk_frozen BK138.out 1
                      have hfz42_2 := blk_frozen BK138.out 2
                      have hfz42_3 := blk_frozen BK138.out 3
                      have hfz42_4 := blk_frozen BK138.out 4
                      have p150 : 0 ≤ (x8_2 : Int) := zd
                      have q150 : x8_2 < ((rd_L4 l0_4 a1).length : Int) := zd
                      obtain ⟨ad150, e150, hx150_0⟩ := Kd.at_int HR140_0.out x8_2 p150 q150
                      cases e150
                      replace hx150_0 := (HB.out.cell (World.block_lt_of_cell? w _ hx150_0)).trans hx150_0
                      replace p150 := eq_true p150
                      replace q150 := eq_true q150
                      go_wp2_with (first | (go_at_call 70; (with_reducible refine (spec_l4to.calls a0_0 a0_1 x8_2 (rd (rd_L4 l0_4 a1) x8_2) t151 _ A40.out).mono ?_); rintro e w' ⟨rfl, ⟨nd, rfl⟩⟩; (try first | exact ⟨rfl, _, World.drewN_drewN _ _ _⟩ | exact ⟨rfl, _, Eq.trans (World.drewN_drewN _ _ _) (congrArg (World.drewN _) (Nat.add_assoc _ _ _))⟩)))
                      repeat (go_quiet (first | (go_at_call 70; (with_reducible refine (spec_l4to.calls a0_0 a0_1 x8_2 (rd (rd_L4 l0_4 a1) x8_2) t151 _ A40.out).mono ?_); rintro e w' ⟨rfl, ⟨nd, rfl⟩⟩; (try first | exact ⟨rfl, _, World.drewN_drewN _ _ _⟩ | exact ⟨rfl, _, Eq.trans (World.drewN_drewN _ _ _) (congrArg (World.drewN _) (Nat.add_assoc _ _ _))⟩))); try go_wp2_with (first | (go_at_call 70; (with_reducible refine (spec_l4to.calls a0_0 a0_1 x8_2 (rd (rd_L4 l0_4 a1) x8_2) t151 _ A40.out).mono ?_); rintro e w' ⟨rfl, ⟨nd, rfl⟩⟩; (try first | exact ⟨rfl, _, World.drewN_drewN _ _ _⟩ | exact ⟨rfl, _, Eq.trans (World.drewN_drewN _ _ _) (congrArg (World.drewN _) (Nat.add_assoc _ _ _))⟩))))
                      go_ret
                      exact ⟨ze, (zs GE138.out)⟩
                     ·rw [if_neg c41] at H
                      have c41b0 : decide (t151 < 0) = false := decide_eq_false c41
                      clear c41
                      by_cases c43 : 0 ≤ t151
                      ·rw [if_pos c43] at H
                       have c43b0 : decide (0 ≤ t151) = true := decide_eq_true c43
                       clear c43
                       by_cases c44 : t151 < ((rd_L4 l0_3 a1).length : Int)
                       ·rw [if_pos c44] at H
                        have c44b0 : decide (t151 < ((rd_L4 l0_3 a1).length : Int)) = true := decide_eq_true c44
                        clear c44
                        by_cases c45 : (rd (rd_L4 l0_3 a1) t151) < 0
                        ·rw [if_pos c45] at H
                         have c45b0 : decide ((rd (rd_L4 l0_3 a1) t151) < 0) = true := decide_eq_true c45
                         clear c45
                         obtain rfl := Option.some.inj H
                         have hcz46_0 : wc.cell? ⟨gb138, 0, none⟩ = some (.int .i64 a0_0) := (blk_cell BK138.out 0).trans rfl
                         have hcz46_1 : wc.cell? ⟨gb138, 1, none⟩ = some (.int .i64 a0_1) := (blk_cell BK138.out 1).trans rfl
                         have hcz46_2 : wc.cell? ⟨gb138, 2, none⟩ = some (.slice (some ad141) l0_2.length c0_2) := (blk_cell BK138.out 2).trans rfl
                         have hcz46_3 : wc.cell? ⟨gb138, 3, none⟩ = some (.slice (some ad139) l0_3.length c0_3) := (blk_cell BK138.out 3).trans rfl
                         have hcz46_4 : wc.cell? ⟨gb138, 4, none⟩ = some (.slice (some ad140) l0_4.length c0_4) := (blk_cell BK138.out 4).trans rfl
                         have hfz46_0 := blk_frozen BK138.out 0
                         have hfz46_1 := blk_frozen BK138.out 1
                         have hfz46_2 := blk_frozen BK138.out 2
                         have hfz46_3 := blk_frozen BK138.out 3
                         have hfz46_4 := blk_frozen BK138.out 4
                         have p150 : 0 ≤ (x8_2 : Int) := zd
                         have q150 : x8_2 < ((rd_L4 l0_4 a1).length : Int) := zd
                         obtain ⟨ad150, e150, hx150_0⟩ := Kd.at_int HR140_0.out x8_2 p150 q150
                         cases e150
                         replace hx150_0 := (HB.out.cell (World.block_lt_of_cell? w _ hx150_0)).trans hx150_0
                         replace p150 := eq_true p150
                         replace q150 := eq_true q150
                         go_wp2_with (first | (go_at_call 70; (with_reducible refine (spec_l4to.calls a0_0 a0_1 x8_2 (rd (rd_L4 l0_4 a1) x8_2) t151 _ A40.out).mono ?_); rintro e w' ⟨rfl, ⟨nd, rfl⟩⟩; (try first | exact ⟨rfl, _, World.drewN_drewN _ _ _⟩ | exact ⟨rfl, _, Eq.trans (World.drewN_drewN _ _ _) (congrArg (World.drewN _) (Nat.add_assoc _ _ _))⟩); have p152 : 0 ≤ (t151 : Int) := zd; have q152 : t151 < ((rd_L4 l0_3 a1).length : Int) := zd; obtain ⟨ad152, e152, hx152_0⟩ := Kd.at_int HR139_0.out t151 p152 q152; cases e152; replace hx152_0 := (HB.out.cell (World.block_lt_of_cell? w _ hx152_0)).trans hx152_0; replace p152 := eq_true p152; replace q152 := eq_true q152))
                         repeat (go_quiet (first | (go_at_call 70; (with_reducible refine (spec_l4to.calls a0_0 a0_1 x8_2 (rd (rd_L4 l0_4 a1) x8_2) t151 _ A40.out).mono ?_); rintro e w' ⟨rfl, ⟨nd, rfl⟩⟩; (try first | exact ⟨rfl, _, World.drewN_drewN _ _ _⟩ | exact ⟨rfl, _, Eq.trans (World.drewN_drewN _ _ _) (congrArg (World.drewN _) (Nat.add_assoc _ _ _))⟩); have p152 : 0 ≤ (t151 : Int) := zd; have q152 : t151 < ((rd_L4 l0_3 a1).length : Int) := zd; obtain ⟨ad152, e152, hx152_0⟩ := Kd.at_int HR139_0.out t151 p152 q152; cases e152; replace hx152_0 := (HB.out.cell (World.block_lt_of_cell? w _ hx152_0)).trans hx152_0; replace p152 := eq_true p152; replace q152 := eq_true q152)); try go_wp2_with (first | (go_at_call 70; (with_reducible refine (spec_l4to.calls a0_0 a0_1 x8_2 (rd (rd_L4 l0_4 a1) x8_2) t151 _ A40.out).mono ?_); rintro e w' ⟨rfl, ⟨nd, rfl⟩⟩; (try first | exact ⟨rfl, _, World.drewN_drewN _ _ _⟩ | exact ⟨rfl, _, Eq.trans (World.drewN_drewN _ _ _) (congrArg (World.drewN _) (Nat.add_assoc _ _ _))⟩); have p152 : 0 ≤ (t151 : Int) := zd; have q152 : t151 < ((rd_L4 l0_3 a1).length : Int) := zd; obtain ⟨ad152, e152, hx152_0⟩ := Kd.at_int HR139_0.out t151 p152 q152; cases e152; replace hx152_0 := (HB.out.cell (World.block_lt_of_cell? w _ hx152_0)).trans hx152_0; replace p152 := eq_true p152; replace q152 := eq_true q152)))
                         go_ret
                         exact ⟨ze, (zs GE138.out)⟩
                        ·rw [if_neg c45] at H
                         have c45b0 : decide ((rd (rd_L4 l0_3 a1) t151) < 0) = false := decide_eq_false c45
                         clear c45
                         by_cases c47 : x8_2 < ((rd_L4 l0_3 a1).length : Int)
                         ·rw [if_pos c47] at H
                          have c47b0 : decide (x8_2 < ((rd_L4 l0_3 a1).length : Int)) = true := decide_eq_true c47
                          clear c47
                          by_cases c48 : (rd (rd_L4 l0_3 a1) t151) ≥ (rd (rd_L4 l0_3 a1) x8_2)
                          ·rw [if_pos c48] at H
                           have c48b0 : decide ((rd (rd_L4 l0_3 a1) x8_2) ≤ (rd (rd_L4 l0_3 a1) t151)) = true := decide_eq_true c48
                           clear c48
                           obtain rfl := Option.some.inj H
                           have hcz49_0 : wc.cell? ⟨gb138, 0, none⟩ = some (.int .i64 a0_0) := (blk_cell BK138.out 0).trans rfl
                           have hcz49_1 : wc.cell? ⟨gb138, 1, none⟩ = some (.int .i64 a0_1) := (blk_cell BK138.out 1).trans rfl
                           have hcz49_2 : wc.cell? ⟨gb138, 2, none⟩ = some (.slice (some ad141) l0_2.length c0_2) := (blk_cell BK138.out 2).trans rfl
                           have hcz49_3 : wc.cell? ⟨gb138, 3, none⟩ = some (.slice (some ad139) l0_3.length c0_3) := (blk_cell BK138.out 3).trans rfl
                           have hcz49_4 : wc.cell? ⟨gb138, 4, none⟩ = some (.slice (some ad140) l0_4.length c0_4) := (blk_cell BK138.out 4).trans rfl
                           have hfz49_0 := blk_frozen BK138.out 0
                           have hfz49_1 := blk_frozen BK138.out 1
                           have hfz49_2 := blk_frozen BK138.out 2
                           have hfz49_3 := blk_frozen BK138.out 3
                           have hfz49_4 := blk_frozen BK138.out 4
                           have p150 : 0 ≤ (x8_2 : Int) := zd
                           have q150 : x8_2 < ((rd_L4 l0_4 a1).length : Int) := zd
                           obtain ⟨ad150, e150, hx150_0⟩ := Kd.at_int HR140_0.out x8_2 p150 q150
                           cases e150
                           replace hx150_0 := (HB.out.cell (World.block_lt_of_cell? w _ hx150_0)).trans hx150_0
                           replace p150 := eq_true p150
                           replace q150 := eq_true q150
                           go_wp2_with (first | (go_at_call 70; (with_reducible refine (spec_l4to.calls a0_0 a0_1 x8_2 (rd (rd_L4 l0_4 a1) x8_2) t151 _ A40.out).mono ?_); rintro e w' ⟨rfl, ⟨nd, rfl⟩⟩; (try first | exact ⟨rfl, _, World.drewN_drewN _ _ _⟩ | exact ⟨rfl, _, Eq.trans (World.drewN_drewN _ _ _) (congrArg (World.drewN _) (Nat.add_assoc _ _ _))⟩); have p152 : 0 ≤ (t151 : Int) := zd; have q152 : t151 < ((rd_L4 l0_3 a1).length : Int) := zd; obtain ⟨ad152, e152, hx152_0⟩ := Kd.at_int HR139_0.out t151 p152 q152; cases e152; replace hx152_0 := (HB.out.cell (World.block_lt_of_cell? w _ hx152_0)).trans hx152_0; replace p152 := eq_true p152; replace q152 := eq_true q152; have p153 : 0 ≤ (t151 : Int) := zd; have q153 : t151 < ((rd_L4 l0_3 a1).length : Int) := zd; obtain ⟨ad153, e153, hx153_0⟩ := Kd.at_int HR139_0.out t151 p153 q153; obtain rfl : ad152 = ad153 := (by injection e153); replace hx153_0 := (HB.out.cell (World.block_lt_of_cell? w _ hx153_0)).trans hx153_0; replace p153 := eq_true p153; replace q153 := eq_true q153; have p154 : 0 ≤ (x8_2 : Int) := zd; have q154 : x8_2 < ((rd_L4 l0_3 a1).length : Int) := zd; obtain ⟨ad154, e154, hx154_0⟩ := Kd.at_int HR139_0.out x8_2 p154 q154; obtain rfl : ad152 = ad154 := (by injection e154); replace hx154_0 := (HB.out.cell (World.block_lt_of_cell? w _ hx154_0)).trans hx154_0; replace p154 := eq_true p154; replace q154 := eq_true q154))
                           repeat (go_quiet (first | (go_at_call 70; (with_reducible refine (spec_l4to.calls a0_0 a0_1 x8_2 (rd (rd_L4 l0_4 a1) x8_2) t151 _ A40.out).mono ?_); rintro e w' ⟨rfl, ⟨nd, rfl⟩⟩; (try first | exact ⟨rfl, _, World.drewN_drewN _ _ _⟩ | exact ⟨rfl, _, Eq.trans (World.drewN_drewN _ _ _) (congrArg (World.drewN _) (Nat.add_assoc _ _ _))⟩); have p152 : 0 ≤ (t151 : Int) := zd; have q152 : t151 < ((rd_L4 l0_3 a1).length : Int) := zd; obtain ⟨ad152, e152, hx152_0⟩ := Kd.at_int HR139_0.out t151 p152 q152; cases e152; replace hx152_0 := (HB.out.cell (World.block_lt_of_cell? w _ hx152_0)).trans hx152_0; replace p152 := eq_true p152; replace q152 := eq_true q152; have p153 : 0 ≤ (t151 : Int) := zd; have q153 : t151 < ((rd_L4 l0_3 a1).length : Int) := zd; obtain ⟨ad153, e153, hx153_0⟩ := Kd.at_int HR139_0.out t151 p153 q153; obtain rfl : ad152 = ad153 := (by injection e153); replace hx153_0 := (HB.out.cell (World.block_lt_of_cell? w _ hx153_0)).trans hx153_0; replace p153 := eq_true p153; replace q153 := eq_true q153; have p154 : 0 ≤ (x8_2 : Int) := zd; have q154 : x8_2 < ((rd_L4 l0_3 a1).length : Int) := zd; obtain ⟨ad154, e154, hx154_0⟩ := Kd.at_int HR139_0.out x8_2 p154 q154; obtain rfl : ad152 = ad154 := (by injection e154); replace hx154_0 := (HB.out.cell (World.block_lt_of_cell? w _ hx154_0)).trans hx154_0; replace p154 := eq_true p154; replace q154 := eq_true q154)); try go_wp2_with (first | (go_at_call 70; (with_reducible refine (spec_l4to.calls a0_0 a0_1 x8_2 (rd (rd_L4 l0_4 a1) x8_2) t151 _ A40.out).mono ?_); rintro e w' ⟨rfl, ⟨nd, rfl⟩⟩; (try first | exact ⟨rfl, _, World.drewN_drewN _ _ _⟩ | exact ⟨rfl, _, Eq.trans (World.drewN_drewN _ _ _) (congrArg (World.drewN _) (Nat.add_assoc _ _ _))⟩); have p152 : 0 ≤ (t151 : Int) := zd; have q152 : t151 < ((rd_L4 l0_3 a1).length : Int) := zd; obtain ⟨ad152, e152, hx152_0⟩ := Kd.at_int HR139_0.out t151 p152 q152; cases e152; replace hx152_0 := (HB.out.cell (World.block_lt_of_cell? w _ hx152_0)).trans hx152_0; replace p152 := eq_true p152; replace q152 := eq_true q152; have p153 : 0 ≤ (t151 : Int) := zd; have q153 : t151 < ((rd_L4 l0_3 a1).length : Int) := zd; obtain ⟨ad153, e153, hx153_0⟩ := Kd.at_int HR139_0.out t151 p153 q153; obtain rfl : ad152 = ad153 := (by injection e153); replace hx153_0 := (HB.out.cell (World.block_lt_of_cell? w _ hx153_0)).trans hx153_0; replace p153 := eq_true p153; replace q153 := eq_true q153; have p154 : 0 ≤ (x8_2 : Int) := zd; have q154 : x8_2 < ((rd_L4 l0_3 a1).length : Int) := zd; obtain ⟨ad154, e154, hx154_0⟩ := Kd.at_int HR139_0.out x8_2 p154 q154; obtain rfl : ad152 = ad154 := (by injection e154); replace hx154_0 := (HB.out.cell (World.block_lt_of_cell? w _ hx154_0)).trans hx154_0; replace p154 := eq_true p154; replace q154 := eq_true q154)))
                           go_ret
                           exact ⟨ze, (zs GE138.out)⟩
                          ·rw [if_neg c48] at H
                           have c48b0 : decide ((rd (rd_L4 l0_3 a1) x8_2) ≤ (rd (rd_L4 l0_3 a1) t151)) = false := decide_eq_false c48
                           clear c48
                           have H' := Aside0.mk H
                           clear H
                           have hcz50_0 : wc.cell? ⟨gb138, 0, none⟩ = some (.int .i64 a0_0) := (blk_cell BK138.out 0).trans rfl
                           have hcz50_1 : wc.cell? ⟨gb138, 1, none⟩ = some (.int .i64 a0_1) := (blk_cell BK138.out 1).trans rfl
                           have hcz50_2 : wc.cell? ⟨gb138, 2, none⟩ = some (.slice (some ad141) l0_2.length c0_2) := (blk_cell BK138.out 2).trans rfl
                           have hcz50_3 : wc.cell? ⟨gb138, 3, none⟩ = some (.slice (some ad139) l0_3.length c0_3) := (blk_cell BK138.out 3).trans rfl
                           have hcz50_4 : wc.cell? ⟨gb138, 4, none⟩ = some (.slice (some ad140) l0_4.length c0_4) := (blk_cell BK138.out 4).trans rfl
                           have hfz50_0 := blk_frozen BK138.out 0
                           have hfz50_1 := blk_frozen BK138.out 1
                           have hfz50_2 := blk_frozen BK138.out 2
                           have hfz50_3 := blk_frozen BK138.out 3
                           have hfz50_4 := blk_frozen BK138.out 4
                           have p150 : 0 ≤ (x8_2 : Int) := zd
                           have q150 : x8_2 < ((rd_L4 l0_4 a1).length : Int) := zd
                           obtain ⟨ad150, e150, hx150_0⟩ := Kd.at_int HR140_0.out x8_2 p150 q150
                           cases e150
                           replace hx150_0 := (HB.out.cell (World.block_lt_of_cell? w _ hx150_0)).trans hx150_0
                           replace p150 := eq_true p150
                           replace q150 := eq_true q150
                           go_wp2_with (first | (go_at_call 70; (with_reducible refine (spec_l4to.calls a0_0 a0_1 x8_2 (rd (rd_L4 l0_4 a1) x8_2) t151 _ A40.out).mono ?_); rintro e w' ⟨rfl, ⟨nd, rfl⟩⟩; (try first | exact ⟨rfl, _, World.drewN_drewN _ _ _⟩ | exact ⟨rfl, _, Eq.trans (World.drewN_drewN _ _ _) (congrArg (World.drewN _) (Nat.add_assoc _ _ _))⟩); have p152 : 0 ≤ (t151 : Int) := zd; have q152 : t151 < ((rd_L4 l0_3 a1).length : Int) := zd; obtain ⟨ad152, e152, hx152_0⟩ := Kd.at_int HR139_0.out t151 p152 q152; cases e152; replace hx152_0 := (HB.out.cell (World.block_lt_of_cell? w _ hx152_0)).trans hx152_0; replace p152 := eq_true p152; replace q152 := eq_true q152; have p153 : 0 ≤ (t151 : Int) := zd; have q153 : t151 < ((rd_L4 l0_3 a1).length : Int) := zd; obtain ⟨ad153, e153, hx153_0⟩ := Kd.at_int HR139_0.out t151 p153 q153; obtain rfl : ad152 = ad153 := (by injection e153); replace hx153_0 := (HB.out.cell (World.block_lt_of_cell? w _ hx153_0)).trans hx153_0; replace p153 := eq_true p153; replace q153 := eq_true q153; have p154 : 0 ≤ (x8_2 : Int) := zd; have q154 : x8_2 < ((rd_L4 l0_3 a1).length : Int) := zd; obtain ⟨ad154, e154, hx154_0⟩ := Kd.at_int HR139_0.out x8_2 p154 q154; obtain rfl : ad152 = ad154 := (by injection e154); replace hx154_0 := (HB.out.cell (World.block_lt_of_cell? w _ hx154_0)).trans hx154_0; replace p154 := eq_true p154; replace q154 := eq_true q154))
                           repeat (go_quiet (first | (go_at_call 70; (with_reducible refine (spec_l4to.calls a0_0 a0_1 x8_2 (rd (rd_L4 l0_4 a1) x8_2) t151 _ A40.out).mono ?_); rintro e w' ⟨rfl, ⟨nd, rfl⟩⟩; (try first | exact ⟨rfl, _, World.drewN_drewN _ _ _⟩ | exact ⟨rfl, _, Eq.trans (World.drewN_drewN _ _ _) (congrArg (World.drewN _) (Nat.add_assoc _ _ _))⟩); have p152 : 0 ≤ (t151 : Int) := zd; have q152 : t151 < ((rd_L4 l0_3 a1).length : Int) := zd; obtain ⟨ad152, e152, hx152_0⟩ := Kd.at_int HR139_0.out t151 p152 q152; cases e152; replace hx152_0 := (HB.out.cell (World.block_lt_of_cell? w _ hx152_0)).trans hx152_0; replace p152 := eq_true p152; replace q152 := eq_true q152; have p153 : 0 ≤ (t151 : Int) := zd; have q153 : t151 < ((rd_L4 l0_3 a1).length : Int) := zd; obtain ⟨ad153, e153, hx153_0⟩ := Kd.at_int HR139_0.out t151 p153 q153; obtain rfl : ad152 = ad153 := (by injection e153); replace hx153_0 := (HB.out.cell (World.block_lt_of_cell? w _ hx153_0)).trans hx153_0; replace p153 := eq_true p153; replace q153 := eq_true q153; have p154 : 0 ≤ (x8_2 : Int) := zd; have q154 : x8_2 < ((rd_L4 l0_3 a1).length : Int) := zd; obtain ⟨ad154, e154, hx154_0⟩ := Kd.at_int HR139_0.out x8_2 p154 q154; obtain rfl : ad152 = ad154 := (by injection e154); replace hx154_0 := (HB.out.cell (World.block_lt_of_cell? w _ hx154_0)).trans hx154_0; replace p154 := eq_true p154; replace q154 := eq_true q154)); try go_wp2_with (first | (go_at_call 70; (with_reducible refine (spec_l4to.calls a0_0 a0_1 x8_2 (rd (rd_L4 l0_4 a1) x8_2) t151 _ A40.out).mono ?_); rintro e w' ⟨rfl, ⟨nd, rfl⟩⟩; (try first | exact ⟨rfl, _, World.drewN_drewN _ _ _⟩ | exact ⟨rfl, _, Eq.trans (World.drewN_drewN _ _ _) (congrArg (World.drewN _) (Nat.add_assoc _ _ _))⟩); have p152 : 0 ≤ (t151 : Int) := zd; have q152 : t151 < ((rd_L4 l0_3 a1).length : Int) := zd; obtain ⟨ad152, e152, hx152_0⟩ := Kd.at_int HR139_0.out t151 p152 q152; cases e152; replace hx152_0 := (HB.out.cell (World.block_lt_of_cell? w _ hx152_0)).trans hx152_0; replace p152 := eq_true p152; replace q152 := eq_true q152; have p153 : 0 ≤ (t151 : Int) := zd; have q153 : t151 < ((rd_L4 l0_3 a1).length : Int) := zd; obtain ⟨ad153, e153, hx153_0⟩ := Kd.at_int HR139_0.out t151 p153 q153; obtain rfl : ad152 = ad153 := (by injection e153); replace hx153_0 := (HB.out.cell (World.block_lt_of_cell? w _ hx153_0)).trans hx153_0; replace p153 := eq_true p153; replace q153 := eq_true q153; have p154 : 0 ≤ (x8_2 : Int) := zd; have q154 : x8_2 < ((rd_L4 l0_3 a1).length : Int) := zd; obtain ⟨ad154, e154, hx154_0⟩ := Kd.at_int HR139_0.out x8_2 p154 q154; obtain rfl : ad152 = ad154 := (by injection e154); replace hx154_0 := (HB.out.cell (World.block_lt_of_cell? w _ hx154_0)).trans hx154_0; replace p154 := eq_true p154; replace q154 := eq_true q154)))
                           go_roundg kj29
                           case measure => have := HJ5.out; have := HK2.out; have := HJ22.out; have := HJ29.out; omega
                           case rel => exact ⟨(wrap64 (x8_2 + 1)), zr, H', ⟨by have := HJ5.out; have := HK2.out; have := HJ22.out; have := HJ29.out; omega⟩, ⟨zb BK138.out⟩, ⟨zs GE138.out⟩⟩
                         ·rw [if_neg c47] at H
                          exact absurd H (by simp)
                       ·rw [if_neg c44] at H
                        exact absurd H (by simp)
                      ·rw [if_neg c43] at H
                       exact absurd H (by simp)
                    ·rw [if_neg c39] at H
                     exact absurd H (by simp)
                   ·rw [if_neg c38] at H
                    exact absurd H (by simp)
           ·rw [if_neg c13] at H
            exact absurd H (by simp)
          ·rw [if_neg c12] at H
           exact absurd H (by simp)
         ·rw [if_neg c11] at H
          have c11b0 : decide (x8_2 < (wrap64 (a0_0 * a0_1))) = false := decide_eq_false c11
          clear c11
          obtain rfl := Option.some.inj H
          go_wp2
          repeat (go_quiet (fail); try go_wp2)
          go_ret
          exact ⟨ze, (zs GE138.out)⟩
   ·rw [if_neg c5] at H
    exact absurd H (by simp)
  ·rw [if_neg c4] at H
   exact absurd H (by simp)
 ·rw [if_neg c3] at H
  exact absurd H (by simp)

end Go.Proofs.YthbeplmihjhoeaaDoor.PFnExactWalk
