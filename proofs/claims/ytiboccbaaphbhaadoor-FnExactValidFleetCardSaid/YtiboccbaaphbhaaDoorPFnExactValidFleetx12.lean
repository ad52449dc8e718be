-- made by wip/tools/myprint.py (this session's own program, over the kit's printer)
import Derived.Test.YtiboccbaaphbhaaDoorPFnExactValidFleetx0
import Derived.Test.YtiboccbaaphbhaaDoorPFnExactValidFleetx11
namespace Go.Proofs.YtiboccbaaphbhaaDoor.PFnExactValidFleet
open Go.RowKit Go.Proofs.YtiboccbaaphbhaaDoorW.PrintWords Go.Proofs.YtiboccbaaphbhaaDoorW.PrintLast Go.Proofs.YtiboccbaaphbhaaDoorW.PrintMore
attribute [local go_sem] max2_int min2_int max_two min_two max_three min_three max_four min_four   -- for this text's walks alone
set_option linter.unusedVariables false
set_option linter.unusedSimpArgs false

/-! ### impl_Tables_listOk: function 69 -/
mutual
def impl_Tables_listOk.j0 : Nat → Int → List Int → List Int → Bool → Int → Int → List (S74) → List (List Int) → List (List Int) → Option (Bool)
 | 0, _, _, _, _, _, _, _, _, _ => none
 | k + 1, x1, x5, x6, x36, x252000, x252001, x252002, x252003, x252004 => if x36 = true then (some false) else (impl_Tables_listOk.l0 k x1 x5 x6 (x5.length : Int) 0 x252000 x252001 x252002 x252003 x252004)
def impl_Tables_listOk.l0 : Nat → Int → List Int → List Int → Int → Int → Int → Int → List (S74) → List (List Int) → List (List Int) → Option (Bool)
 | 0, _, _, _, _, _, _, _, _, _, _ => none
 | k + 1, x1, x5, x6, x38, x39, x252000, x252001, x252002, x252003, x252004 => if x39 < x38 then (if 0 ≤ x1 then (if x1 < (x252002.length : Int) then (if x39 = ((rd_T74 x252002 x1).f2) then (if 0 ≤ x39 then (if x39 < (x5.length : Int) then (if (rd x5 x39) = 0 then (if x39 < (x6.length : Int) then (if (rd x6 x39) = (-1) then (impl_Tables_listOk.l0 k x1 x5 x6 x38 (wrap64 (x39 + 1)) x252000 x252001 x252002 x252003 x252004) else (some false)) else (none)) else (some false)) else (none)) else (none)) else (if 0 ≤ x39 then (if x39 < (x5.length : Int) then (if (rd x5 x39) = (-1) then (if x39 < (x6.length : Int) then (if (rd x6 x39) = (-1) then (impl_Tables_listOk.l0 k x1 x5 x6 x38 (wrap64 (x39 + 1)) x252000 x252001 x252002 x252003 x252004) else (some false)) else (none)) else (if (rd x5 x39) < 1 then (impl_Tables_listOk.j2 k x1 x5 x6 x39 x38 x39 true x252000 x252001 x252002 x252003 x252004) else (if (rd x5 x39) > 65534 then (impl_Tables_listOk.j2 k x1 x5 x6 x39 x38 x39 true x252000 x252001 x252002 x252003 x252004) else (if x39 < (x6.length : Int) then (if (rd x6 x39) < 0 then (impl_Tables_listOk.j2 k x1 x5 x6 x39 x38 x39 true x252000 x252001 x252002 x252003 x252004) else (impl_Tables_listOk.j2 k x1 x5 x6 x39 x38 x39 (decide ((rd x6 x39) > 3)) x252000 x252001 x252002 x252003 x252004)) else (none))))) else (none)) else (none))) else (none)) else (none)) else (some true)
def impl_Tables_listOk.j2 : Nat → Int → List Int → List Int → Int → Int → Int → Bool → Int → Int → List (S74) → List (List Int) → List (List Int) → Option (Bool)
 | 0, _, _, _, _, _, _, _, _, _, _, _, _ => none
 | k + 1, x1, x5, x6, x7, x38, x39, x67, x252000, x252001, x252002, x252003, x252004 => if x67 = true then (some false) else (if 0 ≤ x7 then (if x7 < (x6.length : Int) then ((impl_side.f x252000 x252001 x7 (rd x6 x7)).bind fun t264 => (if t264 < 0 then (some false) else (if 0 ≤ t264 then (if t264 < (x5.length : Int) then (if (rd x5 t264) < 0 then (some false) else (if x7 < (x5.length : Int) then (if (rd x5 t264) ≥ (rd x5 x7) then (some false) else (impl_Tables_listOk.l0 k x1 x5 x6 x38 (wrap64 (x39 + 1)) x252000 x252001 x252002 x252003 x252004)) else (none))) else (none)) else (none)))) else (none)) else (none))
end
def impl_Tables_listOk.f (k : Nat) (a0_0 : Int) (a0_1 : Int) (l0_2 : List (S74)) (l0_3 : List (List Int)) (l0_4 : List (List Int)) (a1 : Int) : Option (Bool) := if 0 ≤ a1 then (if a1 < (l0_3.length : Int) then (if a1 < (l0_4.length : Int) then (if ((rd_L4 l0_3 a1).length : Int) = (wrap64 (a0_0 * a0_1)) then (impl_Tables_listOk.j0 k a1 (rd_L4 l0_3 a1) (rd_L4 l0_4 a1) (((rd_L4 l0_4 a1).length : Int) != (wrap64 (a0_0 * a0_1))) a0_0 a0_1 l0_2 l0_3 l0_4) else (impl_Tables_listOk.j0 k a1 (rd_L4 l0_3 a1) (rd_L4 l0_4 a1) true a0_0 a0_1 l0_2 l0_3 l0_4)) else (none)) else (none)) else (none)
theorem impl_Tables_listOk.mono_l : ∀ k, (∀ y0 y1 y2 y3 y4 y5 y6 y7 y8, LeO (impl_Tables_listOk.j0 k y0 y1 y2 y3 y4 y5 y6 y7 y8) (impl_Tables_listOk.j0 (k + 1) y0 y1 y2 y3 y4 y5 y6 y7 y8)) ∧ (∀ y0 y1 y2 y3 y4 y5 y6 y7 y8 y9, LeO (impl_Tables_listOk.l0 k y0 y1 y2 y3 y4 y5 y6 y7 y8 y9) (impl_Tables_listOk.l0 (k + 1) y0 y1 y2 y3 y4 y5 y6 y7 y8 y9)) ∧ (∀ y0 y1 y2 y3 y4 y5 y6 y7 y8 y9 y10 y11, LeO (impl_Tables_listOk.j2 k y0 y1 y2 y3 y4 y5 y6 y7 y8 y9 y10 y11) (impl_Tables_listOk.j2 (k + 1) y0 y1 y2 y3 y4 y5 y6 y7 y8 y9 y10 y11))
 | 0 => ⟨fun _ _ _ _ _ _ _ _ _ r h => by simp [impl_Tables_listOk.j0] at h, fun _ _ _ _ _ _ _ _ _ _ r h => by simp [impl_Tables_listOk.l0] at h, fun _ _ _ _ _ _ _ _ _ _ _ _ r h => by simp [impl_Tables_listOk.j2] at h⟩
 | k + 1 => by
  obtain ⟨ih0, ih1, ih2⟩ := impl_Tables_listOk.mono_l k
  refine ⟨?_, ?_, ?_⟩
  ·intro y0 y1 y2 y3 y4 y5 y6 y7 y8
   unfold impl_Tables_listOk.j0
   repeat' first
   | (with_reducible exact ih0 _ _ _ _ _ _ _ _ _)
   | (with_reducible exact ih1 _ _ _ _ _ _ _ _ _ _)
   | (with_reducible exact ih2 _ _ _ _ _ _ _ _ _ _ _ _)
   | (with_reducible exact LeO.refl _)
   | (with_reducible exact LeO.none _)
   | (with_reducible refine LeO.ite ?_ ?_)
   | (with_reducible refine LeO.bind ?_ (fun _ => ?_))
   | exact LeO.none _
   | refine LeO.ite ?_ ?_
   | refine LeO.bind ?_ (fun _ => ?_)
  ·intro y0 y1 y2 y3 y4 y5 y6 y7 y8 y9
   unfold impl_Tables_listOk.l0
   repeat' first
   | (with_reducible exact ih0 _ _ _ _ _ _ _ _ _)
   | (with_reducible exact ih1 _ _ _ _ _ _ _ _ _ _)
   | (with_reducible exact ih2 _ _ _ _ _ _ _ _ _ _ _ _)
   | (with_reducible exact LeO.refl _)
   | (with_reducible exact LeO.none _)
   | (with_reducible refine LeO.ite ?_ ?_)
   | (with_reducible refine LeO.bind ?_ (fun _ => ?_))
   | exact LeO.none _
   | refine LeO.ite ?_ ?_
   | refine LeO.bind ?_ (fun _ => ?_)
  ·intro y0 y1 y2 y3 y4 y5 y6 y7 y8 y9 y10 y11
   unfold impl_Tables_listOk.j2
   repeat' first
   | (with_reducible exact ih0 _ _ _ _ _ _ _ _ _)
   | (with_reducible exact ih1 _ _ _ _ _ _ _ _ _ _)
   | (with_reducible exact ih2 _ _ _ _ _ _ _ _ _ _ _ _)
   | (with_reducible exact LeO.refl _)
   | (with_reducible exact LeO.none _)
   | (with_reducible refine LeO.ite ?_ ?_)
   | (with_reducible refine LeO.bind ?_ (fun _ => ?_))
   | exact LeO.none _
   | refine LeO.ite ?_ ?_
   | refine LeO.bind ?_ (fun _ => ?_)
theorem impl_Tables_listOk.mono : ∀ a0 a1 a2 a3 a4 a5 k, LeO (impl_Tables_listOk.f k a0 a1 a2 a3 a4 a5) (impl_Tables_listOk.f (k + 1) a0 a1 a2 a3 a4 a5) := by
 intro a0 a1 a2 a3 a4 a5 k
 obtain ⟨ih0, ih1, ih2⟩ := impl_Tables_listOk.mono_l k
 unfold impl_Tables_listOk.f
 repeat' first
   | (with_reducible exact ih0 _ _ _ _ _ _ _ _ _)
   | (with_reducible exact ih1 _ _ _ _ _ _ _ _ _ _)
   | (with_reducible exact ih2 _ _ _ _ _ _ _ _ _ _ _ _)
   | (with_reducible exact LeO.refl _)
   | (with_reducible exact LeO.none _)
   | (with_reducible refine LeO.ite ?_ ?_)
   | (with_reducible refine LeO.bind ?_ (fun _ => ?_))
   | exact LeO.none _
   | refine LeO.ite ?_ ?_
   | refine LeO.bind ?_ (fun _ => ?_)
set_option maxHeartbeats 8000000 in
set_option maxRecDepth 100000 in
theorem impl_Tables_listOk.calls (k : Nat) (a0_0 : Int) (a0_1 : Int) (A0_2 : Option Addr) (c0_2 : Nat) (l0_2 : List (S74)) (A0_3 : Option Addr) (c0_3 : Nat) (l0_3 : List (List Int)) (A0_4 : Option Addr) (c0_4 : Nat) (l0_4 : List (List Int)) (a1 : Int) (r : Bool) (w : World) (hr0_2 : Kd.C k74 w A0_2 l0_2.length l0_2) (hc0_2 : l0_2.length ≤ c0_2) (hr0_3 : Kd.C (Kd.slice 3 (Kd.int .i64)) w A0_3 l0_3.length l0_3) (hc0_3 : l0_3.length ≤ c0_3) (hr0_4 : Kd.C (Kd.slice 3 (Kd.int .i64)) w A0_4 l0_4.length l0_4) (hc0_4 : l0_4.length ≤ c0_4) (h : impl_Tables_listOk.f k a0_0 a0_1 l0_2 l0_3 l0_4 a1 = some r) :
  Calls Tryd.prog 69 #[.agg #[.int .i64 a0_0, .int .i64 a0_1, .slice A0_2 l0_2.length c0_2, .slice A0_3 l0_3.length c0_3, .slice A0_4 l0_4.length c0_4], .int .i64 a1] w fun e w' => e = .returned (.bool r) ∧ Below w.heap.size w w' := by
 have hu48 := Tryd.underlying48
 have HR0_2 := Aside0.mk hr0_2
 have HC0_2 := Aside0.mk hc0_2
 clear hr0_2 hc0_2
 have HR0_3 := Aside0.mk hr0_3
 have HC0_3 := Aside0.mk hc0_3
 clear hr0_3 hc0_3
 have HR0_4 := Aside0.mk hr0_4
 have HC0_4 := Aside0.mk hc0_4
 clear hr0_4 hc0_4
 have HB := Aside0.mk (Below.refl w.heap.size w)
 have H : (if 0 ≤ a1 then (if a1 < (l0_3.length : Int) then (if a1 < (l0_4.length : Int) then (if ((rd_L4 l0_3 a1).length : Int) = (wrap64 (a0_0 * a0_1)) then (impl_Tables_listOk.j0 k a1 (rd_L4 l0_3 a1) (rd_L4 l0_4 a1) (((rd_L4 l0_4 a1).length : Int) != (wrap64 (a0_0 * a0_1))) a0_0 a0_1 l0_2 l0_3 l0_4) else (impl_Tables_listOk.j0 k a1 (rd_L4 l0_3 a1) (rd_L4 l0_4 a1) true a0_0 a0_1 l0_2 l0_3 l0_4)) else (none)) else (none)) else (none)) = some r := h
 clear h
 by_cases c3 : 0 ≤ a1
 ·rw [if_pos c3] at H
  have c3b0 : decide (0 ≤ a1) = true := decide_eq_true c3
  clear c3
  by_cases c4 : a1 < (l0_3.length : Int)
  ·rw [if_pos c4] at H
   have c4b0 : decide (a1 < (l0_3.length : Int)) = true := decide_eq_true c4
   clear c4
   by_cases c5 : a1 < (l0_4.length : Int)
   ·rw [if_pos c5] at H
    have c5b0 : decide (a1 < (l0_4.length : Int)) = true := decide_eq_true c5
    clear c5
    have HC6 := Aside0.mk H
    clear H
    go_enter Tryd.func69, Tryd.ntmps69
    go_upto_region 2 with (first | ((with_reducible refine gate_dst (N := 2) rfl ?_); (try (refine gate_guard (by rfl) ?_; dsimp only)); refine box_event ?hg (N := 2) ?hd (cs := #[.int .i64 a0_0, .int .i64 a0_1, .slice A0_2 l0_2.length c0_2, .slice A0_3 l0_3.length c0_3, .slice A0_4 l0_4.length c0_4]) (t := 48) ?hr ?_; (case hd => rfl); (case hg => rfl); (case hr => first | (go_simp; done) | (go_simp; rfl)); intro gb251 hg w7 hbox hb; have n0_ := Aside0.mk (below_step z_ hb); have n1_ := Aside0.mk (hbox); have n2_ := Aside0.mk ((by rw [hg]; exact (below_size z_) : w.heap.size ≤ gb251)); have n3_ := Aside0.mk ((by rw [hg]; exact (below_size z_) : w.heap.size ≤ gb251)); clear HB; have HB := n0_; have BK251 := n1_; have GW251 := n2_; have GE251 := n3_; clear n0_ n1_ n2_ n3_; clear hb hbox hg; have hcz8_0 : w7.cell? ⟨gb251, 0, none⟩ = some (.int .i64 a0_0) := (blk_cell BK251.out 0).trans rfl; have hcz8_1 : w7.cell? ⟨gb251, 1, none⟩ = some (.int .i64 a0_1) := (blk_cell BK251.out 1).trans rfl; have hcz8_2 : w7.cell? ⟨gb251, 2, none⟩ = some (.slice A0_2 l0_2.length c0_2) := (blk_cell BK251.out 2).trans rfl; have hcz8_3 : w7.cell? ⟨gb251, 3, none⟩ = some (.slice A0_3 l0_3.length c0_3) := (blk_cell BK251.out 3).trans rfl; have hcz8_4 : w7.cell? ⟨gb251, 4, none⟩ = some (.slice A0_4 l0_4.length c0_4) := (blk_cell BK251.out 4).trans rfl; have hfz8_0 := blk_frozen BK251.out 0; have hfz8_1 := blk_frozen BK251.out 1; have hfz8_2 := blk_frozen BK251.out 2; have hfz8_3 := blk_frozen BK251.out 3; have hfz8_4 := blk_frozen BK251.out 4; have p252 : 0 ≤ (a1 : Int) := zd; have q252 : a1 < (l0_3.length : Int) := zd; obtain ⟨ad252, A252_0, c252_0, e252, hx252_0, hl252_0, hi252_0⟩ := at_L4 HR0_3.out a1 p252 q252; cases e252; replace hx252_0 := (HB.out.cell (World.block_lt_of_cell? w _ hx252_0)).trans hx252_0; have HR252_0 := Aside0.mk hi252_0; have HC252_0 := Aside0.mk hl252_0; clear hi252_0 hl252_0; replace p252 := eq_true p252; replace q252 := eq_true q252; have p253 : 0 ≤ (a1 : Int) := zd; have q253 : a1 < (l0_4.length : Int) := zd; obtain ⟨ad253, A253_0, c253_0, e253, hx253_0, hl253_0, hi253_0⟩ := at_L4 HR0_4.out a1 p253 q253; cases e253; replace hx253_0 := (HB.out.cell (World.block_lt_of_cell? w _ hx253_0)).trans hx253_0; have HR253_0 := Aside0.mk hi253_0; have HC253_0 := Aside0.mk hl253_0; clear hi253_0 hl253_0; replace p253 := eq_true p253; replace q253 := eq_true q253))
    repeat (go_quiet (first | ((with_reducible refine gate_dst (N := 2) rfl ?_); (try (refine gate_guard (by rfl) ?_; dsimp only)); refine box_event ?hg (N := 2) ?hd (cs := #[.int .i64 a0_0, .int .i64 a0_1, .slice A0_2 l0_2.length c0_2, .slice A0_3 l0_3.length c0_3, .slice A0_4 l0_4.length c0_4]) (t := 48) ?hr ?_; (case hd => rfl); (case hg => rfl); (case hr => first | (go_simp; done) | (go_simp; rfl)); intro gb251 hg w7 hbox hb; have n0_ := Aside0.mk (below_step z_ hb); have n1_ := Aside0.mk (hbox); have n2_ := Aside0.mk ((by rw [hg]; exact (below_size z_) : w.heap.size ≤ gb251)); have n3_ := Aside0.mk ((by rw [hg]; exact (below_size z_) : w.heap.size ≤ gb251)); clear HB; have HB := n0_; have BK251 := n1_; have GW251 := n2_; have GE251 := n3_; clear n0_ n1_ n2_ n3_; clear hb hbox hg; have hcz8_0 : w7.cell? ⟨gb251, 0, none⟩ = some (.int .i64 a0_0) := (blk_cell BK251.out 0).trans rfl; have hcz8_1 : w7.cell? ⟨gb251, 1, none⟩ = some (.int .i64 a0_1) := (blk_cell BK251.out 1).trans rfl; have hcz8_2 : w7.cell? ⟨gb251, 2, none⟩ = some (.slice A0_2 l0_2.length c0_2) := (blk_cell BK251.out 2).trans rfl; have hcz8_3 : w7.cell? ⟨gb251, 3, none⟩ = some (.slice A0_3 l0_3.length c0_3) := (blk_cell BK251.out 3).trans rfl; have hcz8_4 : w7.cell? ⟨gb251, 4, none⟩ = some (.slice A0_4 l0_4.length c0_4) := (blk_cell BK251.out 4).trans rfl; have hfz8_0 := blk_frozen BK251.out 0; have hfz8_1 := blk_frozen BK251.out 1; have hfz8_2 := blk_frozen BK251.out 2; have hfz8_3 := blk_frozen BK251.out 3; have hfz8_4 := blk_frozen BK251.out 4; have p252 : 0 ≤ (a1 : Int) := zd; have q252 : a1 < (l0_3.length : Int) := zd; obtain ⟨ad252, A252_0, c252_0, e252, hx252_0, hl252_0, hi252_0⟩ := at_L4 HR0_3.out a1 p252 q252; cases e252; replace hx252_0 := (HB.out.cell (World.block_lt_of_cell? w _ hx252_0)).trans hx252_0; have HR252_0 := Aside0.mk hi252_0; have HC252_0 := Aside0.mk hl252_0; clear hi252_0 hl252_0; replace p252 := eq_true p252; replace q252 := eq_true q252; have p253 : 0 ≤ (a1 : Int) := zd; have q253 : a1 < (l0_4.length : Int) := zd; obtain ⟨ad253, A253_0, c253_0, e253, hx253_0, hl253_0, hi253_0⟩ := at_L4 HR0_4.out a1 p253 q253; cases e253; replace hx253_0 := (HB.out.cell (World.block_lt_of_cell? w _ hx253_0)).trans hx253_0; have HR253_0 := Aside0.mk hi253_0; have HC253_0 := Aside0.mk hl253_0; clear hi253_0 hl253_0; replace p253 := eq_true p253; replace q253 := eq_true q253)); go_upto_region 2 with (first | ((with_reducible refine gate_dst (N := 2) rfl ?_); (try (refine gate_guard (by rfl) ?_; dsimp only)); refine box_event ?hg (N := 2) ?hd (cs := #[.int .i64 a0_0, .int .i64 a0_1, .slice A0_2 l0_2.length c0_2, .slice A0_3 l0_3.length c0_3, .slice A0_4 l0_4.length c0_4]) (t := 48) ?hr ?_; (case hd => rfl); (case hg => rfl); (case hr => first | (go_simp; done) | (go_simp; rfl)); intro gb251 hg w7 hbox hb; have n0_ := Aside0.mk (below_step z_ hb); have n1_ := Aside0.mk (hbox); have n2_ := Aside0.mk ((by rw [hg]; exact (below_size z_) : w.heap.size ≤ gb251)); have n3_ := Aside0.mk ((by rw [hg]; exact (below_size z_) : w.heap.size ≤ gb251)); clear HB; have HB := n0_; have BK251 := n1_; have GW251 := n2_; have GE251 := n3_; clear n0_ n1_ n2_ n3_; clear hb hbox hg; have hcz8_0 : w7.cell? ⟨gb251, 0, none⟩ = some (.int .i64 a0_0) := (blk_cell BK251.out 0).trans rfl; have hcz8_1 : w7.cell? ⟨gb251, 1, none⟩ = some (.int .i64 a0_1) := (blk_cell BK251.out 1).trans rfl; have hcz8_2 : w7.cell? ⟨gb251, 2, none⟩ = some (.slice A0_2 l0_2.length c0_2) := (blk_cell BK251.out 2).trans rfl; have hcz8_3 : w7.cell? ⟨gb251, 3, none⟩ = some (.slice A0_3 l0_3.length c0_3) := (blk_cell BK251.out 3).trans rfl; have hcz8_4 : w7.cell? ⟨gb251, 4, none⟩ = some (.slice A0_4 l0_4.length c0_4) := (blk_cell BK251.out 4).trans rfl; have hfz8_0 := blk_frozen BK251.out 0; have hfz8_1 := blk_frozen BK251.out 1; have hfz8_2 := blk_frozen BK251.out 2; have hfz8_3 := blk_frozen BK251.out 3; have hfz8_4 := blk_frozen BK251.out 4; have p252 : 0 ≤ (a1 : Int) := zd; have q252 : a1 < (l0_3.length : Int) := zd; obtain ⟨ad252, A252_0, c252_0, e252, hx252_0, hl252_0, hi252_0⟩ := at_L4 HR0_3.out a1 p252 q252; cases e252; replace hx252_0 := (HB.out.cell (World.block_lt_of_cell? w _ hx252_0)).trans hx252_0; have HR252_0 := Aside0.mk hi252_0; have HC252_0 := Aside0.mk hl252_0; clear hi252_0 hl252_0; replace p252 := eq_true p252; replace q252 := eq_true q252; have p253 : 0 ≤ (a1 : Int) := zd; have q253 : a1 < (l0_4.length : Int) := zd; obtain ⟨ad253, A253_0, c253_0, e253, hx253_0, hl253_0, hi253_0⟩ := at_L4 HR0_4.out a1 p253 q253; cases e253; replace hx253_0 := (HB.out.cell (World.block_lt_of_cell? w _ hx253_0)).trans hx253_0; have HR253_0 := Aside0.mk hi253_0; have HC253_0 := Aside0.mk hl253_0; clear hi253_0 hl253_0; replace p253 := eq_true p253; replace q253 := eq_true q253)))
    (try simp only [Act.put, List.setIfInBounds_toArray, List.set_cons_zero, List.set_cons_succ])
    go_cut [36] (fun v36 wc => ∃ (kq : Nat) (x36_5 : Bool), v36 = .bool x36_5 ∧ Aside0 (impl_Tables_listOk.j0 kq a1 (rd_L4 l0_3 a1) (rd_L4 l0_4 a1) x36_5 a0_0 a0_1 l0_2 l0_3 l0_4 = some r) ∧ Aside0 (kq ≤ k) ∧ Aside0 (wc.heap[gb251]? = some (.cells #[.int .i64 a0_0, .int .i64 a0_1, (.slice A0_2 l0_2.length c0_2), (.slice (some ad252) l0_3.length c0_3), (.slice (some ad253) l0_4.length c0_4)] 48 (0, 0))) ∧ Aside0 (Below w.heap.size w wc))
    case first =>
     have H := HC6.out
     clear HC6
     by_cases c9 : ((rd_L4 l0_3 a1).length : Int) = (wrap64 (a0_0 * a0_1))
     ·rw [if_pos c9] at H
      have c9b0 : (((rd_L4 l0_3 a1).length : Int) == (wrap64 (a0_0 * a0_1))) = true := beq_iff_eq.mpr c9
      have c9b1 : (((rd_L4 l0_3 a1).length : Int) != (wrap64 (a0_0 * a0_1))) = false := bne_eq_false_iff_eq.mpr c9
      clear c9
      (first | rw [c9b0] | (simp only [i64_w, i32_w]; rw [c9b0]) | skip)
      have H' := Aside0.mk H
      clear H
      have hcz10_0 : w7.cell? ⟨gb251, 0, none⟩ = some (.int .i64 a0_0) := (blk_cell BK251.out 0).trans rfl
      have hcz10_1 : w7.cell? ⟨gb251, 1, none⟩ = some (.int .i64 a0_1) := (blk_cell BK251.out 1).trans rfl
      have hcz10_2 : w7.cell? ⟨gb251, 2, none⟩ = some (.slice A0_2 l0_2.length c0_2) := (blk_cell BK251.out 2).trans rfl
      have hcz10_3 : w7.cell? ⟨gb251, 3, none⟩ = some (.slice (some ad252) l0_3.length c0_3) := (blk_cell BK251.out 3).trans rfl
      have hcz10_4 : w7.cell? ⟨gb251, 4, none⟩ = some (.slice (some ad253) l0_4.length c0_4) := (blk_cell BK251.out 4).trans rfl
      have hfz10_0 := blk_frozen BK251.out 0
      have hfz10_1 := blk_frozen BK251.out 1
      have hfz10_2 := blk_frozen BK251.out 2
      have hfz10_3 := blk_frozen BK251.out 3
      have hfz10_4 := blk_frozen BK251.out 4
      go_wp2
      repeat (go_quiet (fail); try go_wp2)
      go_meet
      case rel => exact ⟨_, ((((rd_L4 l0_4 a1).length : Int) != (wrap64 (a0_0 * a0_1)))), zr, H', ⟨by first | omega | exact Nat.le_refl _⟩, ⟨zb BK251.out⟩, ⟨zs GE251.out⟩⟩
     ·rw [if_neg c9] at H
      have c9b0 : (((rd_L4 l0_3 a1).length : Int) == (wrap64 (a0_0 * a0_1))) = false := beq_eq_false_iff_ne.mpr c9
      have c9b1 : (((rd_L4 l0_3 a1).length : Int) != (wrap64 (a0_0 * a0_1))) = true := bne_iff_ne.mpr c9
      (first | rw [c9b0] | (simp only [i64_w, i32_w]; rw [c9b0]) | skip)
      have H' := Aside0.mk H
      clear H
      have hcz11_0 : w7.cell? ⟨gb251, 0, none⟩ = some (.int .i64 a0_0) := (blk_cell BK251.out 0).trans rfl
      have hcz11_1 : w7.cell? ⟨gb251, 1, none⟩ = some (.int .i64 a0_1) := (blk_cell BK251.out 1).trans rfl
      have hcz11_2 : w7.cell? ⟨gb251, 2, none⟩ = some (.slice A0_2 l0_2.length c0_2) := (blk_cell BK251.out 2).trans rfl
      have hcz11_3 : w7.cell? ⟨gb251, 3, none⟩ = some (.slice (some ad252) l0_3.length c0_3) := (blk_cell BK251.out 3).trans rfl
      have hcz11_4 : w7.cell? ⟨gb251, 4, none⟩ = some (.slice (some ad253) l0_4.length c0_4) := (blk_cell BK251.out 4).trans rfl
      have hfz11_0 := blk_frozen BK251.out 0
      have hfz11_1 := blk_frozen BK251.out 1
      have hfz11_2 := blk_frozen BK251.out 2
      have hfz11_3 := blk_frozen BK251.out 3
      have hfz11_4 := blk_frozen BK251.out 4
      go_wp2
      repeat (go_quiet (fail); try go_wp2)
      go_meet
      case rel => exact ⟨_, (true), zr, H', ⟨by first | omega | exact Nat.le_refl _⟩, ⟨zb BK251.out⟩, ⟨zs GE251.out⟩⟩
    case rest =>
     clear HC6
     try clear c2
     try clear p2
     try clear q2
     try clear hx2
     try clear c3
     try clear c3b0
     try clear c4
     try clear c4b0
     try clear c5
     try clear c5b0
     try clear c6
     try clear p6
     try clear c9
     try clear c9b0
     try clear c9b1
     try clear hcz10_0
     try clear hcz10_1
     try clear hcz10_2
     try clear hcz10_3
     try clear hcz10_4
     try clear hcz11_0
     try clear hcz11_1
     try clear hcz11_2
     try clear hcz11_3
     try clear hcz11_4
     try clear hcz8_0
     try clear hcz8_1
     try clear hcz8_2
     try clear hcz8_3
     try clear hcz8_4
     try clear hfz10_0
     try clear hfz10_1
     try clear hfz10_2
     try clear hfz10_3
     try clear hfz10_4
     try clear hfz11_0
     try clear hfz11_1
     try clear hfz11_2
     try clear hfz11_3
     try clear hfz11_4
     try clear hfz8_0
     try clear hfz8_1
     try clear hfz8_2
     try clear hfz8_3
     try clear hfz8_4
     try clear hx252_0
     try clear hx253_0
     try clear p252
     try clear p253
     try clear q252
     try clear q253
     obtain ⟨kq, x36_5, rfl, HA, HJ5, BK251, HB⟩ := hcut
     cases kq with
     | zero => exact absurd HA.out (by simp [impl_Tables_listOk.j0])
     | succ kj5 =>
      have H := HA.out
      clear HA
      simp only [impl_Tables_listOk.j0] at H
      by_cases c12 : x36_5 = true
      ·subst c12
       have H1 : (some false) = some r := by rw [if_pos rfl] at H; exact H
       clear H
       have H := H1
       clear H1
       obtain rfl := Option.some.inj H
       go_wp2
       repeat (go_quiet (fail); try go_wp2)
       go_ret
       exact ⟨ze, (zs GE251.out)⟩
      ·replace c12 := Bool.eq_false_iff.mpr c12
       subst c12
       have H1 : (impl_Tables_listOk.l0 kj5 a1 (rd_L4 l0_3 a1) (rd_L4 l0_4 a1) ((rd_L4 l0_3 a1).length : Int) 0 a0_0 a0_1 l0_2 l0_3 l0_4) = some r := by rw [if_neg (show ¬ (false = true) by decide)] at H; exact H
       clear H
       have H := H1
       clear H1
       have H' := Aside0.mk H
       clear H
       go_wp2
       repeat (go_quiet (fail); try go_wp2)
       go_loopg [39] kj5 (fun kq v39 w' => ∃ (x39_2 : Int), v39 = .int .i64 x39_2 ∧ Aside0 (impl_Tables_listOk.l0 kq a1 (rd_L4 l0_3 a1) (rd_L4 l0_4 a1) ((rd_L4 l0_3 a1).length : Int) x39_2 a0_0 a0_1 l0_2 l0_3 l0_4 = some r) ∧ Aside0 (kq ≤ kj5) ∧ Aside0 (w'.heap[gb251]? = some (.cells #[.int .i64 a0_0, .int .i64 a0_1, (.slice A0_2 l0_2.length c0_2), (.slice (some ad252) l0_3.length c0_3), (.slice (some ad253) l0_4.length c0_4)] 48 (0, 0))) ∧ Aside0 (Below w.heap.size w w'))
       case atStart => exact ⟨(0), zr, H', ⟨Nat.le_refl _⟩, ⟨zb BK251.out⟩, ⟨zs GE251.out⟩⟩
       case round =>
        clear H'
        try clear c1
        try clear c2
        try clear p2
        try clear q2
        try clear hx2
        try clear c3
        try clear c3b0
        try clear c4
        try clear c4b0
        try clear c5
        try clear c5b0
        try clear c6
        try clear p6
        try clear c9
        try clear c9b0
        try clear c9b1
        try clear c12
        try clear hcz10_0
        try clear hcz10_1
        try clear hcz10_2
        try clear hcz10_3
        try clear hcz10_4
        try clear hcz11_0
        try clear hcz11_1
        try clear hcz11_2
        try clear hcz11_3
        try clear hcz11_4
        try clear hcz8_0
        try clear hcz8_1
        try clear hcz8_2
        try clear hcz8_3
        try clear hcz8_4
        try clear hfz10_0
        try clear hfz10_1
        try clear hfz10_2
        try clear hfz10_3
        try clear hfz10_4
        try clear hfz11_0
        try clear hfz11_1
        try clear hfz11_2
        try clear hfz11_3
        try clear hfz11_4
        try clear hfz8_0
        try clear hfz8_1
        try clear hfz8_2
        try clear hfz8_3
        try clear hfz8_4
        try clear hx252_0
        try clear hx253_0
        try clear p2
        try clear p252
        try clear p253
        try clear p6
        try clear q2
        try clear q252
        try clear q253
        obtain ⟨x39_2, rfl, HA, HK2, BK251, HB⟩ := hrel
        cases gk with
        | zero => exact absurd HA.out (by simp [impl_Tables_listOk.l0])
        | succ k2 =>
         have H := HA.out
         clear HA
         simp only [impl_Tables_listOk.l0] at H
         by_cases c13 : x39_2 < ((rd_L4 l0_3 a1).length : Int)
         ·rw [if_pos c13] at H
          have c13b0 : decide (x39_2 < ((rd_L4 l0_3 a1).length : Int)) = true := decide_eq_true c13
          clear c13
          by_cases c14 : 0 ≤ a1
          ·rw [if_pos c14] at H
           have c14b0 : decide (0 ≤ a1) = true := decide_eq_true c14
           clear c14
           by_cases c15 : a1 < (l0_2.length : Int)
           ·rw [if_pos c15] at H
            have c15b0 : decide (a1 < (l0_2.length : Int)) = true := decide_eq_true c15
            clear c15
            by_cases c16 : x39_2 = ((rd_T74 l0_2 a1).f2)
            ·rw [if_pos c16] at H
             have c16b0 : (x39_2 == ((rd_T74 l0_2 a1).f2)) = true := beq_iff_eq.mpr c16
             have c16b1 : (x39_2 != ((rd_T74 l0_2 a1).f2)) = false := bne_eq_false_iff_eq.mpr c16
             clear c16
             by_cases c17 : 0 ≤ x39_2
             ·rw [if_pos c17] at H
              have c17b0 : decide (0 ≤ x39_2) = true := decide_eq_true c17
              clear c17
              by_cases c18 : x39_2 < ((rd_L4 l0_3 a1).length : Int)
              ·rw [if_pos c18] at H
               have c18b0 : decide (x39_2 < ((rd_L4 l0_3 a1).length : Int)) = true := decide_eq_true c18
               clear c18
               by_cases c19 : (rd (rd_L4 l0_3 a1) x39_2) = 0
               ·rw [if_pos c19] at H
                have c19b0 : ((rd (rd_L4 l0_3 a1) x39_2) == 0) = true := beq_iff_eq.mpr c19
                have c19b1 : ((rd (rd_L4 l0_3 a1) x39_2) != 0) = false := bne_eq_false_iff_eq.mpr c19
                clear c19
                by_cases c20 : x39_2 < ((rd_L4 l0_4 a1).length : Int)
                ·rw [if_pos c20] at H
                 have c20b0 : decide (x39_2 < ((rd_L4 l0_4 a1).length : Int)) = true := decide_eq_true c20
                 clear c20
                 by_cases c21 : (rd (rd_L4 l0_4 a1) x39_2) = (-1)
                 ·rw [if_pos c21] at H
                  have c21b0 : ((rd (rd_L4 l0_4 a1) x39_2) == (-1)) = true := beq_iff_eq.mpr c21
                  have c21b1 : ((rd (rd_L4 l0_4 a1) x39_2) != (-1)) = false := bne_eq_false_iff_eq.mpr c21
                  clear c21
                  have H' := Aside0.mk H
                  clear H
                  have hcz22_0 : wr.cell? ⟨gb251, 0, none⟩ = some (.int .i64 a0_0) := (blk_cell BK251.out 0).trans rfl
                  have hcz22_1 : wr.cell? ⟨gb251, 1, none⟩ = some (.int .i64 a0_1) := (blk_cell BK251.out 1).trans rfl
                  have hcz22_2 : wr.cell? ⟨gb251, 2, none⟩ = some (.slice A0_2 l0_2.length c0_2) := (blk_cell BK251.out 2).trans rfl
                  have hcz22_3 : wr.cell? ⟨gb251, 3, none⟩ = some (.slice (some ad252) l0_3.length c0_3) := (blk_cell BK251.out 3).trans rfl
                  have hcz22_4 : wr.cell? ⟨gb251, 4, none⟩ = some (.slice (some ad253) l0_4.length c0_4) := (blk_cell BK251.out 4).trans rfl
                  have hfz22_0 := blk_frozen BK251.out 0
                  have hfz22_1 := blk_frozen BK251.out 1
                  have hfz22_2 := blk_frozen BK251.out 2
                  have hfz22_3 := blk_frozen BK251.out 3
                  have hfz22_4 := blk_frozen BK251.out 4
                  have p254 : 0 ≤ (a1 : Int) := zd
                  have q254 : a1 < (l0_2.length : Int) := zd
                  obtain ⟨ad254, A254_0, c254_0, e254, hx254_0, hx254_1, hx254_2, hl254_0, hi254_0⟩ := at_T74 HR0_2.out a1 p254 q254
                  cases e254
                  replace hx254_0 := (HB.out.cell (World.block_lt_of_cell? w _ hx254_0)).trans hx254_0
                  replace hx254_1 := (HB.out.cell (World.block_lt_of_cell? w _ hx254_1)).trans hx254_1
                  replace hx254_2 := (HB.out.cell (World.block_lt_of_cell? w _ hx254_2)).trans hx254_2
                  have HR254_0 := Aside0.mk hi254_0
                  have HC254_0 := Aside0.mk hl254_0
                  clear hi254_0 hl254_0
                  replace p254 := eq_true p254
                  replace q254 := eq_true q254
                  have p255 : 0 ≤ (x39_2 : Int) := zd
                  have q255 : x39_2 < ((rd_L4 l0_3 a1).length : Int) := zd
                  obtain ⟨ad255, e255, hx255_0⟩ := Kd.at_int HR252_0.out x39_2 p255 q255
                  cases e255
                  replace hx255_0 := (HB.out.cell (World.block_lt_of_cell? w _ hx255_0)).trans hx255_0
                  replace p255 := eq_true p255
                  replace q255 := eq_true q255
                  have p256 : 0 ≤ (x39_2 : Int) := zd
                  have q256 : x39_2 < ((rd_L4 l0_4 a1).length : Int) := zd
                  obtain ⟨ad256, e256, hx256_0⟩ := Kd.at_int HR253_0.out x39_2 p256 q256
                  cases e256
                  replace hx256_0 := (HB.out.cell (World.block_lt_of_cell? w _ hx256_0)).trans hx256_0
                  replace p256 := eq_true p256
                  replace q256 := eq_true q256
                  go_wp2
                  repeat (go_quiet (fail); try go_wp2)
                  go_roundg k2
                  case measure => have := HJ5.out; have := HK2.out; omega
                  case rel => exact ⟨(wrap64 (x39_2 + 1)), zr, H', ⟨by have := HJ5.out; have := HK2.out; omega⟩, ⟨zb BK251.out⟩, ⟨zs GE251.out⟩⟩
                 ·rw [if_neg c21] at H
                  have c21b0 : ((rd (rd_L4 l0_4 a1) x39_2) == (-1)) = false := beq_eq_false_iff_ne.mpr c21
                  have c21b1 : ((rd (rd_L4 l0_4 a1) x39_2) != (-1)) = true := bne_iff_ne.mpr c21
                  obtain rfl := Option.some.inj H
                  have hcz23_0 : wr.cell? ⟨gb251, 0, none⟩ = some (.int .i64 a0_0) := (blk_cell BK251.out 0).trans rfl
                  have hcz23_1 : wr.cell? ⟨gb251, 1, none⟩ = some (.int .i64 a0_1) := (blk_cell BK251.out 1).trans rfl
                  have hcz23_2 : wr.cell? ⟨gb251, 2, none⟩ = some (.slice A0_2 l0_2.length c0_2) := (blk_cell BK251.out 2).trans rfl
                  have hcz23_3 : wr.cell? ⟨gb251, 3, none⟩ = some (.slice (some ad252) l0_3.length c0_3) := (blk_cell BK251.out 3).trans rfl
                  have hcz23_4 : wr.cell? ⟨gb251, 4, none⟩ = some (.slice (some ad253) l0_4.length c0_4) := (blk_cell BK251.out 4).trans rfl
                  have hfz23_0 := blk_frozen BK251.out 0
                  have hfz23_1 := blk_frozen BK251.out 1
                  have hfz23_2 := blk_frozen BK251.out 2
                  have hfz23_3 := blk_frozen BK251.out 3
                  have hfz23_4 := blk_frozen BK251.out 4
                  have p254 : 0 ≤ (a1 : Int) := zd
                  have q254 : a1 < (l0_2.length : Int) := zd
                  obtain ⟨ad254, A254_0, c254_0, e254, hx254_0, hx254_1, hx254_2, hl254_0, hi254_0⟩ := at_T74 HR0_2.out a1 p254 q254
                  cases e254
                  replace hx254_0 := (HB.out.cell (World.block_lt_of_cell? w _ hx254_0)).trans hx254_0
                  replace hx254_1 := (HB.out.cell (World.block_lt_of_cell? w _ hx254_1)).trans hx254_1
                  replace hx254_2 := (HB.out.cell (World.block_lt_of_cell? w _ hx254_2)).trans hx254_2
                  have HR254_0 := Aside0.mk hi254_0
                  have HC254_0 := Aside0.mk hl254_0
                  clear hi254_0 hl254_0
                  replace p254 := eq_true p254
                  replace q254 := eq_true q254
                  have p255 : 0 ≤ (x39_2 : Int) := zd
                  have q255 : x39_2 < ((rd_L4 l0_3 a1).length : Int) := zd
                  obtain ⟨ad255, e255, hx255_0⟩ := Kd.at_int HR252_0.out x39_2 p255 q255
                  cases e255
                  replace hx255_0 := (HB.out.cell (World.block_lt_of_cell? w _ hx255_0)).trans hx255_0
                  replace p255 := eq_true p255
                  replace q255 := eq_true q255
                  have p256 : 0 ≤ (x39_2 : Int) := zd
                  have q256 : x39_2 < ((rd_L4 l0_4 a1).length : Int) := zd
                  obtain ⟨ad256, e256, hx256_0⟩ := Kd.at_int HR253_0.out x39_2 p256 q256
                  cases e256
                  replace hx256_0 := (HB.out.cell (World.block_lt_of_cell? w _ hx256_0)).trans hx256_0
                  replace p256 := eq_true p256
                  replace q256 := eq_true q256
                  go_wp2
                  repeat (go_quiet (fail); try go_wp2)
                  go_ret
                  exact ⟨ze, (zs GE251.out)⟩
                ·rw [if_neg c20] at H
                 exact absurd H (by simp)
               ·rw [if_neg c19] at H
                have c19b0 : ((rd (rd_L4 l0_3 a1) x39_2) == 0) = false := beq_eq_false_iff_ne.mpr c19
                have c19b1 : ((rd (rd_L4 l0_3 a1) x39_2) != 0) = true := bne_iff_ne.mpr c19
                obtain rfl := Option.some.inj H
                have hcz24_0 : wr.cell? ⟨gb251, 0, none⟩ = some (.int .i64 a0_0) := (blk_cell BK251.out 0).trans rfl
                have hcz24_1 : wr.cell? ⟨gb251, 1, none⟩ = some (.int .i64 a0_1) := (blk_cell BK251.out 1).trans rfl
                have hcz24_2 : wr.cell? ⟨gb251, 2, none⟩ = some (.slice A0_2 l0_2.length c0_2) := (blk_cell BK251.out 2).trans rfl
                have hcz24_3 : wr.cell? ⟨gb251, 3, none⟩ = some (.slice (some ad252) l0_3.length c0_3) := (blk_cell BK251.out 3).trans rfl
                have hcz24_4 : wr.cell? ⟨gb251, 4, none⟩ = some (.slice (some ad253) l0_4.length c0_4) := (blk_cell BK251.out 4).trans rfl
                have hfz24_0 := blk_frozen BK251.out 0
                have hfz24_1 := blk_frozen BK251.out 1
                have hfz24_2 := blk_frozen BK251.out 2
                have hfz24_3 := blk_frozen BK251.out 3
                have hfz24_4 := blk_frozen BK251.out 4
                have p254 : 0 ≤ (a1 : Int) := zd
                have q254 : a1 < (l0_2.length : Int) := zd
                obtain ⟨ad254, A254_0, c254_0, e254, hx254_0, hx254_1, hx254_2, hl254_0, hi254_0⟩ := at_T74 HR0_2.out a1 p254 q254
                cases e254
                replace hx254_0 := (HB.out.cell (World.block_lt_of_cell? w _ hx254_0)).trans hx254_0
                replace hx254_1 := (HB.out.cell (World.block_lt_of_cell? w _ hx254_1)).trans hx254_1
                replace hx254_2 := (HB.out.cell (World.block_lt_of_cell? w _ hx254_2)).trans hx254_2
                have HR254_0 := Aside0.mk hi254_0
                have HC254_0 := Aside0.mk hl254_0
                clear hi254_0 hl254_0
                replace p254 := eq_true p254
                replace q254 := eq_true q254
                have p255 : 0 ≤ (x39_2 : Int) := zd
                have q255 : x39_2 < ((rd_L4 l0_3 a1).length : Int) := zd
                obtain ⟨ad255, e255, hx255_0⟩ := Kd.at_int HR252_0.out x39_2 p255 q255
                cases e255
                replace hx255_0 := (HB.out.cell (World.block_lt_of_cell? w _ hx255_0)).trans hx255_0
                replace p255 := eq_true p255
                replace q255 := eq_true q255
                go_wp2
                repeat (go_quiet (fail); try go_wp2)
                go_ret
                exact ⟨ze, (zs GE251.out)⟩
              ·rw [if_neg c18] at H
               exact absurd H (by simp)
             ·rw [if_neg c17] at H
              exact absurd H (by simp)
            ·rw [if_neg c16] at H
             have c16b0 : (x39_2 == ((rd_T74 l0_2 a1).f2)) = false := beq_eq_false_iff_ne.mpr c16
             have c16b1 : (x39_2 != ((rd_T74 l0_2 a1).f2)) = true := bne_iff_ne.mpr c16
             by_cases c25 : 0 ≤ x39_2
             ·rw [if_pos c25] at H
              have c25b0 : decide (0 ≤ x39_2) = true := decide_eq_true c25
              clear c25
              by_cases c26 : x39_2 < ((rd_L4 l0_3 a1).length : Int)
              ·rw [if_pos c26] at H
               have c26b0 : decide (x39_2 < ((rd_L4 l0_3 a1).length : Int)) = true := decide_eq_true c26
               clear c26
               by_cases c27 : (rd (rd_L4 l0_3 a1) x39_2) = (-1)
               ·rw [if_pos c27] at H
                have c27b0 : ((rd (rd_L4 l0_3 a1) x39_2) == (-1)) = true := beq_iff_eq.mpr c27
                have c27b1 : ((rd (rd_L4 l0_3 a1) x39_2) != (-1)) = false := bne_eq_false_iff_eq.mpr c27
                clear c27
                by_cases c28 : x39_2 < ((rd_L4 l0_4 a1).length : Int)
                ·rw [if_pos c28] at H
                 have c28b0 : decide (x39_2 < ((rd_L4 l0_4 a1).length : Int)) = true := decide_eq_true c28
                 clear c28
                 by_cases c29 : (rd (rd_L4 l0_4 a1) x39_2) = (-1)
                 ·rw [if_pos c29] at H
                  have c29b0 : ((rd (rd_L4 l0_4 a1) x39_2) == (-1)) = true := beq_iff_eq.mpr c29
                  have c29b1 : ((rd (rd_L4 l0_4 a1) x39_2) != (-1)) = false := bne_eq_false_iff_eq.mpr c29
                  clear c29
                  have H' := Aside0.mk H
                  clear H
                  have hcz30_0 : wr.cell? ⟨gb251, 0, none⟩ = some (.int .i64 a0_0) := (blk_cell BK251.out 0).trans rfl
                  have hcz30_1 : wr.cell? ⟨gb251, 1, none⟩ = some (.int .i64 a0_1) := (blk_cell BK251.out 1).trans rfl
                  have hcz30_2 : wr.cell? ⟨gb251, 2, none⟩ = some (.slice A0_2 l0_2.length c0_2) := (blk_cell BK251.out 2).trans rfl
                  have hcz30_3 : wr.cell? ⟨gb251, 3, none⟩ = some (.slice (some ad252) l0_3.length c0_3) := (blk_cell BK251.out 3).trans rfl
                  have hcz30_4 : wr.cell? ⟨gb251, 4, none⟩ = some (.slice (some ad253) l0_4.length c0_4) := (blk_cell BK251.out 4).trans rfl
                  have hfz30_0 := blk_frozen BK251.out 0
                  have hfz30_1 := blk_frozen BK251.out 1
                  have hfz30_2 := blk_frozen BK251.out 2
                  have hfz30_3 := blk_frozen BK251.out 3
                  have hfz30_4 := blk_frozen BK251.out 4
                  have p254 : 0 ≤ (a1 : Int) := zd
                  have q254 : a1 < (l0_2.length : Int) := zd
                  obtain ⟨ad254, A254_0, c254_0, e254, hx254_0, hx254_1, hx254_2, hl254_0, hi254_0⟩ := at_T74 HR0_2.out a1 p254 q254
                  cases e254
                  replace hx254_0 := (HB.out.cell (World.block_lt_of_cell? w _ hx254_0)).trans hx254_0
                  replace hx254_1 := (HB.out.cell (World.block_lt_of_cell? w _ hx254_1)).trans hx254_1
                  replace hx254_2 := (HB.out.cell (World.block_lt_of_cell? w _ hx254_2)).trans hx254_2
                  have HR254_0 := Aside0.mk hi254_0
                  have HC254_0 := Aside0.mk hl254_0
                  clear hi254_0 hl254_0
                  replace p254 := eq_true p254
                  replace q254 := eq_true q254
                  have p257 : 0 ≤ (x39_2 : Int) := zd
                  have q257 : x39_2 < ((rd_L4 l0_3 a1).length : Int) := zd
                  obtain ⟨ad257, e257, hx257_0⟩ := Kd.at_int HR252_0.out x39_2 p257 q257
                  cases e257
                  replace hx257_0 := (HB.out.cell (World.block_lt_of_cell? w _ hx257_0)).trans hx257_0
                  replace p257 := eq_true p257
                  replace q257 := eq_true q257
                  have p258 : 0 ≤ (x39_2 : Int) := zd
                  have q258 : x39_2 < ((rd_L4 l0_4 a1).length : Int) := zd
                  obtain ⟨ad258, e258, hx258_0⟩ := Kd.at_int HR253_0.out x39_2 p258 q258
                  cases e258
                  replace hx258_0 := (HB.out.cell (World.block_lt_of_cell? w _ hx258_0)).trans hx258_0
                  replace p258 := eq_true p258
                  replace q258 := eq_true q258
                  go_wp2
                  repeat (go_quiet (fail); try go_wp2)
                  go_roundg k2
                  case measure => have := HJ5.out; have := HK2.out; omega
                  case rel => exact ⟨(wrap64 (x39_2 + 1)), zr, H', ⟨by have := HJ5.out; have := HK2.out; omega⟩, ⟨zb BK251.out⟩, ⟨zs GE251.out⟩⟩
                 ·rw [if_neg c29] at H
                  have c29b0 : ((rd (rd_L4 l0_4 a1) x39_2) == (-1)) = false := beq_eq_false_iff_ne.mpr c29
                  have c29b1 : ((rd (rd_L4 l0_4 a1) x39_2) != (-1)) = true := bne_iff_ne.mpr c29
                  obtain rfl := Option.some.inj H
                  have hcz31_0 : wr.cell? ⟨gb251, 0, none⟩ = some (.int .i64 a0_0) := (blk_cell BK251.out 0).trans rfl
                  have hcz31_1 : wr.cell? ⟨gb251, 1, none⟩ = some (.int .i64 a0_1) := (blk_cell BK251.out 1).trans rfl
                  have hcz31_2 : wr.cell? ⟨gb251, 2, none⟩ = some (.slice A0_2 l0_2.length c0_2) := (blk_cell BK251.out 2).trans rfl
                  have hcz31_3 : wr.cell? ⟨gb251, 3, none⟩ = some (.slice (some ad252) l0_3.length c0_3) := (blk_cell BK251.out 3).trans rfl
                  have hcz31_4 : wr.cell? ⟨gb251, 4, none⟩ = some (.slice (some ad253) l0_4.length c0_4) := (blk_cell BK251.out 4).trans rfl
                  have hfz31_0 := blk_frozen BK251.out 0
                  have hfz31_1 := blk_frozen BK251.out 1
                  have hfz31_2 := blk_frozen BK251.out 2
                  have hfz31_3 := blk_frozen BK251.out 3
                  have hfz31_4 := blk_frozen BK251.out 4
                  have p254 : 0 ≤ (a1 : Int) := zd
                  have q254 : a1 < (l0_2.length : Int) := zd
                  obtain ⟨ad254, A254_0, c254_0, e254, hx254_0, hx254_1, hx254_2, hl254_0, hi254_0⟩ := at_T74 HR0_2.out a1 p254 q254
                  cases e254
                  replace hx254_0 := (HB.out.cell (World.block_lt_of_cell? w _ hx254_0)).trans hx254_0
                  replace hx254_1 := (HB.out.cell (World.block_lt_of_cell? w _ hx254_1)).trans hx254_1
                  replace hx254_2 := (HB.out.cell (World.block_lt_of_cell? w _ hx254_2)).trans hx254_2
                  have HR254_0 := Aside0.mk hi254_0
                  have HC254_0 := Aside0.mk hl254_0
                  clear hi254_0 hl254_0
                  replace p254 := eq_true p254
                  replace q254 := eq_true q254
                  have p257 : 0 ≤ (x39_2 : Int) := zd
                  have q257 : x39_2 < ((rd_L4 l0_3 a1).length : Int) := zd
                  obtain ⟨ad257, e257, hx257_0⟩ := Kd.at_int HR252_0.out x39_2 p257 q257
                  cases e257
                  replace hx257_0 := (HB.out.cell (World.block_lt_of_cell? w _ hx257_0)).trans hx257_0
                  replace p257 := eq_true p257
                  replace q257 := eq_true q257
                  have p258 : 0 ≤ (x39_2 : Int) := zd
                  have q258 : x39_2 < ((rd_L4 l0_4 a1).length : Int) := zd
                  obtain ⟨ad258, e258, hx258_0⟩ := Kd.at_int HR253_0.out x39_2 p258 q258
                  cases e258
                  replace hx258_0 := (HB.out.cell (World.block_lt_of_cell? w _ hx258_0)).trans hx258_0
                  replace p258 := eq_true p258
                  replace q258 := eq_true q258
                  go_wp2
                  repeat (go_quiet (fail); try go_wp2)
                  go_ret
                  exact ⟨ze, (zs GE251.out)⟩
                ·rw [if_neg c28] at H
                 exact absurd H (by simp)
               ·rw [if_neg c27] at H
                have c27b0 : ((rd (rd_L4 l0_3 a1) x39_2) == (-1)) = false := beq_eq_false_iff_ne.mpr c27
                have c27b1 : ((rd (rd_L4 l0_3 a1) x39_2) != (-1)) = true := bne_iff_ne.mpr c27
                have HC32 := Aside0.mk H
                clear H
                have hcz33_0 : wr.cell? ⟨gb251, 0, none⟩ = some (.int .i64 a0_0) := (blk_cell BK251.out 0).trans rfl
                have hcz33_1 : wr.cell? ⟨gb251, 1, none⟩ = some (.int .i64 a0_1) := (blk_cell BK251.out 1).trans rfl
                have hcz33_2 : wr.cell? ⟨gb251, 2, none⟩ = some (.slice A0_2 l0_2.length c0_2) := (blk_cell BK251.out 2).trans rfl
                have hcz33_3 : wr.cell? ⟨gb251, 3, none⟩ = some (.slice (some ad252) l0_3.length c0_3) := (blk_cell BK251.out 3).trans rfl
                have hcz33_4 : wr.cell? ⟨gb251, 4, none⟩ = some (.slice (some ad253) l0_4.length c0_4) := (blk_cell BK251.out 4).trans rfl
                have hfz33_0 := blk_frozen BK251.out 0
                have hfz33_1 := blk_frozen BK251.out 1
                have hfz33_2 := blk_frozen BK251.out 2
                have hfz33_3 := blk_frozen BK251.out 3
                have hfz33_4 := blk_frozen BK251.out 4
                have p254 : 0 ≤ (a1 : Int) := zd
                have q254 : a1 < (l0_2.length : Int) := zd
                obtain ⟨ad254, A254_0, c254_0, e254, hx254_0, hx254_1, hx254_2, hl254_0, hi254_0⟩ := at_T74 HR0_2.out a1 p254 q254
                cases e254
                replace hx254_0 := (HB.out.cell (World.block_lt_of_cell? w _ hx254_0)).trans hx254_0
                replace hx254_1 := (HB.out.cell (World.block_lt_of_cell? w _ hx254_1)).trans hx254_1
                replace hx254_2 := (HB.out.cell (World.block_lt_of_cell? w _ hx254_2)).trans hx254_2
                have HR254_0 := Aside0.mk hi254_0
                have HC254_0 := Aside0.mk hl254_0
                clear hi254_0 hl254_0
                replace p254 := eq_true p254
                replace q254 := eq_true q254
                have p257 : 0 ≤ (x39_2 : Int) := zd
                have q257 : x39_2 < ((rd_L4 l0_3 a1).length : Int) := zd
                obtain ⟨ad257, e257, hx257_0⟩ := Kd.at_int HR252_0.out x39_2 p257 q257
                cases e257
                replace hx257_0 := (HB.out.cell (World.block_lt_of_cell? w _ hx257_0)).trans hx257_0
                replace p257 := eq_true p257
                replace q257 := eq_true q257
                go_upto_region 7 with (fail)
                repeat (go_quiet (fail); go_upto_region 7 with (fail))
                go_cut [67] (fun v67 wc => ∃ (kq : Nat) (x67_31 : Bool), v67 = .bool x67_31 ∧ Aside0 (impl_Tables_listOk.j2 kq a1 (rd_L4 l0_3 a1) (rd_L4 l0_4 a1) x39_2 ((rd_L4 l0_3 a1).length : Int) x39_2 x67_31 a0_0 a0_1 l0_2 l0_3 l0_4 = some r) ∧ Aside0 (kq ≤ k2) ∧ Aside0 (wc.heap[gb251]? = some (.cells #[.int .i64 a0_0, .int .i64 a0_1, (.slice (some ad254) l0_2.length c0_2), (.slice (some ad252) l0_3.length c0_3), (.slice (some ad253) l0_4.length c0_4)] 48 (0, 0))) ∧ Aside0 (Below w.heap.size w wc))
                case first =>
                 have H := HC32.out
                 clear HC32
                 by_cases c34 : (rd (rd_L4 l0_3 a1) x39_2) < 1
                 ·rw [if_pos c34] at H
                  have c34b0 : decide ((rd (rd_L4 l0_3 a1) x39_2) < 1) = true := decide_eq_true c34
                  clear c34
                  (first | rw [c34b0] | (simp only [i64_w, i32_w]; rw [c34b0]) | skip)
                  have H' := Aside0.mk H
                  clear H
                  have p259 : 0 ≤ (x39_2 : Int) := zd
                  have q259 : x39_2 < ((rd_L4 l0_3 a1).length : Int) := zd
                  obtain ⟨ad259, e259, hx259_0⟩ := Kd.at_int HR252_0.out x39_2 p259 q259
                  obtain rfl : ad257 = ad259 := (by injection e259)
                  replace hx259_0 := (HB.out.cell (World.block_lt_of_cell? w _ hx259_0)).trans hx259_0
                  replace p259 := eq_true p259
                  replace q259 := eq_true q259
                  go_wp2
                  repeat (go_quiet (fail); try go_wp2)
                  go_meet
                  case rel => exact ⟨_, (true), zr, H', ⟨by have := HJ5.out; have := HK2.out; first | omega | exact Nat.le_refl _⟩, ⟨zb BK251.out⟩, ⟨zs GE251.out⟩⟩
                 ·rw [if_neg c34] at H
                  have c34b0 : decide ((rd (rd_L4 l0_3 a1) x39_2) < 1) = false := decide_eq_false c34
                  clear c34
                  (first | rw [c34b0] | (simp only [i64_w, i32_w]; rw [c34b0]) | skip)
                  by_cases c35 : (rd (rd_L4 l0_3 a1) x39_2) > 65534
                  ·rw [if_pos c35] at H
                   have c35b0 : decide (65534 < (rd (rd_L4 l0_3 a1) x39_2)) = true := decide_eq_true c35
                   clear c35
                   have H' := Aside0.mk H
                   clear H
                   have p259 : 0 ≤ (x39_2 : Int) := zd
                   have q259 : x39_2 < ((rd_L4 l0_3 a1).length : Int) := zd
                   obtain ⟨ad259, e259, hx259_0⟩ := Kd.at_int HR252_0.out x39_2 p259 q259
                   obtain rfl : ad257 = ad259 := (by injection e259)
                   replace hx259_0 := (HB.out.cell (World.block_lt_of_cell? w _ hx259_0)).trans hx259_0
                   replace p259 := eq_true p259
                   replace q259 := eq_true q259
                   have p260 : 0 ≤ (x39_2 : Int) := zd
                   have q260 : x39_2 < ((rd_L4 l0_3 a1).length : Int) := zd
                   obtain ⟨ad260, e260, hx260_0⟩ := Kd.at_int HR252_0.out x39_2 p260 q260
                   obtain rfl : ad257 = ad260 := (by injection e260)
                   replace hx260_0 := (HB.out.cell (World.block_lt_of_cell? w _ hx260_0)).trans hx260_0
                   replace p260 := eq_true p260
                   replace q260 := eq_true q260
                   go_wp2
                   repeat (go_quiet (fail); try go_wp2)
                   go_meet
                   case rel => exact ⟨_, (true), zr, H', ⟨by have := HJ5.out; have := HK2.out; first | omega | exact Nat.le_refl _⟩, ⟨zb BK251.out⟩, ⟨zs GE251.out⟩⟩
                  ·rw [if_neg c35] at H
                   have c35b0 : decide (65534 < (rd (rd_L4 l0_3 a1) x39_2)) = false := decide_eq_false c35
                   clear c35
                   by_cases c36 : x39_2 < ((rd_L4 l0_4 a1).length : Int)
                   ·rw [if_pos c36] at H
                    have c36b0 : decide (x39_2 < ((rd_L4 l0_4 a1).length : Int)) = true := decide_eq_true c36
                    clear c36
                    by_cases c37 : (rd (rd_L4 l0_4 a1) x39_2) < 0
                    ·rw [if_pos c37] at H
                     have c37b0 : decide ((rd (rd_L4 l0_4 a1) x39_2) < 0) = true := decide_eq_true c37
                     clear c37
                     have H' := Aside0.mk H
                     clear H
                     have p259 : 0 ≤ (x39_2 : Int) := zd
                     have q259 : x39_2 < ((rd_L4 l0_3 a1).length : Int) := zd
                     obtain ⟨ad259, e259, hx259_0⟩ := Kd.at_int HR252_0.out x39_2 p259 q259
                     obtain rfl : ad257 = ad259 := (by injection e259)
                     replace hx259_0 := (HB.out.cell (World.block_lt_of_cell? w _ hx259_0)).trans hx259_0
                     replace p259 := eq_true p259
                     replace q259 := eq_true q259
                     have p260 : 0 ≤ (x39_2 : Int) := zd
                     have q260 : x39_2 < ((rd_L4 l0_3 a1).length : Int) := zd
                     obtain ⟨ad260, e260, hx260_0⟩ := Kd.at_int HR252_0.out x39_2 p260 q260
                     obtain rfl : ad257 = ad260 := (by injection e260)
                     replace hx260_0 := (HB.out.cell (World.block_lt_of_cell? w _ hx260_0)).trans hx260_0
                     replace p260 := eq_true p260
                     replace q260 := eq_true q260
                     have p261 : 0 ≤ (x39_2 : Int) := zd
                     have q261 : x39_2 < ((rd_L4 l0_4 a1).length : Int) := zd
                     obtain ⟨ad261, e261, hx261_0⟩ := Kd.at_int HR253_0.out x39_2 p261 q261
                     cases e261
                     replace hx261_0 := (HB.out.cell (World.block_lt_of_cell? w _ hx261_0)).trans hx261_0
                     replace p261 := eq_true p261
                     replace q261 := eq_true q261
                     go_wp2
                     repeat (go_quiet (fail); try go_wp2)
                     go_meet
                     case rel => exact ⟨_, (true), zr, H', ⟨by have := HJ5.out; have := HK2.out; first | omega | exact Nat.le_refl _⟩, ⟨zb BK251.out⟩, ⟨zs GE251.out⟩⟩
                    ·rw [if_neg c37] at H
                     have c37b0 : decide ((rd (rd_L4 l0_4 a1) x39_2) < 0) = false := decide_eq_false c37
                     clear c37
                     have H' := Aside0.mk H
                     clear H
                     have p259 : 0 ≤ (x39_2 : Int) := zd
                     have q259 : x39_2 < ((rd_L4 l0_3 a1).length : Int) := zd
                     obtain ⟨ad259, e259, hx259_0⟩ := Kd.at_int HR252_0.out x39_2 p259 q259
                     obtain rfl : ad257 = ad259 := (by injection e259)
                     replace hx259_0 := (HB.out.cell (World.block_lt_of_cell? w _ hx259_0)).trans hx259_0
                     replace p259 := eq_true p259
                     replace q259 := eq_true q259
                     have p260 : 0 ≤ (x39_2 : Int) := zd
                     have q260 : x39_2 < ((rd_L4 l0_3 a1).length : Int) := zd
                     obtain ⟨ad260, e260, hx260_0⟩ := Kd.at_int HR252_0.out x39_2 p260 q260
                     obtain rfl : ad257 = ad260 := (by injection e260)
                     replace hx260_0 := (HB.out.cell (World.block_lt_of_cell? w _ hx260_0)).trans hx260_0
                     replace p260 := eq_true p260
                     replace q260 := eq_true q260
                     have p261 : 0 ≤ (x39_2 : Int) := zd
                     have q261 : x39_2 < ((rd_L4 l0_4 a1).length : Int) := zd
                     obtain ⟨ad261, e261, hx261_0⟩ := Kd.at_int HR253_0.out x39_2 p261 q261
                     cases e261
                     replace hx261_0 := (HB.out.cell (World.block_lt_of_cell? w _ hx261_0)).trans hx261_0
                     replace p261 := eq_true p261
                     replace q261 := eq_true q261
                     have p262 : 0 ≤ (x39_2 : Int) := zd
                     have q262 : x39_2 < ((rd_L4 l0_4 a1).length : Int) := zd
                     obtain ⟨ad262, e262, hx262_0⟩ := Kd.at_int HR253_0.out x39_2 p262 q262
                     obtain rfl : ad261 = ad262 := (by injection e262)
                     replace hx262_0 := (HB.out.cell (World.block_lt_of_cell? w _ hx262_0)).trans hx262_0
                     replace p262 := eq_true p262
                     replace q262 := eq_true q262
                     go_wp2
                     repeat (go_quiet (fail); try go_wp2)
                     go_meet
                     case rel => exact ⟨_, (decide ((rd (rd_L4 l0_4 a1) x39_2) > 3)), zr, H', ⟨by have := HJ5.out; have := HK2.out; first | omega | exact Nat.le_refl _⟩, ⟨zb BK251.out⟩, ⟨zs GE251.out⟩⟩
                   ·rw [if_neg c36] at H
                    exact absurd H (by simp)
                case rest =>
                 clear HC32
                 try clear c1
                 try clear c2
                 try clear p2
                 try clear q2
                 try clear hx2
                 try clear c3
                 try clear c3b0
                 try clear c4
                 try clear c4b0
                 try clear c5
                 try clear c5b0
                 try clear c6
                 try clear p6
                 try clear c9
                 try clear c9b0
                 try clear c9b1
                 try clear c12
                 try clear c13
                 try clear c13b0
                 try clear c14
                 try clear c14b0
                 try clear c15
                 try clear c15b0
                 try clear c16
                 try clear c16b0
                 try clear c16b1
                 try clear c17
                 try clear c17b0
                 try clear c18
                 try clear c18b0
                 try clear c19
                 try clear c19b0
                 try clear c19b1
                 try clear c20
                 try clear c20b0
                 try clear c21
                 try clear c21b0
                 try clear c21b1
                 try clear c25
                 try clear c25b0
                 try clear p25
                 try clear q25
                 try clear hx25
                 try clear c26
                 try clear c26b0
                 try clear p26
                 try clear q26
                 try clear hx26
                 try clear c27
                 try clear c27b0
                 try clear c27b1
                 try clear c28
                 try clear c28b0
                 try clear c29
                 try clear c29b0
                 try clear c29b1
                 try clear c34
                 try clear c34b0
                 try clear c35
                 try clear c35b0
                 try clear c36
                 try clear c36b0
                 try clear c37
                 try clear c37b0
                 try clear hcz10_0
                 try clear hcz10_1
                 try clear hcz10_2
                 try clear hcz10_3
                 try clear hcz10_4
                 try clear hcz11_0
                 try clear hcz11_1
                 try clear hcz11_2
                 try clear hcz11_3
                 try clear hcz11_4
                 try clear hcz22_0
                 try clear hcz22_1
                 try clear hcz22_2
                 try clear hcz22_3
                 try clear hcz22_4
                 try clear hcz23_0
                 try clear hcz23_1
                 try clear hcz23_2
                 try clear hcz23_3
                 try clear hcz23_4
                 try clear hcz24_0
                 try clear hcz24_1
                 try clear hcz24_2
                 try clear hcz24_3
                 try clear hcz24_4
                 try clear hcz30_0
                 try clear hcz30_1
                 try clear hcz30_2
                 try clear hcz30_3
                 try clear hcz30_4
                 try clear hcz31_0
                 try clear hcz31_1
                 try clear hcz31_2
                 try clear hcz31_3
                 try clear hcz31_4
                 try clear hcz33_0
                 try clear hcz33_1
                 try clear hcz33_2
                 try clear hcz33_3
                 try clear hcz33_4
                 try clear hcz8_0
                 try clear hcz8_1
                 try clear hcz8_2
                 try clear hcz8_3
                 try clear hcz8_4
                 try clear hfz10_0
                 try clear hfz10_1
                 try clear hfz10_2
                 try clear hfz10_3
                 try clear hfz10_4
                 try clear hfz11_0
                 try clear hfz11_1
                 try clear hfz11_2
                 try clear hfz11_3
                 try clear hfz11_4
                 try clear hfz22_0
                 try clear hfz22_1
                 try clear hfz22_2
                 try clear hfz22_3
                 try clear hfz22_4
                 try clear hfz23_0
                 try clear hfz23_1
                 try clear hfz23_2
                 try clear hfz23_3
                 try clear hfz23_4
                 try clear hfz24_0
                 try clear hfz24_1
                 try clear hfz24_2
                 try clear hfz24_3
                 try clear hfz24_4
                 try clear hfz30_0
                 try clear hfz30_1
                 try clear hfz30_2
                 try clear hfz30_3
                 try clear hfz30_4
                 try clear hfz31_0
                 try clear hfz31_1
                 try clear hfz31_2
                 try clear hfz31_3
                 try clear hfz31_4
                 try clear hfz33_0
                 try clear hfz33_1
                 try clear hfz33_2
                 try clear hfz33_3
                 try clear hfz33_4
                 try clear hfz8_0
                 try clear hfz8_1
                 try clear hfz8_2
                 try clear hfz8_3
                 try clear hfz8_4
                 try clear hx252_0
                 try clear hx253_0
                 try clear hx254_0
                 try clear hx254_1
                 try clear hx254_2
                 try clear hx255_0
                 try clear hx256_0
                 try clear hx257_0
                 try clear hx258_0
                 try clear hx259_0
                 try clear hx260_0
                 try clear hx261_0
                 try clear hx262_0
                 try clear p2
                 try clear p252
                 try clear p253
                 try clear p254
                 try clear p255
                 try clear p256
                 try clear p257
                 try clear p258
                 try clear p259
                 try clear p260
                 try clear p261
                 try clear p262
                 try clear p6
                 try clear q2
                 try clear q252
                 try clear q253
                 try clear q254
                 try clear q255
                 try clear q256
                 try clear q257
                 try clear q258
                 try clear q259
                 try clear q260
                 try clear q261
                 try clear q262
                 obtain ⟨kq, x67_31, rfl, HA, HJ31, BK251, HB⟩ := hcut
                 cases kq with
                 | zero => exact absurd HA.out (by simp [impl_Tables_listOk.j2])
                 | succ kj31 =>
                  have H := HA.out
                  clear HA
                  simp only [impl_Tables_listOk.j2] at H
                  by_cases c38 : x67_31 = true
                  ·subst c38
                   have H1 : (some false) = some r := by rw [if_pos rfl] at H; exact H
                   clear H
                   have H := H1
                   clear H1
                   obtain rfl := Option.some.inj H
                   go_wp2
                   repeat (go_quiet (fail); try go_wp2)
                   go_ret
                   exact ⟨ze, (zs GE251.out)⟩
                  ·replace c38 := Bool.eq_false_iff.mpr c38
                   subst c38
                   have H1 : (if 0 ≤ x39_2 then (if x39_2 < ((rd_L4 l0_4 a1).length : Int) then ((impl_side.f a0_0 a0_1 x39_2 (rd (rd_L4 l0_4 a1) x39_2)).bind fun t264 => (if t264 < 0 then (some false) else (if 0 ≤ t264 then (if t264 < ((rd_L4 l0_3 a1).length : Int) then (if (rd (rd_L4 l0_3 a1) t264) < 0 then (some false) else (if x39_2 < ((rd_L4 l0_3 a1).length : Int) then (if (rd (rd_L4 l0_3 a1) t264) ≥ (rd (rd_L4 l0_3 a1) x39_2) then (some false) else (impl_Tables_listOk.l0 kj31 a1 (rd_L4 l0_3 a1) (rd_L4 l0_4 a1) ((rd_L4 l0_3 a1).length : Int) (wrap64 (x39_2 + 1)) a0_0 a0_1 l0_2 l0_3 l0_4)) else (none))) else (none)) else (none)))) else (none)) else (none)) = some r := by rw [if_neg (show ¬ (false = true) by decide)] at H; exact H
                   clear H
                   have H := H1
                   clear H1
                   by_cases c39 : 0 ≤ x39_2
                   ·rw [if_pos c39] at H
                    have c39b0 : decide (0 ≤ x39_2) = true := decide_eq_true c39
                    clear c39
                    by_cases c40 : x39_2 < ((rd_L4 l0_4 a1).length : Int)
                    ·rw [if_pos c40] at H
                     have c40b0 : decide (x39_2 < ((rd_L4 l0_4 a1).length : Int)) = true := decide_eq_true c40
                     clear c40
                     replace H := Option.bind_eq_some_iff.mp H
                     obtain ⟨t264, A410, H⟩ := H
                     replace H : (if t264 < 0 then (some false) else (if 0 ≤ t264 then (if t264 < ((rd_L4 l0_3 a1).length : Int) then (if (rd (rd_L4 l0_3 a1) t264) < 0 then (some false) else (if x39_2 < ((rd_L4 l0_3 a1).length : Int) then (if (rd (rd_L4 l0_3 a1) t264) ≥ (rd (rd_L4 l0_3 a1) x39_2) then (some false) else (impl_Tables_listOk.l0 kj31 a1 (rd_L4 l0_3 a1) (rd_L4 l0_4 a1) ((rd_L4 l0_3 a1).length : Int) (wrap64 (x39_2 + 1)) a0_0 a0_1 l0_2 l0_3 l0_4)) else (none))) else (none)) else (none))) = some r := H
                     have A41 := Aside0.mk A410
                     clear A410
                     by_cases c42 : t264 < 0
                     ·rw [if_pos c42] at H
                      have c42b0 : decide (t264 < 0) = true := decide_eq_true c42
                      clear c42
                      obtain rfl := Option.some.inj H
                      have hcz43_0 : wc.cell? ⟨gb251, 0, none⟩ = some (.int .i64 a0_0) := (blk_cell BK251.out 0).trans rfl
                      have hcz43_1 : wc.cell? ⟨gb251, 1, none⟩ = some (.int .i64 a0_1) := (blk_cell BK251.out 1).trans rfl
                      have hcz43_2 : wc.cell? ⟨gb251, 2, none⟩ = some (.slice (some ad254) l0_2.length c0_2) := (blk_cell BK251.out 2).trans rfl
                      have hcz43_3 : wc.cell? ⟨gb251, 3, none⟩ = some (.slice (some ad252) l0_3.length c0_3) := (blk_cell BK251.out 3).trans rfl
                      have hcz43_4 : wc.cell? ⟨gb251, 4, none⟩ = some (.slice (some ad253) l0_4.length c0_4) := (blk_cell BK251.out 4).trans rfl
                      have hfz43_0 := blk_frozen BK251.out 0
                      have hfz43_1 := blk_frozen BK251.out 1
                      have hfz43_2 := blk_frozen BK251.out 2
                      have hfz43_3 := blk_frozen BK251.out 3
                      have hfz43_4 := blk_frozen BK251.out 4
                      have p263 : 0 ≤ (x39_2 : Int) := zd
                      have q263 : x39_2 < ((rd_L4 l0_4 a1).length : Int) := zd
                      obtain ⟨ad263, e263, hx263_0⟩ := Kd.at_int HR253_0.out x39_2 p263 q263
                      cases e263
                      replace hx263_0 := (HB.out.cell (World.block_lt_of_cell? w _ hx263_0)).trans hx263_0
                      replace p263 := eq_true p263
                      replace q263 := eq_true q263
                      go_wp2_with (first | (go_at_call 90; (with_reducible refine (impl_side.calls a0_0 a0_1 x39_2 (rd (rd_L4 l0_4 a1) x39_2) t264 _ A41.out).mono ?_); rintro e w' ⟨rfl, ⟨nd, rfl⟩⟩; (try first | exact ⟨rfl, _, World.drewN_drewN _ _ _⟩ | exact ⟨rfl, _, Eq.trans (World.drewN_drewN _ _ _) (congrArg (World.drewN _) (Nat.add_assoc _ _ _))⟩)))
                      repeat (go_quiet (first | (go_at_call 90; (with_reducible refine (impl_side.calls a0_0 a0_1 x39_2 (rd (rd_L4 l0_4 a1) x39_2) t264 _ A41.out).mono ?_); rintro e w' ⟨rfl, ⟨nd, rfl⟩⟩; (try first | exact ⟨rfl, _, World.drewN_drewN _ _ _⟩ | exact ⟨rfl, _, Eq.trans (World.drewN_drewN _ _ _) (congrArg (World.drewN _) (Nat.add_assoc _ _ _))⟩))); try go_wp2_with (first | (go_at_call 90; (with_reducible refine (impl_side.calls a0_0 a0_1 x39_2 (rd (rd_L4 l0_4 a1) x39_2) t264 _ A41.out).mono ?_); rintro e w' ⟨rfl, ⟨nd, rfl⟩⟩; (try first | exact ⟨rfl, _, World.drewN_drewN _ _ _⟩ | exact ⟨rfl, _, Eq.trans (World.drewN_drewN _ _ _) (congrArg (World.drewN _) (Nat.add_assoc _ _ _))⟩))))
                      go_ret
                      exact ⟨ze, (zs GE251.out)⟩
                     ·rw [if_neg c42] at H
                      have c42b0 : decide (t264 < 0) = false := decide_eq_false c42
                      clear c42
                      by_cases c44 : 0 ≤ t264
                      ·rw [if_pos c44] at H
                       have c44b0 : decide (0 ≤ t264) = true := decide_eq_true c44
                       clear c44
                       by_cases c45 : t264 < ((rd_L4 l0_3 a1).length : Int)
                       ·rw [if_pos c45] at H
                        have c45b0 : decide (t264 < ((rd_L4 l0_3 a1).length : Int)) = true := decide_eq_true c45
                        clear c45
                        by_cases c46 : (rd (rd_L4 l0_3 a1) t264) < 0
                        ·rw [if_pos c46] at H
                         have c46b0 : decide ((rd (rd_L4 l0_3 a1) t264) < 0) = true := decide_eq_true c46
                         clear c46
                         obtain rfl := Option.some.inj H
                         have hcz47_0 : wc.cell? ⟨gb251, 0, none⟩ = some (.int .i64 a0_0) := (blk_cell BK251.out 0).trans rfl
                         have hcz47_1 : wc.cell? ⟨gb251, 1, none⟩ = some (.int .i64 a0_1) := (blk_cell BK251.out 1).trans rfl
                         have hcz47_2 : wc.cell? ⟨gb251, 2, none⟩ = some (.slice (some ad254) l0_2.length c0_2) := (blk_cell BK251.out 2).trans rfl
                         have hcz47_3 : wc.cell? ⟨gb251, 3, none⟩ = some (.slice (some ad252) l0_3.length c0_3) := (blk_cell BK251.out 3).trans rfl
                         have hcz47_4 : wc.cell? ⟨gb251, 4, none⟩ = some (.slice (some ad253) l0_4.length c0_4) := (blk_cell BK251.out 4).trans rfl
                         have hfz47_0 := blk_frozen BK251.out 0
                         have hfz47_1 := blk_frozen BK251.out 1
                         have hfz47_2 := blk_frozen BK251.out 2
                         have hfz47_3 := blk_frozen BK251.out 3
                         have hfz47_4 := blk_frozen BK251.out 4
                         have p263 : 0 ≤ (x39_2 : Int) := zd
                         have q263 : x39_2 < ((rd_L4 l0_4 a1).length : Int) := zd
                         obtain ⟨ad263, e263, hx263_0⟩ := Kd.at_int HR253_0.out x39_2 p263 q263
                         cases e263
                         replace hx263_0 := (HB.out.cell (World.block_lt_of_cell? w _ hx263_0)).trans hx263_0
                         replace p263 := eq_true p263
                         replace q263 := eq_true q263
                         go_wp2_with (first | (go_at_call 90; (with_reducible refine (impl_side.calls a0_0 a0_1 x39_2 (rd (rd_L4 l0_4 a1) x39_2) t264 _ A41.out).mono ?_); rintro e w' ⟨rfl, ⟨nd, rfl⟩⟩; (try first | exact ⟨rfl, _, World.drewN_drewN _ _ _⟩ | exact ⟨rfl, _, Eq.trans (World.drewN_drewN _ _ _) (congrArg (World.drewN _) (Nat.add_assoc _ _ _))⟩); have p265 : 0 ≤ (t264 : Int) := zd; have q265 : t264 < ((rd_L4 l0_3 a1).length : Int) := zd; obtain ⟨ad265, e265, hx265_0⟩ := Kd.at_int HR252_0.out t264 p265 q265; obtain rfl : ad257 = ad265 := (by injection e265); replace hx265_0 := (HB.out.cell (World.block_lt_of_cell? w _ hx265_0)).trans hx265_0; replace p265 := eq_true p265; replace q265 := eq_true q265))
                         repeat (go_quiet (first | (go_at_call 90; (with_reducible refine (impl_side.calls a0_0 a0_1 x39_2 (rd (rd_L4 l0_4 a1) x39_2) t264 _ A41.out).mono ?_); rintro e w' ⟨rfl, ⟨nd, rfl⟩⟩; (try first | exact ⟨rfl, _, World.drewN_drewN _ _ _⟩ | exact ⟨rfl, _, Eq.trans (World.drewN_drewN _ _ _) (congrArg (World.drewN _) (Nat.add_assoc _ _ _))⟩); have p265 : 0 ≤ (t264 : Int) := zd; have q265 : t264 < ((rd_L4 l0_3 a1).length : Int) := zd; obtain ⟨ad265, e265, hx265_0⟩ := Kd.at_int HR252_0.out t264 p265 q265; obtain rfl : ad257 = ad265 := (by injection e265); replace hx265_0 := (HB.out.cell (World.block_lt_of_cell? w _ hx265_0)).trans hx265_0; replace p265 := eq_true p265; replace q265 := eq_true q265)); try go_wp2_with (first | (go_at_call 90; (with_reducible refine (impl_side.calls a0_0 a0_1 x39_2 (rd (rd_L4 l0_4 a1) x39_2) t264 _ A41.out).mono ?_); rintro e w' ⟨rfl, ⟨nd, rfl⟩⟩; (try first | exact ⟨rfl, _, World.drewN_drewN _ _ _⟩ | exact ⟨rfl, _, Eq.trans (World.drewN_drewN _ _ _) (congrArg (World.drewN _) (Nat.add_assoc _ _ _))⟩); have p265 : 0 ≤ (t264 : Int) := zd; have q265 : t264 < ((rd_L4 l0_3 a1).length : Int) := zd; obtain ⟨ad265, e265, hx265_0⟩ := Kd.at_int HR252_0.out t264 p265 q265; obtain rfl : ad257 = ad265 := (by injection e265); replace hx265_0 := (HB.out.cell (World.block_lt_of_cell? w _ hx265_0)).trans hx265_0; replace p265 := eq_true p265; replace q265 := eq_true q265)))
                         go_ret
                         exact ⟨ze, (zs GE251.out)⟩
                        ·rw [if_neg c46] at H
                         have c46b0 : decide ((rd (rd_L4 l0_3 a1) t264) < 0) = false := decide_eq_false c46
                         clear c46
                         by_cases c48 : x39_2 < ((rd_L4 l0_3 a1).length : Int)
                         ·rw [if_pos c48] at H
                          have c48b0 : decide (x39_2 < ((rd_L4 l0_3 a1).length : Int)) = true := decide_eq_true c48
                          clear c48
                          by_cases c49 : (rd (rd_L4 l0_3 a1) t264) ≥ (rd (rd_L4 l0_3 a1) x39_2)
                          ·rw [if_pos c49] at H
                           have c49b0 : decide ((rd (rd_L4 l0_3 a1) x39_2) ≤ (rd (rd_L4 l0_3 a1) t264)) = true := decide_eq_true c49
                           clear c49
                           obtain rfl := Option.some.inj H
                           have hcz50_0 : wc.cell? ⟨gb251, 0, none⟩ = some (.int .i64 a0_0) := (blk_cell BK251.out 0).trans rfl
                           have hcz50_1 : wc.cell? ⟨gb251, 1, none⟩ = some (.int .i64 a0_1) := (blk_cell BK251.out 1).trans rfl
                           have hcz50_2 : wc.cell? ⟨gb251, 2, none⟩ = some (.slice (some ad254) l0_2.length c0_2) := (blk_cell BK251.out 2).trans rfl
                           have hcz50_3 : wc.cell? ⟨gb251, 3, none⟩ = some (.slice (some ad252) l0_3.length c0_3) := (blk_cell BK251.out 3).trans rfl
                           have hcz50_4 : wc.cell? ⟨gb251, 4, none⟩ = some (.slice (some ad253) l0_4.length c0_4) := (blk_cell BK251.out 4).trans rfl
                           have hfz50_0 := blk_frozen BK251.out 0
                           have hfz50_1 := blk_frozen BK251.out 1
                           have hfz50_2 := blk_frozen BK251.out 2
                           have hfz50_3 := blk_frozen BK251.out 3
                           have hfz50_4 := blk_frozen BK251.out 4
                           have p263 : 0 ≤ (x39_2 : Int) := zd
                           have q263 : x39_2 < ((rd_L4 l0_4 a1).length : Int) := zd
                           obtain ⟨ad263, e263, hx263_0⟩ := Kd.at_int HR253_0.out x39_2 p263 q263
                           cases e263
                           replace hx263_0 := (HB.out.cell (World.block_lt_of_cell? w _ hx263_0)).trans hx263_0
                           replace p263 := eq_true p263
                           replace q263 := eq_true q263
                           go_wp2_with (first | (go_at_call 90; (with_reducible refine (impl_side.calls a0_0 a0_1 x39_2 (rd (rd_L4 l0_4 a1) x39_2) t264 _ A41.out).mono ?_); rintro e w' ⟨rfl, ⟨nd, rfl⟩⟩; (try first | exact ⟨rfl, _, World.drewN_drewN _ _ _⟩ | exact ⟨rfl, _, Eq.trans (World.drewN_drewN _ _ _) (congrArg (World.drewN _) (Nat.add_assoc _ _ _))⟩); have p265 : 0 ≤ (t264 : Int) := zd; have q265 : t264 < ((rd_L4 l0_3 a1).length : Int) := zd; obtain ⟨ad265, e265, hx265_0⟩ := Kd.at_int HR252_0.out t264 p265 q265; obtain rfl : ad257 = ad265 := (by injection e265); replace hx265_0 := (HB.out.cell (World.block_lt_of_cell? w _ hx265_0)).trans hx265_0; replace p265 := eq_true p265; replace q265 := eq_true q265; have p266 : 0 ≤ (t264 : Int) := zd; have q266 : t264 < ((rd_L4 l0_3 a1).length : Int) := zd; obtain ⟨ad266, e266, hx266_0⟩ := Kd.at_int HR252_0.out t264 p266 q266; obtain rfl : ad257 = ad266 := (by injection e266); replace hx266_0 := (HB.out.cell (World.block_lt_of_cell? w _ hx266_0)).trans hx266_0; replace p266 := eq_true p266; replace q266 := eq_true q266; have p267 : 0 ≤ (x39_2 : Int) := zd; have q267 : x39_2 < ((rd_L4 l0_3 a1).length : Int) := zd; obtain ⟨ad267, e267, hx267_0⟩ := Kd.at_int HR252_0.out x39_2 p267 q267; obtain rfl : ad257 = ad267 := (by injection e267); replace hx267_0 := (HB.out.cell (World.block_lt_of_cell? w _ hx267_0)).trans hx267_0; replace p267 := eq_true p267; replace q267 := eq_true q267))
                           repeat (go_quiet (first | (go_at_call 90; (with_reducible refine (impl_side.calls a0_0 a0_1 x39_2 (rd (rd_L4 l0_4 a1) x39_2) t264 _ A41.out).mono ?_); rintro e w' ⟨rfl, ⟨nd, rfl⟩⟩; (try first | exact ⟨rfl, _, World.drewN_drewN _ _ _⟩ | exact ⟨rfl, _, Eq.trans (World.drewN_drewN _ _ _) (congrArg (World.drewN _) (Nat.add_assoc _ _ _))⟩); have p265 : 0 ≤ (t264 : Int) := zd; have q265 : t264 < ((rd_L4 l0_3 a1).length : Int) := zd; obtain ⟨ad265, e265, hx265_0⟩ := Kd.at_int HR252_0.out t264 p265 q265; obtain rfl : ad257 = ad265 := (by injection e265); replace hx265_0 := (HB.out.cell (World.block_lt_of_cell? w _ hx265_0)).trans hx265_0; replace p265 := eq_true p265; replace q265 := eq_true q265; have p266 : 0 ≤ (t264 : Int) := zd; have q266 : t264 < ((rd_L4 l0_3 a1).length : Int) := zd; obtain ⟨ad266, e266, hx266_0⟩ := Kd.at_int HR252_0.out t264 p266 q266; obtain rfl : ad257 = ad266 := (by injection e266); replace hx266_0 := (HB.out.cell (World.block_lt_of_cell? w _ hx266_0)).trans hx266_0; replace p266 := eq_true p266; replace q266 := eq_true q266; have p267 : 0 ≤ (x39_2 : Int) := zd; have q267 : x39_2 < ((rd_L4 l0_3 a1).length : Int) := zd; obtain ⟨ad267, e267, hx267_0⟩ := Kd.at_int HR252_0.out x39_2 p267 q267; obtain rfl : ad257 = ad267 := (by injection e267); replace hx267_0 := (HB.out.cell (World.block_lt_of_cell? w _ hx267_0)).trans hx267_0; replace p267 := eq_true p267; replace q267 := eq_true q267)); try go_wp2_with (first | (go_at_call 90; (with_reducible refine (impl_side.calls a0_0 a0_1 x39_2 (rd (rd_L4 l0_4 a1) x39_2) t264 _ A41.out).mono ?_); rintro e w' ⟨rfl, ⟨nd, rfl⟩⟩; (try first | exact ⟨rfl, _, World.drewN_drewN _ _ _⟩ | exact ⟨rfl, _, Eq.trans (World.drewN_drewN _ _ _) (congrArg (World.drewN _) (Nat.add_assoc _ _ _))⟩); have p265 : 0 ≤ (t264 : Int) := zd; have q265 : t264 < ((rd_L4 l0_3 a1).length : Int) := zd; obtain ⟨ad265, e265, hx265_0⟩ := Kd.at_int HR252_0.out t264 p265 q265; obtain rfl : ad257 = ad265 := (by injection e265); replace hx265_0 := (HB.out.cell (World.block_lt_of_cell? w _ hx265_0)).trans hx265_0; replace p265 := eq_true p265; replace q265 := eq_true q265; have p266 : 0 ≤ (t264 : Int) := zd; have q266 : t264 < ((rd_L4 l0_3 a1).length : Int) := zd; obtain ⟨ad266, e266, hx266_0⟩ := Kd.at_int HR252_0.out t264 p266 q266; obtain rfl : ad257 = ad266 := (by injection e266); replace hx266_0 := (HB.out.cell (World.block_lt_of_cell? w _ hx266_0)).trans hx266_0; replace p266 := eq_true p266; replace q266 := eq_true q266; have p267 : 0 ≤ (x39_2 : Int) := zd; have q267 : x39_2 < ((rd_L4 l0_3 a1).length : Int) := zd; obtain ⟨ad267, e267, hx267_0⟩ := Kd.at_int HR252_0.out x39_2 p267 q267; obtain rfl : ad257 = ad267 := (by injection e267); replace hx267_0 := (HB.out.cell (World.block_lt_of_cell? w _ hx267_0)).trans hx267_0; replace p267 := eq_true p267; replace q267 := eq_true q267)))
                           go_ret
                           exact ⟨ze, (zs GE251.out)⟩
                          ·rw [if_neg c49] at H
                           have c49b0 : decide ((rd (rd_L4 l0_3 a1) x39_2) ≤ (rd (rd_L4 l0_3 a1) t264)) = false := decide_eq_false c49
                           clear c49
                           have H' := Aside0.mk H
                           clear H
                           have hcz51_0 : wc.cell? ⟨gb251, 0, none⟩ = some (.int .i64 a0_0) := (blk_cell BK251.out 0).trans rfl
                           have hcz51_1 : wc.cell? ⟨gb251, 1, none⟩ = some (.int .i64 a0_1) := (blk_cell BK251.out 1).trans rfl
                           have hcz51_2 : wc.cell? ⟨gb251, 2, none⟩ = some (.slice (some ad254) l0_2.length c0_2) := (blk_cell BK251.out 2).trans rfl
                           have hcz51_3 : wc.cell? ⟨gb251, 3, none⟩ = some (.slice (some ad252) l0_3.length c0_3) := (blk_cell BK251.out 3).trans rfl
                           have hcz51_4 : wc.cell? ⟨gb251, 4, none⟩ = some (.slice (some ad253) l0_4.length c0_4) := (blk_cell BK251.out 4).trans rfl
                           have hfz51_0 := blk_frozen BK251.out 0
                           have hfz51_1 := blk_frozen BK251.out 1
                           have hfz51_2 := blk_frozen BK251.out 2
                           have hfz51_3 := blk_frozen BK251.out 3
                           have hfz51_4 := blk_frozen BK251.out 4
                           have p263 : 0 ≤ (x39_2 : Int) := zd
                           have q263 : x39_2 < ((rd_L4 l0_4 a1).length : Int) := zd
                           obtain ⟨ad263, e263, hx263_0⟩ := Kd.at_int HR253_0.out x39_2 p263 q263
                           cases e263
                           replace hx263_0 := (HB.out.cell (World.block_lt_of_cell? w _ hx263_0)).trans hx263_0
                           replace p263 := eq_true p263
                           replace q263 := eq_true q263
                           go_wp2_with (first | (go_at_call 90; (with_reducible refine (impl_side.calls a0_0 a0_1 x39_2 (rd (rd_L4 l0_4 a1) x39_2) t264 _ A41.out).mono ?_); rintro e w' ⟨rfl, ⟨nd, rfl⟩⟩; (try first | exact ⟨rfl, _, World.drewN_drewN _ _ _⟩ | exact ⟨rfl, _, Eq.trans (World.drewN_drewN _ _ _) (congrArg (World.drewN _) (Nat.add_assoc _ _ _))⟩); have p265 : 0 ≤ (t264 : Int) := zd; have q265 : t264 < ((rd_L4 l0_3 a1).length : Int) := zd; obtain ⟨ad265, e265, hx265_0⟩ := Kd.at_int HR252_0.out t264 p265 q265; obtain rfl : ad257 = ad265 := (by injection e265); replace hx265_0 := (HB.out.cell (World.block_lt_of_cell? w _ hx265_0)).trans hx265_0; replace p265 := eq_true p265; replace q265 := eq_true q265; have p266 : 0 ≤ (t264 : Int) := zd; have q266 : t264 < ((rd_L4 l0_3 a1).length : Int) := zd; obtain ⟨ad266, e266, hx266_0⟩ := Kd.at_int HR252_0.out t264 p266 q266; obtain rfl : ad257 = ad266 := (by injection e266); replace hx266_0 := (HB.out.cell (World.block_lt_of_cell? w _ hx266_0)).trans hx266_0; replace p266 := eq_true p266; replace q266 := eq_true q266; have p267 : 0 ≤ (x39_2 : Int) := zd; have q267 : x39_2 < ((rd_L4 l0_3 a1).length : Int) := zd; obtain ⟨ad267, e267, hx267_0⟩ := Kd.at_int HR252_0.out x39_2 p267 q267; obtain rfl : ad257 = ad267 := (by injection e267); replace hx267_0 := (HB.out.cell (World.block_lt_of_cell? w _ hx267_0)).trans hx267_0; replace p267 := eq_true p267; replace q267 := eq_true q267))
                           repeat (go_quiet (first | (go_at_call 90; (with_reducible refine (impl_side.calls a0_0 a0_1 x39_2 (rd (rd_L4 l0_4 a1) x39_2) t264 _ A41.out).mono ?_); rintro e w' ⟨rfl, ⟨nd, rfl⟩⟩; (try first | exact ⟨rfl, _, World.drewN_drewN _ _ _⟩ | exact ⟨rfl, _, Eq.trans (World.drewN_drewN _ _ _) (congrArg (World.drewN _) (Nat.add_assoc _ _ _))⟩); have p265 : 0 ≤ (t264 : Int) := zd; have q265 : t264 < ((rd_L4 l0_3 a1).length : Int) := zd; obtain ⟨ad265, e265, hx265_0⟩ := Kd.at_int HR252_0.out t264 p265 q265; obtain rfl : ad257 = ad265 := (by injection e265); replace hx265_0 := (HB.out.cell (World.block_lt_of_cell? w _ hx265_0)).trans hx265_0; replace p265 := eq_true p265; replace q265 := eq_true q265; have p266 : 0 ≤ (t264 : Int) := zd; have q266 : t264 < ((rd_L4 l0_3 a1).length : Int) := zd; obtain ⟨ad266, e266, hx266_0⟩ := Kd.at_int HR252_0.out t264 p266 q266; obtain rfl : ad257 = ad266 := (by injection e266); replace hx266_0 := (HB.out.cell (World.block_lt_of_cell? w _ hx266_0)).trans hx266_0; replace p266 := eq_true p266; replace q266 := eq_true q266; have p267 : 0 ≤ (x39_2 : Int) := zd; have q267 : x39_2 < ((rd_L4 l0_3 a1).length : Int) := zd; obtain ⟨ad267, e267, hx267_0⟩ := Kd.at_int HR252_0.out x39_2 p267 q267; obtain rfl : ad257 = ad267 := (by injection e267); replace hx267_0 := (HB.out.cell (World.block_lt_of_cell? w _ hx267_0)).trans hx267_0; replace p267 := eq_true p267; replace q267 := eq_true q267)); try go_wp2_with (first | (go_at_call 90; (with_reducible refine (impl_side.calls a0_0 a0_1 x39_2 (rd (rd_L4 l0_4 a1) x39_2) t264 _ A41.out).mono ?_); rintro e w' ⟨rfl, ⟨nd, rfl⟩⟩; (try first | exact ⟨rfl, _, World.drewN_drewN _ _ _⟩ | exact ⟨rfl, _, Eq.trans (World.drewN_drewN _ _ _) (congrArg (World.drewN _) (Nat.add_assoc _ _ _))⟩); have p265 : 0 ≤ (t264 : Int) := zd; have q265 : t264 < ((rd_L4 l0_3 a1).length : Int) := zd; obtain ⟨ad265, e265, hx265_0⟩ := Kd.at_int HR252_0.out t264 p265 q265; obtain rfl : ad257 = ad265 := (by injection e265); replace hx265_0 := (HB.out.cell (World.block_lt_of_cell? w _ hx265_0)).trans hx265_0; replace p265 := eq_true p265; replace q265 := eq_true q265; have p266 : 0 ≤ (t264 : Int) := zd; have q266 : t264 < ((rd_L4 l0_3 a1).length : Int) := zd; obtain ⟨ad266, e266, hx266_0⟩ := Kd.at_int HR252_0.out t264 p266 q266; obtain rfl : ad257 = ad266 := (by injection e266); replace hx266_0 := (HB.out.cell (World.block_lt_of_cell? w _ hx266_0)).trans hx266_0; replace p266 := eq_true p266; replace q266 := eq_true q266; have p267 : 0 ≤ (x39_2 : Int) := zd; have q267 : x39_2 < ((rd_L4 l0_3 a1).length : Int) := zd; obtain ⟨ad267, e267, hx267_0⟩ := Kd.at_int HR252_0.out x39_2 p267 q267; obtain rfl : ad257 = ad267 := (by injection e267); replace hx267_0 := (HB.out.cell (World.block_lt_of_cell? w _ hx267_0)).trans hx267_0; replace p267 := eq_true p267; replace q267 := eq_true q267)))
                           go_roundg kj31
                           case measure => have := HJ5.out; have := HK2.out; have := HJ31.out; omega
                           case rel => exact ⟨(wrap64 (x39_2 + 1)), zr, H', ⟨by have := HJ5.out; have := HK2.out; have := HJ31.out; omega⟩, ⟨zb BK251.out⟩, ⟨zs GE251.out⟩⟩
                         ·rw [if_neg c48] at H
                          exact absurd H (by simp)
                       ·rw [if_neg c45] at H
                        exact absurd H (by simp)
                      ·rw [if_neg c44] at H
                       exact absurd H (by simp)
                    ·rw [if_neg c40] at H
                     exact absurd H (by simp)
                   ·rw [if_neg c39] at H
                    exact absurd H (by simp)
              ·rw [if_neg c26] at H
               exact absurd H (by simp)
             ·rw [if_neg c25] at H
              exact absurd H (by simp)
           ·rw [if_neg c15] at H
            exact absurd H (by simp)
          ·rw [if_neg c14] at H
           exact absurd H (by simp)
         ·rw [if_neg c13] at H
          have c13b0 : decide (x39_2 < ((rd_L4 l0_3 a1).length : Int)) = false := decide_eq_false c13
          clear c13
          obtain rfl := Option.some.inj H
          go_wp2
          repeat (go_quiet (fail); try go_wp2)
          go_ret
          exact ⟨ze, (zs GE251.out)⟩
   ·rw [if_neg c5] at H
    exact absurd H (by simp)
  ·rw [if_neg c4] at H
   exact absurd H (by simp)
 ·rw [if_neg c3] at H
  exact absurd H (by simp)

end Go.Proofs.YtiboccbaaphbhaaDoor.PFnExactValidFleet
