-- made by wip/tools/myprint.py (this session's own program, over the kit's printer)
import Derived.Test.YthbeplmihjhoeaaDoorPFnExactBuildGraphx0
import Derived.Test.YthbeplmihjhoeaaDoorPFnExactBuildGraphx7
import Derived.Test.YthbeplmihjhoeaaDoorPFnExactBuildGraphx8
namespace Go.Proofs.YthbeplmihjhoeaaDoor.PFnExactBuildGraph
open Go.RowKit Go.Proofs.YthbeplmihjhoeaaDoorW.PrintWords Go.Proofs.YthbeplmihjhoeaaDoorW.PrintLast Go.Proofs.YthbeplmihjhoeaaDoorW.PrintMore
attribute [local go_sem] max2_int min2_int max_two min_two max_three min_three max_four min_four   -- for this text's walks alone
set_option linter.unusedVariables false
set_option linter.unusedSimpArgs false

/-! ### impl_BuildGraph: function 16 -/
mutual
def impl_BuildGraph.l0 : Nat → List Int → Int → Int → Int → Int → List Int → List Int → List (S120) → Int → List Int → List Int → List Int → List Int → Option (Int × List Int × List Int × List Int × List Int × Int)
 | 0, _, _, _, _, _, _, _, _, _, _, _, _, _ => none
 | k + 1, x20, x21, x22, x271000, x271001, x271002, x271003, x271004, x274000, x274001, x274002, x274003, x274004 => if x22 < x21 then (if 0 ≤ x22 then (if x22 < (x20.length : Int) then (if x274001.length < 17592186044416 then (impl_BuildGraph.l1 k x22 (rd x20 x22) x20 x21 x22 0 x271000 x271001 x271002 x271003 x271004 x274000 (x274001 ++ [(x274002.length : Int)]) x274002 x274003 x274004) else (none)) else (none)) else (none)) else (if x274001.length < 17592186044416 then (some (x274000, (x274001 ++ [(x274002.length : Int)]), x274002, x274003, x274004, 0)) else (none))
def impl_BuildGraph.l1 : Nat → Int → Int → List Int → Int → Int → Int → Int → Int → List Int → List Int → List (S120) → Int → List Int → List Int → List Int → List Int → Option (Int × List Int × List Int × List Int × List Int × Int)
 | 0, _, _, _, _, _, _, _, _, _, _, _, _, _, _, _, _ => none
 | k + 1, x5, x6, x20, x21, x22, x35, x271000, x271001, x271002, x271003, x271004, x274000, x274001, x274002, x274003, x274004 => if x35 < 4 then (if 0 ≤ x35 then (if (Go.bits .and .i64 (shr .i64 x6 x35) 1) = 1 then ((impl_side.f x271000 x271001 x5 x35).bind fun t281 => (if 0 ≤ t281 then (if t281 < (x271002.length : Int) then (if x274002.length < 17592186044416 then (if x274003.length < 17592186044416 then (if x274004.length < 17592186044416 then (impl_BuildGraph.l1 k x5 x6 x20 x21 x22 (wrap64 (x35 + 1)) x271000 x271001 x271002 x271003 x271004 x274000 x274001 (x274002 ++ [t281]) (x274003 ++ [x35]) (x274004 ++ [rd x271002 t281])) else (none)) else (none)) else (none)) else (none)) else (none))) else (impl_BuildGraph.l1 k x5 x6 x20 x21 x22 (wrap64 (x35 + 1)) x271000 x271001 x271002 x271003 x271004 x274000 x274001 x274002 x274003 x274004)) else (none)) else (impl_BuildGraph.l0 k x20 x21 (wrap64 (x22 + 1)) x271000 x271001 x271002 x271003 x271004 x274000 x274001 x274002 x274003 x274004)
end
def impl_BuildGraph.f (k : Nat) (a0_0 : Int) (a0_1 : Int) (l0_2 : List Int) (l0_3 : List Int) (l0_4 : List (S120)) : Option (Int × List Int × List Int × List Int × List Int × Int) := (impl_ValidLayout.f k a0_0 a0_1 l0_2 l0_3 l0_4).bind fun t272 => (if t272 = true then (impl_BuildGraph.l0 k l0_3 (l0_3.length : Int) 0 a0_0 a0_1 l0_2 l0_3 l0_4 (wrap64 (a0_0 * a0_1)) ([] : List Int) ([] : List Int) ([] : List Int) ([] : List Int)) else (some (0, ([] : List Int), ([] : List Int), ([] : List Int), ([] : List Int), 1)))
theorem impl_BuildGraph.mono_l : ∀ k, (∀ y0 y1 y2 y3 y4 y5 y6 y7 y8 y9 y10 y11 y12, LeO (impl_BuildGraph.l0 k y0 y1 y2 y3 y4 y5 y6 y7 y8 y9 y10 y11 y12) (impl_BuildGraph.l0 (k + 1) y0 y1 y2 y3 y4 y5 y6 y7 y8 y9 y10 y11 y12)) ∧ (∀ y0 y1 y2 y3 y4 y5 y6 y7 y8 y9 y10 y11 y12 y13 y14 y15, LeO (impl_BuildGraph.l1 k y0 y1 y2 y3 y4 y5 y6 y7 y8 y9 y10 y11 y12 y13 y14 y15) (impl_BuildGraph.l1 (k + 1) y0 y1 y2 y3 y4 y5 y6 y7 y8 y9 y10 y11 y12 y13 y14 y15))
 | 0 => ⟨fun _ _ _ _ _ _ _ _ _ _ _ _ _ r h => by simp [impl_BuildGraph.l0] at h, fun _ _ _ _ _ _ _ _ _ _ _ _ _ _ _ _ r h => by simp [impl_BuildGraph.l1] at h⟩
 | k + 1 => by
  obtain ⟨ih0, ih1⟩ := impl_BuildGraph.mono_l k
  refine ⟨?_, ?_⟩
  ·intro y0 y1 y2 y3 y4 y5 y6 y7 y8 y9 y10 y11 y12
   unfold impl_BuildGraph.l0
   have m1 := @impl_ValidLayout.mono
   exact zm
  ·intro y0 y1 y2 y3 y4 y5 y6 y7 y8 y9 y10 y11 y12 y13 y14 y15
   unfold impl_BuildGraph.l1
   have m1 := @impl_ValidLayout.mono
   exact zm
theorem impl_BuildGraph.mono : ∀ a0 a1 a2 a3 a4 k, LeO (impl_BuildGraph.f k a0 a1 a2 a3 a4) (impl_BuildGraph.f (k + 1) a0 a1 a2 a3 a4) := by
 intro a0 a1 a2 a3 a4 k
 obtain ⟨ih0, ih1⟩ := impl_BuildGraph.mono_l k
 unfold impl_BuildGraph.f
 have m1 := @impl_ValidLayout.mono
 exact zm
set_option maxHeartbeats 8000000 in
set_option maxRecDepth 100000 in
theorem impl_BuildGraph.calls (k : Nat) (a0_0 : Int) (a0_1 : Int) (A0_2 : Option Addr) (c0_2 : Nat) (l0_2 : List Int) (A0_3 : Option Addr) (c0_3 : Nat) (l0_3 : List Int) (A0_4 : Option Addr) (c0_4 : Nat) (l0_4 : List (S120)) (r1 : Int) (r2 : List Int) (r3 : List Int) (r4 : List Int) (r5 : List Int) (r6 : Int) (w : World) (hr0_2 : Kd.C (Kd.int .i64) w A0_2 l0_2.length l0_2) (hc0_2 : l0_2.length ≤ c0_2) (hr0_3 : Kd.C (Kd.int .i64) w A0_3 l0_3.length l0_3) (hc0_3 : l0_3.length ≤ c0_3) (hr0_4 : Kd.C k120 w A0_4 l0_4.length l0_4) (hc0_4 : l0_4.length ≤ c0_4) (hL : LaidW w) (h : impl_BuildGraph.f k a0_0 a0_1 l0_2 l0_3 l0_4 = some (r1, r2, r3, r4, r5, r6)) :
  Calls Tryd.prog 16 #[.agg #[.int .i64 a0_0, .int .i64 a0_1, .slice A0_2 l0_2.length c0_2, .slice A0_3 l0_3.length c0_3, .slice A0_4 l0_4.length c0_4]] w fun e w' => ∃ v1_ v2_ v3_ v4_ : Value, e = .returned (.tuple #[.agg #[.int .i64 r1, v1_, v2_, v3_, v4_], .int .i64 r6]) ∧ Kd.R (Kd.int .i64) 3 w' w.heap.size (fun k_ => zO k_ (v2_) ∧ zO k_ (v3_) ∧ zO k_ (v4_)) v1_ r2 ∧ Kd.R (Kd.int .i64) 3 w' w.heap.size (fun k_ => zO k_ (v1_) ∧ zO k_ (v3_) ∧ zO k_ (v4_)) v2_ r3 ∧ Kd.R (Kd.int .i64) 3 w' w.heap.size (fun k_ => zO k_ (v1_) ∧ zO k_ (v2_) ∧ zO k_ (v4_)) v3_ r4 ∧ Kd.R (Kd.int .i64) 3 w' w.heap.size (fun k_ => zO k_ (v1_) ∧ zO k_ (v2_) ∧ zO k_ (v3_)) v4_ r5 ∧ Below w.heap.size w w' := by
 have hu33 := Tryd.underlying33
 have hu28 := Tryd.underlying28
 have HR0_2 := zA hr0_2
 have HC0_2 := zA hc0_2
 clear hr0_2 hc0_2
 have HR0_3 := zA hr0_3
 have HC0_3 := zA hc0_3
 clear hr0_3 hc0_3
 have HR0_4 := zA hr0_4
 have HC0_4 := zA hc0_4
 clear hr0_4 hc0_4
 have HLD := zA hL
 clear hL
 have HB := zA (Below.refl w.heap.size w)
 have H : ((impl_ValidLayout.f k a0_0 a0_1 l0_2 l0_3 l0_4).bind fun t272 => (if t272 = true then (impl_BuildGraph.l0 k l0_3 (l0_3.length : Int) 0 a0_0 a0_1 l0_2 l0_3 l0_4 (wrap64 (a0_0 * a0_1)) ([] : List Int) ([] : List Int) ([] : List Int) ([] : List Int)) else (some (0, ([] : List Int), ([] : List Int), ([] : List Int), ([] : List Int), 1)))) = some (r1, r2, r3, r4, r5, r6) := h
 clear h
 replace H := Option.bind_eq_some_iff.mp H
 obtain ⟨t272, A20, H⟩ := H
 replace H : (if t272 = true then (impl_BuildGraph.l0 k l0_3 (l0_3.length : Int) 0 a0_0 a0_1 l0_2 l0_3 l0_4 (wrap64 (a0_0 * a0_1)) ([] : List Int) ([] : List Int) ([] : List Int) ([] : List Int)) else (some (0, ([] : List Int), ([] : List Int), ([] : List Int), ([] : List Int), 1))) = some (r1, r2, r3, r4, r5, r6) := H
 have A2 := zA A20
 clear A20
 by_cases c3 : t272 = true
 ·subst c3
  have H1 : (impl_BuildGraph.l0 k l0_3 (l0_3.length : Int) 0 a0_0 a0_1 l0_2 l0_3 l0_4 (wrap64 (a0_0 * a0_1)) ([] : List Int) ([] : List Int) ([] : List Int) ([] : List Int)) = some (r1, r2, r3, r4, r5, r6) := by rw [if_pos rfl] at H; exact H
  clear H
  have H := H1
  clear H1
  have H' := zA H
  clear H
  go_enter Tryd.func16, Tryd.ntmps16
  go_wp2_with (first | ((with_reducible refine gate_dst (N := 1) rfl ?_); refine box_event ?hg (N := 1) ?hd (cs := #[.int .i64 a0_0, .int .i64 a0_1, .slice A0_2 l0_2.length c0_2, .slice A0_3 l0_3.length c0_3, .slice A0_4 l0_4.length c0_4]) (t := 33) ?hr ?_; (case hd => rfl); (case hg => rfl); (case hr => first | (go_simp; done) | (go_simp; rfl)); intro gb270 hg w4 hbox hb; have n0_ := zA (below_step z_ hb); have n1_ := zA (hbox); have n2_ := zA ((by rw [hg]; exact (below_size z_) : w.heap.size ≤ gb270)); have n3_ := zA ((by rw [hg]; exact (below_size z_) : w.heap.size ≤ gb270)); clear HB; have HB := n0_; have BK270 := n1_; have GW270 := n2_; have GE270 := n3_; clear n0_ n1_ n2_ n3_; clear hb hbox hg) | ((with_reducible refine gate_dst (N := 2) rfl ?_); refine box_event ?hg (N := 2) ?hd (cs := #[.int .i64 0, .slice none 0 0, .slice none 0 0, .slice none 0 0, .slice none 0 0]) (t := 28) ?hr ?_; (case hd => rfl); (case hg => rfl); (case hr => first | (go_simp; done) | (go_simp; rfl)); intro gb271 hg w5 hbox hb; have n0_ := zA (zB BK270.out hb); have n1_ := zA (below_step (zs GE270.out) hb); have n2_ := zA (hbox); have n3_ := zA ((by rw [hg]; exact (below_size (zs GE270.out)) : w.heap.size ≤ gb271)); have n4_ := zA ((by rw [hg]; exact (below_size (zs GE270.out)) : w.heap.size ≤ gb271)); have n5_ := zA ((by rw [hg]; exact Nat.ne_of_lt (zw BK270.out) : gb270 ≠ gb271)); have n6_ := zA ((by rw [hg]; exact Nat.ne_of_gt (zw BK270.out) : gb271 ≠ gb270)); clear BK270 HB; have BK270 := n0_; have HB := n1_; have BK271 := n2_; have GW271 := n3_; have GE271 := n4_; have NB270_271 := n5_; have NB271_270 := n6_; clear n0_ n1_ n2_ n3_ n4_ n5_ n6_; clear hb hbox hg; have hnb6 := NB270_271.out; have hnc6 := NB271_270.out; obtain ⟨hcz7_0, hcz7_1, hcz7_2, hcz7_3, hcz7_4, hfz7_0, hfz7_1, hfz7_2, hfz7_3, hfz7_4⟩ := zh5 BK270.out) | ((with_reducible refine gate_callee (f := 74) rfl ?_); refine goesL_ (some 10) rfl rfl Tryd.func74 (by kernel_rfl) rfl #[.agg #[.int .i64 a0_0, .int .i64 a0_1, .slice A0_2 l0_2.length c0_2, .slice A0_3 l0_3.length c0_3, .slice A0_4 l0_4.length c0_4]] rfl za ?_; (with_reducible refine (impl_ValidLayout.calls k a0_0 a0_1 _ _ l0_2 _ _ l0_3 _ _ l0_4 true _ ?side1 ?side2 ?side3 ?side4 ?side5 ?side6 ?side7 A2.out).mono ?_); (case side1 => exact zc (Kd.C_below HR0_2.out HB.out)); (case side2 => exact HC0_2.out); (case side3 => exact zc (Kd.C_below HR0_3.out HB.out)); (case side4 => exact HC0_3.out); (case side5 => exact zc (Kd.C_below HR0_4.out HB.out)); (case side6 => exact HC0_4.out); (case side7 => exact LaidW.below HLD.out (zs2 GE270.out GE271.out)); rintro e w8 ⟨rfl, hb⟩; refine ⟨_, rfl, ?_⟩; have n0_ := zA (zB BK270.out hb); have n1_ := zA (zB BK271.out hb); have n2_ := zA (below_step (zs2 GE270.out GE271.out) hb); clear BK270 BK271 HB; have BK270 := n0_; have BK271 := n1_; have HB := n2_; clear n0_ n1_ n2_; (try clear hb); (try clear hb2); (try clear hk); (try clear hi); obtain ⟨hcz9_0, hcz9_1, hcz9_2, hcz9_3, hcz9_4, hfz9_0, hfz9_1, hfz9_2, hfz9_3, hfz9_4⟩ := zh5 BK270.out) | ((with_reducible refine gate_dst (N := 4) rfl ?_); refine box_event ?hg (N := 4) ?hd (cs := #[.int .i64 0, .slice none 0 0, .slice none 0 0, .slice none 0 0, .slice none 0 0]) (t := 28) ?hr ?_; (case hd => rfl); (case hg => rfl); (case hr => first | (go_simp; done) | (go_simp; rfl)); intro gb273 hg w10 hbox hb; have n0_ := zA (zB BK270.out hb); have n1_ := zA (zB BK271.out hb); have n2_ := zA (below_step (zs2 GE270.out GE271.out) hb); have n3_ := zA (hbox); have n4_ := zA ((by rw [hg]; exact (below_size (zs2 GE270.out GE271.out)) : w.heap.size ≤ gb273)); have n5_ := zA ((by rw [hg]; exact (below_size (zs2 GE270.out GE271.out)) : w.heap.size ≤ gb273)); have n6_ := zA ((by rw [hg]; exact Nat.ne_of_lt (zw BK270.out) : gb270 ≠ gb273)); have n7_ := zA ((by rw [hg]; exact Nat.ne_of_gt (zw BK270.out) : gb273 ≠ gb270)); have n8_ := zA ((by rw [hg]; exact Nat.ne_of_lt (zw BK271.out) : gb271 ≠ gb273)); have n9_ := zA ((by rw [hg]; exact Nat.ne_of_gt (zw BK271.out) : gb273 ≠ gb271)); clear BK270 BK271 HB; have BK270 := n0_; have BK271 := n1_; have HB := n2_; have BK273 := n3_; have GW273 := n4_; have GE273 := n5_; have NB270_273 := n6_; have NB273_270 := n7_; have NB271_273 := n8_; have NB273_271 := n9_; clear n0_ n1_ n2_ n3_ n4_ n5_ n6_ n7_ n8_ n9_; clear hb hbox hg; have hnb11 := NB273_270.out; have hnc11 := NB270_273.out; have hnb12 := NB273_271.out; have hnc12 := NB271_273.out; obtain ⟨hcz13_0, hcz13_1, hcz13_2, hcz13_3, hcz13_4, hfz13_0, hfz13_1, hfz13_2, hfz13_3, hfz13_4⟩ := zh5 BK273.out; obtain ⟨hcz14_0, hcz14_1, hcz14_2, hcz14_3, hcz14_4, hfz14_0, hfz14_1, hfz14_2, hfz14_3, hfz14_4⟩ := zh5 BK270.out) | (go_at_call 76; go_in) | ((with_reducible refine bodyPost_end (fn := Tryd.f76) (v := .tuple #[]) ?_ rfl ?_); (exact results_none rfl _ _ _); simp only []))
  go_loopg [22] k (fun kq v22 w' => ∃ (x22_1 : Int) (x274001_1 : List Int) (x274002_1 : List Int) (x274003_1 : List Int) (x274004_1 : List Int) (u274001 : Value) (u274002 : Value) (u274003 : Value) (u274004 : Value), v22 = .int .i64 x22_1 ∧ Aside0 (impl_BuildGraph.l0 kq l0_3 (l0_3.length : Int) x22_1 a0_0 a0_1 l0_2 l0_3 l0_4 (wrap64 (a0_0 * a0_1)) x274001_1 x274002_1 x274003_1 x274004_1 = some (r1, r2, r3, r4, r5, r6)) ∧ Aside0 (kq ≤ k) ∧ Aside0 (Kd.R (Kd.int .i64) 3 w' w.heap.size (fun k_ => zO k_ (u274002) ∧ zO k_ (u274003) ∧ zO k_ (u274004)) u274001 x274001_1) ∧ Aside0 (Kd.R (Kd.int .i64) 3 w' w.heap.size (fun k_ => zO k_ (u274001) ∧ zO k_ (u274003) ∧ zO k_ (u274004)) u274002 x274002_1) ∧ Aside0 (Kd.R (Kd.int .i64) 3 w' w.heap.size (fun k_ => zO k_ (u274001) ∧ zO k_ (u274002) ∧ zO k_ (u274004)) u274003 x274003_1) ∧ Aside0 (Kd.R (Kd.int .i64) 3 w' w.heap.size (fun k_ => zO k_ (u274001) ∧ zO k_ (u274002) ∧ zO k_ (u274003)) u274004 x274004_1) ∧ Aside0 (w'.heap[gb270]? = some (.cells #[.int .i64 a0_0, .int .i64 a0_1, (.slice A0_2 l0_2.length c0_2), (.slice A0_3 l0_3.length c0_3), (.slice A0_4 l0_4.length c0_4)] 33 (0, 0))) ∧ Aside0 (w'.heap[gb271]? = some (.cells #[.int .i64 0, (.slice none 0 0), (.slice none 0 0), (.slice none 0 0), (.slice none 0 0)] 28 (0, 0))) ∧ Aside0 (w'.heap[gb273]? = some (.cells #[.int .i64 (wrap64 (a0_0 * a0_1)), u274001, u274002, u274003, u274004] 28 (0, 0))) ∧ Aside0 (Below w.heap.size w w'))
  case atStart => exact ⟨(0), (([] : List Int)), (([] : List Int)), (([] : List Int)), (([] : List Int)), (.slice none 0 0), (.slice none 0 0), (.slice none 0 0), (.slice none 0 0), zr, H', ⟨Nat.le_refl _⟩, ⟨by first | exact Kd.R_nil _ _ _ _ _ | exact Kd.N_nil _ _ _ _ _ | exact Kd.V_nil _ _ _ _ _ | exact Kd.Q_nil _ _ _ _ _ | exact Kd.S_nil _ _ _ _ _⟩, ⟨by first | exact Kd.R_nil _ _ _ _ _ | exact Kd.N_nil _ _ _ _ _ | exact Kd.V_nil _ _ _ _ _ | exact Kd.Q_nil _ _ _ _ _ | exact Kd.S_nil _ _ _ _ _⟩, ⟨by first | exact Kd.R_nil _ _ _ _ _ | exact Kd.N_nil _ _ _ _ _ | exact Kd.V_nil _ _ _ _ _ | exact Kd.Q_nil _ _ _ _ _ | exact Kd.S_nil _ _ _ _ _⟩, ⟨by first | exact Kd.R_nil _ _ _ _ _ | exact Kd.N_nil _ _ _ _ _ | exact Kd.V_nil _ _ _ _ _ | exact Kd.Q_nil _ _ _ _ _ | exact Kd.S_nil _ _ _ _ _⟩, ⟨by (with_reducible repeat (first | refine blk_drewN ?_ _ | refine blk_drew ?_ | refine blk_alloc ?_ _)); refine blk_far ?_ NB270_273.out _; (with_reducible repeat (first | refine blk_drewN ?_ _ | refine blk_drew ?_ | refine blk_alloc ?_ _)); refine blk_far ?_ NB270_273.out _; (with_reducible repeat (first | refine blk_drewN ?_ _ | refine blk_drew ?_ | refine blk_alloc ?_ _)); refine blk_far ?_ NB270_273.out _; (with_reducible repeat (first | refine blk_drewN ?_ _ | refine blk_drew ?_ | refine blk_alloc ?_ _)); refine blk_far ?_ NB270_273.out _; (with_reducible repeat (first | refine blk_drewN ?_ _ | refine blk_drew ?_ | refine blk_alloc ?_ _)); refine blk_far ?_ NB270_273.out _; (with_reducible repeat (first | refine blk_drewN ?_ _ | refine blk_drew ?_ | refine blk_alloc ?_ _)); exact BK270.out⟩, ⟨by (with_reducible repeat (first | refine blk_drewN ?_ _ | refine blk_drew ?_ | refine blk_alloc ?_ _)); refine blk_far ?_ NB271_273.out _; (with_reducible repeat (first | refine blk_drewN ?_ _ | refine blk_drew ?_ | refine blk_alloc ?_ _)); refine blk_far ?_ NB271_273.out _; (with_reducible repeat (first | refine blk_drewN ?_ _ | refine blk_drew ?_ | refine blk_alloc ?_ _)); refine blk_far ?_ NB271_273.out _; (with_reducible repeat (first | refine blk_drewN ?_ _ | refine blk_drew ?_ | refine blk_alloc ?_ _)); refine blk_far ?_ NB271_273.out _; (with_reducible repeat (first | refine blk_drewN ?_ _ | refine blk_drew ?_ | refine blk_alloc ?_ _)); refine blk_far ?_ NB271_273.out _; (with_reducible repeat (first | refine blk_drewN ?_ _ | refine blk_drew ?_ | refine blk_alloc ?_ _)); exact BK271.out⟩, ⟨by (with_reducible repeat (first | refine blk_drewN ?_ _ | refine blk_drew ?_ | refine blk_alloc ?_ _)); refine blk_put (cs := #[.int .i64 (wrap64 (a0_0 * a0_1)), .slice none 0 0, .slice none 0 0, .slice none 0 0, .slice none 0 0]) ?_ 4 _ rfl; (with_reducible repeat (first | refine blk_drewN ?_ _ | refine blk_drew ?_ | refine blk_alloc ?_ _)); refine blk_put (cs := #[.int .i64 (wrap64 (a0_0 * a0_1)), .slice none 0 0, .slice none 0 0, .slice none 0 0, .slice none 0 0]) ?_ 3 _ rfl; (with_reducible repeat (first | refine blk_drewN ?_ _ | refine blk_drew ?_ | refine blk_alloc ?_ _)); refine blk_put (cs := #[.int .i64 (wrap64 (a0_0 * a0_1)), .slice none 0 0, .slice none 0 0, .slice none 0 0, .slice none 0 0]) ?_ 2 _ rfl; (with_reducible repeat (first | refine blk_drewN ?_ _ | refine blk_drew ?_ | refine blk_alloc ?_ _)); refine blk_put (cs := #[.int .i64 (wrap64 (a0_0 * a0_1)), .slice none 0 0, .slice none 0 0, .slice none 0 0, .slice none 0 0]) ?_ 1 _ rfl; (with_reducible repeat (first | refine blk_drewN ?_ _ | refine blk_drew ?_ | refine blk_alloc ?_ _)); refine blk_put (cs := #[.int .i64 0, .slice none 0 0, .slice none 0 0, .slice none 0 0, .slice none 0 0]) ?_ 0 _ rfl; (with_reducible repeat (first | refine blk_drewN ?_ _ | refine blk_drew ?_ | refine blk_alloc ?_ _)); exact BK273.out⟩, ⟨(zs3 GE270.out GE271.out GE273.out)⟩⟩
  case round =>
   clear H'
   (try clear c1); (try clear p2); (try clear c3); (try clear c6); (try clear p6); (try clear c7); (try clear c11); (try clear c12); (try clear hcz13_0 hcz13_1 hcz13_2 hcz13_3 hcz13_4); (try clear hcz14_0 hcz14_1 hcz14_2 hcz14_3 hcz14_4); (try clear hcz7_0 hcz7_1 hcz7_2 hcz7_3 hcz7_4); (try clear hcz9_0 hcz9_1 hcz9_2 hcz9_3 hcz9_4); (try clear hfz13_0 hfz13_1 hfz13_2 hfz13_3 hfz13_4); (try clear hfz14_0 hfz14_1 hfz14_2 hfz14_3 hfz14_4); (try clear hfz7_0 hfz7_1 hfz7_2 hfz7_3 hfz7_4); (try clear hfz9_0 hfz9_1 hfz9_2 hfz9_3 hfz9_4)
   obtain ⟨x22_1, x274001_1, x274002_1, x274003_1, x274004_1, u274001, u274002, u274003, u274004, rfl, HA, HK1, HO_274001, HO_274002, HO_274003, HO_274004, BK270, BK271, BK273, HB⟩ := hrel
   cases gk with
   | zero => exact absurd HA.out (by simp [impl_BuildGraph.l0])
   | succ k1 =>
    have H := HA.out
    clear HA
    simp only [impl_BuildGraph.l0] at H
    by_cases c15 : x22_1 < (l0_3.length : Int)
    ·rw [if_pos c15] at H
     have c15b0 : decide (x22_1 < (l0_3.length : Int)) = true := decide_eq_true c15
     clear c15
     by_cases c16 : 0 ≤ x22_1
     ·rw [if_pos c16] at H
      have c16b0 : decide (0 ≤ x22_1) = true := decide_eq_true c16
      clear c16
      by_cases c17 : x22_1 < (l0_3.length : Int)
      ·rw [if_pos c17] at H
       have c17b0 : decide (x22_1 < (l0_3.length : Int)) = true := decide_eq_true c17
       clear c17
       by_cases c18 : x274001_1.length < 17592186044416
       ·rw [if_pos c18] at H
        have LMc18 := zA c18
        clear c18
        obtain ⟨y278, hy278⟩ : ∃ y_ : List Int, y_ = (x274001_1 ++ [(x274002_1.length : Int)]) := ⟨_, rfl⟩
        replace H : (impl_BuildGraph.l1 k1 x22_1 (rd l0_3 x22_1) l0_3 (l0_3.length : Int) x22_1 0 a0_0 a0_1 l0_2 l0_3 l0_4 (wrap64 (a0_0 * a0_1)) y278 x274002_1 x274003_1 x274004_1) = some (r1, r2, r3, r4, r5, r6) := zh hy278
        have Ny278 := zA hy278
        clear hy278
        have H' := zA H
        clear H
        have p277 : 0 ≤ (x22_1 : Int) := zd
        have q277 : x22_1 < (l0_3.length : Int) := zd
        obtain ⟨ad277, e277, hx277_0⟩ := Kd.at_int HR0_3.out x22_1 p277 q277
        cases e277
        replace hx277_0 := zx HB.out hx277_0
        replace p277 := eq_true p277
        replace q277 := eq_true q277
        have hnb19 := NB273_270.out
        have hnc19 := NB270_273.out
        have hnb20 := NB273_271.out
        have hnc20 := NB271_273.out
        obtain ⟨hcz21_0, hcz21_1, hcz21_2, hcz21_3, hcz21_4, hfz21_0, hfz21_1, hfz21_2, hfz21_3, hfz21_4⟩ := zh5 BK273.out
        obtain ⟨Ao22, co22, eo22⟩ := Kd.R_slice HO_274002.out
        subst eo22
        go_wp2_with (first | ((with_reducible refine gate_builtin (b := .append) (xs := #[.tmp 28, .tmp 32]) rfl ?_); at_builtin; refine Kd.R_append (Kd.int .i64) (w0 := w) w.heap.size rfl (.tmp 28) (.tmp 32) 22 3 (.int .i64 0) 8 rfl Tryd.underlying22 info3 rfl (by decide) (by omega) u274001 x274001_1 (x274002_1.length : Int) [.int .i64 (x274002_1.length : Int)] (fun k_ => zO k_ (.slice Ao22 x274002_1.length co22) ∧ zO k_ (u274003) ∧ zO k_ (u274004)) (fun _ => False) rfl rfl ?aP (fun _ hk => hk.elim) ?aF ?aO ?aB ?aS ?aL ?_; (case aP => exact rfl); (case aB => exact (zs3 GE270.out GE271.out GE273.out)); (case aF => exact (fun k_ hk => ⟨Kd.fresh' (zl HO_274002.out) k_ hk, Kd.fresh' (zl HO_274003.out) k_ hk, Kd.fresh' (zl HO_274004.out) k_ hk⟩)); (case aO => exact (zR HO_274001.out)); (case aS => exact (below_size (zs3 GE270.out GE271.out GE273.out))); (case aL => have := LMc18.out; omega); intro v279 w23 ho hb hg hat; rw [← Ny278.out] at ho; have n0_ := zA (Kd.R_after (ok := (fun k_ => zO k_ (u274003) ∧ zO k_ (u274004))) (by (with_reducible repeat (first | apply Kd.R_alloc | apply Kd.R_drewN | apply Kd.R_drew)); exact Kd.R_mono HO_274002.out (fun _ hk => ⟨⟨hk.2.1, hk.2.2⟩, hk.1⟩)) hg hat); have n1_ := zA (Kd.R_after (ok := (fun k_ => zO k_ (.slice Ao22 x274002_1.length co22) ∧ zO k_ (u274004))) (by (with_reducible repeat (first | apply Kd.R_alloc | apply Kd.R_drewN | apply Kd.R_drew)); exact Kd.R_mono HO_274003.out (fun _ hk => ⟨⟨hk.2.1, hk.2.2⟩, hk.1⟩)) hg hat); have n2_ := zA (Kd.R_after (ok := (fun k_ => zO k_ (.slice Ao22 x274002_1.length co22) ∧ zO k_ (u274003))) (by (with_reducible repeat (first | apply Kd.R_alloc | apply Kd.R_drewN | apply Kd.R_drew)); exact Kd.R_mono HO_274004.out (fun _ hk => ⟨⟨hk.2.1, hk.2.2⟩, hk.1⟩)) hg hat); have n3_ := zA (blk_grown (g := gb270) (o := .cells #[.int .i64 a0_0, .int .i64 a0_1, .slice A0_2 l0_2.length c0_2, .slice (some ad277) l0_3.length c0_3, .slice A0_4 l0_4.length c0_4] 33 (0, 0)) (zb BK270.out) hg (Kd.R_ne HO_274001.out BK270.out (by decide))); have n4_ := zA (blk_grown (g := gb271) (o := .cells #[.int .i64 0, .slice none 0 0, .slice none 0 0, .slice none 0 0, .slice none 0 0] 28 (0, 0)) (zb BK271.out) hg (Kd.R_ne HO_274001.out BK271.out (by decide))); have n5_ := zA (blk_grown (g := gb273) (o := .cells #[.int .i64 (wrap64 (a0_0 * a0_1)), u274001, .slice Ao22 x274002_1.length co22, u274003, u274004] 28 (0, 0)) (zb BK273.out) hg (Kd.R_ne HO_274001.out BK273.out (by decide))); have n6_ := zA (hb); have n7_ := zA (ho); clear HO_274002 HO_274003 HO_274004 BK270 BK271 BK273 HB HO_274001; have HO_274002 := n0_; have HO_274003 := n1_; have HO_274004 := n2_; have BK270 := n3_; have BK271 := n4_; have BK273 := n5_; have HB := n6_; have HO280 := n7_; clear n0_ n1_ n2_ n3_ n4_ n5_ n6_ n7_; clear ho hb hg hat; obtain ⟨Ao24, co24, eo24⟩ := Kd.R_slice HO280.out; subst eo24; obtain ⟨hcz25_0, hcz25_1, hcz25_2, hcz25_3, hcz25_4, hfz25_0, hfz25_1, hfz25_2, hfz25_3, hfz25_4⟩ := zh5 BK273.out) | (go_at_call 76; go_in) | ((with_reducible refine bodyPost_end (fn := Tryd.f76) (v := .tuple #[]) ?_ rfl ?_); (exact results_none rfl _ _ _); simp only []))
        go_loopg [35] k1 (fun kq v35 w' => ∃ (x35_2 : Int) (x274002_2 : List Int) (x274003_2 : List Int) (x274004_2 : List Int) (u274002 : Value) (u274003 : Value) (u274004 : Value), v35 = .int .i64 x35_2 ∧ Aside0 (impl_BuildGraph.l1 kq x22_1 (rd l0_3 x22_1) l0_3 (l0_3.length : Int) x22_1 x35_2 a0_0 a0_1 l0_2 l0_3 l0_4 (wrap64 (a0_0 * a0_1)) y278 x274002_2 x274003_2 x274004_2 = some (r1, r2, r3, r4, r5, r6)) ∧ Aside0 (kq ≤ k1) ∧ Aside0 (Kd.R (Kd.int .i64) 3 w' w.heap.size (fun k_ => zO k_ (u274002) ∧ zO k_ (u274003) ∧ zO k_ (u274004)) (.slice Ao24 y278.length co24) y278) ∧ Aside0 (Kd.R (Kd.int .i64) 3 w' w.heap.size (fun k_ => zO k_ ((.slice Ao24 y278.length co24)) ∧ zO k_ (u274003) ∧ zO k_ (u274004)) u274002 x274002_2) ∧ Aside0 (Kd.R (Kd.int .i64) 3 w' w.heap.size (fun k_ => zO k_ ((.slice Ao24 y278.length co24)) ∧ zO k_ (u274002) ∧ zO k_ (u274004)) u274003 x274003_2) ∧ Aside0 (Kd.R (Kd.int .i64) 3 w' w.heap.size (fun k_ => zO k_ ((.slice Ao24 y278.length co24)) ∧ zO k_ (u274002) ∧ zO k_ (u274003)) u274004 x274004_2) ∧ Aside0 (w'.heap[gb270]? = some (.cells #[.int .i64 a0_0, .int .i64 a0_1, (.slice A0_2 l0_2.length c0_2), (.slice (some ad277) l0_3.length c0_3), (.slice A0_4 l0_4.length c0_4)] 33 (0, 0))) ∧ Aside0 (w'.heap[gb271]? = some (.cells #[.int .i64 0, (.slice none 0 0), (.slice none 0 0), (.slice none 0 0), (.slice none 0 0)] 28 (0, 0))) ∧ Aside0 (w'.heap[gb273]? = some (.cells #[.int .i64 (wrap64 (a0_0 * a0_1)), (.slice Ao24 y278.length co24), u274002, u274003, u274004] 28 (0, 0))) ∧ Aside0 (Below w.heap.size w w'))
        case atStart => exact ⟨(0), (x274002_1), (x274003_1), (x274004_1), (.slice Ao22 x274002_1.length co22), (u274003), (u274004), zr, H', ⟨Nat.le_refl _⟩, ⟨by (with_reducible repeat (first | apply Kd.R_alloc | apply Kd.R_drewN | apply Kd.R_drew)); exact Kd.R_mono (zK HO280.out BK273.out) (fun _ hk => ⟨hk.1, ⟨hk.2.1, hk.2.2⟩⟩)⟩, ⟨by (with_reducible repeat (first | apply Kd.R_alloc | apply Kd.R_drewN | apply Kd.R_drew)); exact Kd.R_mono (zK HO_274002.out BK273.out) (fun _ hk => ⟨hk.2, ⟨hk.1.1, hk.1.2⟩⟩)⟩, ⟨by (with_reducible repeat (first | apply Kd.R_alloc | apply Kd.R_drewN | apply Kd.R_drew)); exact Kd.R_mono (zK HO_274003.out BK273.out) (fun _ hk => ⟨hk.2, ⟨hk.1.1, hk.1.2⟩⟩)⟩, ⟨by (with_reducible repeat (first | apply Kd.R_alloc | apply Kd.R_drewN | apply Kd.R_drew)); exact Kd.R_mono (zK HO_274004.out BK273.out) (fun _ hk => ⟨hk.2, ⟨hk.1.1, hk.1.2⟩⟩)⟩, ⟨by (with_reducible repeat (first | refine blk_drewN ?_ _ | refine blk_drew ?_ | refine blk_alloc ?_ _)); refine blk_far ?_ NB270_273.out _; (with_reducible repeat (first | refine blk_drewN ?_ _ | refine blk_drew ?_ | refine blk_alloc ?_ _)); exact BK270.out⟩, ⟨by (with_reducible repeat (first | refine blk_drewN ?_ _ | refine blk_drew ?_ | refine blk_alloc ?_ _)); refine blk_far ?_ NB271_273.out _; (with_reducible repeat (first | refine blk_drewN ?_ _ | refine blk_drew ?_ | refine blk_alloc ?_ _)); exact BK271.out⟩, ⟨by (with_reducible repeat (first | refine blk_drewN ?_ _ | refine blk_drew ?_ | refine blk_alloc ?_ _)); refine blk_put (cs := #[.int .i64 (wrap64 (a0_0 * a0_1)), u274001, .slice Ao22 x274002_1.length co22, u274003, u274004]) ?_ 1 _ rfl; (with_reducible repeat (first | refine blk_drewN ?_ _ | refine blk_drew ?_ | refine blk_alloc ?_ _)); exact BK273.out⟩, ⟨(zs3 GE270.out GE271.out GE273.out)⟩⟩
        case round =>
         clear H'
         (try clear c1); (try clear c2); (try clear p2); (try clear q2); (try clear hx2); (try clear c3); (try clear c6); (try clear p6); (try clear c7); (try clear c11); (try clear c12); (try clear c15); (try clear c15b0); (try clear c16); (try clear c16b0); (try clear c17); (try clear c17b0); (try clear c18); (try clear c19); (try clear c20); (try clear hcz13_0 hcz13_1 hcz13_2 hcz13_3 hcz13_4); (try clear hcz14_0 hcz14_1 hcz14_2 hcz14_3 hcz14_4); (try clear hcz21_0 hcz21_1 hcz21_2 hcz21_3 hcz21_4); (try clear hcz25_0 hcz25_1 hcz25_2 hcz25_3 hcz25_4); (try clear hcz7_0 hcz7_1 hcz7_2 hcz7_3 hcz7_4); (try clear hcz9_0 hcz9_1 hcz9_2 hcz9_3 hcz9_4); (try clear hfz13_0 hfz13_1 hfz13_2 hfz13_3 hfz13_4); (try clear hfz14_0 hfz14_1 hfz14_2 hfz14_3 hfz14_4); (try clear hfz21_0 hfz21_1 hfz21_2 hfz21_3 hfz21_4); (try clear hfz25_0 hfz25_1 hfz25_2 hfz25_3 hfz25_4); (try clear hfz7_0 hfz7_1 hfz7_2 hfz7_3 hfz7_4); (try clear hfz9_0 hfz9_1 hfz9_2 hfz9_3 hfz9_4); (try clear hx277_0); (try clear p2); (try clear p277); (try clear p6); (try clear q277)
         obtain ⟨x35_2, x274002_2, x274003_2, x274004_2, u274002, u274003, u274004, rfl, HA, HK2, HO_274001, HO_274002, HO_274003, HO_274004, BK270, BK271, BK273, HB⟩ := hrel
         cases gk with
         | zero => exact absurd HA.out (by simp [impl_BuildGraph.l1])
         | succ k2 =>
          have H := HA.out
          clear HA
          simp only [impl_BuildGraph.l1] at H
          by_cases c26 : x35_2 < 4
          ·rw [if_pos c26] at H
           have c26b0 : decide (x35_2 < 4) = true := decide_eq_true c26
           clear c26
           by_cases c27 : 0 ≤ x35_2
           ·rw [if_pos c27] at H
            have c27b0 := eq_true c27
            have c27b1 : decide (0 ≤ x35_2) = true := decide_eq_true c27
            clear c27
            obtain ⟨ji28, hji28⟩ : ∃ j_ : Int, (shr .i64 (rd l0_3 x22_1) x35_2) = j_ := ⟨_, rfl⟩
            replace H : (if (Go.bits .and .i64 (ji28) 1) = 1 then ((impl_side.f a0_0 a0_1 x22_1 x35_2).bind fun t281 => (if 0 ≤ t281 then (if t281 < (l0_2.length : Int) then (if x274002_2.length < 17592186044416 then (if x274003_2.length < 17592186044416 then (if x274004_2.length < 17592186044416 then (impl_BuildGraph.l1 k2 x22_1 (rd l0_3 x22_1) l0_3 (l0_3.length : Int) x22_1 (wrap64 (x35_2 + 1)) a0_0 a0_1 l0_2 l0_3 l0_4 (wrap64 (a0_0 * a0_1)) y278 (x274002_2 ++ [t281]) (x274003_2 ++ [x35_2]) (x274004_2 ++ [rd l0_2 t281])) else (none)) else (none)) else (none)) else (none)) else (none))) else (impl_BuildGraph.l1 k2 x22_1 (rd l0_3 x22_1) l0_3 (l0_3.length : Int) x22_1 (wrap64 (x35_2 + 1)) a0_0 a0_1 l0_2 l0_3 l0_4 (wrap64 (a0_0 * a0_1)) y278 x274002_2 x274003_2 x274004_2)) = some (r1, r2, r3, r4, r5, r6) := by first | (rw [hji28] at H; exact H) | (simp only [hji28] at H ⊢; exact H)
            have hji28_ : ((rd l0_3 x22_1) / 2 ^ min x35_2.toNat 64) = ji28 := hji28
            have hji28z : x35_2 ≤ 64 → ((rd l0_3 x22_1) / 2 ^ x35_2.toNat) = ji28 := shr_small hji28
            by_cases c29 : (Go.bits .and .i64 (ji28) 1) = 1
            ·rw [if_pos c29] at H
             have c29b0 : ((Go.bits .and .i64 (ji28) 1) == 1) = true := beq_iff_eq.mpr c29
             have c29b1 : ((Go.bits .and .i64 (ji28) 1) != 1) = false := bne_eq_false_iff_eq.mpr c29
             clear c29
             replace H := Option.bind_eq_some_iff.mp H
             obtain ⟨t281, A300, H⟩ := H
             replace H : (if 0 ≤ t281 then (if t281 < (l0_2.length : Int) then (if x274002_2.length < 17592186044416 then (if x274003_2.length < 17592186044416 then (if x274004_2.length < 17592186044416 then (impl_BuildGraph.l1 k2 x22_1 (rd l0_3 x22_1) l0_3 (l0_3.length : Int) x22_1 (wrap64 (x35_2 + 1)) a0_0 a0_1 l0_2 l0_3 l0_4 (wrap64 (a0_0 * a0_1)) y278 (x274002_2 ++ [t281]) (x274003_2 ++ [x35_2]) (x274004_2 ++ [rd l0_2 t281])) else (none)) else (none)) else (none)) else (none)) else (none)) = some (r1, r2, r3, r4, r5, r6) := H
             have A30 := zA A300
             clear A300
             by_cases c31 : 0 ≤ t281
             ·rw [if_pos c31] at H
              have c31b0 : decide (0 ≤ t281) = true := decide_eq_true c31
              clear c31
              by_cases c32 : t281 < (l0_2.length : Int)
              ·rw [if_pos c32] at H
               have c32b0 : decide (t281 < (l0_2.length : Int)) = true := decide_eq_true c32
               clear c32
               by_cases c33 : x274002_2.length < 17592186044416
               ·rw [if_pos c33] at H
                have LMc33 := zA c33
                clear c33
                obtain ⟨y283, hy283⟩ : ∃ y_ : List Int, y_ = (x274002_2 ++ [t281]) := ⟨_, rfl⟩
                replace H : (if x274003_2.length < 17592186044416 then (if x274004_2.length < 17592186044416 then (impl_BuildGraph.l1 k2 x22_1 (rd l0_3 x22_1) l0_3 (l0_3.length : Int) x22_1 (wrap64 (x35_2 + 1)) a0_0 a0_1 l0_2 l0_3 l0_4 (wrap64 (a0_0 * a0_1)) y278 y283 (x274003_2 ++ [x35_2]) (x274004_2 ++ [rd l0_2 t281])) else (none)) else (none)) = some (r1, r2, r3, r4, r5, r6) := zh hy283
                have Ny283 := zA hy283
                clear hy283
                by_cases c34 : x274003_2.length < 17592186044416
                ·rw [if_pos c34] at H
                 have LMc34 := zA c34
                 clear c34
                 obtain ⟨y286, hy286⟩ : ∃ y_ : List Int, y_ = (x274003_2 ++ [x35_2]) := ⟨_, rfl⟩
                 replace H : (if x274004_2.length < 17592186044416 then (impl_BuildGraph.l1 k2 x22_1 (rd l0_3 x22_1) l0_3 (l0_3.length : Int) x22_1 (wrap64 (x35_2 + 1)) a0_0 a0_1 l0_2 l0_3 l0_4 (wrap64 (a0_0 * a0_1)) y278 y283 y286 (x274004_2 ++ [rd l0_2 t281])) else (none)) = some (r1, r2, r3, r4, r5, r6) := zh hy286
                 have Ny286 := zA hy286
                 clear hy286
                 by_cases c35 : x274004_2.length < 17592186044416
                 ·rw [if_pos c35] at H
                  have LMc35 := zA c35
                  clear c35
                  obtain ⟨y289, hy289⟩ : ∃ y_ : List Int, y_ = (x274004_2 ++ [rd l0_2 t281]) := ⟨_, rfl⟩
                  replace H : (impl_BuildGraph.l1 k2 x22_1 (rd l0_3 x22_1) l0_3 (l0_3.length : Int) x22_1 (wrap64 (x35_2 + 1)) a0_0 a0_1 l0_2 l0_3 l0_4 (wrap64 (a0_0 * a0_1)) y278 y283 y286 y289) = some (r1, r2, r3, r4, r5, r6) := zh hy289
                  have Ny289 := zA hy289
                  clear hy289
                  have H' := zA H
                  clear H
                  have hnb36 := NB270_271.out
                  have hnc36 := NB271_270.out
                  have hnb37 := NB270_273.out
                  have hnc37 := NB273_270.out
                  obtain ⟨hcz38_0, hcz38_1, hcz38_2, hcz38_3, hcz38_4, hfz38_0, hfz38_1, hfz38_2, hfz38_3, hfz38_4⟩ := zh5 BK270.out
                  go_wp2_with (first | ((with_reducible refine gate_callee (f := 75) rfl ?_); refine goesL_ (some 49) rfl rfl Tryd.func75 (by kernel_rfl) rfl #[.int .i64 a0_0, .int .i64 a0_1, .int .i64 x22_1, .int .i64 x35_2] rfl za ?_; (with_reducible refine (impl_side.calls a0_0 a0_1 x22_1 x35_2 t281 _ A30.out).mono ?_); rintro e w' ⟨rfl, ⟨nd, rfl⟩⟩; refine ⟨_, rfl, ?_⟩; skip; have p282 : 0 ≤ (t281 : Int) := zd; have q282 : t281 < (l0_2.length : Int) := zd; obtain ⟨ad282, e282, hx282_0⟩ := Kd.at_int HR0_2.out t281 p282 q282; cases e282; replace hx282_0 := zx HB.out hx282_0; replace p282 := eq_true p282; replace q282 := eq_true q282; have hnb39 := NB273_271.out; have hnc39 := NB271_273.out; obtain ⟨hcz40_0, hcz40_1, hcz40_2, hcz40_3, hcz40_4, hfz40_0, hfz40_1, hfz40_2, hfz40_3, hfz40_4⟩ := zh5 BK273.out) | ((with_reducible refine gate_builtin (b := .append) (xs := #[.tmp 12, .tmp 14]) rfl ?_); at_builtin; refine Kd.R_append (Kd.int .i64) (w0 := w) w.heap.size rfl (.tmp 12) (.tmp 14) 22 3 (.int .i64 0) 8 rfl Tryd.underlying22 info3 rfl (by decide) (by omega) u274002 x274002_2 t281 [.int .i64 t281] (fun k_ => zO k_ (.slice Ao24 y278.length co24) ∧ zO k_ (u274003) ∧ zO k_ (u274004)) (fun _ => False) rfl rfl ?aP (fun _ hk => hk.elim) ?aF ?aO ?aB ?aS ?aL ?_; (case aP => exact rfl); (case aB => exact (zs3 GE270.out GE271.out GE273.out)); (case aF => exact (fun k_ hk => ⟨Kd.fresh' (zl HO_274001.out) k_ hk, Kd.fresh' (zl HO_274003.out) k_ hk, Kd.fresh' (zl HO_274004.out) k_ hk⟩)); (case aO => exact (zR HO_274002.out)); (case aS => exact (below_size (zs3 GE270.out GE271.out GE273.out))); (case aL => have := LMc33.out; omega); intro v284 w41 ho hb hg hat; rw [← Ny283.out] at ho; have n0_ := zA (Kd.R_after (ok := (fun k_ => zO k_ (u274003) ∧ zO k_ (u274004))) (by (with_reducible repeat (first | apply Kd.R_alloc | apply Kd.R_drewN | apply Kd.R_drew)); exact Kd.R_mono HO_274001.out (fun _ hk => ⟨⟨hk.2.1, hk.2.2⟩, hk.1⟩)) hg hat); have n1_ := zA (Kd.R_after (ok := (fun k_ => zO k_ (.slice Ao24 y278.length co24) ∧ zO k_ (u274004))) (by (with_reducible repeat (first | apply Kd.R_alloc | apply Kd.R_drewN | apply Kd.R_drew)); exact Kd.R_mono HO_274003.out (fun _ hk => ⟨⟨hk.1, hk.2.2⟩, hk.2.1⟩)) hg hat); have n2_ := zA (Kd.R_after (ok := (fun k_ => zO k_ (.slice Ao24 y278.length co24) ∧ zO k_ (u274003))) (by (with_reducible repeat (first | apply Kd.R_alloc | apply Kd.R_drewN | apply Kd.R_drew)); exact Kd.R_mono HO_274004.out (fun _ hk => ⟨⟨hk.1, hk.2.2⟩, hk.2.1⟩)) hg hat); have n3_ := zA (blk_grown (g := gb270) (o := .cells #[.int .i64 a0_0, .int .i64 a0_1, .slice (some ad282) l0_2.length c0_2, .slice (some ad277) l0_3.length c0_3, .slice A0_4 l0_4.length c0_4] 33 (0, 0)) (zb BK270.out) hg (Kd.R_ne HO_274002.out BK270.out (by decide))); have n4_ := zA (blk_grown (g := gb271) (o := .cells #[.int .i64 0, .slice none 0 0, .slice none 0 0, .slice none 0 0, .slice none 0 0] 28 (0, 0)) (zb BK271.out) hg (Kd.R_ne HO_274002.out BK271.out (by decide))); have n5_ := zA (blk_grown (g := gb273) (o := .cells #[.int .i64 (wrap64 (a0_0 * a0_1)), .slice Ao24 y278.length co24, u274002, u274003, u274004] 28 (0, 0)) (zb BK273.out) hg (Kd.R_ne HO_274002.out BK273.out (by decide))); have n6_ := zA (hb); have n7_ := zA (ho); clear HO_274001 HO_274003 HO_274004 BK270 BK271 BK273 HB HO_274002; have HO_274001 := n0_; have HO_274003 := n1_; have HO_274004 := n2_; have BK270 := n3_; have BK271 := n4_; have BK273 := n5_; have HB := n6_; have HO285 := n7_; clear n0_ n1_ n2_ n3_ n4_ n5_ n6_ n7_; clear ho hb hg hat; obtain ⟨Ao42, co42, eo42⟩ := Kd.R_slice HO285.out; subst eo42; obtain ⟨hcz43_0, hcz43_1, hcz43_2, hcz43_3, hcz43_4, hfz43_0, hfz43_1, hfz43_2, hfz43_3, hfz43_4⟩ := zh5 BK273.out) | ((with_reducible refine gate_builtin (b := .append) (xs := #[.tmp 22, .tmp 24]) rfl ?_); at_builtin; refine Kd.R_append (Kd.int .i64) (w0 := w) w.heap.size rfl (.tmp 22) (.tmp 24) 22 3 (.int .i64 0) 8 rfl Tryd.underlying22 info3 rfl (by decide) (by omega) u274003 x274003_2 x35_2 [.int .i64 x35_2] (fun k_ => zO k_ (.slice Ao24 y278.length co24) ∧ zO k_ (u274004) ∧ zO k_ (.slice Ao42 y283.length co42)) (fun _ => False) rfl (by first | (go_simp; done) | (go_simp; rfl)) ?aP (fun _ hk => hk.elim) ?aF ?aO ?aB ?aS ?aL ?_; (case aP => exact rfl); (case aB => exact (zs3 GE270.out GE271.out GE273.out)); (case aF => exact (fun k_ hk => ⟨Kd.fresh' (zl HO_274001.out) k_ hk, Kd.fresh' (zl HO_274004.out) k_ hk, Kd.fresh' (zl HO285.out) k_ hk⟩)); (case aO => exact (by (with_reducible repeat (first | apply Kd.R_alloc | apply Kd.R_drewN | apply Kd.R_drew)); exact Kd.R_mono (Kd.R_far (p := ⟨gb273, 2, none⟩) (Kd.R_types HO_274003.out BK273.out (by decide)) (fun _ hk => hk.2) (.slice Ao42 y283.length co42)) (fun _ hk => ⟨hk.1.1.1, ⟨hk.1.1.2, hk.1.2⟩⟩))); (case aS => exact (below_size (zs3 GE270.out GE271.out GE273.out))); (case aL => have := LMc34.out; omega); intro v287 w44 ho hb hg hat; rw [← Ny286.out] at ho; have n0_ := zA (Kd.R_after (ok := (fun k_ => zO k_ (u274004) ∧ zO k_ (.slice Ao42 y283.length co42))) (by (with_reducible repeat (first | apply Kd.R_alloc | apply Kd.R_drewN | apply Kd.R_drew)); exact Kd.R_mono (Kd.R_far (p := ⟨gb273, 2, none⟩) (Kd.R_types HO_274001.out BK273.out (by decide)) (fun _ hk => hk.2) (.slice Ao42 y283.length co42)) (fun _ hk => ⟨⟨hk.1.1.2, hk.1.2⟩, hk.1.1.1⟩)) hg hat); have n1_ := zA (Kd.R_after (ok := (fun k_ => zO k_ (.slice Ao24 y278.length co24) ∧ zO k_ (.slice Ao42 y283.length co42))) (by (with_reducible repeat (first | apply Kd.R_alloc | apply Kd.R_drewN | apply Kd.R_drew)); exact Kd.R_mono (Kd.R_far (p := ⟨gb273, 2, none⟩) (Kd.R_types HO_274004.out BK273.out (by decide)) (fun _ hk => hk.2) (.slice Ao42 y283.length co42)) (fun _ hk => ⟨⟨hk.1.1.1, hk.1.2⟩, hk.1.1.2⟩)) hg hat); have n2_ := zA (blk_grown (g := gb270) (o := .cells #[.int .i64 a0_0, .int .i64 a0_1, .slice (some ad282) l0_2.length c0_2, .slice (some ad277) l0_3.length c0_3, .slice A0_4 l0_4.length c0_4] 33 (0, 0)) (zf BK270.out NB270_273.out) hg (Kd.R_ne HO_274003.out BK270.out (by decide))); have n3_ := zA (blk_grown (g := gb271) (o := .cells #[.int .i64 0, .slice none 0 0, .slice none 0 0, .slice none 0 0, .slice none 0 0] 28 (0, 0)) (zf BK271.out NB271_273.out) hg (Kd.R_ne HO_274003.out BK271.out (by decide))); have n4_ := zA (blk_grown (g := gb273) (o := .cells #[.int .i64 (wrap64 (a0_0 * a0_1)), .slice Ao24 y278.length co24, .slice Ao42 y283.length co42, u274003, u274004] 28 (0, 0)) (zq BK273.out) hg (Kd.R_ne HO_274003.out BK273.out (by decide))); have n5_ := zA (Kd.R_after (ok := (fun k_ => zO k_ (.slice Ao24 y278.length co24) ∧ zO k_ (u274004))) (by (with_reducible repeat (first | apply Kd.R_alloc | apply Kd.R_drewN | apply Kd.R_drew)); exact Kd.R_mono (Kd.R_far (p := ⟨gb273, 2, none⟩) (Kd.R_types HO285.out BK273.out (by decide)) (fun _ hk => hk.2) (.slice Ao42 y283.length co42)) (fun _ hk => ⟨⟨hk.1.1, hk.1.2.2⟩, hk.1.2.1⟩)) hg hat); have n6_ := zA (hb); have n7_ := zA (ho); clear HO_274001 HO_274004 BK270 BK271 BK273 HO285 HB HO_274003; have HO_274001 := n0_; have HO_274004 := n1_; have BK270 := n2_; have BK271 := n3_; have BK273 := n4_; have HO285 := n5_; have HB := n6_; have HO288 := n7_; clear n0_ n1_ n2_ n3_ n4_ n5_ n6_ n7_; clear ho hb hg hat; obtain ⟨Ao45, co45, eo45⟩ := Kd.R_slice HO288.out; subst eo45; obtain ⟨hcz46_0, hcz46_1, hcz46_2, hcz46_3, hcz46_4, hfz46_0, hfz46_1, hfz46_2, hfz46_3, hfz46_4⟩ := zh5 BK273.out) | ((with_reducible refine gate_builtin (b := .append) (xs := #[.tmp 32, .tmp 34]) rfl ?_); at_builtin; refine Kd.R_append (Kd.int .i64) (w0 := w) w.heap.size rfl (.tmp 32) (.tmp 34) 22 3 (.int .i64 0) 8 rfl Tryd.underlying22 info3 rfl (by decide) (by omega) u274004 x274004_2 (rd l0_2 t281) [.int .i64 (rd l0_2 t281)] (fun k_ => zO k_ (.slice Ao24 y278.length co24) ∧ zO k_ (.slice Ao42 y283.length co42) ∧ zO k_ (.slice Ao45 y286.length co45)) (fun _ => False) rfl (by first | (go_simp; done) | (go_simp; rfl)) ?aP (fun _ hk => hk.elim) ?aF ?aO ?aB ?aS ?aL ?_; (case aP => exact rfl); (case aB => exact (zs3 GE270.out GE271.out GE273.out)); (case aF => exact (fun k_ hk => ⟨Kd.fresh' (zl HO_274001.out) k_ hk, Kd.fresh' (zl HO285.out) k_ hk, Kd.fresh' (zl HO288.out) k_ hk⟩)); (case aO => exact (by (with_reducible repeat (first | apply Kd.R_alloc | apply Kd.R_drewN | apply Kd.R_drew)); exact Kd.R_mono (Kd.R_far (p := ⟨gb273, 3, none⟩) (Kd.R_types HO_274004.out BK273.out (by decide)) (fun _ hk => hk.2) (.slice Ao45 y286.length co45)) (fun _ hk => ⟨hk.1.1.1, ⟨hk.1.1.2, hk.1.2⟩⟩))); (case aS => exact (below_size (zs3 GE270.out GE271.out GE273.out))); (case aL => have := LMc35.out; omega); intro v290 w47 ho hb hg hat; rw [← Ny289.out] at ho; have n0_ := zA (Kd.R_after (ok := (fun k_ => zO k_ (.slice Ao42 y283.length co42) ∧ zO k_ (.slice Ao45 y286.length co45))) (by (with_reducible repeat (first | apply Kd.R_alloc | apply Kd.R_drewN | apply Kd.R_drew)); exact Kd.R_mono (Kd.R_far (p := ⟨gb273, 3, none⟩) (Kd.R_types HO_274001.out BK273.out (by decide)) (fun _ hk => hk.2) (.slice Ao45 y286.length co45)) (fun _ hk => ⟨⟨hk.1.1.2, hk.1.2⟩, hk.1.1.1⟩)) hg hat); have n1_ := zA (blk_grown (g := gb270) (o := .cells #[.int .i64 a0_0, .int .i64 a0_1, .slice (some ad282) l0_2.length c0_2, .slice (some ad277) l0_3.length c0_3, .slice A0_4 l0_4.length c0_4] 33 (0, 0)) (zf BK270.out NB270_273.out) hg (Kd.R_ne HO_274004.out BK270.out (by decide))); have n2_ := zA (blk_grown (g := gb271) (o := .cells #[.int .i64 0, .slice none 0 0, .slice none 0 0, .slice none 0 0, .slice none 0 0] 28 (0, 0)) (zf BK271.out NB271_273.out) hg (Kd.R_ne HO_274004.out BK271.out (by decide))); have n3_ := zA (blk_grown (g := gb273) (o := .cells #[.int .i64 (wrap64 (a0_0 * a0_1)), .slice Ao24 y278.length co24, .slice Ao42 y283.length co42, .slice Ao45 y286.length co45, u274004] 28 (0, 0)) (zq BK273.out) hg (Kd.R_ne HO_274004.out BK273.out (by decide))); have n4_ := zA (Kd.R_after (ok := (fun k_ => zO k_ (.slice Ao24 y278.length co24) ∧ zO k_ (.slice Ao45 y286.length co45))) (by (with_reducible repeat (first | apply Kd.R_alloc | apply Kd.R_drewN | apply Kd.R_drew)); exact Kd.R_mono (Kd.R_far (p := ⟨gb273, 3, none⟩) (Kd.R_types HO285.out BK273.out (by decide)) (fun _ hk => hk.2) (.slice Ao45 y286.length co45)) (fun _ hk => ⟨⟨hk.1.1.1, hk.1.2⟩, hk.1.1.2⟩)) hg hat); have n5_ := zA (Kd.R_after (ok := (fun k_ => zO k_ (.slice Ao24 y278.length co24) ∧ zO k_ (.slice Ao42 y283.length co42))) (by (with_reducible repeat (first | apply Kd.R_alloc | apply Kd.R_drewN | apply Kd.R_drew)); exact Kd.R_mono (Kd.R_far (p := ⟨gb273, 3, none⟩) (Kd.R_types HO288.out BK273.out (by decide)) (fun _ hk => hk.2) (.slice Ao45 y286.length co45)) (fun _ hk => ⟨⟨hk.1.1, hk.1.2.2⟩, hk.1.2.1⟩)) hg hat); have n6_ := zA (hb); have n7_ := zA (ho); clear HO_274001 BK270 BK271 BK273 HO285 HO288 HB HO_274004; have HO_274001 := n0_; have BK270 := n1_; have BK271 := n2_; have BK273 := n3_; have HO285 := n4_; have HO288 := n5_; have HB := n6_; have HO291 := n7_; clear n0_ n1_ n2_ n3_ n4_ n5_ n6_ n7_; clear ho hb hg hat; obtain ⟨Ao48, co48, eo48⟩ := Kd.R_slice HO291.out; subst eo48; obtain ⟨hcz49_0, hcz49_1, hcz49_2, hcz49_3, hcz49_4, hfz49_0, hfz49_1, hfz49_2, hfz49_3, hfz49_4⟩ := zh5 BK273.out) | (go_at_call 76; go_in) | ((with_reducible refine bodyPost_end (fn := Tryd.f76) (v := .tuple #[]) ?_ rfl ?_); (exact results_none rfl _ _ _); simp only []))
                  go_roundg k2
                  case measure => have := HK1.out; have := HK2.out; omega
                  case rel => exact ⟨(wrap64 (x35_2 + 1)), (y283), (y286), (y289), (.slice Ao42 y283.length co42), (.slice Ao45 y286.length co45), (.slice Ao48 y289.length co48), zr, H', ⟨by have := HK1.out; have := HK2.out; omega⟩, ⟨by (with_reducible repeat (first | apply Kd.R_alloc | apply Kd.R_drewN | apply Kd.R_drew)); exact Kd.R_mono (zK HO_274001.out BK273.out) (fun _ hk => ⟨hk.1.1, ⟨hk.1.2, hk.2⟩⟩)⟩, ⟨by (with_reducible repeat (first | apply Kd.R_alloc | apply Kd.R_drewN | apply Kd.R_drew)); exact Kd.R_mono (zK HO285.out BK273.out) (fun _ hk => ⟨hk.1.1, ⟨hk.1.2, hk.2⟩⟩)⟩, ⟨by (with_reducible repeat (first | apply Kd.R_alloc | apply Kd.R_drewN | apply Kd.R_drew)); exact Kd.R_mono (zK HO288.out BK273.out) (fun _ hk => ⟨hk.1.1, ⟨hk.1.2, hk.2⟩⟩)⟩, ⟨by (with_reducible repeat (first | apply Kd.R_alloc | apply Kd.R_drewN | apply Kd.R_drew)); exact Kd.R_mono (zK HO291.out BK273.out) (fun _ hk => ⟨hk.1, ⟨hk.2.1, hk.2.2⟩⟩)⟩, ⟨by (with_reducible repeat (first | refine blk_drewN ?_ _ | refine blk_drew ?_ | refine blk_alloc ?_ _)); refine blk_far ?_ NB270_273.out _; (with_reducible repeat (first | refine blk_drewN ?_ _ | refine blk_drew ?_ | refine blk_alloc ?_ _)); exact BK270.out⟩, ⟨by (with_reducible repeat (first | refine blk_drewN ?_ _ | refine blk_drew ?_ | refine blk_alloc ?_ _)); refine blk_far ?_ NB271_273.out _; (with_reducible repeat (first | refine blk_drewN ?_ _ | refine blk_drew ?_ | refine blk_alloc ?_ _)); exact BK271.out⟩, ⟨by (with_reducible repeat (first | refine blk_drewN ?_ _ | refine blk_drew ?_ | refine blk_alloc ?_ _)); refine blk_put (cs := #[.int .i64 (wrap64 (a0_0 * a0_1)), .slice Ao24 y278.length co24, .slice Ao42 y283.length co42, .slice Ao45 y286.length co45, u274004]) ?_ 4 _ rfl; (with_reducible repeat (first | refine blk_drewN ?_ _ | refine blk_drew ?_ | refine blk_alloc ?_ _)); exact BK273.out⟩, ⟨(zs3 GE270.out GE271.out GE273.out)⟩⟩
                 ·rw [if_neg c35] at H
                  exact absurd H (by simp)
                ·rw [if_neg c34] at H
                 exact absurd H (by simp)
               ·rw [if_neg c33] at H
                exact absurd H (by simp)
              ·rw [if_neg c32] at H
               exact absurd H (by simp)
             ·rw [if_neg c31] at H
              exact absurd H (by simp)
            ·rw [if_neg c29] at H
             have c29b0 : ((Go.bits .and .i64 (ji28) 1) == 1) = false := beq_eq_false_iff_ne.mpr c29
             have c29b1 : ((Go.bits .and .i64 (ji28) 1) != 1) = true := bne_iff_ne.mpr c29
             have H' := zA H
             clear H
             go_wp2
             go_roundg k2
             case measure => have := HK1.out; have := HK2.out; omega
             case rel => exact ⟨(wrap64 (x35_2 + 1)), (x274002_2), (x274003_2), (x274004_2), (u274002), (u274003), (u274004), zr, H', ⟨by have := HK1.out; have := HK2.out; omega⟩, ⟨zR HO_274001.out⟩, ⟨zR HO_274002.out⟩, ⟨zR HO_274003.out⟩, ⟨zR HO_274004.out⟩, ⟨zb BK270.out⟩, ⟨zb BK271.out⟩, ⟨zb BK273.out⟩, ⟨(zs3 GE270.out GE271.out GE273.out)⟩⟩
           ·rw [if_neg c27] at H
            exact absurd H (by simp)
          ·rw [if_neg c26] at H
           have c26b0 : decide (x35_2 < 4) = false := decide_eq_false c26
           clear c26
           have H' := zA H
           clear H
           go_wp2
           go_roundg k2
           case measure => have := HK1.out; have := HK2.out; omega
           case rel => exact ⟨(wrap64 (x22_1 + 1)), (y278), (x274002_2), (x274003_2), (x274004_2), (.slice Ao24 y278.length co24), (u274002), (u274003), (u274004), zr, H', ⟨by have := HK1.out; have := HK2.out; omega⟩, ⟨zR HO_274001.out⟩, ⟨zR HO_274002.out⟩, ⟨zR HO_274003.out⟩, ⟨zR HO_274004.out⟩, ⟨zb BK270.out⟩, ⟨zb BK271.out⟩, ⟨zb BK273.out⟩, ⟨(zs3 GE270.out GE271.out GE273.out)⟩⟩
       ·rw [if_neg c18] at H
        exact absurd H (by simp)
      ·rw [if_neg c17] at H
       exact absurd H (by simp)
     ·rw [if_neg c16] at H
      exact absurd H (by simp)
    ·rw [if_neg c15] at H
     have c15b0 : decide (x22_1 < (l0_3.length : Int)) = false := decide_eq_false c15
     clear c15
     by_cases c50 : x274001_1.length < 17592186044416
     ·rw [if_pos c50] at H
      have LMc50 := zA c50
      clear c50
      obtain ⟨y274, hy274⟩ : ∃ y_ : List Int, y_ = (x274001_1 ++ [(x274002_1.length : Int)]) := ⟨_, rfl⟩
      replace H : (some ((wrap64 (a0_0 * a0_1)), y274, x274002_1, x274003_1, x274004_1, 0)) = some (r1, r2, r3, r4, r5, r6) := zh hy274
      have Ny274 := zA hy274
      clear hy274
      simp only [Option.some.injEq, Prod.mk.injEq] at H
      obtain ⟨rfl, rfl, rfl, rfl, rfl, rfl⟩ := H
      have hnb51 := NB273_270.out
      have hnc51 := NB270_273.out
      have hnb52 := NB273_271.out
      have hnc52 := NB271_273.out
      obtain ⟨hcz53_0, hcz53_1, hcz53_2, hcz53_3, hcz53_4, hfz53_0, hfz53_1, hfz53_2, hfz53_3, hfz53_4⟩ := zh5 BK273.out
      obtain ⟨Ao54, co54, eo54⟩ := Kd.R_slice HO_274002.out
      subst eo54
      go_wp2_with (first | ((with_reducible refine gate_builtin (b := .append) (xs := #[.tmp 61, .tmp 65]) rfl ?_); at_builtin; refine Kd.R_append (Kd.int .i64) (w0 := w) w.heap.size rfl (.tmp 61) (.tmp 65) 22 3 (.int .i64 0) 8 rfl Tryd.underlying22 info3 rfl (by decide) (by omega) u274001 x274001_1 (x274002_1.length : Int) [.int .i64 (x274002_1.length : Int)] (fun k_ => zO k_ (.slice Ao54 x274002_1.length co54) ∧ zO k_ (u274003) ∧ zO k_ (u274004)) (fun _ => False) rfl rfl ?aP (fun _ hk => hk.elim) ?aF ?aO ?aB ?aS ?aL ?_; (case aP => exact rfl); (case aB => exact (zs3 GE270.out GE271.out GE273.out)); (case aF => exact (fun k_ hk => ⟨Kd.fresh' (zl HO_274002.out) k_ hk, Kd.fresh' (zl HO_274003.out) k_ hk, Kd.fresh' (zl HO_274004.out) k_ hk⟩)); (case aO => exact (zR HO_274001.out)); (case aS => exact (below_size (zs3 GE270.out GE271.out GE273.out))); (case aL => have := LMc50.out; omega); intro v275 w55 ho hb hg hat; rw [← Ny274.out] at ho; have n0_ := zA (Kd.R_after (ok := (fun k_ => zO k_ (u274003) ∧ zO k_ (u274004))) (by (with_reducible repeat (first | apply Kd.R_alloc | apply Kd.R_drewN | apply Kd.R_drew)); exact Kd.R_mono HO_274002.out (fun _ hk => ⟨⟨hk.2.1, hk.2.2⟩, hk.1⟩)) hg hat); have n1_ := zA (Kd.R_after (ok := (fun k_ => zO k_ (.slice Ao54 x274002_1.length co54) ∧ zO k_ (u274004))) (by (with_reducible repeat (first | apply Kd.R_alloc | apply Kd.R_drewN | apply Kd.R_drew)); exact Kd.R_mono HO_274003.out (fun _ hk => ⟨⟨hk.2.1, hk.2.2⟩, hk.1⟩)) hg hat); have n2_ := zA (Kd.R_after (ok := (fun k_ => zO k_ (.slice Ao54 x274002_1.length co54) ∧ zO k_ (u274003))) (by (with_reducible repeat (first | apply Kd.R_alloc | apply Kd.R_drewN | apply Kd.R_drew)); exact Kd.R_mono HO_274004.out (fun _ hk => ⟨⟨hk.2.1, hk.2.2⟩, hk.1⟩)) hg hat); have n3_ := zA (blk_grown (g := gb270) (o := .cells #[.int .i64 a0_0, .int .i64 a0_1, .slice A0_2 l0_2.length c0_2, .slice A0_3 l0_3.length c0_3, .slice A0_4 l0_4.length c0_4] 33 (0, 0)) (zb BK270.out) hg (Kd.R_ne HO_274001.out BK270.out (by decide))); have n4_ := zA (blk_grown (g := gb271) (o := .cells #[.int .i64 0, .slice none 0 0, .slice none 0 0, .slice none 0 0, .slice none 0 0] 28 (0, 0)) (zb BK271.out) hg (Kd.R_ne HO_274001.out BK271.out (by decide))); have n5_ := zA (blk_grown (g := gb273) (o := .cells #[.int .i64 (wrap64 (a0_0 * a0_1)), u274001, .slice Ao54 x274002_1.length co54, u274003, u274004] 28 (0, 0)) (zb BK273.out) hg (Kd.R_ne HO_274001.out BK273.out (by decide))); have n6_ := zA (hb); have n7_ := zA (ho); clear HO_274002 HO_274003 HO_274004 BK270 BK271 BK273 HB HO_274001; have HO_274002 := n0_; have HO_274003 := n1_; have HO_274004 := n2_; have BK270 := n3_; have BK271 := n4_; have BK273 := n5_; have HB := n6_; have HO276 := n7_; clear n0_ n1_ n2_ n3_ n4_ n5_ n6_ n7_; clear ho hb hg hat; obtain ⟨Ao56, co56, eo56⟩ := Kd.R_slice HO276.out; subst eo56; obtain ⟨hcz57_0, hcz57_1, hcz57_2, hcz57_3, hcz57_4, hfz57_0, hfz57_1, hfz57_2, hfz57_3, hfz57_4⟩ := zh5 BK273.out; have hnb58 := NB271_270.out; have hnc58 := NB270_271.out; obtain ⟨hcz59_0, hcz59_1, hcz59_2, hcz59_3, hcz59_4, hfz59_0, hfz59_1, hfz59_2, hfz59_3, hfz59_4⟩ := zh5 BK271.out; obtain ⟨Ao60, co60, eo60⟩ := Kd.R_slice HO_274003.out; subst eo60; obtain ⟨Ao61, co61, eo61⟩ := Kd.R_slice HO_274004.out; subst eo61) | (go_at_call 76; go_in) | ((with_reducible refine bodyPost_end (fn := Tryd.f76) (v := .tuple #[]) ?_ rfl ?_); (exact results_none rfl _ _ _); simp only []))
      refine bodyPost_ret (results_ct rfl _ _ gb271 28 #[.int .i64 (wrap64 (a0_0 * a0_1)), .slice Ao56 y274.length co56, .slice Ao54 x274002_1.length co54, .slice Ao60 x274003_1.length co60, .slice Ao61 x274004_1.length co61] (0, 0) _ rfl (by (with_reducible repeat (first | refine blk_drewN ?_ _ | refine blk_drew ?_ | refine blk_alloc ?_ _)); refine blk_put (cs := #[.int .i64 (wrap64 (a0_0 * a0_1)), .slice Ao56 y274.length co56, .slice Ao54 x274002_1.length co54, .slice Ao60 x274003_1.length co60, .slice none 0 0]) ?_ 4 _ rfl; (with_reducible repeat (first | refine blk_drewN ?_ _ | refine blk_drew ?_ | refine blk_alloc ?_ _)); refine blk_put (cs := #[.int .i64 (wrap64 (a0_0 * a0_1)), .slice Ao56 y274.length co56, .slice Ao54 x274002_1.length co54, .slice none 0 0, .slice none 0 0]) ?_ 3 _ rfl; (with_reducible repeat (first | refine blk_drewN ?_ _ | refine blk_drew ?_ | refine blk_alloc ?_ _)); refine blk_put (cs := #[.int .i64 (wrap64 (a0_0 * a0_1)), .slice Ao56 y274.length co56, .slice none 0 0, .slice none 0 0, .slice none 0 0]) ?_ 2 _ rfl; (with_reducible repeat (first | refine blk_drewN ?_ _ | refine blk_drew ?_ | refine blk_alloc ?_ _)); refine blk_put (cs := #[.int .i64 (wrap64 (a0_0 * a0_1)), .slice none 0 0, .slice none 0 0, .slice none 0 0, .slice none 0 0]) ?_ 1 _ rfl; (with_reducible repeat (first | refine blk_drewN ?_ _ | refine blk_drew ?_ | refine blk_alloc ?_ _)); refine blk_put (cs := #[.int .i64 0, .slice none 0 0, .slice none 0 0, .slice none 0 0, .slice none 0 0]) ?_ 0 _ rfl; (with_reducible repeat (first | refine blk_drewN ?_ _ | refine blk_drew ?_ | refine blk_alloc ?_ _)); refine blk_far ?_ NB271_273.out _; (with_reducible repeat (first | refine blk_drewN ?_ _ | refine blk_drew ?_ | refine blk_alloc ?_ _)); exact BK271.out) Tryd.underlying28 rfl (by kernel_rfl)) rfl ?_
      exact ⟨_, _, _, _, ze, by (with_reducible repeat (first | apply Kd.R_alloc | apply Kd.R_drewN | apply Kd.R_drew)); exact Kd.R_mono (Kd.R_far (p := ⟨gb271, 4, none⟩) (Kd.R_far (p := ⟨gb271, 3, none⟩) (Kd.R_far (p := ⟨gb271, 2, none⟩) (Kd.R_far (p := ⟨gb271, 1, none⟩) (Kd.R_far (p := ⟨gb271, 0, none⟩) (Kd.R_far (p := ⟨gb273, 1, none⟩) (Kd.R_types (Kd.R_types HO276.out BK273.out (by decide)) BK271.out (by decide)) (fun _ hk => hk.1.2) (.slice Ao56 y274.length co56)) (fun _ hk => hk.2) (.int .i64 (wrap64 (a0_0 * a0_1)))) (fun _ hk => hk.2) (.slice Ao56 y274.length co56)) (fun _ hk => hk.2) (.slice Ao54 x274002_1.length co54)) (fun _ hk => hk.2) (.slice Ao60 x274003_1.length co60)) (fun _ hk => hk.2) (.slice Ao61 x274004_1.length co61)) (fun _ hk => ⟨hk.1.1.1, ⟨hk.1.1.2.1, hk.1.1.2.2⟩⟩), by (with_reducible repeat (first | apply Kd.R_alloc | apply Kd.R_drewN | apply Kd.R_drew)); exact Kd.R_mono (Kd.R_far (p := ⟨gb271, 4, none⟩) (Kd.R_far (p := ⟨gb271, 3, none⟩) (Kd.R_far (p := ⟨gb271, 2, none⟩) (Kd.R_far (p := ⟨gb271, 1, none⟩) (Kd.R_far (p := ⟨gb271, 0, none⟩) (Kd.R_far (p := ⟨gb273, 1, none⟩) (Kd.R_types (Kd.R_types HO_274002.out BK273.out (by decide)) BK271.out (by decide)) (fun _ hk => hk.1.2) (.slice Ao56 y274.length co56)) (fun _ hk => hk.2) (.int .i64 (wrap64 (a0_0 * a0_1)))) (fun _ hk => hk.2) (.slice Ao56 y274.length co56)) (fun _ hk => hk.2) (.slice Ao54 x274002_1.length co54)) (fun _ hk => hk.2) (.slice Ao60 x274003_1.length co60)) (fun _ hk => hk.2) (.slice Ao61 x274004_1.length co61)) (fun _ hk => ⟨hk.1.1.2, ⟨hk.1.1.1.1, hk.1.1.1.2⟩⟩), by (with_reducible repeat (first | apply Kd.R_alloc | apply Kd.R_drewN | apply Kd.R_drew)); exact Kd.R_mono (Kd.R_far (p := ⟨gb271, 4, none⟩) (Kd.R_far (p := ⟨gb271, 3, none⟩) (Kd.R_far (p := ⟨gb271, 2, none⟩) (Kd.R_far (p := ⟨gb271, 1, none⟩) (Kd.R_far (p := ⟨gb271, 0, none⟩) (Kd.R_far (p := ⟨gb273, 1, none⟩) (Kd.R_types (Kd.R_types HO_274003.out BK273.out (by decide)) BK271.out (by decide)) (fun _ hk => hk.1.2) (.slice Ao56 y274.length co56)) (fun _ hk => hk.2) (.int .i64 (wrap64 (a0_0 * a0_1)))) (fun _ hk => hk.2) (.slice Ao56 y274.length co56)) (fun _ hk => hk.2) (.slice Ao54 x274002_1.length co54)) (fun _ hk => hk.2) (.slice Ao60 x274003_1.length co60)) (fun _ hk => hk.2) (.slice Ao61 x274004_1.length co61)) (fun _ hk => ⟨hk.1.1.2, ⟨hk.1.1.1.1, hk.1.1.1.2⟩⟩), by (with_reducible repeat (first | apply Kd.R_alloc | apply Kd.R_drewN | apply Kd.R_drew)); exact Kd.R_mono (Kd.R_far (p := ⟨gb271, 4, none⟩) (Kd.R_far (p := ⟨gb271, 3, none⟩) (Kd.R_far (p := ⟨gb271, 2, none⟩) (Kd.R_far (p := ⟨gb271, 1, none⟩) (Kd.R_far (p := ⟨gb271, 0, none⟩) (Kd.R_far (p := ⟨gb273, 1, none⟩) (Kd.R_types (Kd.R_types HO_274004.out BK273.out (by decide)) BK271.out (by decide)) (fun _ hk => hk.1.2) (.slice Ao56 y274.length co56)) (fun _ hk => hk.2) (.int .i64 (wrap64 (a0_0 * a0_1)))) (fun _ hk => hk.2) (.slice Ao56 y274.length co56)) (fun _ hk => hk.2) (.slice Ao54 x274002_1.length co54)) (fun _ hk => hk.2) (.slice Ao60 x274003_1.length co60)) (fun _ hk => hk.2) (.slice Ao61 x274004_1.length co61)) (fun _ hk => ⟨hk.1.1.2, ⟨hk.1.1.1.1, hk.1.1.1.2⟩⟩), (zs3 GE270.out GE271.out GE273.out)⟩
     ·rw [if_neg c50] at H
      exact absurd H (by simp)
 ·replace c3 := Bool.eq_false_iff.mpr c3
  subst c3
  have H1 : (some (0, ([] : List Int), ([] : List Int), ([] : List Int), ([] : List Int), 1)) = some (r1, r2, r3, r4, r5, r6) := by rw [if_neg (show ¬ (false = true) by decide)] at H; exact H
  clear H
  have H := H1
  clear H1
  simp only [Option.some.injEq, Prod.mk.injEq] at H
  obtain ⟨rfl, rfl, rfl, rfl, rfl, rfl⟩ := H
  go_enter Tryd.func16, Tryd.ntmps16
  go_wp2_with (first | ((with_reducible refine gate_dst (N := 1) rfl ?_); refine box_event ?hg (N := 1) ?hd (cs := #[.int .i64 a0_0, .int .i64 a0_1, .slice A0_2 l0_2.length c0_2, .slice A0_3 l0_3.length c0_3, .slice A0_4 l0_4.length c0_4]) (t := 33) ?hr ?_; (case hd => rfl); (case hg => rfl); (case hr => first | (go_simp; done) | (go_simp; rfl)); intro gb270 hg w62 hbox hb; have n0_ := zA (below_step z_ hb); have n1_ := zA (hbox); have n2_ := zA ((by rw [hg]; exact (below_size z_) : w.heap.size ≤ gb270)); have n3_ := zA ((by rw [hg]; exact (below_size z_) : w.heap.size ≤ gb270)); clear HB; have HB := n0_; have BK270 := n1_; have GW270 := n2_; have GE270 := n3_; clear n0_ n1_ n2_ n3_; clear hb hbox hg) | ((with_reducible refine gate_dst (N := 2) rfl ?_); refine box_event ?hg (N := 2) ?hd (cs := #[.int .i64 0, .slice none 0 0, .slice none 0 0, .slice none 0 0, .slice none 0 0]) (t := 28) ?hr ?_; (case hd => rfl); (case hg => rfl); (case hr => first | (go_simp; done) | (go_simp; rfl)); intro gb271 hg w63 hbox hb; have n0_ := zA (zB BK270.out hb); have n1_ := zA (below_step (zs GE270.out) hb); have n2_ := zA (hbox); have n3_ := zA ((by rw [hg]; exact (below_size (zs GE270.out)) : w.heap.size ≤ gb271)); have n4_ := zA ((by rw [hg]; exact (below_size (zs GE270.out)) : w.heap.size ≤ gb271)); have n5_ := zA ((by rw [hg]; exact Nat.ne_of_lt (zw BK270.out) : gb270 ≠ gb271)); have n6_ := zA ((by rw [hg]; exact Nat.ne_of_gt (zw BK270.out) : gb271 ≠ gb270)); clear BK270 HB; have BK270 := n0_; have HB := n1_; have BK271 := n2_; have GW271 := n3_; have GE271 := n4_; have NB270_271 := n5_; have NB271_270 := n6_; clear n0_ n1_ n2_ n3_ n4_ n5_ n6_; clear hb hbox hg; have hnb64 := NB270_271.out; have hnc64 := NB271_270.out; obtain ⟨hcz65_0, hcz65_1, hcz65_2, hcz65_3, hcz65_4, hfz65_0, hfz65_1, hfz65_2, hfz65_3, hfz65_4⟩ := zh5 BK270.out) | ((with_reducible refine gate_callee (f := 74) rfl ?_); refine goesL_ (some 10) rfl rfl Tryd.func74 (by kernel_rfl) rfl #[.agg #[.int .i64 a0_0, .int .i64 a0_1, .slice A0_2 l0_2.length c0_2, .slice A0_3 l0_3.length c0_3, .slice A0_4 l0_4.length c0_4]] rfl za ?_; (with_reducible refine (impl_ValidLayout.calls k a0_0 a0_1 _ _ l0_2 _ _ l0_3 _ _ l0_4 false _ ?side1 ?side2 ?side3 ?side4 ?side5 ?side6 ?side7 A2.out).mono ?_); (case side1 => exact zc (Kd.C_below HR0_2.out HB.out)); (case side2 => exact HC0_2.out); (case side3 => exact zc (Kd.C_below HR0_3.out HB.out)); (case side4 => exact HC0_3.out); (case side5 => exact zc (Kd.C_below HR0_4.out HB.out)); (case side6 => exact HC0_4.out); (case side7 => exact LaidW.below HLD.out (zs2 GE270.out GE271.out)); rintro e w66 ⟨rfl, hb⟩; refine ⟨_, rfl, ?_⟩; have n0_ := zA (zB BK270.out hb); have n1_ := zA (zB BK271.out hb); have n2_ := zA (below_step (zs2 GE270.out GE271.out) hb); clear BK270 BK271 HB; have BK270 := n0_; have BK271 := n1_; have HB := n2_; clear n0_ n1_ n2_; (try clear hb); (try clear hb2); (try clear hk); (try clear hi); obtain ⟨hcz67_0, hcz67_1, hcz67_2, hcz67_3, hcz67_4, hfz67_0, hfz67_1, hfz67_2, hfz67_3, hfz67_4⟩ := zh5 BK271.out) | (go_at_call 76; go_in) | ((with_reducible refine bodyPost_end (fn := Tryd.f76) (v := .tuple #[]) ?_ rfl ?_); (exact results_none rfl _ _ _); simp only []))
  refine bodyPost_ret (results_ct rfl _ _ gb271 28 #[.int .i64 0, .slice none 0 0, .slice none 0 0, .slice none 0 0, .slice none 0 0] (0, 0) _ rfl (zq BK271.out) Tryd.underlying28 rfl (by kernel_rfl)) rfl ?_
  exact ⟨_, _, _, _, ze, by first | exact Kd.R_nil _ _ _ _ _ | exact Kd.N_nil _ _ _ _ _ | exact Kd.V_nil _ _ _ _ _ | exact Kd.Q_nil _ _ _ _ _ | exact Kd.S_nil _ _ _ _ _, by first | exact Kd.R_nil _ _ _ _ _ | exact Kd.N_nil _ _ _ _ _ | exact Kd.V_nil _ _ _ _ _ | exact Kd.Q_nil _ _ _ _ _ | exact Kd.S_nil _ _ _ _ _, by first | exact Kd.R_nil _ _ _ _ _ | exact Kd.N_nil _ _ _ _ _ | exact Kd.V_nil _ _ _ _ _ | exact Kd.Q_nil _ _ _ _ _ | exact Kd.S_nil _ _ _ _ _, by first | exact Kd.R_nil _ _ _ _ _ | exact Kd.N_nil _ _ _ _ _ | exact Kd.V_nil _ _ _ _ _ | exact Kd.Q_nil _ _ _ _ _ | exact Kd.S_nil _ _ _ _ _, (zs2 GE270.out GE271.out)⟩

/-! ### laws_eqIntS: function 26 -/
def laws_eqIntS.l0 : Nat → List Int → List Int → Int → Option (Bool)
 | 0, _, _, _ => none
 | k + 1, x0, x1, x5 => if x5 < (x0.length : Int) then (if 0 ≤ x5 then (if x5 < (x1.length : Int) then (if (rd x0 x5) = (rd x1 x5) then (laws_eqIntS.l0 k x0 x1 (wrap64 (x5 + 1))) else (some false)) else (none)) else (none)) else (some true)
def laws_eqIntS.f (k : Nat) (l0 : List Int) (l1 : List Int) : Option (Bool) := if (l0.length : Int) = (l1.length : Int) then (laws_eqIntS.l0 k l0 l1 0) else (some false)
theorem laws_eqIntS.mono_l : ∀ k, (∀ y0 y1 y2, LeO (laws_eqIntS.l0 k y0 y1 y2) (laws_eqIntS.l0 (k + 1) y0 y1 y2))
 | 0 => fun _ _ _ r h => by simp [laws_eqIntS.l0] at h
 | k + 1 => by
  have ih0 := laws_eqIntS.mono_l k
  ·intro y0 y1 y2
   unfold laws_eqIntS.l0
   exact zm
theorem laws_eqIntS.mono : ∀ a0 a1 k, LeO (laws_eqIntS.f k a0 a1) (laws_eqIntS.f (k + 1) a0 a1) := by
 intro a0 a1 k
 have ih0 := laws_eqIntS.mono_l k
 unfold laws_eqIntS.f
 exact zm
set_option maxHeartbeats 8000000 in
set_option maxRecDepth 100000 in
theorem laws_eqIntS.calls (k : Nat) (A0 : Option Addr) (c0 : Nat) (l0 : List Int) (A1 : Option Addr) (c1 : Nat) (l1 : List Int) (r : Bool) (w : World) (hr0 : Kd.C (Kd.int .i64) w A0 l0.length l0) (hc0 : l0.length ≤ c0) (hr1 : Kd.C (Kd.int .i64) w A1 l1.length l1) (hc1 : l1.length ≤ c1) (h : laws_eqIntS.f k l0 l1 = some r) :
  Calls Tryd.prog 26 #[.slice A0 l0.length c0, .slice A1 l1.length c1] w fun e w' => e = .returned (.bool r) ∧ Drawn0 w w' := by
 have HR0 := zA hr0
 have HC0 := zA hc0
 clear hr0 hc0
 have HR1 := zA hr1
 have HC1 := zA hc1
 clear hr1 hc1
 have H : (if (l0.length : Int) = (l1.length : Int) then (laws_eqIntS.l0 k l0 l1 0) else (some false)) = some r := h
 clear h
 by_cases c3 : (l0.length : Int) = (l1.length : Int)
 ·rw [if_pos c3] at H
  have c3b0 : ((l0.length : Int) == (l1.length : Int)) = true := beq_iff_eq.mpr c3
  have c3b1 : ((l0.length : Int) != (l1.length : Int)) = false := bne_eq_false_iff_eq.mpr c3
  have c3b2 : (l0.length == l1.length) = true := by first | simpa using c3 | (simp at c3 ⊢; omega)
  clear c3
  have H' := zA H
  clear H
  go_enter Tryd.func26, Tryd.ntmps26
  go_wp2
  repeat (go_quiet (fail); try go_wp2)
  go_loopg [5] k (fun kq v5 w' => ∃ (x5_1 : Int), v5 = .int .i64 x5_1 ∧ Aside0 (laws_eqIntS.l0 kq l0 l1 x5_1 = some r) ∧ Aside0 (kq ≤ k) ∧ Drawn0 w w')
  case atStart => exact ⟨(0), zr, H', ⟨Nat.le_refl _⟩, by repeat (first | exact Drawn0.refl _ | apply Drawn0.step)⟩
  case round =>
   clear H'
   (try clear c1); (try clear c2); (try clear p2); (try clear c3); (try clear c3b0); (try clear c3b1); (try clear c3b2)
   obtain ⟨x5_1, rfl, HA, HK1, ⟨m1, rfl⟩⟩ := hrel
   cases gk with
   | zero => exact absurd HA.out (by simp [laws_eqIntS.l0])
   | succ k1 =>
    have H := HA.out
    clear HA
    simp only [laws_eqIntS.l0] at H
    by_cases c4 : x5_1 < (l0.length : Int)
    ·rw [if_pos c4] at H
     have c4b0 : decide (x5_1 < (l0.length : Int)) = true := decide_eq_true c4
     clear c4
     by_cases c5 : 0 ≤ x5_1
     ·rw [if_pos c5] at H
      have c5b0 : decide (0 ≤ x5_1) = true := decide_eq_true c5
      clear c5
      by_cases c6 : x5_1 < (l1.length : Int)
      ·rw [if_pos c6] at H
       have c6b0 : decide (x5_1 < (l1.length : Int)) = true := decide_eq_true c6
       clear c6
       by_cases c7 : (rd l0 x5_1) = (rd l1 x5_1)
       ·rw [if_pos c7] at H
        have c7b0 : ((rd l0 x5_1) == (rd l1 x5_1)) = true := beq_iff_eq.mpr c7
        have c7b1 : ((rd l0 x5_1) != (rd l1 x5_1)) = false := bne_eq_false_iff_eq.mpr c7
        clear c7
        have H' := zA H
        clear H
        have p292 : 0 ≤ (x5_1 : Int) := zd
        have q292 : x5_1 < (l0.length : Int) := zd
        obtain ⟨ad292, e292, hx292_0⟩ := Kd.at_int HR0.out x5_1 p292 q292
        cases e292
        replace p292 := eq_true p292
        replace q292 := eq_true q292
        have p293 : 0 ≤ (x5_1 : Int) := zd
        have q293 : x5_1 < (l1.length : Int) := zd
        obtain ⟨ad293, e293, hx293_0⟩ := Kd.at_int HR1.out x5_1 p293 q293
        cases e293
        replace p293 := eq_true p293
        replace q293 := eq_true q293
        go_wp2
        repeat (go_quiet (fail); try go_wp2)
        go_roundg k1
        case measure => have := HK1.out; omega
        case rel => exact ⟨(wrap64 (x5_1 + 1)), zr, H', ⟨by have := HK1.out; omega⟩, by repeat (first | exact Drawn0.refl _ | apply Drawn0.step)⟩
       ·rw [if_neg c7] at H
        have c7b0 : ((rd l0 x5_1) == (rd l1 x5_1)) = false := beq_eq_false_iff_ne.mpr c7
        have c7b1 : ((rd l0 x5_1) != (rd l1 x5_1)) = true := bne_iff_ne.mpr c7
        obtain rfl := Option.some.inj H
        have p292 : 0 ≤ (x5_1 : Int) := zd
        have q292 : x5_1 < (l0.length : Int) := zd
        obtain ⟨ad292, e292, hx292_0⟩ := Kd.at_int HR0.out x5_1 p292 q292
        cases e292
        replace p292 := eq_true p292
        replace q292 := eq_true q292
        have p293 : 0 ≤ (x5_1 : Int) := zd
        have q293 : x5_1 < (l1.length : Int) := zd
        obtain ⟨ad293, e293, hx293_0⟩ := Kd.at_int HR1.out x5_1 p293 q293
        cases e293
        replace p293 := eq_true p293
        replace q293 := eq_true q293
        go_wp2
        repeat (go_quiet (fail); try go_wp2)
        go_ret
        exact ⟨by first | rfl | (simp; done) | (simp [*]; done), by repeat (first | exact Drawn0.refl _ | apply Drawn0.step)⟩
      ·rw [if_neg c6] at H
       exact absurd H (by simp)
     ·rw [if_neg c5] at H
      exact absurd H (by simp)
    ·rw [if_neg c4] at H
     have c4b0 : decide (x5_1 < (l0.length : Int)) = false := decide_eq_false c4
     clear c4
     obtain rfl := Option.some.inj H
     go_wp2
     repeat (go_quiet (fail); try go_wp2)
     go_ret
     exact ⟨by first | rfl | (simp; done) | (simp [*]; done), by repeat (first | exact Drawn0.refl _ | apply Drawn0.step)⟩
 ·rw [if_neg c3] at H
  have c3b0 : ((l0.length : Int) == (l1.length : Int)) = false := beq_eq_false_iff_ne.mpr c3
  have c3b1 : ((l0.length : Int) != (l1.length : Int)) = true := bne_iff_ne.mpr c3
  have c3b2 : (l0.length == l1.length) = false := by first | simpa using c3 | (simp at c3 ⊢; omega)
  obtain rfl := Option.some.inj H
  go_enter Tryd.func26, Tryd.ntmps26
  go_wp2
  repeat (go_quiet (fail); try go_wp2)
  go_ret
  exact ⟨by first | rfl | (simp; done) | (simp [*]; done), by repeat (first | exact Drawn0.refl _ | apply Drawn0.step)⟩

/-! ### laws_eqGraph: function 17 -/
def laws_eqGraph.f (k : Nat) (a0_0 : Int) (l0_1 : List Int) (l0_2 : List Int) (l0_3 : List Int) (l0_4 : List Int) (a1_0 : Int) (l1_1 : List Int) (l1_2 : List Int) (l1_3 : List Int) (l1_4 : List Int) : Option (Bool) := if a0_0 = a1_0 then ((laws_eqIntS.f k l0_1 l1_1).bind fun t296 => (if t296 = true then ((laws_eqIntS.f k l0_2 l1_2).bind fun t297 => (if t297 = true then ((laws_eqIntS.f k l0_3 l1_3).bind fun t298 => (if t298 = true then ((laws_eqIntS.f k l0_4 l1_4).bind fun t299 => (if t299 = true then (some true) else (some false))) else (some false))) else (some false))) else (some false))) else (some false)
theorem laws_eqGraph.mono : ∀ a0 a1 a2 a3 a4 a5 a6 a7 a8 a9 k, LeO (laws_eqGraph.f k a0 a1 a2 a3 a4 a5 a6 a7 a8 a9) (laws_eqGraph.f (k + 1) a0 a1 a2 a3 a4 a5 a6 a7 a8 a9) := by
 intro a0 a1 a2 a3 a4 a5 a6 a7 a8 a9 k
 unfold laws_eqGraph.f
 have m1 := @laws_eqIntS.mono
 exact zm
set_option maxHeartbeats 8000000 in
set_option maxRecDepth 100000 in
theorem laws_eqGraph.calls (k : Nat) (a0_0 : Int) (A0_1 : Option Addr) (c0_1 : Nat) (l0_1 : List Int) (A0_2 : Option Addr) (c0_2 : Nat) (l0_2 : List Int) (A0_3 : Option Addr) (c0_3 : Nat) (l0_3 : List Int) (A0_4 : Option Addr) (c0_4 : Nat) (l0_4 : List Int) (a1_0 : Int) (A1_1 : Option Addr) (c1_1 : Nat) (l1_1 : List Int) (A1_2 : Option Addr) (c1_2 : Nat) (l1_2 : List Int) (A1_3 : Option Addr) (c1_3 : Nat) (l1_3 : List Int) (A1_4 : Option Addr) (c1_4 : Nat) (l1_4 : List Int) (r : Bool) (w : World) (hr0_1 : Kd.C (Kd.int .i64) w A0_1 l0_1.length l0_1) (hc0_1 : l0_1.length ≤ c0_1) (hr0_2 : Kd.C (Kd.int .i64) w A0_2 l0_2.length l0_2) (hc0_2 : l0_2.length ≤ c0_2) (hr0_3 : Kd.C (Kd.int .i64) w A0_3 l0_3.length l0_3) (hc0_3 : l0_3.length ≤ c0_3) (hr0_4 : Kd.C (Kd.int .i64) w A0_4 l0_4.length l0_4) (hc0_4 : l0_4.length ≤ c0_4) (hr1_1 : Kd.C (Kd.int .i64) w A1_1 l1_1.length l1_1) (hc1_1 : l1_1.length ≤ c1_1) (hr1_2 : Kd.C (Kd.int .i64) w A1_2 l1_2.length l1_2) (hc1_2 : l1_2.length ≤ c1_2) (hr1_3 : Kd.C (Kd.int .i64) w A1_3 l1_3.length l1_3) (hc1_3 : l1_3.length ≤ c1_3) (hr1_4 : Kd.C (Kd.int .i64) w A1_4 l1_4.length l1_4) (hc1_4 : l1_4.length ≤ c1_4) (h : laws_eqGraph.f k a0_0 l0_1 l0_2 l0_3 l0_4 a1_0 l1_1 l1_2 l1_3 l1_4 = some r) :
  Calls Tryd.prog 17 #[.agg #[.int .i64 a0_0, .slice A0_1 l0_1.length c0_1, .slice A0_2 l0_2.length c0_2, .slice A0_3 l0_3.length c0_3, .slice A0_4 l0_4.length c0_4], .agg #[.int .i64 a1_0, .slice A1_1 l1_1.length c1_1, .slice A1_2 l1_2.length c1_2, .slice A1_3 l1_3.length c1_3, .slice A1_4 l1_4.length c1_4]] w fun e w' => e = .returned (.bool r) ∧ Below w.heap.size w w' := by
 have hu28 := Tryd.underlying28
 have HR0_1 := zA hr0_1
 have HC0_1 := zA hc0_1
 clear hr0_1 hc0_1
 have HR0_2 := zA hr0_2
 have HC0_2 := zA hc0_2
 clear hr0_2 hc0_2
 have HR0_3 := zA hr0_3
 have HC0_3 := zA hc0_3
 clear hr0_3 hc0_3
 have HR0_4 := zA hr0_4
 have HC0_4 := zA hc0_4
 clear hr0_4 hc0_4
 have HR1_1 := zA hr1_1
 have HC1_1 := zA hc1_1
 clear hr1_1 hc1_1
 have HR1_2 := zA hr1_2
 have HC1_2 := zA hc1_2
 clear hr1_2 hc1_2
 have HR1_3 := zA hr1_3
 have HC1_3 := zA hc1_3
 clear hr1_3 hc1_3
 have HR1_4 := zA hr1_4
 have HC1_4 := zA hc1_4
 clear hr1_4 hc1_4
 have HB := zA (Below.refl w.heap.size w)
 have H : (if a0_0 = a1_0 then ((laws_eqIntS.f k l0_1 l1_1).bind fun t296 => (if t296 = true then ((laws_eqIntS.f k l0_2 l1_2).bind fun t297 => (if t297 = true then ((laws_eqIntS.f k l0_3 l1_3).bind fun t298 => (if t298 = true then ((laws_eqIntS.f k l0_4 l1_4).bind fun t299 => (if t299 = true then (some true) else (some false))) else (some false))) else (some false))) else (some false))) else (some false)) = some r := h
 clear h
 by_cases c3 : a0_0 = a1_0
 ·rw [if_pos c3] at H
  have c3b0 : (a0_0 == a1_0) = true := beq_iff_eq.mpr c3
  have c3b1 : (a0_0 != a1_0) = false := bne_eq_false_iff_eq.mpr c3
  clear c3
  replace H := Option.bind_eq_some_iff.mp H
  obtain ⟨t296, A40, H⟩ := H
  replace H : (if t296 = true then ((laws_eqIntS.f k l0_2 l1_2).bind fun t297 => (if t297 = true then ((laws_eqIntS.f k l0_3 l1_3).bind fun t298 => (if t298 = true then ((laws_eqIntS.f k l0_4 l1_4).bind fun t299 => (if t299 = true then (some true) else (some false))) else (some false))) else (some false))) else (some false)) = some r := H
  have A4 := zA A40
  clear A40
  by_cases c5 : t296 = true
  ·subst c5
   have H1 : ((laws_eqIntS.f k l0_2 l1_2).bind fun t297 => (if t297 = true then ((laws_eqIntS.f k l0_3 l1_3).bind fun t298 => (if t298 = true then ((laws_eqIntS.f k l0_4 l1_4).bind fun t299 => (if t299 = true then (some true) else (some false))) else (some false))) else (some false))) = some r := by rw [if_pos rfl] at H; exact H
   clear H
   have H := H1
   clear H1
   replace H := Option.bind_eq_some_iff.mp H
   obtain ⟨t297, A60, H⟩ := H
   replace H : (if t297 = true then ((laws_eqIntS.f k l0_3 l1_3).bind fun t298 => (if t298 = true then ((laws_eqIntS.f k l0_4 l1_4).bind fun t299 => (if t299 = true then (some true) else (some false))) else (some false))) else (some false)) = some r := H
   have A6 := zA A60
   clear A60
   by_cases c7 : t297 = true
   ·subst c7
    have H1 : ((laws_eqIntS.f k l0_3 l1_3).bind fun t298 => (if t298 = true then ((laws_eqIntS.f k l0_4 l1_4).bind fun t299 => (if t299 = true then (some true) else (some false))) else (some false))) = some r := by rw [if_pos rfl] at H; exact H
    clear H
    have H := H1
    clear H1
    replace H := Option.bind_eq_some_iff.mp H
    obtain ⟨t298, A80, H⟩ := H
    replace H : (if t298 = true then ((laws_eqIntS.f k l0_4 l1_4).bind fun t299 => (if t299 = true then (some true) else (some false))) else (some false)) = some r := H
    have A8 := zA A80
    clear A80
    by_cases c9 : t298 = true
    ·subst c9
     have H1 : ((laws_eqIntS.f k l0_4 l1_4).bind fun t299 => (if t299 = true then (some true) else (some false))) = some r := by rw [if_pos rfl] at H; exact H
     clear H
     have H := H1
     clear H1
     replace H := Option.bind_eq_some_iff.mp H
     obtain ⟨t299, A100, H⟩ := H
     replace H : (if t299 = true then (some true) else (some false)) = some r := H
     have A10 := zA A100
     clear A100
     by_cases c11 : t299 = true
     ·subst c11
      have H1 : (some true) = some r := by rw [if_pos rfl] at H; exact H
      clear H
      have H := H1
      clear H1
      obtain rfl := Option.some.inj H
      go_enter Tryd.func17, Tryd.ntmps17
      go_wp2_with (first | ((with_reducible refine gate_dst (N := 2) rfl ?_); refine box_event ?hg (N := 2) ?hd (cs := #[.int .i64 a0_0, .slice A0_1 l0_1.length c0_1, .slice A0_2 l0_2.length c0_2, .slice A0_3 l0_3.length c0_3, .slice A0_4 l0_4.length c0_4]) (t := 28) ?hr ?_; (case hd => rfl); (case hg => rfl); (case hr => first | (go_simp; done) | (go_simp; rfl)); intro gb294 hg w12 hbox hb; have n0_ := zA (below_step z_ hb); have n1_ := zA (hbox); have n2_ := zA ((by rw [hg]; exact (below_size z_) : w.heap.size ≤ gb294)); have n3_ := zA ((by rw [hg]; exact (below_size z_) : w.heap.size ≤ gb294)); clear HB; have HB := n0_; have BK294 := n1_; have GW294 := n2_; have GE294 := n3_; clear n0_ n1_ n2_ n3_; clear hb hbox hg) | ((with_reducible refine gate_dst (N := 3) rfl ?_); refine box_event ?hg (N := 3) ?hd (cs := #[.int .i64 a1_0, .slice A1_1 l1_1.length c1_1, .slice A1_2 l1_2.length c1_2, .slice A1_3 l1_3.length c1_3, .slice A1_4 l1_4.length c1_4]) (t := 28) ?hr ?_; (case hd => rfl); (case hg => rfl); (case hr => first | (go_simp; done) | (go_simp; rfl)); intro gb295 hg w13 hbox hb; have n0_ := zA (zB BK294.out hb); have n1_ := zA (below_step (zs GE294.out) hb); have n2_ := zA (hbox); have n3_ := zA ((by rw [hg]; exact (below_size (zs GE294.out)) : w.heap.size ≤ gb295)); have n4_ := zA ((by rw [hg]; exact (below_size (zs GE294.out)) : w.heap.size ≤ gb295)); have n5_ := zA ((by rw [hg]; exact Nat.ne_of_lt (zw BK294.out) : gb294 ≠ gb295)); have n6_ := zA ((by rw [hg]; exact Nat.ne_of_gt (zw BK294.out) : gb295 ≠ gb294)); clear BK294 HB; have BK294 := n0_; have HB := n1_; have BK295 := n2_; have GW295 := n3_; have GE295 := n4_; have NB294_295 := n5_; have NB295_294 := n6_; clear n0_ n1_ n2_ n3_ n4_ n5_ n6_; clear hb hbox hg; have hnb14 := NB294_295.out; have hnc14 := NB295_294.out; obtain ⟨hcz15_0, hcz15_1, hcz15_2, hcz15_3, hcz15_4, hfz15_0, hfz15_1, hfz15_2, hfz15_3, hfz15_4⟩ := zh5 BK294.out; obtain ⟨hcz16_0, hcz16_1, hcz16_2, hcz16_3, hcz16_4, hfz16_0, hfz16_1, hfz16_2, hfz16_3, hfz16_4⟩ := zh5 BK295.out) | ((with_reducible refine gate_callee (f := 26) rfl ?_); refine goesL_ (some 14) rfl rfl Tryd.func26 (by kernel_rfl) rfl #[.slice A0_1 l0_1.length c0_1, .slice A1_1 l1_1.length c1_1] rfl za ?_; (with_reducible refine (laws_eqIntS.calls k _ _ l0_1 _ _ l1_1 true _ ?side1 ?side2 ?side3 ?side4 A4.out).mono ?_); (case side1 => exact zc (Kd.C_below HR0_1.out HB.out)); (case side2 => exact HC0_1.out); (case side3 => exact zc (Kd.C_below HR1_1.out HB.out)); (case side4 => exact HC1_1.out); rintro e w' ⟨rfl, ⟨nd, rfl⟩⟩; refine ⟨_, rfl, ?_⟩) | ((with_reducible refine gate_callee (f := 26) rfl ?_); refine goesL_ (some 20) rfl rfl Tryd.func26 (by kernel_rfl) rfl #[.slice A0_2 l0_2.length c0_2, .slice A1_2 l1_2.length c1_2] rfl za ?_; (with_reducible refine (laws_eqIntS.calls k _ _ l0_2 _ _ l1_2 true _ ?side1 ?side2 ?side3 ?side4 A6.out).mono ?_); (case side1 => repeat (first | exact (Kd.C_below HR0_2.out (zs2 GE294.out GE295.out)) | (with_reducible refine Kd.C_alloc ?_ _) | (with_reducible refine Kd.C_drewN ?_ _) | (with_reducible refine Kd.C_drew ?_))); (case side2 => exact HC0_2.out); (case side3 => repeat (first | exact (Kd.C_below HR1_2.out (zs2 GE294.out GE295.out)) | (with_reducible refine Kd.C_alloc ?_ _) | (with_reducible refine Kd.C_drewN ?_ _) | (with_reducible refine Kd.C_drew ?_))); (case side4 => exact HC1_2.out); rintro e w' ⟨rfl, ⟨nd, rfl⟩⟩; refine ⟨_, rfl, ?_⟩) | ((with_reducible refine gate_callee (f := 26) rfl ?_); refine goesL_ (some 26) rfl rfl Tryd.func26 (by kernel_rfl) rfl #[.slice A0_3 l0_3.length c0_3, .slice A1_3 l1_3.length c1_3] rfl za ?_; (with_reducible refine (laws_eqIntS.calls k _ _ l0_3 _ _ l1_3 true _ ?side1 ?side2 ?side3 ?side4 A8.out).mono ?_); (case side1 => repeat (first | exact (Kd.C_below HR0_3.out (zs2 GE294.out GE295.out)) | (with_reducible refine Kd.C_alloc ?_ _) | (with_reducible refine Kd.C_drewN ?_ _) | (with_reducible refine Kd.C_drew ?_))); (case side2 => exact HC0_3.out); (case side3 => repeat (first | exact (Kd.C_below HR1_3.out (zs2 GE294.out GE295.out)) | (with_reducible refine Kd.C_alloc ?_ _) | (with_reducible refine Kd.C_drewN ?_ _) | (with_reducible refine Kd.C_drew ?_))); (case side4 => exact HC1_3.out); rintro e w' ⟨rfl, ⟨nd, rfl⟩⟩; refine ⟨_, rfl, ?_⟩) | ((with_reducible refine gate_callee (f := 26) rfl ?_); refine goesL_ (some 32) rfl rfl Tryd.func26 (by kernel_rfl) rfl #[.slice A0_4 l0_4.length c0_4, .slice A1_4 l1_4.length c1_4] rfl za ?_; (with_reducible refine (laws_eqIntS.calls k _ _ l0_4 _ _ l1_4 true _ ?side1 ?side2 ?side3 ?side4 A10.out).mono ?_); (case side1 => repeat (first | exact (Kd.C_below HR0_4.out (zs2 GE294.out GE295.out)) | (with_reducible refine Kd.C_alloc ?_ _) | (with_reducible refine Kd.C_drewN ?_ _) | (with_reducible refine Kd.C_drew ?_))); (case side2 => exact HC0_4.out); (case side3 => repeat (first | exact (Kd.C_below HR1_4.out (zs2 GE294.out GE295.out)) | (with_reducible refine Kd.C_alloc ?_ _) | (with_reducible refine Kd.C_drewN ?_ _) | (with_reducible refine Kd.C_drew ?_))); (case side4 => exact HC1_4.out); rintro e w' ⟨rfl, ⟨nd, rfl⟩⟩; refine ⟨_, rfl, ?_⟩))
      go_ret
      exact ⟨ze, (zs2 GE294.out GE295.out)⟩
     ·replace c11 := Bool.eq_false_iff.mpr c11
      subst c11
      have H1 : (some false) = some r := by rw [if_neg (show ¬ (false = true) by decide)] at H; exact H
      clear H
      have H := H1
      clear H1
      obtain rfl := Option.some.inj H
      go_enter Tryd.func17, Tryd.ntmps17
      go_wp2_with (first | ((with_reducible refine gate_dst (N := 2) rfl ?_); refine box_event ?hg (N := 2) ?hd (cs := #[.int .i64 a0_0, .slice A0_1 l0_1.length c0_1, .slice A0_2 l0_2.length c0_2, .slice A0_3 l0_3.length c0_3, .slice A0_4 l0_4.length c0_4]) (t := 28) ?hr ?_; (case hd => rfl); (case hg => rfl); (case hr => first | (go_simp; done) | (go_simp; rfl)); intro gb294 hg w17 hbox hb; have n0_ := zA (below_step z_ hb); have n1_ := zA (hbox); have n2_ := zA ((by rw [hg]; exact (below_size z_) : w.heap.size ≤ gb294)); have n3_ := zA ((by rw [hg]; exact (below_size z_) : w.heap.size ≤ gb294)); clear HB; have HB := n0_; have BK294 := n1_; have GW294 := n2_; have GE294 := n3_; clear n0_ n1_ n2_ n3_; clear hb hbox hg) | ((with_reducible refine gate_dst (N := 3) rfl ?_); refine box_event ?hg (N := 3) ?hd (cs := #[.int .i64 a1_0, .slice A1_1 l1_1.length c1_1, .slice A1_2 l1_2.length c1_2, .slice A1_3 l1_3.length c1_3, .slice A1_4 l1_4.length c1_4]) (t := 28) ?hr ?_; (case hd => rfl); (case hg => rfl); (case hr => first | (go_simp; done) | (go_simp; rfl)); intro gb295 hg w18 hbox hb; have n0_ := zA (zB BK294.out hb); have n1_ := zA (below_step (zs GE294.out) hb); have n2_ := zA (hbox); have n3_ := zA ((by rw [hg]; exact (below_size (zs GE294.out)) : w.heap.size ≤ gb295)); have n4_ := zA ((by rw [hg]; exact (below_size (zs GE294.out)) : w.heap.size ≤ gb295)); have n5_ := zA ((by rw [hg]; exact Nat.ne_of_lt (zw BK294.out) : gb294 ≠ gb295)); have n6_ := zA ((by rw [hg]; exact Nat.ne_of_gt (zw BK294.out) : gb295 ≠ gb294)); clear BK294 HB; have BK294 := n0_; have HB := n1_; have BK295 := n2_; have GW295 := n3_; have GE295 := n4_; have NB294_295 := n5_; have NB295_294 := n6_; clear n0_ n1_ n2_ n3_ n4_ n5_ n6_; clear hb hbox hg; have hnb19 := NB294_295.out; have hnc19 := NB295_294.out; obtain ⟨hcz20_0, hcz20_1, hcz20_2, hcz20_3, hcz20_4, hfz20_0, hfz20_1, hfz20_2, hfz20_3, hfz20_4⟩ := zh5 BK294.out; obtain ⟨hcz21_0, hcz21_1, hcz21_2, hcz21_3, hcz21_4, hfz21_0, hfz21_1, hfz21_2, hfz21_3, hfz21_4⟩ := zh5 BK295.out) | ((with_reducible refine gate_callee (f := 26) rfl ?_); refine goesL_ (some 14) rfl rfl Tryd.func26 (by kernel_rfl) rfl #[.slice A0_1 l0_1.length c0_1, .slice A1_1 l1_1.length c1_1] rfl za ?_; (with_reducible refine (laws_eqIntS.calls k _ _ l0_1 _ _ l1_1 true _ ?side1 ?side2 ?side3 ?side4 A4.out).mono ?_); (case side1 => exact zc (Kd.C_below HR0_1.out HB.out)); (case side2 => exact HC0_1.out); (case side3 => exact zc (Kd.C_below HR1_1.out HB.out)); (case side4 => exact HC1_1.out); rintro e w' ⟨rfl, ⟨nd, rfl⟩⟩; refine ⟨_, rfl, ?_⟩) | ((with_reducible refine gate_callee (f := 26) rfl ?_); refine goesL_ (some 20) rfl rfl Tryd.func26 (by kernel_rfl) rfl #[.slice A0_2 l0_2.length c0_2, .slice A1_2 l1_2.length c1_2] rfl za ?_; (with_reducible refine (laws_eqIntS.calls k _ _ l0_2 _ _ l1_2 true _ ?side1 ?side2 ?side3 ?side4 A6.out).mono ?_); (case side1 => repeat (first | exact (Kd.C_below HR0_2.out (zs2 GE294.out GE295.out)) | (with_reducible refine Kd.C_alloc ?_ _) | (with_reducible refine Kd.C_drewN ?_ _) | (with_reducible refine Kd.C_drew ?_))); (case side2 => exact HC0_2.out); (case side3 => repeat (first | exact (Kd.C_below HR1_2.out (zs2 GE294.out GE295.out)) | (with_reducible refine Kd.C_alloc ?_ _) | (with_reducible refine Kd.C_drewN ?_ _) | (with_reducible refine Kd.C_drew ?_))); (case side4 => exact HC1_2.out); rintro e w' ⟨rfl, ⟨nd, rfl⟩⟩; refine ⟨_, rfl, ?_⟩) | ((with_reducible refine gate_callee (f := 26) rfl ?_); refine goesL_ (some 26) rfl rfl Tryd.func26 (by kernel_rfl) rfl #[.slice A0_3 l0_3.length c0_3, .slice A1_3 l1_3.length c1_3] rfl za ?_; (with_reducible refine (laws_eqIntS.calls k _ _ l0_3 _ _ l1_3 true _ ?side1 ?side2 ?side3 ?side4 A8.out).mono ?_); (case side1 => repeat (first | exact (Kd.C_below HR0_3.out (zs2 GE294.out GE295.out)) | (with_reducible refine Kd.C_alloc ?_ _) | (with_reducible refine Kd.C_drewN ?_ _) | (with_reducible refine Kd.C_drew ?_))); (case side2 => exact HC0_3.out); (case side3 => repeat (first | exact (Kd.C_below HR1_3.out (zs2 GE294.out GE295.out)) | (with_reducible refine Kd.C_alloc ?_ _) | (with_reducible refine Kd.C_drewN ?_ _) | (with_reducible refine Kd.C_drew ?_))); (case side4 => exact HC1_3.out); rintro e w' ⟨rfl, ⟨nd, rfl⟩⟩; refine ⟨_, rfl, ?_⟩) | ((with_reducible refine gate_callee (f := 26) rfl ?_); refine goesL_ (some 32) rfl rfl Tryd.func26 (by kernel_rfl) rfl #[.slice A0_4 l0_4.length c0_4, .slice A1_4 l1_4.length c1_4] rfl za ?_; (with_reducible refine (laws_eqIntS.calls k _ _ l0_4 _ _ l1_4 false _ ?side1 ?side2 ?side3 ?side4 A10.out).mono ?_); (case side1 => repeat (first | exact (Kd.C_below HR0_4.out (zs2 GE294.out GE295.out)) | (with_reducible refine Kd.C_alloc ?_ _) | (with_reducible refine Kd.C_drewN ?_ _) | (with_reducible refine Kd.C_drew ?_))); (case side2 => exact HC0_4.out); (case side3 => repeat (first | exact (Kd.C_below HR1_4.out (zs2 GE294.out GE295.out)) | (with_reducible refine Kd.C_alloc ?_ _) | (with_reducible refine Kd.C_drewN ?_ _) | (with_reducible refine Kd.C_drew ?_))); (case side4 => exact HC1_4.out); rintro e w' ⟨rfl, ⟨nd, rfl⟩⟩; refine ⟨_, rfl, ?_⟩))
      go_ret
      exact ⟨ze, (zs2 GE294.out GE295.out)⟩
    ·replace c9 := Bool.eq_false_iff.mpr c9
     subst c9
     have H1 : (some false) = some r := by rw [if_neg (show ¬ (false = true) by decide)] at H; exact H
     clear H
     have H := H1
     clear H1
     obtain rfl := Option.some.inj H
     go_enter Tryd.func17, Tryd.ntmps17
     go_wp2_with (first | ((with_reducible refine gate_dst (N := 2) rfl ?_); refine box_event ?hg (N := 2) ?hd (cs := #[.int .i64 a0_0, .slice A0_1 l0_1.length c0_1, .slice A0_2 l0_2.length c0_2, .slice A0_3 l0_3.length c0_3, .slice A0_4 l0_4.length c0_4]) (t := 28) ?hr ?_; (case hd => rfl); (case hg => rfl); (case hr => first | (go_simp; done) | (go_simp; rfl)); intro gb294 hg w22 hbox hb; have n0_ := zA (below_step z_ hb); have n1_ := zA (hbox); have n2_ := zA ((by rw [hg]; exact (below_size z_) : w.heap.size ≤ gb294)); have n3_ := zA ((by rw [hg]; exact (below_size z_) : w.heap.size ≤ gb294)); clear HB; have HB := n0_; have BK294 := n1_; have GW294 := n2_; have GE294 := n3_; clear n0_ n1_ n2_ n3_; clear hb hbox hg) | ((with_reducible refine gate_dst (N := 3) rfl ?_); refine box_event ?hg (N := 3) ?hd (cs := #[.int .i64 a1_0, .slice A1_1 l1_1.length c1_1, .slice A1_2 l1_2.length c1_2, .slice A1_3 l1_3.length c1_3, .slice A1_4 l1_4.length c1_4]) (t := 28) ?hr ?_; (case hd => rfl); (case hg => rfl); (case hr => first | (go_simp; done) | (go_simp; rfl)); intro gb295 hg w23 hbox hb; have n0_ := zA (zB BK294.out hb); have n1_ := zA (below_step (zs GE294.out) hb); have n2_ := zA (hbox); have n3_ := zA ((by rw [hg]; exact (below_size (zs GE294.out)) : w.heap.size ≤ gb295)); have n4_ := zA ((by rw [hg]; exact (below_size (zs GE294.out)) : w.heap.size ≤ gb295)); have n5_ := zA ((by rw [hg]; exact Nat.ne_of_lt (zw BK294.out) : gb294 ≠ gb295)); have n6_ := zA ((by rw [hg]; exact Nat.ne_of_gt (zw BK294.out) : gb295 ≠ gb294)); clear BK294 HB; have BK294 := n0_; have HB := n1_; have BK295 := n2_; have GW295 := n3_; have GE295 := n4_; have NB294_295 := n5_; have NB295_294 := n6_; clear n0_ n1_ n2_ n3_ n4_ n5_ n6_; clear hb hbox hg; have hnb24 := NB294_295.out; have hnc24 := NB295_294.out; obtain ⟨hcz25_0, hcz25_1, hcz25_2, hcz25_3, hcz25_4, hfz25_0, hfz25_1, hfz25_2, hfz25_3, hfz25_4⟩ := zh5 BK294.out; obtain ⟨hcz26_0, hcz26_1, hcz26_2, hcz26_3, hcz26_4, hfz26_0, hfz26_1, hfz26_2, hfz26_3, hfz26_4⟩ := zh5 BK295.out) | ((with_reducible refine gate_callee (f := 26) rfl ?_); refine goesL_ (some 14) rfl rfl Tryd.func26 (by kernel_rfl) rfl #[.slice A0_1 l0_1.length c0_1, .slice A1_1 l1_1.length c1_1] rfl za ?_; (with_reducible refine (laws_eqIntS.calls k _ _ l0_1 _ _ l1_1 true _ ?side1 ?side2 ?side3 ?side4 A4.out).mono ?_); (case side1 => exact zc (Kd.C_below HR0_1.out HB.out)); (case side2 => exact HC0_1.out); (case side3 => exact zc (Kd.C_below HR1_1.out HB.out)); (case side4 => exact HC1_1.out); rintro e w' ⟨rfl, ⟨nd, rfl⟩⟩; refine ⟨_, rfl, ?_⟩) | ((with_reducible refine gate_callee (f := 26) rfl ?_); refine goesL_ (some 20) rfl rfl Tryd.func26 (by kernel_rfl) rfl #[.slice A0_2 l0_2.length c0_2, .slice A1_2 l1_2.length c1_2] rfl za ?_; (with_reducible refine (laws_eqIntS.calls k _ _ l0_2 _ _ l1_2 true _ ?side1 ?side2 ?side3 ?side4 A6.out).mono ?_); (case side1 => repeat (first | exact (Kd.C_below HR0_2.out (zs2 GE294.out GE295.out)) | (with_reducible refine Kd.C_alloc ?_ _) | (with_reducible refine Kd.C_drewN ?_ _) | (with_reducible refine Kd.C_drew ?_))); (case side2 => exact HC0_2.out); (case side3 => repeat (first | exact (Kd.C_below HR1_2.out (zs2 GE294.out GE295.out)) | (with_reducible refine Kd.C_alloc ?_ _) | (with_reducible refine Kd.C_drewN ?_ _) | (with_reducible refine Kd.C_drew ?_))); (case side4 => exact HC1_2.out); rintro e w' ⟨rfl, ⟨nd, rfl⟩⟩; refine ⟨_, rfl, ?_⟩) | ((with_reducible refine gate_callee (f := 26) rfl ?_); refine goesL_ (some 26) rfl rfl Tryd.func26 (by kernel_rfl) rfl #[.slice A0_3 l0_3.length c0_3, .slice A1_3 l1_3.length c1_3] rfl za ?_; (with_reducible refine (laws_eqIntS.calls k _ _ l0_3 _ _ l1_3 false _ ?side1 ?side2 ?side3 ?side4 A8.out).mono ?_); (case side1 => repeat (first | exact (Kd.C_below HR0_3.out (zs2 GE294.out GE295.out)) | (with_reducible refine Kd.C_alloc ?_ _) | (with_reducible refine Kd.C_drewN ?_ _) | (with_reducible refine Kd.C_drew ?_))); (case side2 => exact HC0_3.out); (case side3 => repeat (first | exact (Kd.C_below HR1_3.out (zs2 GE294.out GE295.out)) | (with_reducible refine Kd.C_alloc ?_ _) | (with_reducible refine Kd.C_drewN ?_ _) | (with_reducible refine Kd.C_drew ?_))); (case side4 => exact HC1_3.out); rintro e w' ⟨rfl, ⟨nd, rfl⟩⟩; refine ⟨_, rfl, ?_⟩))
     go_ret
     exact ⟨ze, (zs2 GE294.out GE295.out)⟩
   ·replace c7 := Bool.eq_false_iff.mpr c7
    subst c7
    have H1 : (some false) = some r := by rw [if_neg (show ¬ (false = true) by decide)] at H; exact H
    clear H
    have H := H1
    clear H1
    obtain rfl := Option.some.inj H
    go_enter Tryd.func17, Tryd.ntmps17
    go_wp2_with (first | ((with_reducible refine gate_dst (N := 2) rfl ?_); refine box_event ?hg (N := 2) ?hd (cs := #[.int .i64 a0_0, .slice A0_1 l0_1.length c0_1, .slice A0_2 l0_2.length c0_2, .slice A0_3 l0_3.length c0_3, .slice A0_4 l0_4.length c0_4]) (t := 28) ?hr ?_; (case hd => rfl); (case hg => rfl); (case hr => first | (go_simp; done) | (go_simp; rfl)); intro gb294 hg w27 hbox hb; have n0_ := zA (below_step z_ hb); have n1_ := zA (hbox); have n2_ := zA ((by rw [hg]; exact (below_size z_) : w.heap.size ≤ gb294)); have n3_ := zA ((by rw [hg]; exact (below_size z_) : w.heap.size ≤ gb294)); clear HB; have HB := n0_; have BK294 := n1_; have GW294 := n2_; have GE294 := n3_; clear n0_ n1_ n2_ n3_; clear hb hbox hg) | ((with_reducible refine gate_dst (N := 3) rfl ?_); refine box_event ?hg (N := 3) ?hd (cs := #[.int .i64 a1_0, .slice A1_1 l1_1.length c1_1, .slice A1_2 l1_2.length c1_2, .slice A1_3 l1_3.length c1_3, .slice A1_4 l1_4.length c1_4]) (t := 28) ?hr ?_; (case hd => rfl); (case hg => rfl); (case hr => first | (go_simp; done) | (go_simp; rfl)); intro gb295 hg w28 hbox hb; have n0_ := zA (zB BK294.out hb); have n1_ := zA (below_step (zs GE294.out) hb); have n2_ := zA (hbox); have n3_ := zA ((by rw [hg]; exact (below_size (zs GE294.out)) : w.heap.size ≤ gb295)); have n4_ := zA ((by rw [hg]; exact (below_size (zs GE294.out)) : w.heap.size ≤ gb295)); have n5_ := zA ((by rw [hg]; exact Nat.ne_of_lt (zw BK294.out) : gb294 ≠ gb295)); have n6_ := zA ((by rw [hg]; exact Nat.ne_of_gt (zw BK294.out) : gb295 ≠ gb294)); clear BK294 HB; have BK294 := n0_; have HB := n1_; have BK295 := n2_; have GW295 := n3_; have GE295 := n4_; have NB294_295 := n5_; have NB295_294 := n6_; clear n0_ n1_ n2_ n3_ n4_ n5_ n6_; clear hb hbox hg; have hnb29 := NB294_295.out; have hnc29 := NB295_294.out; obtain ⟨hcz30_0, hcz30_1, hcz30_2, hcz30_3, hcz30_4, hfz30_0, hfz30_1, hfz30_2, hfz30_3, hfz30_4⟩ := zh5 BK294.out; obtain ⟨hcz31_0, hcz31_1, hcz31_2, hcz31_3, hcz31_4, hfz31_0, hfz31_1, hfz31_2, hfz31_3, hfz31_4⟩ := zh5 BK295.out) | ((with_reducible refine gate_callee (f := 26) rfl ?_); refine goesL_ (some 14) rfl rfl Tryd.func26 (by kernel_rfl) rfl #[.slice A0_1 l0_1.length c0_1, .slice A1_1 l1_1.length c1_1] rfl za ?_; (with_reducible refine (laws_eqIntS.calls k _ _ l0_1 _ _ l1_1 true _ ?side1 ?side2 ?side3 ?side4 A4.out).mono ?_); (case side1 => exact zc (Kd.C_below HR0_1.out HB.out)); (case side2 => exact HC0_1.out); (case side3 => exact zc (Kd.C_below HR1_1.out HB.out)); (case side4 => exact HC1_1.out); rintro e w' ⟨rfl, ⟨nd, rfl⟩⟩; refine ⟨_, rfl, ?_⟩) | ((with_reducible refine gate_callee (f := 26) rfl ?_); refine goesL_ (some 20) rfl rfl Tryd.func26 (by kernel_rfl) rfl #[.slice A0_2 l0_2.length c0_2, .slice A1_2 l1_2.length c1_2] rfl za ?_; (with_reducible refine (laws_eqIntS.calls k _ _ l0_2 _ _ l1_2 false _ ?side1 ?side2 ?side3 ?side4 A6.out).mono ?_); (case side1 => repeat (first | exact (Kd.C_below HR0_2.out (zs2 GE294.out GE295.out)) | (with_reducible refine Kd.C_alloc ?_ _) | (with_reducible refine Kd.C_drewN ?_ _) | (with_reducible refine Kd.C_drew ?_))); (case side2 => exact HC0_2.out); (case side3 => repeat (first | exact (Kd.C_below HR1_2.out (zs2 GE294.out GE295.out)) | (with_reducible refine Kd.C_alloc ?_ _) | (with_reducible refine Kd.C_drewN ?_ _) | (with_reducible refine Kd.C_drew ?_))); (case side4 => exact HC1_2.out); rintro e w' ⟨rfl, ⟨nd, rfl⟩⟩; refine ⟨_, rfl, ?_⟩))
    go_ret
    exact ⟨ze, (zs2 GE294.out GE295.out)⟩
  ·replace c5 := Bool.eq_false_iff.mpr c5
   subst c5
   have H1 : (some false) = some r := by rw [if_neg (show ¬ (false = true) by decide)] at H; exact H
   clear H
   have H := H1
   clear H1
   obtain rfl := Option.some.inj H
   go_enter Tryd.func17, Tryd.ntmps17
   go_wp2_with (first | ((with_reducible refine gate_dst (N := 2) rfl ?_); refine box_event ?hg (N := 2) ?hd (cs := #[.int .i64 a0_0, .slice A0_1 l0_1.length c0_1, .slice A0_2 l0_2.length c0_2, .slice A0_3 l0_3.length c0_3, .slice A0_4 l0_4.length c0_4]) (t := 28) ?hr ?_; (case hd => rfl); (case hg => rfl); (case hr => first | (go_simp; done) | (go_simp; rfl)); intro gb294 hg w32 hbox hb; have n0_ := zA (below_step z_ hb); have n1_ := zA (hbox); have n2_ := zA ((by rw [hg]; exact (below_size z_) : w.heap.size ≤ gb294)); have n3_ := zA ((by rw [hg]; exact (below_size z_) : w.heap.size ≤ gb294)); clear HB; have HB := n0_; have BK294 := n1_; have GW294 := n2_; have GE294 := n3_; clear n0_ n1_ n2_ n3_; clear hb hbox hg) | ((with_reducible refine gate_dst (N := 3) rfl ?_); refine box_event ?hg (N := 3) ?hd (cs := #[.int .i64 a1_0, .slice A1_1 l1_1.length c1_1, .slice A1_2 l1_2.length c1_2, .slice A1_3 l1_3.length c1_3, .slice A1_4 l1_4.length c1_4]) (t := 28) ?hr ?_; (case hd => rfl); (case hg => rfl); (case hr => first | (go_simp; done) | (go_simp; rfl)); intro gb295 hg w33 hbox hb; have n0_ := zA (zB BK294.out hb); have n1_ := zA (below_step (zs GE294.out) hb); have n2_ := zA (hbox); have n3_ := zA ((by rw [hg]; exact (below_size (zs GE294.out)) : w.heap.size ≤ gb295)); have n4_ := zA ((by rw [hg]; exact (below_size (zs GE294.out)) : w.heap.size ≤ gb295)); have n5_ := zA ((by rw [hg]; exact Nat.ne_of_lt (zw BK294.out) : gb294 ≠ gb295)); have n6_ := zA ((by rw [hg]; exact Nat.ne_of_gt (zw BK294.out) : gb295 ≠ gb294)); clear BK294 HB; have BK294 := n0_; have HB := n1_; have BK295 := n2_; have GW295 := n3_; have GE295 := n4_; have NB294_295 := n5_; have NB295_294 := n6_; clear n0_ n1_ n2_ n3_ n4_ n5_ n6_; clear hb hbox hg; have hnb34 := NB294_295.out; have hnc34 := NB295_294.out; obtain ⟨hcz35_0, hcz35_1, hcz35_2, hcz35_3, hcz35_4, hfz35_0, hfz35_1, hfz35_2, hfz35_3, hfz35_4⟩ := zh5 BK294.out; obtain ⟨hcz36_0, hcz36_1, hcz36_2, hcz36_3, hcz36_4, hfz36_0, hfz36_1, hfz36_2, hfz36_3, hfz36_4⟩ := zh5 BK295.out) | ((with_reducible refine gate_callee (f := 26) rfl ?_); refine goesL_ (some 14) rfl rfl Tryd.func26 (by kernel_rfl) rfl #[.slice A0_1 l0_1.length c0_1, .slice A1_1 l1_1.length c1_1] rfl za ?_; (with_reducible refine (laws_eqIntS.calls k _ _ l0_1 _ _ l1_1 false _ ?side1 ?side2 ?side3 ?side4 A4.out).mono ?_); (case side1 => exact zc (Kd.C_below HR0_1.out HB.out)); (case side2 => exact HC0_1.out); (case side3 => exact zc (Kd.C_below HR1_1.out HB.out)); (case side4 => exact HC1_1.out); rintro e w' ⟨rfl, ⟨nd, rfl⟩⟩; refine ⟨_, rfl, ?_⟩))
   go_ret
   exact ⟨ze, (zs2 GE294.out GE295.out)⟩
 ·rw [if_neg c3] at H
  have c3b0 : (a0_0 == a1_0) = false := beq_eq_false_iff_ne.mpr c3
  have c3b1 : (a0_0 != a1_0) = true := bne_iff_ne.mpr c3
  obtain rfl := Option.some.inj H
  go_enter Tryd.func17, Tryd.ntmps17
  go_wp2_with (first | ((with_reducible refine gate_dst (N := 2) rfl ?_); refine box_event ?hg (N := 2) ?hd (cs := #[.int .i64 a0_0, .slice A0_1 l0_1.length c0_1, .slice A0_2 l0_2.length c0_2, .slice A0_3 l0_3.length c0_3, .slice A0_4 l0_4.length c0_4]) (t := 28) ?hr ?_; (case hd => rfl); (case hg => rfl); (case hr => first | (go_simp; done) | (go_simp; rfl)); intro gb294 hg w37 hbox hb; have n0_ := zA (below_step z_ hb); have n1_ := zA (hbox); have n2_ := zA ((by rw [hg]; exact (below_size z_) : w.heap.size ≤ gb294)); have n3_ := zA ((by rw [hg]; exact (below_size z_) : w.heap.size ≤ gb294)); clear HB; have HB := n0_; have BK294 := n1_; have GW294 := n2_; have GE294 := n3_; clear n0_ n1_ n2_ n3_; clear hb hbox hg) | ((with_reducible refine gate_dst (N := 3) rfl ?_); refine box_event ?hg (N := 3) ?hd (cs := #[.int .i64 a1_0, .slice A1_1 l1_1.length c1_1, .slice A1_2 l1_2.length c1_2, .slice A1_3 l1_3.length c1_3, .slice A1_4 l1_4.length c1_4]) (t := 28) ?hr ?_; (case hd => rfl); (case hg => rfl); (case hr => first | (go_simp; done) | (go_simp; rfl)); intro gb295 hg w38 hbox hb; have n0_ := zA (zB BK294.out hb); have n1_ := zA (below_step (zs GE294.out) hb); have n2_ := zA (hbox); have n3_ := zA ((by rw [hg]; exact (below_size (zs GE294.out)) : w.heap.size ≤ gb295)); have n4_ := zA ((by rw [hg]; exact (below_size (zs GE294.out)) : w.heap.size ≤ gb295)); have n5_ := zA ((by rw [hg]; exact Nat.ne_of_lt (zw BK294.out) : gb294 ≠ gb295)); have n6_ := zA ((by rw [hg]; exact Nat.ne_of_gt (zw BK294.out) : gb295 ≠ gb294)); clear BK294 HB; have BK294 := n0_; have HB := n1_; have BK295 := n2_; have GW295 := n3_; have GE295 := n4_; have NB294_295 := n5_; have NB295_294 := n6_; clear n0_ n1_ n2_ n3_ n4_ n5_ n6_; clear hb hbox hg; have hnb39 := NB294_295.out; have hnc39 := NB295_294.out; obtain ⟨hcz40_0, hcz40_1, hcz40_2, hcz40_3, hcz40_4, hfz40_0, hfz40_1, hfz40_2, hfz40_3, hfz40_4⟩ := zh5 BK294.out; obtain ⟨hcz41_0, hcz41_1, hcz41_2, hcz41_3, hcz41_4, hfz41_0, hfz41_1, hfz41_2, hfz41_3, hfz41_4⟩ := zh5 BK295.out))
  go_ret
  exact ⟨ze, (zs2 GE294.out GE295.out)⟩

end Go.Proofs.YthbeplmihjhoeaaDoor.PFnExactBuildGraph
