-- made by wip/tools/myprint.py (this session's own program, over the kit's printer)
import Derived.Test.YthbeplmihjhoeaaDoorPFnExactBuildGraphx0
import Derived.Test.YthbeplmihjhoeaaDoorPFnExactBuildGraphx1
import Derived.Test.YthbeplmihjhoeaaDoorPFnExactBuildGraphx6
import Derived.Test.YthbeplmihjhoeaaDoorPFnExactBuildGraphx9
import Derived.Test.YthbeplmihjhoeaaDoorPFnExactBuildGraphx10
import Derived.Test.YthbeplmihjhoeaaDoorPFnExactBuildGraphx11
namespace Go.Proofs.YthbeplmihjhoeaaDoor.PFnExactBuildGraph
open Go.RowKit Go.Proofs.YthbeplmihjhoeaaDoorW.PrintWords Go.Proofs.YthbeplmihjhoeaaDoorW.PrintLast Go.Proofs.YthbeplmihjhoeaaDoorW.PrintMore
attribute [local go_sem] max2_int min2_int max_two min_two max_three min_three max_four min_four   -- for this text's walks alone
set_option linter.unusedVariables false
set_option linter.unusedSimpArgs false

/-! ### laws_FnExactBuildGraph: function 3 -/
mutual
def laws_FnExactBuildGraph.j0 : Nat → Int → Int → Bool → Int → Int → List Int → List Int → List (S185) → Int → List Int → List Int → List Int → List Int → Int → Int → List Int → List Int → List (S120) → Int → List Int → List Int → List Int → List Int → Option (Bool)
 | 0, _, _, _, _, _, _, _, _, _, _, _, _, _, _, _, _, _, _, _, _, _, _, _ => none
 | k + 1, x5, x8, x40, x331000, x331001, x331002, x331003, x331004, x358000, x358001, x358002, x358003, x358004, x370000, x370001, x370002, x370003, x370004, x385000, x385001, x385002, x385003, x385004 => if x40 = true then (some false) else ((laws_toLayout.f k x331000 x331001 x331002 x331003 x331004).bind fun bt386 => ((laws_eqLayout.f k x370000 x370001 x370002 x370003 x370004 bt386.1 bt386.2.1 bt386.2.2.1 bt386.2.2.2.1 bt386.2.2.2.2).bind fun t397 => (if t397 = true then ((laws_markLayout.f x370000 x370001 x370002 x370003 x370004 1).bind fun t398 => (if t398 < 0 then (laws_FnExactBuildGraph.j1 k x5 true x331000 x331001 x331002 x331003 x331004 x358000 x358001 x358002 x358003 x358004 x385000 x385001 x385002 x385003 x385004) else ((laws_eqGraph.f k x385000 x385001 x385002 x385003 x385004 x358000 x358001 x358002 x358003 x358004).bind fun t399 => (if t399 = true then (laws_FnExactBuildGraph.j1 k x5 (x8 != x5) x331000 x331001 x331002 x331003 x331004 x358000 x358001 x358002 x358003 x358004 x385000 x385001 x385002 x385003 x385004) else (laws_FnExactBuildGraph.j1 k x5 true x331000 x331001 x331002 x331003 x331004 x358000 x358001 x358002 x358003 x358004 x385000 x385001 x385002 x385003 x385004))))) else (some false))))
def laws_FnExactBuildGraph.j1 : Nat → Int → Bool → Int → Int → List Int → List Int → List (S185) → Int → List Int → List Int → List Int → List Int → Int → List Int → List Int → List Int → List Int → Option (Bool)
 | 0, _, _, _, _, _, _, _, _, _, _, _, _, _, _, _, _, _ => none
 | k + 1, x5, x61, x331000, x331001, x331002, x331003, x331004, x358000, x358001, x358002, x358003, x358004, x385000, x385001, x385002, x385003, x385004 => if x61 = true then (some false) else ((laws_markGraph.f k x385000 x385001 x385002 x385003 x385004 1).bind fun bt400 => ((laws_heldGraph.f k x385000 bt400.2.1 bt400.2.2.1 bt400.2.2.2.1 bt400.2.2.2.2 1).bind fun t405 => (if t405 < 0 then (some false) else (if t405 = bt400.1 then ((laws_toLayout.f k x331000 x331001 x331002 x331003 x331004).bind fun bt406 => ((impl_BuildGraph.f k bt406.1 bt406.2.1 bt406.2.2.1 bt406.2.2.2.1 bt406.2.2.2.2).bind fun bt417 => ((laws_eqGraph.f k bt417.1 bt417.2.1 bt417.2.2.1 bt417.2.2.2.1 bt417.2.2.2.2.1 x358000 x358001 x358002 x358003 x358004).bind fun t432 => (if t432 = true then (laws_FnExactBuildGraph.j2 k bt400.1 (bt417.2.2.2.2.2 != x5) x385000 bt400.2.1 bt400.2.2.1 bt400.2.2.2.1 bt400.2.2.2.2) else (laws_FnExactBuildGraph.j2 k bt400.1 true x385000 bt400.2.1 bt400.2.2.1 bt400.2.2.2.1 bt400.2.2.2.2))))) else (some false)))))
def laws_FnExactBuildGraph.j2 : Nat → Int → Bool → Int → List Int → List Int → List Int → List Int → Option (Bool)
 | 0, _, _, _, _, _, _, _ => none
 | k + 1, x10, x87, x385000, x385001, x385002, x385003, x385004 => if x87 = true then (some false) else ((laws_heldGraph.f k x385000 x385001 x385002 x385003 x385004 1).bind fun t433 => (if t433 < 0 then (some false) else (if t433 = x10 then (some true) else (some false))))
end
def laws_FnExactBuildGraph.f (k : Nat) (a0_0 : Int) (a0_1 : Int) (l0_2 : List Int) (l0_3 : List Int) (l0_4 : List (S185)) : Option (Bool) := (laws_szLayout.f k a0_0 a0_1 l0_2 l0_3 l0_4 1048576).bind fun t331 => (if t331 < 0 then (some true) else ((laws_toLayout.f k a0_0 a0_1 l0_2 l0_3 l0_4).bind fun bt332 => ((spec_BuildGraph.f k bt332.1 bt332.2.1 bt332.2.2.1 bt332.2.2.2.1 bt332.2.2.2.2).bind fun bt343 => ((laws_toLayout.f k a0_0 a0_1 l0_2 l0_3 l0_4).bind fun bt358 => ((impl_BuildGraph.f k bt358.1 bt358.2.1 bt358.2.2.1 bt358.2.2.2.1 bt358.2.2.2.2).bind fun bt370 => ((laws_eqGraph.f k bt370.1 bt370.2.1 bt370.2.2.1 bt370.2.2.2.1 bt370.2.2.2.2.1 bt343.1 bt343.2.1 bt343.2.2.1 bt343.2.2.2.1 bt343.2.2.2.2.1).bind fun t385 => (if t385 = true then (laws_FnExactBuildGraph.j0 k bt343.2.2.2.2.2 bt370.2.2.2.2.2 (bt370.2.2.2.2.2 != bt343.2.2.2.2.2) a0_0 a0_1 l0_2 l0_3 l0_4 bt343.1 bt343.2.1 bt343.2.2.1 bt343.2.2.2.1 bt343.2.2.2.2.1 bt358.1 bt358.2.1 bt358.2.2.1 bt358.2.2.2.1 bt358.2.2.2.2 bt370.1 bt370.2.1 bt370.2.2.1 bt370.2.2.2.1 bt370.2.2.2.2.1) else (laws_FnExactBuildGraph.j0 k bt343.2.2.2.2.2 bt370.2.2.2.2.2 true a0_0 a0_1 l0_2 l0_3 l0_4 bt343.1 bt343.2.1 bt343.2.2.1 bt343.2.2.2.1 bt343.2.2.2.2.1 bt358.1 bt358.2.1 bt358.2.2.1 bt358.2.2.2.1 bt358.2.2.2.2 bt370.1 bt370.2.1 bt370.2.2.1 bt370.2.2.2.1 bt370.2.2.2.2.1))))))))
theorem laws_FnExactBuildGraph.mono_l : ∀ k, (∀ y0 y1 y2 y3 y4 y5 y6 y7 y8 y9 y10 y11 y12 y13 y14 y15 y16 y17 y18 y19 y20 y21 y22, LeO (laws_FnExactBuildGraph.j0 k y0 y1 y2 y3 y4 y5 y6 y7 y8 y9 y10 y11 y12 y13 y14 y15 y16 y17 y18 y19 y20 y21 y22) (laws_FnExactBuildGraph.j0 (k + 1) y0 y1 y2 y3 y4 y5 y6 y7 y8 y9 y10 y11 y12 y13 y14 y15 y16 y17 y18 y19 y20 y21 y22)) ∧ (∀ y0 y1 y2 y3 y4 y5 y6 y7 y8 y9 y10 y11 y12 y13 y14 y15 y16, LeO (laws_FnExactBuildGraph.j1 k y0 y1 y2 y3 y4 y5 y6 y7 y8 y9 y10 y11 y12 y13 y14 y15 y16) (laws_FnExactBuildGraph.j1 (k + 1) y0 y1 y2 y3 y4 y5 y6 y7 y8 y9 y10 y11 y12 y13 y14 y15 y16)) ∧ (∀ y0 y1 y2 y3 y4 y5 y6, LeO (laws_FnExactBuildGraph.j2 k y0 y1 y2 y3 y4 y5 y6) (laws_FnExactBuildGraph.j2 (k + 1) y0 y1 y2 y3 y4 y5 y6))
 | 0 => ⟨fun _ _ _ _ _ _ _ _ _ _ _ _ _ _ _ _ _ _ _ _ _ _ _ r h => by simp [laws_FnExactBuildGraph.j0] at h, fun _ _ _ _ _ _ _ _ _ _ _ _ _ _ _ _ _ r h => by simp [laws_FnExactBuildGraph.j1] at h, fun _ _ _ _ _ _ _ r h => by simp [laws_FnExactBuildGraph.j2] at h⟩
 | k + 1 => by
  obtain ⟨ih0, ih1, ih2⟩ := laws_FnExactBuildGraph.mono_l k
  refine ⟨?_, ?_, ?_⟩
  ·intro y0 y1 y2 y3 y4 y5 y6 y7 y8 y9 y10 y11 y12 y13 y14 y15 y16 y17 y18 y19 y20 y21 y22
   unfold laws_FnExactBuildGraph.j0
   have m1 := @impl_BuildGraph.mono
   have m2 := @laws_eqGraph.mono
   have m3 := @laws_eqLayout.mono
   have m4 := @laws_heldGraph.mono
   have m5 := @laws_markGraph.mono
   have m6 := @laws_szLayout.mono
   have m7 := @laws_toLayout.mono
   have m8 := @spec_BuildGraph.mono
   exact zm
  ·intro y0 y1 y2 y3 y4 y5 y6 y7 y8 y9 y10 y11 y12 y13 y14 y15 y16
   unfold laws_FnExactBuildGraph.j1
   have m1 := @impl_BuildGraph.mono
   have m2 := @laws_eqGraph.mono
   have m3 := @laws_eqLayout.mono
   have m4 := @laws_heldGraph.mono
   have m5 := @laws_markGraph.mono
   have m6 := @laws_szLayout.mono
   have m7 := @laws_toLayout.mono
   have m8 := @spec_BuildGraph.mono
   exact zm
  ·intro y0 y1 y2 y3 y4 y5 y6
   unfold laws_FnExactBuildGraph.j2
   have m1 := @impl_BuildGraph.mono
   have m2 := @laws_eqGraph.mono
   have m3 := @laws_eqLayout.mono
   have m4 := @laws_heldGraph.mono
   have m5 := @laws_markGraph.mono
   have m6 := @laws_szLayout.mono
   have m7 := @laws_toLayout.mono
   have m8 := @spec_BuildGraph.mono
   exact zm
theorem laws_FnExactBuildGraph.mono : ∀ a0 a1 a2 a3 a4 k, LeO (laws_FnExactBuildGraph.f k a0 a1 a2 a3 a4) (laws_FnExactBuildGraph.f (k + 1) a0 a1 a2 a3 a4) := by
 intro a0 a1 a2 a3 a4 k
 obtain ⟨ih0, ih1, ih2⟩ := laws_FnExactBuildGraph.mono_l k
 unfold laws_FnExactBuildGraph.f
 have m1 := @impl_BuildGraph.mono
 have m2 := @laws_eqGraph.mono
 have m3 := @laws_eqLayout.mono
 have m4 := @laws_heldGraph.mono
 have m5 := @laws_markGraph.mono
 have m6 := @laws_szLayout.mono
 have m7 := @laws_toLayout.mono
 have m8 := @spec_BuildGraph.mono
 exact zm
set_option maxHeartbeats 8000000 in
set_option maxRecDepth 100000 in
theorem laws_FnExactBuildGraph.calls (k : Nat) (a0_0 : Int) (a0_1 : Int) (A0_2 : Option Addr) (c0_2 : Nat) (l0_2 : List Int) (A0_3 : Option Addr) (c0_3 : Nat) (l0_3 : List Int) (A0_4 : Option Addr) (c0_4 : Nat) (l0_4 : List (S185)) (r : Bool) (w : World) (hr0_2 : Kd.C (Kd.int .i64) w A0_2 l0_2.length l0_2) (hc0_2 : l0_2.length ≤ c0_2) (hr0_3 : Kd.C (Kd.int .i64) w A0_3 l0_3.length l0_3) (hc0_3 : l0_3.length ≤ c0_3) (hr0_4 : Kd.C k185 w A0_4 l0_4.length l0_4) (hc0_4 : l0_4.length ≤ c0_4) (hL : LaidW w) (h : laws_FnExactBuildGraph.f k a0_0 a0_1 l0_2 l0_3 l0_4 = some r) :
  Calls Tryd.prog 3 #[.agg #[.int .i64 a0_0, .int .i64 a0_1, .slice A0_2 l0_2.length c0_2, .slice A0_3 l0_3.length c0_3, .slice A0_4 l0_4.length c0_4]] w fun e w' => e = .returned (.bool r) ∧ Below w.heap.size w w' := by
 have hu25 := Tryd.underlying25
 have hu28 := Tryd.underlying28
 have hu33 := Tryd.underlying33
 have HR0_2 := zA hr0_2
 have HC0_2 := zA hc0_2
 clear hr0_2 hc0_2
 have HR0_3 := zA hr0_3
 have HC0_3 := zA hc0_3
 clear hr0_3 hc0_3
 have HR0_4 := zA hr0_4
 have HC0_4 := zA hc0_4
 clear hr0_4 hc0_4
 have HLD := zA hL
 clear hL
 have HB := zA (Below.refl w.heap.size w)
 have H : ((laws_szLayout.f k a0_0 a0_1 l0_2 l0_3 l0_4 1048576).bind fun t331 => (if t331 < 0 then (some true) else ((laws_toLayout.f k a0_0 a0_1 l0_2 l0_3 l0_4).bind fun bt332 => ((spec_BuildGraph.f k bt332.1 bt332.2.1 bt332.2.2.1 bt332.2.2.2.1 bt332.2.2.2.2).bind fun bt343 => ((laws_toLayout.f k a0_0 a0_1 l0_2 l0_3 l0_4).bind fun bt358 => ((impl_BuildGraph.f k bt358.1 bt358.2.1 bt358.2.2.1 bt358.2.2.2.1 bt358.2.2.2.2).bind fun bt370 => ((laws_eqGraph.f k bt370.1 bt370.2.1 bt370.2.2.1 bt370.2.2.2.1 bt370.2.2.2.2.1 bt343.1 bt343.2.1 bt343.2.2.1 bt343.2.2.2.1 bt343.2.2.2.2.1).bind fun t385 => (if t385 = true then (laws_FnExactBuildGraph.j0 k bt343.2.2.2.2.2 bt370.2.2.2.2.2 (bt370.2.2.2.2.2 != bt343.2.2.2.2.2) a0_0 a0_1 l0_2 l0_3 l0_4 bt343.1 bt343.2.1 bt343.2.2.1 bt343.2.2.2.1 bt343.2.2.2.2.1 bt358.1 bt358.2.1 bt358.2.2.1 bt358.2.2.2.1 bt358.2.2.2.2 bt370.1 bt370.2.1 bt370.2.2.1 bt370.2.2.2.1 bt370.2.2.2.2.1) else (laws_FnExactBuildGraph.j0 k bt343.2.2.2.2.2 bt370.2.2.2.2.2 true a0_0 a0_1 l0_2 l0_3 l0_4 bt343.1 bt343.2.1 bt343.2.2.1 bt343.2.2.2.1 bt343.2.2.2.2.1 bt358.1 bt358.2.1 bt358.2.2.1 bt358.2.2.2.1 bt358.2.2.2.2 bt370.1 bt370.2.1 bt370.2.2.1 bt370.2.2.2.1 bt370.2.2.2.2.1))))))))) = some r := h
 clear h
 replace H := Option.bind_eq_some_iff.mp H
 obtain ⟨t331, A20, H⟩ := H
 replace H : (if t331 < 0 then (some true) else ((laws_toLayout.f k a0_0 a0_1 l0_2 l0_3 l0_4).bind fun bt332 => ((spec_BuildGraph.f k bt332.1 bt332.2.1 bt332.2.2.1 bt332.2.2.2.1 bt332.2.2.2.2).bind fun bt343 => ((laws_toLayout.f k a0_0 a0_1 l0_2 l0_3 l0_4).bind fun bt358 => ((impl_BuildGraph.f k bt358.1 bt358.2.1 bt358.2.2.1 bt358.2.2.2.1 bt358.2.2.2.2).bind fun bt370 => ((laws_eqGraph.f k bt370.1 bt370.2.1 bt370.2.2.1 bt370.2.2.2.1 bt370.2.2.2.2.1 bt343.1 bt343.2.1 bt343.2.2.1 bt343.2.2.2.1 bt343.2.2.2.2.1).bind fun t385 => (if t385 = true then (laws_FnExactBuildGraph.j0 k bt343.2.2.2.2.2 bt370.2.2.2.2.2 (bt370.2.2.2.2.2 != bt343.2.2.2.2.2) a0_0 a0_1 l0_2 l0_3 l0_4 bt343.1 bt343.2.1 bt343.2.2.1 bt343.2.2.2.1 bt343.2.2.2.2.1 bt358.1 bt358.2.1 bt358.2.2.1 bt358.2.2.2.1 bt358.2.2.2.2 bt370.1 bt370.2.1 bt370.2.2.1 bt370.2.2.2.1 bt370.2.2.2.2.1) else (laws_FnExactBuildGraph.j0 k bt343.2.2.2.2.2 bt370.2.2.2.2.2 true a0_0 a0_1 l0_2 l0_3 l0_4 bt343.1 bt343.2.1 bt343.2.2.1 bt343.2.2.2.1 bt343.2.2.2.2.1 bt358.1 bt358.2.1 bt358.2.2.1 bt358.2.2.2.1 bt358.2.2.2.2 bt370.1 bt370.2.1 bt370.2.2.1 bt370.2.2.2.1 bt370.2.2.2.2.1)))))))) = some r := H
 have A2 := zA A20
 clear A20
 by_cases c3 : t331 < 0
 ·rw [if_pos c3] at H
  have c3b0 : decide (t331 < 0) = true := decide_eq_true c3
  clear c3
  obtain rfl := Option.some.inj H
  go_enter Tryd.func3, Tryd.ntmps3
  go_wp2_with (first | ((with_reducible refine gate_dst (N := 1) rfl ?_); refine box_event ?hg (N := 1) ?hd (cs := #[.int .i64 a0_0, .int .i64 a0_1, .slice A0_2 l0_2.length c0_2, .slice A0_3 l0_3.length c0_3, .slice A0_4 l0_4.length c0_4]) (t := 25) ?hr ?_; (case hd => rfl); (case hg => rfl); (case hr => first | (go_simp; done) | (go_simp; rfl)); intro gb330 hg w4 hbox hb; have n0_ := zA (below_step z_ hb); have n1_ := zA (hbox); have n2_ := zA ((by rw [hg]; exact (below_size z_) : w.heap.size ≤ gb330)); have n3_ := zA ((by rw [hg]; exact (below_size z_) : w.heap.size ≤ gb330)); clear HB; have HB := n0_; have BK330 := n1_; have GW330 := n2_; have GE330 := n3_; clear n0_ n1_ n2_ n3_; clear hb hbox hg; obtain ⟨hcz5_0, hcz5_1, hcz5_2, hcz5_3, hcz5_4, hfz5_0, hfz5_1, hfz5_2, hfz5_3, hfz5_4⟩ := zh5 BK330.out) | ((with_reducible refine gate_callee (f := 13) rfl ?_); refine goesL_ (some 16) rfl rfl Tryd.func13 (by kernel_rfl) rfl #[.agg #[.int .i64 a0_0, .int .i64 a0_1, .slice A0_2 l0_2.length c0_2, .slice A0_3 l0_3.length c0_3, .slice A0_4 l0_4.length c0_4], .int .i64 1048576] rfl za ?_; (with_reducible refine (laws_szLayout.calls k a0_0 a0_1 _ _ l0_2 _ _ l0_3 _ _ l0_4 1048576 t331 _ ?side1 ?side2 ?side3 ?side4 ?side5 ?side6 A2.out).mono ?_); (case side1 => exact zc (Kd.C_below HR0_2.out HB.out)); (case side2 => exact HC0_2.out); (case side3 => exact zc (Kd.C_below HR0_3.out HB.out)); (case side4 => exact HC0_3.out); (case side5 => exact zc (Kd.C_below HR0_4.out HB.out)); (case side6 => exact HC0_4.out); rintro e w6 ⟨rfl, hb⟩; refine ⟨_, rfl, ?_⟩; have n0_ := zA (zB BK330.out hb); have n1_ := zA (below_step (zs GE330.out) hb); clear BK330 HB; have BK330 := n0_; have HB := n1_; clear n0_ n1_; (try clear hb); (try clear hb2); (try clear hk); (try clear hi)))
  go_ret
  exact ⟨ze, (zs GE330.out)⟩
 ·rw [if_neg c3] at H
  have c3b0 : decide (t331 < 0) = false := decide_eq_false c3
  clear c3
  replace H := Option.bind_eq_some_iff.mp H
  obtain ⟨⟨t332, t333, t334, t337, t340⟩, A70, H⟩ := H
  replace H : ((spec_BuildGraph.f k t332 t333 t334 t337 t340).bind fun bt343 => ((laws_toLayout.f k a0_0 a0_1 l0_2 l0_3 l0_4).bind fun bt358 => ((impl_BuildGraph.f k bt358.1 bt358.2.1 bt358.2.2.1 bt358.2.2.2.1 bt358.2.2.2.2).bind fun bt370 => ((laws_eqGraph.f k bt370.1 bt370.2.1 bt370.2.2.1 bt370.2.2.2.1 bt370.2.2.2.2.1 bt343.1 bt343.2.1 bt343.2.2.1 bt343.2.2.2.1 bt343.2.2.2.2.1).bind fun t385 => (if t385 = true then (laws_FnExactBuildGraph.j0 k bt343.2.2.2.2.2 bt370.2.2.2.2.2 (bt370.2.2.2.2.2 != bt343.2.2.2.2.2) a0_0 a0_1 l0_2 l0_3 l0_4 bt343.1 bt343.2.1 bt343.2.2.1 bt343.2.2.2.1 bt343.2.2.2.2.1 bt358.1 bt358.2.1 bt358.2.2.1 bt358.2.2.2.1 bt358.2.2.2.2 bt370.1 bt370.2.1 bt370.2.2.1 bt370.2.2.2.1 bt370.2.2.2.2.1) else (laws_FnExactBuildGraph.j0 k bt343.2.2.2.2.2 bt370.2.2.2.2.2 true a0_0 a0_1 l0_2 l0_3 l0_4 bt343.1 bt343.2.1 bt343.2.2.1 bt343.2.2.2.1 bt343.2.2.2.2.1 bt358.1 bt358.2.1 bt358.2.2.1 bt358.2.2.2.1 bt358.2.2.2.2 bt370.1 bt370.2.1 bt370.2.2.1 bt370.2.2.2.1 bt370.2.2.2.2.1)))))) = some r := H
  have A7 := zA A70
  clear A70
  replace H := Option.bind_eq_some_iff.mp H
  obtain ⟨⟨t343, t344, t347, t350, t353, t356⟩, A80, H⟩ := H
  replace H : ((laws_toLayout.f k a0_0 a0_1 l0_2 l0_3 l0_4).bind fun bt358 => ((impl_BuildGraph.f k bt358.1 bt358.2.1 bt358.2.2.1 bt358.2.2.2.1 bt358.2.2.2.2).bind fun bt370 => ((laws_eqGraph.f k bt370.1 bt370.2.1 bt370.2.2.1 bt370.2.2.2.1 bt370.2.2.2.2.1 t343 t344 t347 t350 t353).bind fun t385 => (if t385 = true then (laws_FnExactBuildGraph.j0 k t356 bt370.2.2.2.2.2 (bt370.2.2.2.2.2 != t356) a0_0 a0_1 l0_2 l0_3 l0_4 t343 t344 t347 t350 t353 bt358.1 bt358.2.1 bt358.2.2.1 bt358.2.2.2.1 bt358.2.2.2.2 bt370.1 bt370.2.1 bt370.2.2.1 bt370.2.2.2.1 bt370.2.2.2.2.1) else (laws_FnExactBuildGraph.j0 k t356 bt370.2.2.2.2.2 true a0_0 a0_1 l0_2 l0_3 l0_4 t343 t344 t347 t350 t353 bt358.1 bt358.2.1 bt358.2.2.1 bt358.2.2.2.1 bt358.2.2.2.2 bt370.1 bt370.2.1 bt370.2.2.1 bt370.2.2.2.1 bt370.2.2.2.2.1))))) = some r := H
  have A8 := zA A80
  clear A80
  replace H := Option.bind_eq_some_iff.mp H
  obtain ⟨⟨t358, t359, t360, t363, t366⟩, A90, H⟩ := H
  replace H : ((impl_BuildGraph.f k t358 t359 t360 t363 t366).bind fun bt370 => ((laws_eqGraph.f k bt370.1 bt370.2.1 bt370.2.2.1 bt370.2.2.2.1 bt370.2.2.2.2.1 t343 t344 t347 t350 t353).bind fun t385 => (if t385 = true then (laws_FnExactBuildGraph.j0 k t356 bt370.2.2.2.2.2 (bt370.2.2.2.2.2 != t356) a0_0 a0_1 l0_2 l0_3 l0_4 t343 t344 t347 t350 t353 t358 t359 t360 t363 t366 bt370.1 bt370.2.1 bt370.2.2.1 bt370.2.2.2.1 bt370.2.2.2.2.1) else (laws_FnExactBuildGraph.j0 k t356 bt370.2.2.2.2.2 true a0_0 a0_1 l0_2 l0_3 l0_4 t343 t344 t347 t350 t353 t358 t359 t360 t363 t366 bt370.1 bt370.2.1 bt370.2.2.1 bt370.2.2.2.1 bt370.2.2.2.2.1)))) = some r := H
  have A9 := zA A90
  clear A90
  replace H := Option.bind_eq_some_iff.mp H
  obtain ⟨⟨t370, t371, t374, t377, t380, t383⟩, A100, H⟩ := H
  replace H : ((laws_eqGraph.f k t370 t371 t374 t377 t380 t343 t344 t347 t350 t353).bind fun t385 => (if t385 = true then (laws_FnExactBuildGraph.j0 k t356 t383 (t383 != t356) a0_0 a0_1 l0_2 l0_3 l0_4 t343 t344 t347 t350 t353 t358 t359 t360 t363 t366 t370 t371 t374 t377 t380) else (laws_FnExactBuildGraph.j0 k t356 t383 true a0_0 a0_1 l0_2 l0_3 l0_4 t343 t344 t347 t350 t353 t358 t359 t360 t363 t366 t370 t371 t374 t377 t380))) = some r := H
  have A10 := zA A100
  clear A100
  have HC11 := zA H
  clear H
  go_enter Tryd.func3, Tryd.ntmps3
  go_upto_region 8 with (first | ((with_reducible refine gate_dst (N := 1) rfl ?_); refine box_event ?hg (N := 1) ?hd (cs := #[.int .i64 a0_0, .int .i64 a0_1, .slice A0_2 l0_2.length c0_2, .slice A0_3 l0_3.length c0_3, .slice A0_4 l0_4.length c0_4]) (t := 25) ?hr ?_; (case hd => rfl); (case hg => rfl); (case hr => first | (go_simp; done) | (go_simp; rfl)); intro gb330 hg w12 hbox hb; have n0_ := zA (below_step z_ hb); have n1_ := zA (hbox); have n2_ := zA ((by rw [hg]; exact (below_size z_) : w.heap.size ≤ gb330)); have n3_ := zA ((by rw [hg]; exact (below_size z_) : w.heap.size ≤ gb330)); clear HB; have HB := n0_; have BK330 := n1_; have GW330 := n2_; have GE330 := n3_; clear n0_ n1_ n2_ n3_; clear hb hbox hg; obtain ⟨hcz13_0, hcz13_1, hcz13_2, hcz13_3, hcz13_4, hfz13_0, hfz13_1, hfz13_2, hfz13_3, hfz13_4⟩ := zh5 BK330.out) | ((with_reducible refine gate_callee (f := 13) rfl ?_); refine goesL_ (some 16) rfl rfl Tryd.func13 (by kernel_rfl) rfl #[.agg #[.int .i64 a0_0, .int .i64 a0_1, .slice A0_2 l0_2.length c0_2, .slice A0_3 l0_3.length c0_3, .slice A0_4 l0_4.length c0_4], .int .i64 1048576] rfl za ?_; (with_reducible refine (laws_szLayout.calls k a0_0 a0_1 _ _ l0_2 _ _ l0_3 _ _ l0_4 1048576 t331 _ ?side1 ?side2 ?side3 ?side4 ?side5 ?side6 A2.out).mono ?_); (case side1 => exact zc (Kd.C_below HR0_2.out HB.out)); (case side2 => exact HC0_2.out); (case side3 => exact zc (Kd.C_below HR0_3.out HB.out)); (case side4 => exact HC0_3.out); (case side5 => exact zc (Kd.C_below HR0_4.out HB.out)); (case side6 => exact HC0_4.out); rintro e w14 ⟨rfl, hb⟩; refine ⟨_, rfl, ?_⟩; have n0_ := zA (zB BK330.out hb); have n1_ := zA (below_step (zs GE330.out) hb); clear BK330 HB; have BK330 := n0_; have HB := n1_; clear n0_ n1_; (try clear hb); (try clear hb2); (try clear hk); (try clear hi); obtain ⟨hcz15_0, hcz15_1, hcz15_2, hcz15_3, hcz15_4, hfz15_0, hfz15_1, hfz15_2, hfz15_3, hfz15_4⟩ := zh5 BK330.out) | ((with_reducible refine gate_callee (f := 15) rfl ?_); refine goesL_ (some 21) rfl rfl Tryd.func15 (by kernel_rfl) rfl #[.agg #[.int .i64 a0_0, .int .i64 a0_1, .slice A0_2 l0_2.length c0_2, .slice A0_3 l0_3.length c0_3, .slice A0_4 l0_4.length c0_4]] rfl za ?_; (with_reducible refine (laws_toLayout.calls k a0_0 a0_1 _ _ l0_2 _ _ l0_3 _ _ l0_4 t332 t333 t334 t337 t340 _ ?side1 ?side2 ?side3 ?side4 ?side5 ?side6 A7.out).mono ?_); (case side1 => exact zc (Kd.C_below HR0_2.out HB.out)); (case side2 => exact HC0_2.out); (case side3 => exact zc (Kd.C_below HR0_3.out HB.out)); (case side4 => exact HC0_3.out); (case side5 => exact zc (Kd.C_below HR0_4.out HB.out)); (case side6 => exact HC0_4.out); rintro e w16 ⟨v335, v338, v341, rfl, ho0, ho1, ho2, hb⟩; refine ⟨_, rfl, ?_⟩; have n0_ := zA (Kd.R_lower ho0 (below_size (zs GE330.out))); have n1_ := zA (Kd.R_lower ho1 (below_size (zs GE330.out))); have n2_ := zA (Kd.S_lower ho2 (below_size (zs GE330.out))); have n3_ := zA (zB BK330.out hb); have n4_ := zA (below_step (zs GE330.out) hb); clear BK330 HB; have HO336 := n0_; have HO339 := n1_; have HO342 := n2_; have BK330 := n3_; have HB := n4_; clear n0_ n1_ n2_ n3_ n4_; (try clear hb); (try clear hb2); (try clear hk); (try clear hi); (try clear ho0); (try clear ho1); (try clear ho2); obtain ⟨Ao17, co17, eo17⟩ := Kd.R_slice HO336.out; subst eo17; obtain ⟨Ao18, co18, eo18⟩ := Kd.R_slice HO339.out; subst eo18; obtain ⟨Ao19, co19, eo19⟩ := Kd.S_slice HO342.out; subst eo19) | ((with_reducible refine gate_callee (f := 14) rfl ?_); refine goesL_ (some 22) rfl rfl Tryd.func14 (by kernel_rfl) rfl #[.agg #[.int .i64 t332, .int .i64 t333, .slice Ao17 t334.length co17, .slice Ao18 t337.length co18, .slice Ao19 t340.length co19]] rfl za ?_; (with_reducible refine (spec_BuildGraph.calls k t332 t333 _ _ t334 _ _ t337 _ _ t340 t343 t344 t347 t350 t353 t356 _ ?side1 ?side2 ?side3 ?side4 ?side5 ?side6 A8.out).mono ?_); (case side1 => exact zc ((Kd.R_reads' HO336.out).2.2)); (case side2 => exact (Kd.R_reads' HO336.out).2.1); (case side3 => exact zc ((Kd.R_reads' HO339.out).2.2)); (case side4 => exact (Kd.R_reads' HO339.out).2.1); (case side5 => exact zc ((Kd.S_reads' HO342.out).2.2)); (case side6 => exact (Kd.S_reads' HO342.out).2.1); rintro e w20 ⟨v345, v348, v351, v354, rfl, ho0, ho1, ho2, ho3, hb⟩; refine ⟨_, rfl, ?_⟩; have n0_ := zA (Kd.R_mono (Kd.R_told (Kd.R_told (Kd.R_told (Kd.R_told (Kd.R_old (zR HO336.out) hb) (Kd.R_base ho0)) (Kd.R_base ho1)) (Kd.R_base ho2)) (Kd.R_base ho3)) (fun _ h_ => h_.1)); have n1_ := zA (Kd.R_mono (Kd.R_told (Kd.R_told (Kd.R_told (Kd.R_told (Kd.R_old (zR HO339.out) hb) (Kd.R_base ho0)) (Kd.R_base ho1)) (Kd.R_base ho2)) (Kd.R_base ho3)) (fun _ h_ => h_.1)); have n2_ := zA (Kd.S_below (zS HO342.out) hb); have n3_ := zA (Kd.R_lower (Kd.R_new' (Kd.R_new' ho0 (zl HO336.out)) (zl HO339.out)) (below_size (zs GE330.out))); have n4_ := zA (Kd.R_lower (Kd.R_new' (Kd.R_new' ho1 (zl HO336.out)) (zl HO339.out)) (below_size (zs GE330.out))); have n5_ := zA (Kd.R_lower (Kd.R_new' (Kd.R_new' ho2 (zl HO336.out)) (zl HO339.out)) (below_size (zs GE330.out))); have n6_ := zA (Kd.R_lower (Kd.R_new' (Kd.R_new' ho3 (zl HO336.out)) (zl HO339.out)) (below_size (zs GE330.out))); have n7_ := zA (zB BK330.out hb); have n8_ := zA (below_step (zs GE330.out) hb); clear HO336 HO339 HO342 BK330 HB; have HO336 := n0_; have HO339 := n1_; have HO342 := n2_; have HO346 := n3_; have HO349 := n4_; have HO352 := n5_; have HO355 := n6_; have BK330 := n7_; have HB := n8_; clear n0_ n1_ n2_ n3_ n4_ n5_ n6_ n7_ n8_; (try clear hb); (try clear hb2); (try clear hk); (try clear hi); (try clear ho0); (try clear ho1); (try clear ho2); (try clear ho3)) | ((with_reducible refine gate_dst (N := 4) rfl ?_); refine box_event ?hg (N := 4) ?hd (cs := #[.int .i64 0, .slice none 0 0, .slice none 0 0, .slice none 0 0, .slice none 0 0]) (t := 28) ?hr ?_; (case hd => rfl); (case hg => rfl); (case hr => first | (go_simp; done) | (go_simp; rfl)); intro gb357 hg w21 hbox hb; have n0_ := zA (Kd.R_below (zR HO336.out) hb); have n1_ := zA (Kd.R_below (zR HO339.out) hb); have n2_ := zA (Kd.S_below (zS HO342.out) hb); have n3_ := zA (Kd.R_below (zR HO346.out) hb); have n4_ := zA (Kd.R_below (zR HO349.out) hb); have n5_ := zA (Kd.R_below (zR HO352.out) hb); have n6_ := zA (Kd.R_below (zR HO355.out) hb); have n7_ := zA (zB BK330.out hb); have n8_ := zA (below_step (zs GE330.out) hb); have n9_ := zA (hbox); have n10_ := zA ((by rw [hg]; exact (below_size (zs GE330.out)) : w.heap.size ≤ gb357)); have n11_ := zA ((by rw [hg]; exact (below_size (zs GE330.out)) : w.heap.size ≤ gb357)); have n12_ := zA ((by rw [hg]; exact Nat.ne_of_lt (zw BK330.out) : gb330 ≠ gb357)); have n13_ := zA ((by rw [hg]; exact Nat.ne_of_gt (zw BK330.out) : gb357 ≠ gb330)); clear HO336 HO339 HO342 HO346 HO349 HO352 HO355 BK330 HB; have HO336 := n0_; have HO339 := n1_; have HO342 := n2_; have HO346 := n3_; have HO349 := n4_; have HO352 := n5_; have HO355 := n6_; have BK330 := n7_; have HB := n8_; have BK357 := n9_; have GW357 := n10_; have GE357 := n11_; have NB330_357 := n12_; have NB357_330 := n13_; clear n0_ n1_ n2_ n3_ n4_ n5_ n6_ n7_ n8_ n9_ n10_ n11_ n12_ n13_; clear hb hbox hg; have hnb22 := NB357_330.out; have hnc22 := NB330_357.out; obtain ⟨hcz23_0, hcz23_1, hcz23_2, hcz23_3, hcz23_4, hfz23_0, hfz23_1, hfz23_2, hfz23_3, hfz23_4⟩ := zh5 BK357.out; obtain ⟨Ao24, co24, eo24⟩ := Kd.R_slice HO346.out; subst eo24; obtain ⟨Ao25, co25, eo25⟩ := Kd.R_slice HO349.out; subst eo25; obtain ⟨Ao26, co26, eo26⟩ := Kd.R_slice HO352.out; subst eo26; obtain ⟨Ao27, co27, eo27⟩ := Kd.R_slice HO355.out; subst eo27; obtain ⟨hcz28_0, hcz28_1, hcz28_2, hcz28_3, hcz28_4, hfz28_0, hfz28_1, hfz28_2, hfz28_3, hfz28_4⟩ := zh5 BK330.out) | ((with_reducible refine gate_callee (f := 15) rfl ?_); refine goesL_ (some 26) rfl rfl Tryd.func15 (by kernel_rfl) rfl #[.agg #[.int .i64 a0_0, .int .i64 a0_1, .slice A0_2 l0_2.length c0_2, .slice A0_3 l0_3.length c0_3, .slice A0_4 l0_4.length c0_4]] rfl za ?_; (with_reducible refine (laws_toLayout.calls k a0_0 a0_1 _ _ l0_2 _ _ l0_3 _ _ l0_4 t358 t359 t360 t363 t366 _ ?side1 ?side2 ?side3 ?side4 ?side5 ?side6 A9.out).mono ?_); (case side1 => exact Kd.C_below HR0_2.out (zs2 GE330.out GE357.out)); (case side2 => exact HC0_2.out); (case side3 => exact Kd.C_below HR0_3.out (zs2 GE330.out GE357.out)); (case side4 => exact HC0_3.out); (case side5 => exact Kd.C_below HR0_4.out (zs2 GE330.out GE357.out)); (case side6 => exact HC0_4.out); rintro e w29 ⟨v361, v364, v367, rfl, ho0, ho1, ho2, hb⟩; refine ⟨_, rfl, ?_⟩; have n0_ := zA (Kd.R_mono (Kd.R_told (Kd.R_told (Kd.R_old (zK HO336.out BK357.out) hb) (Kd.R_base ho0)) (Kd.R_base ho1)) (fun _ h_ => h_.1)); have n1_ := zA (Kd.R_mono (Kd.R_told (Kd.R_told (Kd.R_old (zK HO339.out BK357.out) hb) (Kd.R_base ho0)) (Kd.R_base ho1)) (fun _ h_ => h_.1)); have n2_ := zA (Kd.S_elder' (zT HO342.out BK357.out) (Kd.S_base ho2) hb); have n3_ := zA (Kd.R_mono (Kd.R_told (Kd.R_told (Kd.R_old (zK HO346.out BK357.out) hb) (Kd.R_base ho0)) (Kd.R_base ho1)) (fun _ h_ => h_.1)); have n4_ := zA (Kd.R_mono (Kd.R_told (Kd.R_told (Kd.R_old (zK HO349.out BK357.out) hb) (Kd.R_base ho0)) (Kd.R_base ho1)) (fun _ h_ => h_.1)); have n5_ := zA (Kd.R_mono (Kd.R_told (Kd.R_told (Kd.R_old (zK HO352.out BK357.out) hb) (Kd.R_base ho0)) (Kd.R_base ho1)) (fun _ h_ => h_.1)); have n6_ := zA (Kd.R_mono (Kd.R_told (Kd.R_told (Kd.R_old (zK HO355.out BK357.out) hb) (Kd.R_base ho0)) (Kd.R_base ho1)) (fun _ h_ => h_.1)); have n7_ := zA (Kd.R_lower (Kd.R_new' (Kd.R_new' (Kd.R_new' (Kd.R_new' (Kd.R_new' (Kd.R_new' ho0 (zl HO336.out)) (zl HO339.out)) (zl HO346.out)) (zl HO349.out)) (zl HO352.out)) (zl HO355.out)) (below_size (zs2 GE330.out GE357.out))); have n8_ := zA (Kd.R_lower (Kd.R_new' (Kd.R_new' (Kd.R_new' (Kd.R_new' (Kd.R_new' (Kd.R_new' ho1 (zl HO336.out)) (zl HO339.out)) (zl HO346.out)) (zl HO349.out)) (zl HO352.out)) (zl HO355.out)) (below_size (zs2 GE330.out GE357.out))); have n9_ := zA (Kd.S_lower (Kd.S_new' ho2 (Kd.S_lt (zT HO342.out BK357.out))) (below_size (zs2 GE330.out GE357.out))); have n10_ := zA (blk_below (g := gb330) (o := .cells #[.int .i64 a0_0, .int .i64 a0_1, .slice A0_2 l0_2.length c0_2, .slice A0_3 l0_3.length c0_3, .slice A0_4 l0_4.length c0_4] 25 (0, 0)) (zf BK330.out NB330_357.out) hb); have n11_ := zA (blk_below (g := gb357) (o := .cells #[.int .i64 t343, .slice Ao24 t344.length co24, .slice Ao25 t347.length co25, .slice Ao26 t350.length co26, .slice Ao27 t353.length co27] 28 (0, 0)) (zq BK357.out) hb); have n12_ := zA (below_step (zs2 GE330.out GE357.out) hb); clear HO336 HO339 HO342 HO346 HO349 HO352 HO355 BK330 BK357 HB; have HO336 := n0_; have HO339 := n1_; have HO342 := n2_; have HO346 := n3_; have HO349 := n4_; have HO352 := n5_; have HO355 := n6_; have HO362 := n7_; have HO365 := n8_; have HO368 := n9_; have BK330 := n10_; have BK357 := n11_; have HB := n12_; clear n0_ n1_ n2_ n3_ n4_ n5_ n6_ n7_ n8_ n9_ n10_ n11_ n12_; (try clear hb); (try clear hb2); (try clear hk); (try clear hi); (try clear ho0); (try clear ho1); (try clear ho2)) | ((with_reducible refine gate_dst (N := 6) rfl ?_); refine box_event ?hg (N := 6) ?hd (cs := #[.int .i64 0, .int .i64 0, .slice none 0 0, .slice none 0 0, .slice none 0 0]) (t := 33) ?hr ?_; (case hd => rfl); (case hg => rfl); (case hr => first | (go_simp; done) | (go_simp; rfl)); intro gb369 hg w30 hbox hb; have n0_ := zA (Kd.R_below (zR HO336.out) hb); have n1_ := zA (Kd.R_below (zR HO339.out) hb); have n2_ := zA (Kd.S_below (zS HO342.out) hb); have n3_ := zA (Kd.R_below (zR HO346.out) hb); have n4_ := zA (Kd.R_below (zR HO349.out) hb); have n5_ := zA (Kd.R_below (zR HO352.out) hb); have n6_ := zA (Kd.R_below (zR HO355.out) hb); have n7_ := zA (Kd.R_below (zR HO362.out) hb); have n8_ := zA (Kd.R_below (zR HO365.out) hb); have n9_ := zA (Kd.S_below (zS HO368.out) hb); have n10_ := zA (zB BK330.out hb); have n11_ := zA (zB BK357.out hb); have n12_ := zA (below_step (zs2 GE330.out GE357.out) hb); have n13_ := zA (hbox); have n14_ := zA ((by rw [hg]; exact (below_size (zs2 GE330.out GE357.out)) : w.heap.size ≤ gb369)); have n15_ := zA ((by rw [hg]; exact (below_size (zs2 GE330.out GE357.out)) : w.heap.size ≤ gb369)); have n16_ := zA ((by rw [hg]; exact Nat.ne_of_lt (zw BK330.out) : gb330 ≠ gb369)); have n17_ := zA ((by rw [hg]; exact Nat.ne_of_gt (zw BK330.out) : gb369 ≠ gb330)); have n18_ := zA ((by rw [hg]; exact Nat.ne_of_lt (zw BK357.out) : gb357 ≠ gb369)); have n19_ := zA ((by rw [hg]; exact Nat.ne_of_gt (zw BK357.out) : gb369 ≠ gb357)); clear HO336 HO339 HO342 HO346 HO349 HO352 HO355 HO362 HO365 HO368 BK330 BK357 HB; have HO336 := n0_; have HO339 := n1_; have HO342 := n2_; have HO346 := n3_; have HO349 := n4_; have HO352 := n5_; have HO355 := n6_; have HO362 := n7_; have HO365 := n8_; have HO368 := n9_; have BK330 := n10_; have BK357 := n11_; have HB := n12_; have BK369 := n13_; have GW369 := n14_; have GE369 := n15_; have NB330_369 := n16_; have NB369_330 := n17_; have NB357_369 := n18_; have NB369_357 := n19_; clear n0_ n1_ n2_ n3_ n4_ n5_ n6_ n7_ n8_ n9_ n10_ n11_ n12_ n13_ n14_ n15_ n16_ n17_ n18_ n19_; clear hb hbox hg; have hnb31 := NB369_330.out; have hnc31 := NB330_369.out; have hnb32 := NB369_357.out; have hnc32 := NB357_369.out; obtain ⟨hcz33_0, hcz33_1, hcz33_2, hcz33_3, hcz33_4, hfz33_0, hfz33_1, hfz33_2, hfz33_3, hfz33_4⟩ := zh5 BK369.out; obtain ⟨Ao34, co34, eo34⟩ := Kd.R_slice HO362.out; subst eo34; obtain ⟨Ao35, co35, eo35⟩ := Kd.R_slice HO365.out; subst eo35; obtain ⟨Ao36, co36, eo36⟩ := Kd.S_slice HO368.out; subst eo36) | ((with_reducible refine gate_callee (f := 16) rfl ?_); refine goesL_ (some 29) rfl rfl Tryd.func16 (by kernel_rfl) rfl #[.agg #[.int .i64 t358, .int .i64 t359, .slice Ao34 t360.length co34, .slice Ao35 t363.length co35, .slice Ao36 t366.length co36]] rfl za ?_; (with_reducible refine (impl_BuildGraph.calls k t358 t359 _ _ t360 _ _ t363 _ _ t366 t370 t371 t374 t377 t380 t383 _ ?side1 ?side2 ?side3 ?side4 ?side5 ?side6 ?side7 A10.out).mono ?_); (case side1 => exact (Kd.R_reads' (zK HO362.out BK369.out)).2.2); (case side2 => exact (Kd.R_reads' HO362.out).2.1); (case side3 => exact (Kd.R_reads' (zK HO365.out BK369.out)).2.2); (case side4 => exact (Kd.R_reads' HO365.out).2.1); (case side5 => refine (Kd.S_reads' (e := 120) (base := w.heap.size) (ok := fun k_ => (True ∧ zO k_ (.slice Ao19 t340.length co19))) (n := t366.length) (c := co36) ?_).2.2; exact (zT HO368.out BK369.out)); (case side6 => exact (Kd.S_reads' HO368.out).2.1); (case side7 => exact LaidW.below HLD.out (zs3 GE330.out GE357.out GE369.out)); rintro e w37 ⟨v372, v375, v378, v381, rfl, ho0, ho1, ho2, ho3, hb⟩; refine ⟨_, rfl, ?_⟩; have n0_ := zA (Kd.R_mono (Kd.R_told (Kd.R_told (Kd.R_told (Kd.R_told (Kd.R_old (zK HO336.out BK369.out) hb) (Kd.R_base ho0)) (Kd.R_base ho1)) (Kd.R_base ho2)) (Kd.R_base ho3)) (fun _ h_ => h_.1)); have n1_ := zA (Kd.R_mono (Kd.R_told (Kd.R_told (Kd.R_told (Kd.R_told (Kd.R_old (zK HO339.out BK369.out) hb) (Kd.R_base ho0)) (Kd.R_base ho1)) (Kd.R_base ho2)) (Kd.R_base ho3)) (fun _ h_ => h_.1)); have n2_ := zA (Kd.S_below (zT HO342.out BK369.out) hb); have n3_ := zA (Kd.R_mono (Kd.R_told (Kd.R_told (Kd.R_told (Kd.R_told (Kd.R_old (zK HO346.out BK369.out) hb) (Kd.R_base ho0)) (Kd.R_base ho1)) (Kd.R_base ho2)) (Kd.R_base ho3)) (fun _ h_ => h_.1)); have n4_ := zA (Kd.R_mono (Kd.R_told (Kd.R_told (Kd.R_told (Kd.R_told (Kd.R_old (zK HO349.out BK369.out) hb) (Kd.R_base ho0)) (Kd.R_base ho1)) (Kd.R_base ho2)) (Kd.R_base ho3)) (fun _ h_ => h_.1)); have n5_ := zA (Kd.R_mono (Kd.R_told (Kd.R_told (Kd.R_told (Kd.R_told (Kd.R_old (zK HO352.out BK369.out) hb) (Kd.R_base ho0)) (Kd.R_base ho1)) (Kd.R_base ho2)) (Kd.R_base ho3)) (fun _ h_ => h_.1)); have n6_ := zA (Kd.R_mono (Kd.R_told (Kd.R_told (Kd.R_told (Kd.R_told (Kd.R_old (zK HO355.out BK369.out) hb) (Kd.R_base ho0)) (Kd.R_base ho1)) (Kd.R_base ho2)) (Kd.R_base ho3)) (fun _ h_ => h_.1)); have n7_ := zA (Kd.R_mono (Kd.R_told (Kd.R_told (Kd.R_told (Kd.R_told (Kd.R_old (zK HO362.out BK369.out) hb) (Kd.R_base ho0)) (Kd.R_base ho1)) (Kd.R_base ho2)) (Kd.R_base ho3)) (fun _ h_ => h_.1)); have n8_ := zA (Kd.R_mono (Kd.R_told (Kd.R_told (Kd.R_told (Kd.R_told (Kd.R_old (zK HO365.out BK369.out) hb) (Kd.R_base ho0)) (Kd.R_base ho1)) (Kd.R_base ho2)) (Kd.R_base ho3)) (fun _ h_ => h_.1)); have n9_ := zA (Kd.S_below (zT HO368.out BK369.out) hb); have n10_ := zA (Kd.R_lower (Kd.R_new' (Kd.R_new' (Kd.R_new' (Kd.R_new' (Kd.R_new' (Kd.R_new' (Kd.R_new' (Kd.R_new' ho0 (zl HO336.out)) (zl HO339.out)) (zl HO346.out)) (zl HO349.out)) (zl HO352.out)) (zl HO355.out)) (zl HO362.out)) (zl HO365.out)) (below_size (zs3 GE330.out GE357.out GE369.out))); have n11_ := zA (Kd.R_lower (Kd.R_new' (Kd.R_new' (Kd.R_new' (Kd.R_new' (Kd.R_new' (Kd.R_new' (Kd.R_new' (Kd.R_new' ho1 (zl HO336.out)) (zl HO339.out)) (zl HO346.out)) (zl HO349.out)) (zl HO352.out)) (zl HO355.out)) (zl HO362.out)) (zl HO365.out)) (below_size (zs3 GE330.out GE357.out GE369.out))); have n12_ := zA (Kd.R_lower (Kd.R_new' (Kd.R_new' (Kd.R_new' (Kd.R_new' (Kd.R_new' (Kd.R_new' (Kd.R_new' (Kd.R_new' ho2 (zl HO336.out)) (zl HO339.out)) (zl HO346.out)) (zl HO349.out)) (zl HO352.out)) (zl HO355.out)) (zl HO362.out)) (zl HO365.out)) (below_size (zs3 GE330.out GE357.out GE369.out))); have n13_ := zA (Kd.R_lower (Kd.R_new' (Kd.R_new' (Kd.R_new' (Kd.R_new' (Kd.R_new' (Kd.R_new' (Kd.R_new' (Kd.R_new' ho3 (zl HO336.out)) (zl HO339.out)) (zl HO346.out)) (zl HO349.out)) (zl HO352.out)) (zl HO355.out)) (zl HO362.out)) (zl HO365.out)) (below_size (zs3 GE330.out GE357.out GE369.out))); have n14_ := zA (blk_below (g := gb330) (o := .cells #[.int .i64 a0_0, .int .i64 a0_1, .slice A0_2 l0_2.length c0_2, .slice A0_3 l0_3.length c0_3, .slice A0_4 l0_4.length c0_4] 25 (0, 0)) (zf BK330.out NB330_369.out) hb); have n15_ := zA (blk_below (g := gb357) (o := .cells #[.int .i64 t343, .slice Ao24 t344.length co24, .slice Ao25 t347.length co25, .slice Ao26 t350.length co26, .slice Ao27 t353.length co27] 28 (0, 0)) (zf BK357.out NB357_369.out) hb); have n16_ := zA (blk_below (g := gb369) (o := .cells #[.int .i64 t358, .int .i64 t359, .slice Ao34 t360.length co34, .slice Ao35 t363.length co35, .slice Ao36 t366.length co36] 33 (0, 0)) (zq BK369.out) hb); have n17_ := zA (below_step (zs3 GE330.out GE357.out GE369.out) hb); clear HO336 HO339 HO342 HO346 HO349 HO352 HO355 HO362 HO365 HO368 BK330 BK357 BK369 HB; have HO336 := n0_; have HO339 := n1_; have HO342 := n2_; have HO346 := n3_; have HO349 := n4_; have HO352 := n5_; have HO355 := n6_; have HO362 := n7_; have HO365 := n8_; have HO368 := n9_; have HO373 := n10_; have HO376 := n11_; have HO379 := n12_; have HO382 := n13_; have BK330 := n14_; have BK357 := n15_; have BK369 := n16_; have HB := n17_; clear n0_ n1_ n2_ n3_ n4_ n5_ n6_ n7_ n8_ n9_ n10_ n11_ n12_ n13_ n14_ n15_ n16_ n17_; (try clear hb); (try clear hb2); (try clear hk); (try clear hi); (try clear ho0); (try clear ho1); (try clear ho2); (try clear ho3)) | ((with_reducible refine gate_dst (N := 7) rfl ?_); refine box_event ?hg (N := 7) ?hd (cs := #[.int .i64 0, .slice none 0 0, .slice none 0 0, .slice none 0 0, .slice none 0 0]) (t := 28) ?hr ?_; (case hd => rfl); (case hg => rfl); (case hr => first | (go_simp; done) | (go_simp; rfl)); intro gb384 hg w38 hbox hb; have n0_ := zA (Kd.R_below (zR HO336.out) hb); have n1_ := zA (Kd.R_below (zR HO339.out) hb); have n2_ := zA (Kd.S_below (zS HO342.out) hb); have n3_ := zA (Kd.R_below (zR HO346.out) hb); have n4_ := zA (Kd.R_below (zR HO349.out) hb); have n5_ := zA (Kd.R_below (zR HO352.out) hb); have n6_ := zA (Kd.R_below (zR HO355.out) hb); have n7_ := zA (Kd.R_below (zR HO362.out) hb); have n8_ := zA (Kd.R_below (zR HO365.out) hb); have n9_ := zA (Kd.S_below (zS HO368.out) hb); have n10_ := zA (Kd.R_below (zR HO373.out) hb); have n11_ := zA (Kd.R_below (zR HO376.out) hb); have n12_ := zA (Kd.R_below (zR HO379.out) hb); have n13_ := zA (Kd.R_below (zR HO382.out) hb); have n14_ := zA (zB BK330.out hb); have n15_ := zA (zB BK357.out hb); have n16_ := zA (zB BK369.out hb); have n17_ := zA (below_step (zs3 GE330.out GE357.out GE369.out) hb); have n18_ := zA (hbox); have n19_ := zA ((by rw [hg]; exact (below_size (zs3 GE330.out GE357.out GE369.out)) : w.heap.size ≤ gb384)); have n20_ := zA ((by rw [hg]; exact (below_size (zs3 GE330.out GE357.out GE369.out)) : w.heap.size ≤ gb384)); have n21_ := zA ((by rw [hg]; exact Nat.ne_of_lt (zw BK330.out) : gb330 ≠ gb384)); have n22_ := zA ((by rw [hg]; exact Nat.ne_of_gt (zw BK330.out) : gb384 ≠ gb330)); have n23_ := zA ((by rw [hg]; exact Nat.ne_of_lt (zw BK357.out) : gb357 ≠ gb384)); have n24_ := zA ((by rw [hg]; exact Nat.ne_of_gt (zw BK357.out) : gb384 ≠ gb357)); have n25_ := zA ((by rw [hg]; exact Nat.ne_of_lt (zw BK369.out) : gb369 ≠ gb384)); have n26_ := zA ((by rw [hg]; exact Nat.ne_of_gt (zw BK369.out) : gb384 ≠ gb369)); clear HO336 HO339 HO342 HO346 HO349 HO352 HO355 HO362 HO365 HO368 HO373 HO376 HO379 HO382 BK330 BK357 BK369 HB; have HO336 := n0_; have HO339 := n1_; have HO342 := n2_; have HO346 := n3_; have HO349 := n4_; have HO352 := n5_; have HO355 := n6_; have HO362 := n7_; have HO365 := n8_; have HO368 := n9_; have HO373 := n10_; have HO376 := n11_; have HO379 := n12_; have HO382 := n13_; have BK330 := n14_; have BK357 := n15_; have BK369 := n16_; have HB := n17_; have BK384 := n18_; have GW384 := n19_; have GE384 := n20_; have NB330_384 := n21_; have NB384_330 := n22_; have NB357_384 := n23_; have NB384_357 := n24_; have NB369_384 := n25_; have NB384_369 := n26_; clear n0_ n1_ n2_ n3_ n4_ n5_ n6_ n7_ n8_ n9_ n10_ n11_ n12_ n13_ n14_ n15_ n16_ n17_ n18_ n19_ n20_ n21_ n22_ n23_ n24_ n25_ n26_; clear hb hbox hg; have hnb39 := NB384_330.out; have hnc39 := NB330_384.out; have hnb40 := NB384_357.out; have hnc40 := NB357_384.out; have hnb41 := NB384_369.out; have hnc41 := NB369_384.out; obtain ⟨hcz42_0, hcz42_1, hcz42_2, hcz42_3, hcz42_4, hfz42_0, hfz42_1, hfz42_2, hfz42_3, hfz42_4⟩ := zh5 BK384.out; obtain ⟨Ao43, co43, eo43⟩ := Kd.R_slice HO373.out; subst eo43; obtain ⟨Ao44, co44, eo44⟩ := Kd.R_slice HO376.out; subst eo44; obtain ⟨Ao45, co45, eo45⟩ := Kd.R_slice HO379.out; subst eo45; obtain ⟨Ao46, co46, eo46⟩ := Kd.R_slice HO382.out; subst eo46))
  (try simp only [Act.put, List.setIfInBounds_toArray, List.set_cons_zero, List.set_cons_succ])
  go_cut [40] (fun v40 wc => ∃ (kq : Nat) (x40_10 : Bool), v40 = .bool x40_10 ∧ Aside0 (laws_FnExactBuildGraph.j0 kq t356 t383 x40_10 a0_0 a0_1 l0_2 l0_3 l0_4 t343 t344 t347 t350 t353 t358 t359 t360 t363 t366 t370 t371 t374 t377 t380 = some r) ∧ Aside0 (kq ≤ k) ∧ Aside0 (Kd.R (Kd.int .i64) 3 wc w.heap.size (fun k_ => zO k_ ((.slice Ao25 t347.length co25)) ∧ zO k_ ((.slice Ao26 t350.length co26)) ∧ zO k_ ((.slice Ao27 t353.length co27)) ∧ zO k_ ((.slice Ao34 t360.length co34)) ∧ zO k_ ((.slice Ao35 t363.length co35)) ∧ zO k_ ((.slice Ao43 t371.length co43)) ∧ zO k_ ((.slice Ao44 t374.length co44)) ∧ zO k_ ((.slice Ao45 t377.length co45)) ∧ zO k_ ((.slice Ao46 t380.length co46))) (.slice Ao24 t344.length co24) t344) ∧ Aside0 (Kd.R (Kd.int .i64) 3 wc w.heap.size (fun k_ => zO k_ ((.slice Ao24 t344.length co24)) ∧ zO k_ ((.slice Ao26 t350.length co26)) ∧ zO k_ ((.slice Ao27 t353.length co27)) ∧ zO k_ ((.slice Ao34 t360.length co34)) ∧ zO k_ ((.slice Ao35 t363.length co35)) ∧ zO k_ ((.slice Ao43 t371.length co43)) ∧ zO k_ ((.slice Ao44 t374.length co44)) ∧ zO k_ ((.slice Ao45 t377.length co45)) ∧ zO k_ ((.slice Ao46 t380.length co46))) (.slice Ao25 t347.length co25) t347) ∧ Aside0 (Kd.R (Kd.int .i64) 3 wc w.heap.size (fun k_ => zO k_ ((.slice Ao24 t344.length co24)) ∧ zO k_ ((.slice Ao25 t347.length co25)) ∧ zO k_ ((.slice Ao27 t353.length co27)) ∧ zO k_ ((.slice Ao34 t360.length co34)) ∧ zO k_ ((.slice Ao35 t363.length co35)) ∧ zO k_ ((.slice Ao43 t371.length co43)) ∧ zO k_ ((.slice Ao44 t374.length co44)) ∧ zO k_ ((.slice Ao45 t377.length co45)) ∧ zO k_ ((.slice Ao46 t380.length co46))) (.slice Ao26 t350.length co26) t350) ∧ Aside0 (Kd.R (Kd.int .i64) 3 wc w.heap.size (fun k_ => zO k_ ((.slice Ao24 t344.length co24)) ∧ zO k_ ((.slice Ao25 t347.length co25)) ∧ zO k_ ((.slice Ao26 t350.length co26)) ∧ zO k_ ((.slice Ao34 t360.length co34)) ∧ zO k_ ((.slice Ao35 t363.length co35)) ∧ zO k_ ((.slice Ao43 t371.length co43)) ∧ zO k_ ((.slice Ao44 t374.length co44)) ∧ zO k_ ((.slice Ao45 t377.length co45)) ∧ zO k_ ((.slice Ao46 t380.length co46))) (.slice Ao27 t353.length co27) t353) ∧ Aside0 (Kd.R (Kd.int .i64) 3 wc w.heap.size (fun k_ => zO k_ ((.slice Ao24 t344.length co24)) ∧ zO k_ ((.slice Ao25 t347.length co25)) ∧ zO k_ ((.slice Ao26 t350.length co26)) ∧ zO k_ ((.slice Ao27 t353.length co27)) ∧ zO k_ ((.slice Ao35 t363.length co35)) ∧ zO k_ ((.slice Ao43 t371.length co43)) ∧ zO k_ ((.slice Ao44 t374.length co44)) ∧ zO k_ ((.slice Ao45 t377.length co45)) ∧ zO k_ ((.slice Ao46 t380.length co46))) (.slice Ao34 t360.length co34) t360) ∧ Aside0 (Kd.R (Kd.int .i64) 3 wc w.heap.size (fun k_ => zO k_ ((.slice Ao24 t344.length co24)) ∧ zO k_ ((.slice Ao25 t347.length co25)) ∧ zO k_ ((.slice Ao26 t350.length co26)) ∧ zO k_ ((.slice Ao27 t353.length co27)) ∧ zO k_ ((.slice Ao34 t360.length co34)) ∧ zO k_ ((.slice Ao43 t371.length co43)) ∧ zO k_ ((.slice Ao44 t374.length co44)) ∧ zO k_ ((.slice Ao45 t377.length co45)) ∧ zO k_ ((.slice Ao46 t380.length co46))) (.slice Ao35 t363.length co35) t363) ∧ Aside0 (Kd.S k120 120 wc w.heap.size (fun _ => True) (.slice Ao36 t366.length co36) t366) ∧ Aside0 (Kd.R (Kd.int .i64) 3 wc w.heap.size (fun k_ => zO k_ ((.slice Ao24 t344.length co24)) ∧ zO k_ ((.slice Ao25 t347.length co25)) ∧ zO k_ ((.slice Ao26 t350.length co26)) ∧ zO k_ ((.slice Ao27 t353.length co27)) ∧ zO k_ ((.slice Ao34 t360.length co34)) ∧ zO k_ ((.slice Ao35 t363.length co35)) ∧ zO k_ ((.slice Ao44 t374.length co44)) ∧ zO k_ ((.slice Ao45 t377.length co45)) ∧ zO k_ ((.slice Ao46 t380.length co46))) (.slice Ao43 t371.length co43) t371) ∧ Aside0 (Kd.R (Kd.int .i64) 3 wc w.heap.size (fun k_ => zO k_ ((.slice Ao24 t344.length co24)) ∧ zO k_ ((.slice Ao25 t347.length co25)) ∧ zO k_ ((.slice Ao26 t350.length co26)) ∧ zO k_ ((.slice Ao27 t353.length co27)) ∧ zO k_ ((.slice Ao34 t360.length co34)) ∧ zO k_ ((.slice Ao35 t363.length co35)) ∧ zO k_ ((.slice Ao43 t371.length co43)) ∧ zO k_ ((.slice Ao45 t377.length co45)) ∧ zO k_ ((.slice Ao46 t380.length co46))) (.slice Ao44 t374.length co44) t374) ∧ Aside0 (Kd.R (Kd.int .i64) 3 wc w.heap.size (fun k_ => zO k_ ((.slice Ao24 t344.length co24)) ∧ zO k_ ((.slice Ao25 t347.length co25)) ∧ zO k_ ((.slice Ao26 t350.length co26)) ∧ zO k_ ((.slice Ao27 t353.length co27)) ∧ zO k_ ((.slice Ao34 t360.length co34)) ∧ zO k_ ((.slice Ao35 t363.length co35)) ∧ zO k_ ((.slice Ao43 t371.length co43)) ∧ zO k_ ((.slice Ao44 t374.length co44)) ∧ zO k_ ((.slice Ao46 t380.length co46))) (.slice Ao45 t377.length co45) t377) ∧ Aside0 (Kd.R (Kd.int .i64) 3 wc w.heap.size (fun k_ => zO k_ ((.slice Ao24 t344.length co24)) ∧ zO k_ ((.slice Ao25 t347.length co25)) ∧ zO k_ ((.slice Ao26 t350.length co26)) ∧ zO k_ ((.slice Ao27 t353.length co27)) ∧ zO k_ ((.slice Ao34 t360.length co34)) ∧ zO k_ ((.slice Ao35 t363.length co35)) ∧ zO k_ ((.slice Ao43 t371.length co43)) ∧ zO k_ ((.slice Ao44 t374.length co44)) ∧ zO k_ ((.slice Ao45 t377.length co45))) (.slice Ao46 t380.length co46) t380) ∧ Aside0 (wc.heap[gb330]? = some (.cells #[.int .i64 a0_0, .int .i64 a0_1, (.slice A0_2 l0_2.length c0_2), (.slice A0_3 l0_3.length c0_3), (.slice A0_4 l0_4.length c0_4)] 25 (0, 0))) ∧ Aside0 (wc.heap[gb357]? = some (.cells #[.int .i64 t343, (.slice Ao24 t344.length co24), (.slice Ao25 t347.length co25), (.slice Ao26 t350.length co26), (.slice Ao27 t353.length co27)] 28 (0, 0))) ∧ Aside0 (wc.heap[gb369]? = some (.cells #[.int .i64 t358, .int .i64 t359, (.slice Ao34 t360.length co34), (.slice Ao35 t363.length co35), (.slice Ao36 t366.length co36)] 33 (0, 0))) ∧ Aside0 (wc.heap[gb384]? = some (.cells #[.int .i64 t370, (.slice Ao43 t371.length co43), (.slice Ao44 t374.length co44), (.slice Ao45 t377.length co45), (.slice Ao46 t380.length co46)] 28 (0, 0))) ∧ Aside0 (Below w.heap.size w wc))
  case first =>
   have H := HC11.out
   clear HC11
   replace H := Option.bind_eq_some_iff.mp H
   obtain ⟨t385, A470, H⟩ := H
   replace H : (if t385 = true then (laws_FnExactBuildGraph.j0 k t356 t383 (t383 != t356) a0_0 a0_1 l0_2 l0_3 l0_4 t343 t344 t347 t350 t353 t358 t359 t360 t363 t366 t370 t371 t374 t377 t380) else (laws_FnExactBuildGraph.j0 k t356 t383 true a0_0 a0_1 l0_2 l0_3 l0_4 t343 t344 t347 t350 t353 t358 t359 t360 t363 t366 t370 t371 t374 t377 t380)) = some r := H
   have A47 := zA A470
   clear A470
   by_cases c48 : t385 = true
   ·subst c48
    have H1 : (laws_FnExactBuildGraph.j0 k t356 t383 (t383 != t356) a0_0 a0_1 l0_2 l0_3 l0_4 t343 t344 t347 t350 t353 t358 t359 t360 t363 t366 t370 t371 t374 t377 t380) = some r := by rw [if_pos rfl] at H; exact H
    clear H
    have H := H1
    clear H1
    have H' := zA H
    clear H
    have hnb49 := NB384_330.out
    have hnc49 := NB330_384.out
    have hnb50 := NB384_357.out
    have hnc50 := NB357_384.out
    have hnb51 := NB384_369.out
    have hnc51 := NB369_384.out
    obtain ⟨hcz52_0, hcz52_1, hcz52_2, hcz52_3, hcz52_4, hfz52_0, hfz52_1, hfz52_2, hfz52_3, hfz52_4⟩ := zh5 BK384.out
    have hnb53 := NB357_330.out
    have hnc53 := NB330_357.out
    have hnb54 := NB357_369.out
    have hnc54 := NB369_357.out
    obtain ⟨hcz55_0, hcz55_1, hcz55_2, hcz55_3, hcz55_4, hfz55_0, hfz55_1, hfz55_2, hfz55_3, hfz55_4⟩ := zh5 BK357.out
    go_wp2_with (first | ((with_reducible refine gate_callee (f := 17) rfl ?_); refine goesL_ (some 34) rfl rfl Tryd.func17 (by kernel_rfl) rfl #[.agg #[.int .i64 t370, .slice Ao43 t371.length co43, .slice Ao44 t374.length co44, .slice Ao45 t377.length co45, .slice Ao46 t380.length co46], .agg #[.int .i64 t343, .slice Ao24 t344.length co24, .slice Ao25 t347.length co25, .slice Ao26 t350.length co26, .slice Ao27 t353.length co27]] rfl za ?_; (with_reducible refine (laws_eqGraph.calls k t370 _ _ t371 _ _ t374 _ _ t377 _ _ t380 t343 _ _ t344 _ _ t347 _ _ t350 _ _ t353 true _ ?side1 ?side2 ?side3 ?side4 ?side5 ?side6 ?side7 ?side8 ?side9 ?side10 ?side11 ?side12 ?side13 ?side14 ?side15 ?side16 A47.out).mono ?_); (case side1 => exact (Kd.R_reads' (zK HO373.out BK384.out)).2.2); (case side2 => exact (Kd.R_reads' HO373.out).2.1); (case side3 => exact (Kd.R_reads' (zK HO376.out BK384.out)).2.2); (case side4 => exact (Kd.R_reads' HO376.out).2.1); (case side5 => exact (Kd.R_reads' (zK HO379.out BK384.out)).2.2); (case side6 => exact (Kd.R_reads' HO379.out).2.1); (case side7 => exact (Kd.R_reads' (zK HO382.out BK384.out)).2.2); (case side8 => exact (Kd.R_reads' HO382.out).2.1); (case side9 => exact (Kd.R_reads' (zK HO346.out BK384.out)).2.2); (case side10 => exact (Kd.R_reads' HO346.out).2.1); (case side11 => exact (Kd.R_reads' (zK HO349.out BK384.out)).2.2); (case side12 => exact (Kd.R_reads' HO349.out).2.1); (case side13 => exact (Kd.R_reads' (zK HO352.out BK384.out)).2.2); (case side14 => exact (Kd.R_reads' HO352.out).2.1); (case side15 => exact (Kd.R_reads' (zK HO355.out BK384.out)).2.2); (case side16 => exact (Kd.R_reads' HO355.out).2.1); rintro e w56 ⟨rfl, hb⟩; refine ⟨_, rfl, ?_⟩; have n0_ := zA (Kd.R_below (zK HO336.out BK384.out) hb); have n1_ := zA (Kd.R_below (zK HO339.out BK384.out) hb); have n2_ := zA (Kd.S_below (zT HO342.out BK384.out) hb); have n3_ := zA (Kd.R_below (zK HO346.out BK384.out) hb); have n4_ := zA (Kd.R_below (zK HO349.out BK384.out) hb); have n5_ := zA (Kd.R_below (zK HO352.out BK384.out) hb); have n6_ := zA (Kd.R_below (zK HO355.out BK384.out) hb); have n7_ := zA (Kd.R_below (zK HO362.out BK384.out) hb); have n8_ := zA (Kd.R_below (zK HO365.out BK384.out) hb); have n9_ := zA (Kd.S_below (zT HO368.out BK384.out) hb); have n10_ := zA (Kd.R_below (zK HO373.out BK384.out) hb); have n11_ := zA (Kd.R_below (zK HO376.out BK384.out) hb); have n12_ := zA (Kd.R_below (zK HO379.out BK384.out) hb); have n13_ := zA (Kd.R_below (zK HO382.out BK384.out) hb); have n14_ := zA (blk_below (g := gb330) (o := .cells #[.int .i64 a0_0, .int .i64 a0_1, .slice A0_2 l0_2.length c0_2, .slice A0_3 l0_3.length c0_3, .slice A0_4 l0_4.length c0_4] 25 (0, 0)) (zf BK330.out NB330_384.out) hb); have n15_ := zA (blk_below (g := gb357) (o := .cells #[.int .i64 t343, .slice Ao24 t344.length co24, .slice Ao25 t347.length co25, .slice Ao26 t350.length co26, .slice Ao27 t353.length co27] 28 (0, 0)) (zf BK357.out NB357_384.out) hb); have n16_ := zA (blk_below (g := gb369) (o := .cells #[.int .i64 t358, .int .i64 t359, .slice Ao34 t360.length co34, .slice Ao35 t363.length co35, .slice Ao36 t366.length co36] 33 (0, 0)) (zf BK369.out NB369_384.out) hb); have n17_ := zA (blk_below (g := gb384) (o := .cells #[.int .i64 t370, .slice Ao43 t371.length co43, .slice Ao44 t374.length co44, .slice Ao45 t377.length co45, .slice Ao46 t380.length co46] 28 (0, 0)) (zq BK384.out) hb); have n18_ := zA (below_step (zs4 GE330.out GE357.out GE369.out GE384.out) hb); clear HO336 HO339 HO342 HO346 HO349 HO352 HO355 HO362 HO365 HO368 HO373 HO376 HO379 HO382 BK330 BK357 BK369 BK384 HB; have HO336 := n0_; have HO339 := n1_; have HO342 := n2_; have HO346 := n3_; have HO349 := n4_; have HO352 := n5_; have HO355 := n6_; have HO362 := n7_; have HO365 := n8_; have HO368 := n9_; have HO373 := n10_; have HO376 := n11_; have HO379 := n12_; have HO382 := n13_; have BK330 := n14_; have BK357 := n15_; have BK369 := n16_; have BK384 := n17_; have HB := n18_; clear n0_ n1_ n2_ n3_ n4_ n5_ n6_ n7_ n8_ n9_ n10_ n11_ n12_ n13_ n14_ n15_ n16_ n17_ n18_; (try clear hb); (try clear hb2); (try clear hk); (try clear hi)))
    go_meet
    case rel => exact ⟨_, ((t383 != t356)), zr, H', ⟨by first | omega | exact Nat.le_refl _⟩, ⟨zo HO346.out (fun _ hk => ⟨hk.1.1.1.1.1.1.1.1.1, ⟨hk.1.1.1.1.1.1.1.1.2.1, ⟨hk.1.1.1.1.1.1.1.1.2.2, ⟨hk.1.1.1.1.1.2, ⟨hk.1.1.1.1.2, ⟨hk.1.1.1.2, ⟨hk.1.1.2, ⟨hk.1.2, hk.2⟩⟩⟩⟩⟩⟩⟩⟩)⟩, ⟨zo HO349.out (fun _ hk => ⟨hk.1.1.1.1.1.1.1.1.1, ⟨hk.1.1.1.1.1.1.1.1.2.1, ⟨hk.1.1.1.1.1.1.1.1.2.2, ⟨hk.1.1.1.1.1.2, ⟨hk.1.1.1.1.2, ⟨hk.1.1.1.2, ⟨hk.1.1.2, ⟨hk.1.2, hk.2⟩⟩⟩⟩⟩⟩⟩⟩)⟩, ⟨zo HO352.out (fun _ hk => ⟨hk.1.1.1.1.1.1.1.1.1, ⟨hk.1.1.1.1.1.1.1.1.2.1, ⟨hk.1.1.1.1.1.1.1.1.2.2, ⟨hk.1.1.1.1.1.2, ⟨hk.1.1.1.1.2, ⟨hk.1.1.1.2, ⟨hk.1.1.2, ⟨hk.1.2, hk.2⟩⟩⟩⟩⟩⟩⟩⟩)⟩, ⟨zo HO355.out (fun _ hk => ⟨hk.1.1.1.1.1.1.1.1.1, ⟨hk.1.1.1.1.1.1.1.1.2.1, ⟨hk.1.1.1.1.1.1.1.1.2.2, ⟨hk.1.1.1.1.1.2, ⟨hk.1.1.1.1.2, ⟨hk.1.1.1.2, ⟨hk.1.1.2, ⟨hk.1.2, hk.2⟩⟩⟩⟩⟩⟩⟩⟩)⟩, ⟨zo HO362.out (fun _ hk => ⟨hk.1.1.1.1.1.1.1.2, ⟨hk.1.1.1.1.1.1.2, ⟨hk.1.1.1.1.1.2, ⟨hk.1.1.1.1.2, ⟨hk.1.1.1.1.1.1.1.1.1.1, ⟨hk.1.1.1.2, ⟨hk.1.1.2, ⟨hk.1.2, hk.2⟩⟩⟩⟩⟩⟩⟩⟩)⟩, ⟨zo HO365.out (fun _ hk => ⟨hk.1.1.1.1.1.1.1.2, ⟨hk.1.1.1.1.1.1.2, ⟨hk.1.1.1.1.1.2, ⟨hk.1.1.1.1.2, ⟨hk.1.1.1.1.1.1.1.1.1.1, ⟨hk.1.1.1.2, ⟨hk.1.1.2, ⟨hk.1.2, hk.2⟩⟩⟩⟩⟩⟩⟩⟩)⟩, ⟨by (with_reducible repeat (first | apply Kd.S_alloc | apply Kd.S_drewN | apply Kd.S_drew)); exact Kd.S_mono HO368.out (fun _ hk => trivial)⟩, ⟨zo HO373.out (fun _ hk => ⟨hk.1.1.1.1.1.2, ⟨hk.1.1.1.1.2, ⟨hk.1.1.1.2, ⟨hk.1.1.2, ⟨hk.1.2, ⟨hk.2, ⟨hk.1.1.1.1.1.1.1.1.1, ⟨hk.1.1.1.1.1.1.1.1.2.1, hk.1.1.1.1.1.1.1.1.2.2⟩⟩⟩⟩⟩⟩⟩⟩)⟩, ⟨zo HO376.out (fun _ hk => ⟨hk.1.1.1.1.1.2, ⟨hk.1.1.1.1.2, ⟨hk.1.1.1.2, ⟨hk.1.1.2, ⟨hk.1.2, ⟨hk.2, ⟨hk.1.1.1.1.1.1.1.1.1, ⟨hk.1.1.1.1.1.1.1.1.2.1, hk.1.1.1.1.1.1.1.1.2.2⟩⟩⟩⟩⟩⟩⟩⟩)⟩, ⟨zo HO379.out (fun _ hk => ⟨hk.1.1.1.1.1.2, ⟨hk.1.1.1.1.2, ⟨hk.1.1.1.2, ⟨hk.1.1.2, ⟨hk.1.2, ⟨hk.2, ⟨hk.1.1.1.1.1.1.1.1.1, ⟨hk.1.1.1.1.1.1.1.1.2.1, hk.1.1.1.1.1.1.1.1.2.2⟩⟩⟩⟩⟩⟩⟩⟩)⟩, ⟨zo HO382.out (fun _ hk => ⟨hk.1.1.1.1.1.2, ⟨hk.1.1.1.1.2, ⟨hk.1.1.1.2, ⟨hk.1.1.2, ⟨hk.1.2, ⟨hk.2, ⟨hk.1.1.1.1.1.1.1.1.1, ⟨hk.1.1.1.1.1.1.1.1.2.1, hk.1.1.1.1.1.1.1.1.2.2⟩⟩⟩⟩⟩⟩⟩⟩)⟩, ⟨zb BK330.out⟩, ⟨zb BK357.out⟩, ⟨zb BK369.out⟩, ⟨zb BK384.out⟩, ⟨(zs4 GE330.out GE357.out GE369.out GE384.out)⟩⟩
   ·replace c48 := Bool.eq_false_iff.mpr c48
    subst c48
    have H1 : (laws_FnExactBuildGraph.j0 k t356 t383 true a0_0 a0_1 l0_2 l0_3 l0_4 t343 t344 t347 t350 t353 t358 t359 t360 t363 t366 t370 t371 t374 t377 t380) = some r := by rw [if_neg (show ¬ (false = true) by decide)] at H; exact H
    clear H
    have H := H1
    clear H1
    have H' := zA H
    clear H
    have hnb57 := NB384_330.out
    have hnc57 := NB330_384.out
    have hnb58 := NB384_357.out
    have hnc58 := NB357_384.out
    have hnb59 := NB384_369.out
    have hnc59 := NB369_384.out
    obtain ⟨hcz60_0, hcz60_1, hcz60_2, hcz60_3, hcz60_4, hfz60_0, hfz60_1, hfz60_2, hfz60_3, hfz60_4⟩ := zh5 BK384.out
    have hnb61 := NB357_330.out
    have hnc61 := NB330_357.out
    have hnb62 := NB357_369.out
    have hnc62 := NB369_357.out
    obtain ⟨hcz63_0, hcz63_1, hcz63_2, hcz63_3, hcz63_4, hfz63_0, hfz63_1, hfz63_2, hfz63_3, hfz63_4⟩ := zh5 BK357.out
    go_wp2_with (first | ((with_reducible refine gate_callee (f := 17) rfl ?_); refine goesL_ (some 34) rfl rfl Tryd.func17 (by kernel_rfl) rfl #[.agg #[.int .i64 t370, .slice Ao43 t371.length co43, .slice Ao44 t374.length co44, .slice Ao45 t377.length co45, .slice Ao46 t380.length co46], .agg #[.int .i64 t343, .slice Ao24 t344.length co24, .slice Ao25 t347.length co25, .slice Ao26 t350.length co26, .slice Ao27 t353.length co27]] rfl za ?_; (with_reducible refine (laws_eqGraph.calls k t370 _ _ t371 _ _ t374 _ _ t377 _ _ t380 t343 _ _ t344 _ _ t347 _ _ t350 _ _ t353 false _ ?side1 ?side2 ?side3 ?side4 ?side5 ?side6 ?side7 ?side8 ?side9 ?side10 ?side11 ?side12 ?side13 ?side14 ?side15 ?side16 A47.out).mono ?_); (case side1 => exact (Kd.R_reads' (zK HO373.out BK384.out)).2.2); (case side2 => exact (Kd.R_reads' HO373.out).2.1); (case side3 => exact (Kd.R_reads' (zK HO376.out BK384.out)).2.2); (case side4 => exact (Kd.R_reads' HO376.out).2.1); (case side5 => exact (Kd.R_reads' (zK HO379.out BK384.out)).2.2); (case side6 => exact (Kd.R_reads' HO379.out).2.1); (case side7 => exact (Kd.R_reads' (zK HO382.out BK384.out)).2.2); (case side8 => exact (Kd.R_reads' HO382.out).2.1); (case side9 => exact (Kd.R_reads' (zK HO346.out BK384.out)).2.2); (case side10 => exact (Kd.R_reads' HO346.out).2.1); (case side11 => exact (Kd.R_reads' (zK HO349.out BK384.out)).2.2); (case side12 => exact (Kd.R_reads' HO349.out).2.1); (case side13 => exact (Kd.R_reads' (zK HO352.out BK384.out)).2.2); (case side14 => exact (Kd.R_reads' HO352.out).2.1); (case side15 => exact (Kd.R_reads' (zK HO355.out BK384.out)).2.2); (case side16 => exact (Kd.R_reads' HO355.out).2.1); rintro e w64 ⟨rfl, hb⟩; refine ⟨_, rfl, ?_⟩; have n0_ := zA (Kd.R_below (zK HO336.out BK384.out) hb); have n1_ := zA (Kd.R_below (zK HO339.out BK384.out) hb); have n2_ := zA (Kd.S_below (zT HO342.out BK384.out) hb); have n3_ := zA (Kd.R_below (zK HO346.out BK384.out) hb); have n4_ := zA (Kd.R_below (zK HO349.out BK384.out) hb); have n5_ := zA (Kd.R_below (zK HO352.out BK384.out) hb); have n6_ := zA (Kd.R_below (zK HO355.out BK384.out) hb); have n7_ := zA (Kd.R_below (zK HO362.out BK384.out) hb); have n8_ := zA (Kd.R_below (zK HO365.out BK384.out) hb); have n9_ := zA (Kd.S_below (zT HO368.out BK384.out) hb); have n10_ := zA (Kd.R_below (zK HO373.out BK384.out) hb); have n11_ := zA (Kd.R_below (zK HO376.out BK384.out) hb); have n12_ := zA (Kd.R_below (zK HO379.out BK384.out) hb); have n13_ := zA (Kd.R_below (zK HO382.out BK384.out) hb); have n14_ := zA (blk_below (g := gb330) (o := .cells #[.int .i64 a0_0, .int .i64 a0_1, .slice A0_2 l0_2.length c0_2, .slice A0_3 l0_3.length c0_3, .slice A0_4 l0_4.length c0_4] 25 (0, 0)) (zf BK330.out NB330_384.out) hb); have n15_ := zA (blk_below (g := gb357) (o := .cells #[.int .i64 t343, .slice Ao24 t344.length co24, .slice Ao25 t347.length co25, .slice Ao26 t350.length co26, .slice Ao27 t353.length co27] 28 (0, 0)) (zf BK357.out NB357_384.out) hb); have n16_ := zA (blk_below (g := gb369) (o := .cells #[.int .i64 t358, .int .i64 t359, .slice Ao34 t360.length co34, .slice Ao35 t363.length co35, .slice Ao36 t366.length co36] 33 (0, 0)) (zf BK369.out NB369_384.out) hb); have n17_ := zA (blk_below (g := gb384) (o := .cells #[.int .i64 t370, .slice Ao43 t371.length co43, .slice Ao44 t374.length co44, .slice Ao45 t377.length co45, .slice Ao46 t380.length co46] 28 (0, 0)) (zq BK384.out) hb); have n18_ := zA (below_step (zs4 GE330.out GE357.out GE369.out GE384.out) hb); clear HO336 HO339 HO342 HO346 HO349 HO352 HO355 HO362 HO365 HO368 HO373 HO376 HO379 HO382 BK330 BK357 BK369 BK384 HB; have HO336 := n0_; have HO339 := n1_; have HO342 := n2_; have HO346 := n3_; have HO349 := n4_; have HO352 := n5_; have HO355 := n6_; have HO362 := n7_; have HO365 := n8_; have HO368 := n9_; have HO373 := n10_; have HO376 := n11_; have HO379 := n12_; have HO382 := n13_; have BK330 := n14_; have BK357 := n15_; have BK369 := n16_; have BK384 := n17_; have HB := n18_; clear n0_ n1_ n2_ n3_ n4_ n5_ n6_ n7_ n8_ n9_ n10_ n11_ n12_ n13_ n14_ n15_ n16_ n17_ n18_; (try clear hb); (try clear hb2); (try clear hk); (try clear hi)))
    go_meet
    case rel => exact ⟨_, (true), zr, H', ⟨by first | omega | exact Nat.le_refl _⟩, ⟨zo HO346.out (fun _ hk => ⟨hk.1.1.1.1.1.1.1.1.1, ⟨hk.1.1.1.1.1.1.1.1.2.1, ⟨hk.1.1.1.1.1.1.1.1.2.2, ⟨hk.1.1.1.1.1.2, ⟨hk.1.1.1.1.2, ⟨hk.1.1.1.2, ⟨hk.1.1.2, ⟨hk.1.2, hk.2⟩⟩⟩⟩⟩⟩⟩⟩)⟩, ⟨zo HO349.out (fun _ hk => ⟨hk.1.1.1.1.1.1.1.1.1, ⟨hk.1.1.1.1.1.1.1.1.2.1, ⟨hk.1.1.1.1.1.1.1.1.2.2, ⟨hk.1.1.1.1.1.2, ⟨hk.1.1.1.1.2, ⟨hk.1.1.1.2, ⟨hk.1.1.2, ⟨hk.1.2, hk.2⟩⟩⟩⟩⟩⟩⟩⟩)⟩, ⟨zo HO352.out (fun _ hk => ⟨hk.1.1.1.1.1.1.1.1.1, ⟨hk.1.1.1.1.1.1.1.1.2.1, ⟨hk.1.1.1.1.1.1.1.1.2.2, ⟨hk.1.1.1.1.1.2, ⟨hk.1.1.1.1.2, ⟨hk.1.1.1.2, ⟨hk.1.1.2, ⟨hk.1.2, hk.2⟩⟩⟩⟩⟩⟩⟩⟩)⟩, ⟨zo HO355.out (fun _ hk => ⟨hk.1.1.1.1.1.1.1.1.1, ⟨hk.1.1.1.1.1.1.1.1.2.1, ⟨hk.1.1.1.1.1.1.1.1.2.2, ⟨hk.1.1.1.1.1.2, ⟨hk.1.1.1.1.2, ⟨hk.1.1.1.2, ⟨hk.1.1.2, ⟨hk.1.2, hk.2⟩⟩⟩⟩⟩⟩⟩⟩)⟩, ⟨zo HO362.out (fun _ hk => ⟨hk.1.1.1.1.1.1.1.2, ⟨hk.1.1.1.1.1.1.2, ⟨hk.1.1.1.1.1.2, ⟨hk.1.1.1.1.2, ⟨hk.1.1.1.1.1.1.1.1.1.1, ⟨hk.1.1.1.2, ⟨hk.1.1.2, ⟨hk.1.2, hk.2⟩⟩⟩⟩⟩⟩⟩⟩)⟩, ⟨zo HO365.out (fun _ hk => ⟨hk.1.1.1.1.1.1.1.2, ⟨hk.1.1.1.1.1.1.2, ⟨hk.1.1.1.1.1.2, ⟨hk.1.1.1.1.2, ⟨hk.1.1.1.1.1.1.1.1.1.1, ⟨hk.1.1.1.2, ⟨hk.1.1.2, ⟨hk.1.2, hk.2⟩⟩⟩⟩⟩⟩⟩⟩)⟩, ⟨by (with_reducible repeat (first | apply Kd.S_alloc | apply Kd.S_drewN | apply Kd.S_drew)); exact Kd.S_mono HO368.out (fun _ hk => trivial)⟩, ⟨zo HO373.out (fun _ hk => ⟨hk.1.1.1.1.1.2, ⟨hk.1.1.1.1.2, ⟨hk.1.1.1.2, ⟨hk.1.1.2, ⟨hk.1.2, ⟨hk.2, ⟨hk.1.1.1.1.1.1.1.1.1, ⟨hk.1.1.1.1.1.1.1.1.2.1, hk.1.1.1.1.1.1.1.1.2.2⟩⟩⟩⟩⟩⟩⟩⟩)⟩, ⟨zo HO376.out (fun _ hk => ⟨hk.1.1.1.1.1.2, ⟨hk.1.1.1.1.2, ⟨hk.1.1.1.2, ⟨hk.1.1.2, ⟨hk.1.2, ⟨hk.2, ⟨hk.1.1.1.1.1.1.1.1.1, ⟨hk.1.1.1.1.1.1.1.1.2.1, hk.1.1.1.1.1.1.1.1.2.2⟩⟩⟩⟩⟩⟩⟩⟩)⟩, ⟨zo HO379.out (fun _ hk => ⟨hk.1.1.1.1.1.2, ⟨hk.1.1.1.1.2, ⟨hk.1.1.1.2, ⟨hk.1.1.2, ⟨hk.1.2, ⟨hk.2, ⟨hk.1.1.1.1.1.1.1.1.1, ⟨hk.1.1.1.1.1.1.1.1.2.1, hk.1.1.1.1.1.1.1.1.2.2⟩⟩⟩⟩⟩⟩⟩⟩)⟩, ⟨zo HO382.out (fun _ hk => ⟨hk.1.1.1.1.1.2, ⟨hk.1.1.1.1.2, ⟨hk.1.1.1.2, ⟨hk.1.1.2, ⟨hk.1.2, ⟨hk.2, ⟨hk.1.1.1.1.1.1.1.1.1, ⟨hk.1.1.1.1.1.1.1.1.2.1, hk.1.1.1.1.1.1.1.1.2.2⟩⟩⟩⟩⟩⟩⟩⟩)⟩, ⟨zb BK330.out⟩, ⟨zb BK357.out⟩, ⟨zb BK369.out⟩, ⟨zb BK384.out⟩, ⟨(zs4 GE330.out GE357.out GE369.out GE384.out)⟩⟩
  case rest =>
   clear HC11
   (try clear c1); (try clear c2); (try clear p2); (try clear c3); (try clear c3b0); (try clear c4); (try clear c5); (try clear c6); (try clear c13); (try clear c14); (try clear c15); (try clear c16); (try clear c17); (try clear c22); (try clear c31); (try clear c32); (try clear c39); (try clear c40); (try clear c41); (try clear c48); (try clear c49); (try clear c50); (try clear c51); (try clear c53); (try clear c54); (try clear c57); (try clear c58); (try clear c59); (try clear c61); (try clear c62); (try clear hcz13_0 hcz13_1 hcz13_2 hcz13_3 hcz13_4); (try clear hcz15_0 hcz15_1 hcz15_2 hcz15_3 hcz15_4); (try clear hcz23_0 hcz23_1 hcz23_2 hcz23_3 hcz23_4); (try clear hcz28_0 hcz28_1 hcz28_2 hcz28_3 hcz28_4); (try clear hcz33_0 hcz33_1 hcz33_2 hcz33_3 hcz33_4); (try clear hcz42_0 hcz42_1 hcz42_2 hcz42_3 hcz42_4); (try clear hcz52_0 hcz52_1 hcz52_2 hcz52_3 hcz52_4); (try clear hcz55_0 hcz55_1 hcz55_2 hcz55_3 hcz55_4); (try clear hcz5_0 hcz5_1 hcz5_2 hcz5_3 hcz5_4); (try clear hcz60_0 hcz60_1 hcz60_2 hcz60_3 hcz60_4); (try clear hcz63_0 hcz63_1 hcz63_2 hcz63_3 hcz63_4); (try clear hfz13_0 hfz13_1 hfz13_2 hfz13_3 hfz13_4); (try clear hfz15_0 hfz15_1 hfz15_2 hfz15_3 hfz15_4); (try clear hfz23_0 hfz23_1 hfz23_2 hfz23_3 hfz23_4); (try clear hfz28_0 hfz28_1 hfz28_2 hfz28_3 hfz28_4); (try clear hfz33_0 hfz33_1 hfz33_2 hfz33_3 hfz33_4); (try clear hfz42_0 hfz42_1 hfz42_2 hfz42_3 hfz42_4); (try clear hfz52_0 hfz52_1 hfz52_2 hfz52_3 hfz52_4); (try clear hfz55_0 hfz55_1 hfz55_2 hfz55_3 hfz55_4); (try clear hfz5_0 hfz5_1 hfz5_2 hfz5_3 hfz5_4); (try clear hfz60_0 hfz60_1 hfz60_2 hfz60_3 hfz60_4); (try clear hfz63_0 hfz63_1 hfz63_2 hfz63_3 hfz63_4)
   obtain ⟨kq, x40_10, rfl, HA, HJ10, HO_358001, HO_358002, HO_358003, HO_358004, HO_370002, HO_370003, HO_370004, HO_385001, HO_385002, HO_385003, HO_385004, BK330, BK357, BK369, BK384, HB⟩ := hcut
   cases kq with
   | zero => exact absurd HA.out (by simp [laws_FnExactBuildGraph.j0])
   | succ kj10 =>
    have H := HA.out
    clear HA
    simp only [laws_FnExactBuildGraph.j0] at H
    by_cases c65 : x40_10 = true
    ·subst c65
     have H1 : (some false) = some r := by rw [if_pos rfl] at H; exact H
     clear H
     have H := H1
     clear H1
     obtain rfl := Option.some.inj H
     go_wp2
     go_ret
     exact ⟨ze, (zs4 GE330.out GE357.out GE369.out GE384.out)⟩
    ·replace c65 := Bool.eq_false_iff.mpr c65
     subst c65
     have H1 : ((laws_toLayout.f kj10 a0_0 a0_1 l0_2 l0_3 l0_4).bind fun bt386 => ((laws_eqLayout.f kj10 t358 t359 t360 t363 t366 bt386.1 bt386.2.1 bt386.2.2.1 bt386.2.2.2.1 bt386.2.2.2.2).bind fun t397 => (if t397 = true then ((laws_markLayout.f t358 t359 t360 t363 t366 1).bind fun t398 => (if t398 < 0 then (laws_FnExactBuildGraph.j1 kj10 t356 true a0_0 a0_1 l0_2 l0_3 l0_4 t343 t344 t347 t350 t353 t370 t371 t374 t377 t380) else ((laws_eqGraph.f kj10 t370 t371 t374 t377 t380 t343 t344 t347 t350 t353).bind fun t399 => (if t399 = true then (laws_FnExactBuildGraph.j1 kj10 t356 (t383 != t356) a0_0 a0_1 l0_2 l0_3 l0_4 t343 t344 t347 t350 t353 t370 t371 t374 t377 t380) else (laws_FnExactBuildGraph.j1 kj10 t356 true a0_0 a0_1 l0_2 l0_3 l0_4 t343 t344 t347 t350 t353 t370 t371 t374 t377 t380))))) else (some false)))) = some r := by rw [if_neg (show ¬ (false = true) by decide)] at H; exact H
     clear H
     have H := H1
     clear H1
     replace H := Option.bind_eq_some_iff.mp H
     obtain ⟨⟨t386, t387, t388, t391, t394⟩, A660, H⟩ := H
     replace H : ((laws_eqLayout.f kj10 t358 t359 t360 t363 t366 t386 t387 t388 t391 t394).bind fun t397 => (if t397 = true then ((laws_markLayout.f t358 t359 t360 t363 t366 1).bind fun t398 => (if t398 < 0 then (laws_FnExactBuildGraph.j1 kj10 t356 true a0_0 a0_1 l0_2 l0_3 l0_4 t343 t344 t347 t350 t353 t370 t371 t374 t377 t380) else ((laws_eqGraph.f kj10 t370 t371 t374 t377 t380 t343 t344 t347 t350 t353).bind fun t399 => (if t399 = true then (laws_FnExactBuildGraph.j1 kj10 t356 (t383 != t356) a0_0 a0_1 l0_2 l0_3 l0_4 t343 t344 t347 t350 t353 t370 t371 t374 t377 t380) else (laws_FnExactBuildGraph.j1 kj10 t356 true a0_0 a0_1 l0_2 l0_3 l0_4 t343 t344 t347 t350 t353 t370 t371 t374 t377 t380))))) else (some false))) = some r := H
     have A66 := zA A660
     clear A660
     replace H := Option.bind_eq_some_iff.mp H
     obtain ⟨t397, A670, H⟩ := H
     replace H : (if t397 = true then ((laws_markLayout.f t358 t359 t360 t363 t366 1).bind fun t398 => (if t398 < 0 then (laws_FnExactBuildGraph.j1 kj10 t356 true a0_0 a0_1 l0_2 l0_3 l0_4 t343 t344 t347 t350 t353 t370 t371 t374 t377 t380) else ((laws_eqGraph.f kj10 t370 t371 t374 t377 t380 t343 t344 t347 t350 t353).bind fun t399 => (if t399 = true then (laws_FnExactBuildGraph.j1 kj10 t356 (t383 != t356) a0_0 a0_1 l0_2 l0_3 l0_4 t343 t344 t347 t350 t353 t370 t371 t374 t377 t380) else (laws_FnExactBuildGraph.j1 kj10 t356 true a0_0 a0_1 l0_2 l0_3 l0_4 t343 t344 t347 t350 t353 t370 t371 t374 t377 t380))))) else (some false)) = some r := H
     have A67 := zA A670
     clear A670
     by_cases c68 : t397 = true
     ·subst c68
      have H1 : ((laws_markLayout.f t358 t359 t360 t363 t366 1).bind fun t398 => (if t398 < 0 then (laws_FnExactBuildGraph.j1 kj10 t356 true a0_0 a0_1 l0_2 l0_3 l0_4 t343 t344 t347 t350 t353 t370 t371 t374 t377 t380) else ((laws_eqGraph.f kj10 t370 t371 t374 t377 t380 t343 t344 t347 t350 t353).bind fun t399 => (if t399 = true then (laws_FnExactBuildGraph.j1 kj10 t356 (t383 != t356) a0_0 a0_1 l0_2 l0_3 l0_4 t343 t344 t347 t350 t353 t370 t371 t374 t377 t380) else (laws_FnExactBuildGraph.j1 kj10 t356 true a0_0 a0_1 l0_2 l0_3 l0_4 t343 t344 t347 t350 t353 t370 t371 t374 t377 t380))))) = some r := by rw [if_pos rfl] at H; exact H
      clear H
      have H := H1
      clear H1
      replace H := Option.bind_eq_some_iff.mp H
      obtain ⟨t398, A690, H⟩ := H
      replace H : (if t398 < 0 then (laws_FnExactBuildGraph.j1 kj10 t356 true a0_0 a0_1 l0_2 l0_3 l0_4 t343 t344 t347 t350 t353 t370 t371 t374 t377 t380) else ((laws_eqGraph.f kj10 t370 t371 t374 t377 t380 t343 t344 t347 t350 t353).bind fun t399 => (if t399 = true then (laws_FnExactBuildGraph.j1 kj10 t356 (t383 != t356) a0_0 a0_1 l0_2 l0_3 l0_4 t343 t344 t347 t350 t353 t370 t371 t374 t377 t380) else (laws_FnExactBuildGraph.j1 kj10 t356 true a0_0 a0_1 l0_2 l0_3 l0_4 t343 t344 t347 t350 t353 t370 t371 t374 t377 t380)))) = some r := H
      have A69 := zA A690
      clear A690
      have HC70 := zA H
      clear H
      try go_wp2
      have n0_ := zA (Kd.R_drew HO_358001.out)
      have n1_ := zA (Kd.R_drew HO_358002.out)
      have n2_ := zA (Kd.R_drew HO_358003.out)
      have n3_ := zA (Kd.R_drew HO_358004.out)
      have n4_ := zA (Kd.R_drew HO_370002.out)
      have n5_ := zA (Kd.R_drew HO_370003.out)
      have n6_ := zA (Kd.S_drew HO_370004.out)
      have n7_ := zA (Kd.R_drew HO_385001.out)
      have n8_ := zA (Kd.R_drew HO_385002.out)
      have n9_ := zA (Kd.R_drew HO_385003.out)
      have n10_ := zA (Kd.R_drew HO_385004.out)
      have n11_ := zA (blk_drew BK330.out)
      have n12_ := zA (blk_drew BK357.out)
      have n13_ := zA (blk_drew BK369.out)
      have n14_ := zA (blk_drew BK384.out)
      have n15_ := zA (below_drew1 HB.out)
      clear HO_358001
      clear HO_358002
      clear HO_358003
      clear HO_358004
      clear HO_370002
      clear HO_370003
      clear HO_370004
      clear HO_385001
      clear HO_385002
      clear HO_385003
      clear HO_385004
      clear BK330
      clear BK357
      clear BK369
      clear BK384
      clear HB
      have HO_358001 := n0_
      have HO_358002 := n1_
      have HO_358003 := n2_
      have HO_358004 := n3_
      have HO_370002 := n4_
      have HO_370003 := n5_
      have HO_370004 := n6_
      have HO_385001 := n7_
      have HO_385002 := n8_
      have HO_385003 := n9_
      have HO_385004 := n10_
      have BK330 := n11_
      have BK357 := n12_
      have BK369 := n13_
      have BK384 := n14_
      have HB := n15_
      clear n0_ n1_ n2_ n3_ n4_ n5_ n6_ n7_ n8_ n9_ n10_ n11_ n12_ n13_ n14_ n15_
      refine start_ (n := 5) (S := fun w' => w'.cell? ⟨gb369, 0, none⟩ = some (.int .i64 t358) ∧ w'.cell? ⟨gb369, 1, none⟩ = some (.int .i64 t359) ∧ w'.cell? ⟨gb369, 2, none⟩ = some (.slice Ao34 t360.length co34) ∧ w'.cell? ⟨gb369, 3, none⟩ = some (.slice Ao35 t363.length co35) ∧ w'.cell? ⟨gb369, 4, none⟩ = some (.slice Ao36 t366.length co36) ∧ w'.cell? ⟨gb330, 0, none⟩ = some (.int .i64 a0_0) ∧ w'.cell? ⟨gb330, 1, none⟩ = some (.int .i64 a0_1) ∧ w'.cell? ⟨gb330, 2, none⟩ = some (.slice A0_2 l0_2.length c0_2) ∧ w'.cell? ⟨gb330, 3, none⟩ = some (.slice A0_3 l0_3.length c0_3) ∧ w'.cell? ⟨gb330, 4, none⟩ = some (.slice A0_4 l0_4.length c0_4)) (ds := []) #[false, false, false, false, false] (by kernel_rfl) rfl rfl ⟨(blk_cell BK369.out 0).trans rfl, (blk_cell BK369.out 1).trans rfl, (blk_cell BK369.out 2).trans rfl, (blk_cell BK369.out 3).trans rfl, (blk_cell BK369.out 4).trans rfl, (blk_cell BK330.out 0).trans rfl, (blk_cell BK330.out 1).trans rfl, (blk_cell BK330.out 2).trans rfl, (blk_cell BK330.out 3).trans rfl, (blk_cell BK330.out 4).trans rfl⟩ (fun hHeld => ?_)
      generalize wc.drew = w71 at HO_358001 HO_358002 HO_358003 HO_358004 HO_370002 HO_370003 HO_370004 HO_385001 HO_385002 HO_385003 HO_385004 BK330 BK357 BK369 BK384 HB hHeld ⊢
      refine take_ (i := 0) (N := some 41) (v := ?_) (a' := ?_) #[true, false, false, false, false] rfl rfl (by kernel_rfl) (fun _ _ _ h => h) (Or.inl ⟨by rfl, ?_⟩) hHeld ?_ ?_
      rotate_left
      ·rintro w' ⟨s0, s1, s2, s3, s4, s5, s6, s7, s8, s9⟩
       go_simp
       with_reducible rfl
      rotate_left
      ·simp only [Act.put, List.setIfInBounds_toArray, List.set_cons_zero, List.set_cons_succ, i64_w, i32_w]
       rfl
      refine take_ (i := 1) (N := some 42) (v := ?_) (a' := ?_) #[true, true, false, false, false] rfl rfl (by kernel_rfl) (fun _ _ _ h => h) (Or.inl ⟨by rfl, ?_⟩) hHeld ?_ ?_
      rotate_left
      ·rintro w' ⟨s0, s1, s2, s3, s4, s5, s6, s7, s8, s9⟩
       go_simp
       with_reducible rfl
      rotate_left
      ·simp only [Act.put, List.setIfInBounds_toArray, List.set_cons_zero, List.set_cons_succ, i64_w, i32_w]
       rfl
      refine one_ (i := 2) (N := some 43) #[true, true, true, false, false] rfl rfl (by kernel_rfl) (by decide) (fun K hK => ?_)
      refine goes_ Tryd.func15 (by kernel_rfl) rfl #[.agg #[.int .i64 a0_0, .int .i64 a0_1, .slice A0_2 l0_2.length c0_2, .slice A0_3 l0_3.length c0_3, .slice A0_4 l0_4.length c0_4]] (by rfl) rfl rfl za ?_
      with_reducible refine (laws_toLayout.calls kj10 a0_0 a0_1 _ _ l0_2 _ _ l0_3 _ _ l0_4 t386 t387 t388 t391 t394 _ ?side1 ?side2 ?side3 ?side4 ?side5 ?side6 A66.out).mono ?_
      (case side1 => exact zc (Kd.C_below HR0_2.out HB.out))
      (case side2 => exact HC0_2.out)
      (case side3 => exact zc (Kd.C_below HR0_3.out HB.out))
      (case side4 => exact HC0_3.out)
      (case side5 => exact zc (Kd.C_below HR0_4.out HB.out))
      (case side6 => exact HC0_4.out)
      rintro e w72 ⟨v389, v392, v395, rfl, ho0, ho1, ho2, hb⟩
      refine ⟨_, rfl, ?_⟩
      have n0_ := zA (Kd.R_mono (Kd.R_told (Kd.R_told (Kd.R_old (zR HO_358001.out) hb) (Kd.R_base ho0)) (Kd.R_base ho1)) (fun _ h_ => h_.1))
      have n1_ := zA (Kd.R_mono (Kd.R_told (Kd.R_told (Kd.R_old (zR HO_358002.out) hb) (Kd.R_base ho0)) (Kd.R_base ho1)) (fun _ h_ => h_.1))
      have n2_ := zA (Kd.R_mono (Kd.R_told (Kd.R_told (Kd.R_old (zR HO_358003.out) hb) (Kd.R_base ho0)) (Kd.R_base ho1)) (fun _ h_ => h_.1))
      have n3_ := zA (Kd.R_mono (Kd.R_told (Kd.R_told (Kd.R_old (zR HO_358004.out) hb) (Kd.R_base ho0)) (Kd.R_base ho1)) (fun _ h_ => h_.1))
      have n4_ := zA (Kd.R_mono (Kd.R_told (Kd.R_told (Kd.R_old (zR HO_370002.out) hb) (Kd.R_base ho0)) (Kd.R_base ho1)) (fun _ h_ => h_.1))
      have n5_ := zA (Kd.R_mono (Kd.R_told (Kd.R_told (Kd.R_old (zR HO_370003.out) hb) (Kd.R_base ho0)) (Kd.R_base ho1)) (fun _ h_ => h_.1))
      have n6_ := zA (Kd.S_elder' (zS HO_370004.out) (Kd.S_base ho2) hb)
      have n7_ := zA (Kd.R_mono (Kd.R_told (Kd.R_told (Kd.R_old (zR HO_385001.out) hb) (Kd.R_base ho0)) (Kd.R_base ho1)) (fun _ h_ => h_.1))
      have n8_ := zA (Kd.R_mono (Kd.R_told (Kd.R_told (Kd.R_old (zR HO_385002.out) hb) (Kd.R_base ho0)) (Kd.R_base ho1)) (fun _ h_ => h_.1))
      have n9_ := zA (Kd.R_mono (Kd.R_told (Kd.R_told (Kd.R_old (zR HO_385003.out) hb) (Kd.R_base ho0)) (Kd.R_base ho1)) (fun _ h_ => h_.1))
      have n10_ := zA (Kd.R_mono (Kd.R_told (Kd.R_told (Kd.R_old (zR HO_385004.out) hb) (Kd.R_base ho0)) (Kd.R_base ho1)) (fun _ h_ => h_.1))
      have n11_ := zA (Kd.R_lower (Kd.R_new' (Kd.R_new' (Kd.R_new' (Kd.R_new' (Kd.R_new' (Kd.R_new' (Kd.R_new' (Kd.R_new' (Kd.R_new' (Kd.R_new' ho0 (zl HO_358001.out)) (zl HO_358002.out)) (zl HO_358003.out)) (zl HO_358004.out)) (zl HO_370002.out)) (zl HO_370003.out)) (zl HO_385001.out)) (zl HO_385002.out)) (zl HO_385003.out)) (zl HO_385004.out)) (below_size (zs4 GE330.out GE357.out GE369.out GE384.out)))
      have n12_ := zA (Kd.R_lower (Kd.R_new' (Kd.R_new' (Kd.R_new' (Kd.R_new' (Kd.R_new' (Kd.R_new' (Kd.R_new' (Kd.R_new' (Kd.R_new' (Kd.R_new' ho1 (zl HO_358001.out)) (zl HO_358002.out)) (zl HO_358003.out)) (zl HO_358004.out)) (zl HO_370002.out)) (zl HO_370003.out)) (zl HO_385001.out)) (zl HO_385002.out)) (zl HO_385003.out)) (zl HO_385004.out)) (below_size (zs4 GE330.out GE357.out GE369.out GE384.out)))
      have n13_ := zA (Kd.S_lower (Kd.S_new' ho2 (Kd.S_lt (zS HO_370004.out))) (below_size (zs4 GE330.out GE357.out GE369.out GE384.out)))
      have n14_ := zA (zB BK330.out hb)
      have n15_ := zA (zB BK357.out hb)
      have n16_ := zA (zB BK369.out hb)
      have n17_ := zA (zB BK384.out hb)
      have n18_ := zA (below_step (zs4 GE330.out GE357.out GE369.out GE384.out) hb)
      clear HO_358001
      clear HO_358002
      clear HO_358003
      clear HO_358004
      clear HO_370002
      clear HO_370003
      clear HO_370004
      clear HO_385001
      clear HO_385002
      clear HO_385003
      clear HO_385004
      clear BK330
      clear BK357
      clear BK369
      clear BK384
      clear HB
      have HO_358001 := n0_
      have HO_358002 := n1_
      have HO_358003 := n2_
      have HO_358004 := n3_
      have HO_370002 := n4_
      have HO_370003 := n5_
      have HO_370004 := n6_
      have HO_385001 := n7_
      have HO_385002 := n8_
      have HO_385003 := n9_
      have HO_385004 := n10_
      have HO390 := n11_
      have HO393 := n12_
      have HO396 := n13_
      have BK330 := n14_
      have BK357 := n15_
      have BK369 := n16_
      have BK384 := n17_
      have HB := n18_
      clear n0_ n1_ n2_ n3_ n4_ n5_ n6_ n7_ n8_ n9_ n10_ n11_ n12_ n13_ n14_ n15_ n16_ n17_ n18_
      (try clear hb)
      (try clear hb2)
      (try clear hk)
      (try clear hi)
      (try clear ho0)
      (try clear ho1)
      (try clear ho2)
      obtain ⟨Ao73, co73, eo73⟩ := Kd.R_slice HO390.out
      (first | subst eo73 | (injection eo73 with f1_ f2_ f3_; have f4_ := f1_.symm; have f5_ := f3_.symm; clear f1_ f2_ f3_; subst f4_; subst f5_))
      obtain ⟨Ao74, co74, eo74⟩ := Kd.R_slice HO393.out
      (first | subst eo74 | (injection eo74 with f1_ f2_ f3_; have f4_ := f1_.symm; have f5_ := f3_.symm; clear f1_ f2_ f3_; subst f4_; subst f5_))
      obtain ⟨Ao75, co75, eo75⟩ := Kd.S_slice HO396.out
      (first | subst eo75 | (injection eo75 with f1_ f2_ f3_; have f4_ := f1_.symm; have f5_ := f3_.symm; clear f1_ f2_ f3_; subst f4_; subst f5_))
      refine hK.out _ _ ⟨(blk_cell BK369.out 0).trans rfl, (blk_cell BK369.out 1).trans rfl, (blk_cell BK369.out 2).trans rfl, (blk_cell BK369.out 3).trans rfl, (blk_cell BK369.out 4).trans rfl, (blk_cell BK330.out 0).trans rfl, (blk_cell BK330.out 1).trans rfl, (blk_cell BK330.out 2).trans rfl, (blk_cell BK330.out 3).trans rfl, (blk_cell BK330.out 4).trans rfl⟩ (fun hHeld => ?_)
      clear hK K
      refine norm_ (a' := ?_) ?_ ?_
      rotate_left
      ·show Act.put _ (some 43) _ = _
       simp only [Act.put, List.setIfInBounds_toArray, List.set_cons_zero, List.set_cons_succ, i64_w, i32_w]
       rfl
      refine one_ (i := 3) (N := some 44) #[true, true, true, true, false] rfl rfl (by kernel_rfl) (by decide) (fun K hK => ?_)
      refine goes_ Tryd.func18 (by kernel_rfl) rfl #[.agg #[.int .i64 t358, .int .i64 t359, .slice Ao34 t360.length co34, .slice Ao35 t363.length co35, .slice Ao36 t366.length co36], .agg #[.int .i64 t386, .int .i64 t387, .slice Ao73 t388.length co73, .slice Ao74 t391.length co74, .slice Ao75 t394.length co75]] (by rfl) rfl rfl za ?_
      with_reducible refine (laws_eqLayout.calls kj10 t358 t359 _ _ t360 _ _ t363 _ _ t366 t386 t387 _ _ t388 _ _ t391 _ _ t394 true _ ?side1 ?side2 ?side3 ?side4 ?side5 ?side6 ?side7 ?side8 ?side9 ?side10 ?side11 ?side12 A67.out).mono ?_
      (case side1 => exact zc ((Kd.R_reads' HO_370002.out).2.2))
      (case side2 => exact (Kd.R_reads' HO_370002.out).2.1)
      (case side3 => exact zc ((Kd.R_reads' HO_370003.out).2.2))
      (case side4 => exact (Kd.R_reads' HO_370003.out).2.1)
      (case side5 => exact zc ((Kd.S_reads' HO_370004.out).2.2))
      (case side6 => exact (Kd.S_reads' HO_370004.out).2.1)
      (case side7 => exact zc ((Kd.R_reads' HO390.out).2.2))
      (case side8 => exact (Kd.R_reads' HO390.out).2.1)
      (case side9 => exact zc ((Kd.R_reads' HO393.out).2.2))
      (case side10 => exact (Kd.R_reads' HO393.out).2.1)
      (case side11 => exact zc ((Kd.S_reads' HO396.out).2.2))
      (case side12 => exact (Kd.S_reads' HO396.out).2.1)
      rintro e w76 ⟨rfl, hb⟩
      refine ⟨_, rfl, ?_⟩
      have n0_ := zA (Kd.R_below (zR HO_358001.out) hb)
      have n1_ := zA (Kd.R_below (zR HO_358002.out) hb)
      have n2_ := zA (Kd.R_below (zR HO_358003.out) hb)
      have n3_ := zA (Kd.R_below (zR HO_358004.out) hb)
      have n4_ := zA (Kd.R_below (zR HO_370002.out) hb)
      have n5_ := zA (Kd.R_below (zR HO_370003.out) hb)
      have n6_ := zA (Kd.S_below (zS HO_370004.out) hb)
      have n7_ := zA (Kd.R_below (zR HO_385001.out) hb)
      have n8_ := zA (Kd.R_below (zR HO_385002.out) hb)
      have n9_ := zA (Kd.R_below (zR HO_385003.out) hb)
      have n10_ := zA (Kd.R_below (zR HO_385004.out) hb)
      have n11_ := zA (Kd.R_below (zR HO390.out) hb)
      have n12_ := zA (Kd.R_below (zR HO393.out) hb)
      have n13_ := zA (Kd.S_below (zS HO396.out) hb)
      have n14_ := zA (zB BK330.out hb)
      have n15_ := zA (zB BK357.out hb)
      have n16_ := zA (zB BK369.out hb)
      have n17_ := zA (zB BK384.out hb)
      have n18_ := zA (below_step (zs4 GE330.out GE357.out GE369.out GE384.out) hb)
      clear HO_358001
      clear HO_358002
      clear HO_358003
      clear HO_358004
      clear HO_370002
      clear HO_370003
      clear HO_370004
      clear HO_385001
      clear HO_385002
      clear HO_385003
      clear HO_385004
      clear HO390
      clear HO393
      clear HO396
      clear BK330
      clear BK357
      clear BK369
      clear BK384
      clear HB
      have HO_358001 := n0_
      have HO_358002 := n1_
      have HO_358003 := n2_
      have HO_358004 := n3_
      have HO_370002 := n4_
      have HO_370003 := n5_
      have HO_370004 := n6_
      have HO_385001 := n7_
      have HO_385002 := n8_
      have HO_385003 := n9_
      have HO_385004 := n10_
      have HO390 := n11_
      have HO393 := n12_
      have HO396 := n13_
      have BK330 := n14_
      have BK357 := n15_
      have BK369 := n16_
      have BK384 := n17_
      have HB := n18_
      clear n0_ n1_ n2_ n3_ n4_ n5_ n6_ n7_ n8_ n9_ n10_ n11_ n12_ n13_ n14_ n15_ n16_ n17_ n18_
      (try clear hb)
      (try clear hb2)
      (try clear hk)
      (try clear hi)
      refine hK.out _ _ ⟨(blk_cell BK369.out 0).trans rfl, (blk_cell BK369.out 1).trans rfl, (blk_cell BK369.out 2).trans rfl, (blk_cell BK369.out 3).trans rfl, (blk_cell BK369.out 4).trans rfl, (blk_cell BK330.out 0).trans rfl, (blk_cell BK330.out 1).trans rfl, (blk_cell BK330.out 2).trans rfl, (blk_cell BK330.out 3).trans rfl, (blk_cell BK330.out 4).trans rfl⟩ (fun hHeld => ?_)
      clear hK K
      refine norm_ (a' := ?_) ?_ ?_
      rotate_left
      ·show Act.put _ (some 44) _ = _
       simp only [Act.put, List.setIfInBounds_toArray, List.set_cons_zero, List.set_cons_succ, i64_w, i32_w]
       rfl
      refine pure_ (i := 4) (N := some 45) (v := ?_) (a' := ?_) #[true, true, true, true, true] rfl rfl (by kernel_rfl) (fun _ _ _ h => h) (Or.inl ⟨by rfl, ?_⟩) ?_ ?_
      rotate_left
      ·intro w'
       go_simp
       with_reducible rfl
      rotate_left
      ·simp only [Act.put, List.setIfInBounds_toArray, List.set_cons_zero, List.set_cons_succ, i64_w, i32_w]
       rfl
      refine done_ (by kernel_rfl) ?_
      have hnb77 := NB369_330.out
      have hnc77 := NB330_369.out
      have hnb78 := NB369_357.out
      have hnc78 := NB357_369.out
      have hnb79 := NB369_384.out
      have hnc79 := NB384_369.out
      obtain ⟨hcz80_0, hcz80_1, hcz80_2, hcz80_3, hcz80_4, hfz80_0, hfz80_1, hfz80_2, hfz80_3, hfz80_4⟩ := zh5 BK369.out
      go_upto_region 14 with (first | ((with_reducible refine gate_callee (f := 19) rfl ?_); refine goesL_ (some 48) rfl rfl Tryd.func19 (by kernel_rfl) rfl #[.agg #[.int .i64 t358, .int .i64 t359, .slice Ao34 t360.length co34, .slice Ao35 t363.length co35, .slice Ao36 t366.length co36], .int .i64 1] rfl za ?_; (with_reducible refine (laws_markLayout.calls t358 t359 (fun k_ => some k_ = (.slice Ao34 t360.length co34 : Value).ownBlock) (.slice Ao34 t360.length co34) t360 (fun k_ => some k_ = (.slice Ao35 t363.length co35 : Value).ownBlock) (.slice Ao35 t363.length co35) t363 (fun k_ => (((((((((((True ∧ zO k_ (.slice Ao75 t394.length co75)) ∧ zO k_ (.slice Ao24 t344.length co24)) ∧ zO k_ (.slice Ao25 t347.length co25)) ∧ zO k_ (.slice Ao26 t350.length co26)) ∧ zO k_ (.slice Ao27 t353.length co27)) ∧ zO k_ (.slice Ao43 t371.length co43)) ∧ zO k_ (.slice Ao44 t374.length co44)) ∧ zO k_ (.slice Ao45 t377.length co45)) ∧ zO k_ (.slice Ao46 t380.length co46)) ∧ zO k_ (.slice Ao73 t388.length co73)) ∧ zO k_ (.slice Ao74 t391.length co74))) (.slice Ao36 t366.length co36) t366 1 t398 w _ ?side1 ?side2 ?side3 ?side4 ?side5 ?side6 A69.out).mono ?_); (case side1 => repeat (first | (with_reducible first | exact HB.out | apply below_alloc | apply pw_below_drewN | apply below_drew1 | refine below_set ?_ GE330.out | refine below_set ?_ GE357.out | refine below_set ?_ GE369.out | refine below_set ?_ GE384.out) | exact HB.out)); (case side2 => exact Kd.R_tight rfl HO_370002.out); (case side3 => exact fun k_ e_ => (HO_370002.out.1 k_ e_.symm).1.1.2.2.2.2.1); (case side4 => exact Kd.R_tight rfl HO_370003.out); (case side5 => exact fun k_ e_ => (HO_370003.out.1 k_ e_.symm).1.1.2.2.2.2.1); (case side6 => exact (by (with_reducible repeat (first | apply Kd.S_alloc | apply Kd.S_drewN | apply Kd.S_drew)); exact Kd.S_apart' (Kd.S_apart' (Kd.S_apart' (Kd.S_apart' (Kd.S_apart' (Kd.S_apart' (Kd.S_apart' (Kd.S_apart' (Kd.S_apart' (Kd.S_apart' (HO_370004.out) (Kd.R_typed HO_358001.out) (by decide)) (Kd.R_typed HO_358002.out) (by decide)) (Kd.R_typed HO_358003.out) (by decide)) (Kd.R_typed HO_358004.out) (by decide)) (Kd.R_typed HO_385001.out) (by decide)) (Kd.R_typed HO_385002.out) (by decide)) (Kd.R_typed HO_385003.out) (by decide)) (Kd.R_typed HO_385004.out) (by decide)) (Kd.R_typed HO390.out) (by decide)) (Kd.R_typed HO393.out) (by decide))); rintro e w81 ⟨rfl, hb, hkp⟩; refine ⟨_, rfl, ?_⟩; have n0_ := zA (Kd.R_mono (ok' := fun k_ => zO k_ (.slice Ao25 t347.length co25) ∧ zO k_ (.slice Ao26 t350.length co26) ∧ zO k_ (.slice Ao27 t353.length co27) ∧ zO k_ (.slice Ao43 t371.length co43) ∧ zO k_ (.slice Ao44 t374.length co44) ∧ zO k_ (.slice Ao45 t377.length co45) ∧ zO k_ (.slice Ao46 t380.length co46) ∧ zO k_ (.slice Ao73 t388.length co73) ∧ zO k_ (.slice Ao74 t391.length co74)) (Kd.R_reok rfl (Kd.R_kept (Kd.R_tight rfl (zR HO_358001.out)) hkp (fun k_ hk_ hs_ => Or.elim hs_ (fun e_ => Or.elim e_ (fun e_ => (fun h_ => ((HO_358001.out.1 k_ hk_.symm).1.1.2.2.2.1) h_) e_) (fun e_ => (fun h_ => ((HO_358001.out.1 k_ hk_.symm).1.1.2.2.2.2.1) h_) e_)) (fun e_ => (fun h_ => (h_.1.1.1.1.1.1.1.1.1.1.2) hk_) e_))) (fun k_ e_ => HO_358001.out.1 k_ e_)) (fun k_ hk_ => ⟨hk_.1.1.1, hk_.1.1.2.1, hk_.1.1.2.2.1, hk_.1.1.2.2.2.2.2.1, hk_.1.1.2.2.2.2.2.2.1, hk_.1.1.2.2.2.2.2.2.2.1, hk_.1.1.2.2.2.2.2.2.2.2, hk_.1.2, hk_.2⟩)); have n1_ := zA (Kd.R_mono (ok' := fun k_ => zO k_ (.slice Ao24 t344.length co24) ∧ zO k_ (.slice Ao26 t350.length co26) ∧ zO k_ (.slice Ao27 t353.length co27) ∧ zO k_ (.slice Ao43 t371.length co43) ∧ zO k_ (.slice Ao44 t374.length co44) ∧ zO k_ (.slice Ao45 t377.length co45) ∧ zO k_ (.slice Ao46 t380.length co46) ∧ zO k_ (.slice Ao73 t388.length co73) ∧ zO k_ (.slice Ao74 t391.length co74)) (Kd.R_reok rfl (Kd.R_kept (Kd.R_tight rfl (zR HO_358002.out)) hkp (fun k_ hk_ hs_ => Or.elim hs_ (fun e_ => Or.elim e_ (fun e_ => (fun h_ => ((HO_358002.out.1 k_ hk_.symm).1.1.2.2.2.1) h_) e_) (fun e_ => (fun h_ => ((HO_358002.out.1 k_ hk_.symm).1.1.2.2.2.2.1) h_) e_)) (fun e_ => (fun h_ => (h_.1.1.1.1.1.1.1.1.1.2) hk_) e_))) (fun k_ e_ => HO_358002.out.1 k_ e_)) (fun k_ hk_ => ⟨hk_.1.1.1, hk_.1.1.2.1, hk_.1.1.2.2.1, hk_.1.1.2.2.2.2.2.1, hk_.1.1.2.2.2.2.2.2.1, hk_.1.1.2.2.2.2.2.2.2.1, hk_.1.1.2.2.2.2.2.2.2.2, hk_.1.2, hk_.2⟩)); have n2_ := zA (Kd.R_mono (ok' := fun k_ => zO k_ (.slice Ao24 t344.length co24) ∧ zO k_ (.slice Ao25 t347.length co25) ∧ zO k_ (.slice Ao27 t353.length co27) ∧ zO k_ (.slice Ao43 t371.length co43) ∧ zO k_ (.slice Ao44 t374.length co44) ∧ zO k_ (.slice Ao45 t377.length co45) ∧ zO k_ (.slice Ao46 t380.length co46) ∧ zO k_ (.slice Ao73 t388.length co73) ∧ zO k_ (.slice Ao74 t391.length co74)) (Kd.R_reok rfl (Kd.R_kept (Kd.R_tight rfl (zR HO_358003.out)) hkp (fun k_ hk_ hs_ => Or.elim hs_ (fun e_ => Or.elim e_ (fun e_ => (fun h_ => ((HO_358003.out.1 k_ hk_.symm).1.1.2.2.2.1) h_) e_) (fun e_ => (fun h_ => ((HO_358003.out.1 k_ hk_.symm).1.1.2.2.2.2.1) h_) e_)) (fun e_ => (fun h_ => (h_.1.1.1.1.1.1.1.1.2) hk_) e_))) (fun k_ e_ => HO_358003.out.1 k_ e_)) (fun k_ hk_ => ⟨hk_.1.1.1, hk_.1.1.2.1, hk_.1.1.2.2.1, hk_.1.1.2.2.2.2.2.1, hk_.1.1.2.2.2.2.2.2.1, hk_.1.1.2.2.2.2.2.2.2.1, hk_.1.1.2.2.2.2.2.2.2.2, hk_.1.2, hk_.2⟩)); have n3_ := zA (Kd.R_mono (ok' := fun k_ => zO k_ (.slice Ao24 t344.length co24) ∧ zO k_ (.slice Ao25 t347.length co25) ∧ zO k_ (.slice Ao26 t350.length co26) ∧ zO k_ (.slice Ao43 t371.length co43) ∧ zO k_ (.slice Ao44 t374.length co44) ∧ zO k_ (.slice Ao45 t377.length co45) ∧ zO k_ (.slice Ao46 t380.length co46) ∧ zO k_ (.slice Ao73 t388.length co73) ∧ zO k_ (.slice Ao74 t391.length co74)) (Kd.R_reok rfl (Kd.R_kept (Kd.R_tight rfl (zR HO_358004.out)) hkp (fun k_ hk_ hs_ => Or.elim hs_ (fun e_ => Or.elim e_ (fun e_ => (fun h_ => ((HO_358004.out.1 k_ hk_.symm).1.1.2.2.2.1) h_) e_) (fun e_ => (fun h_ => ((HO_358004.out.1 k_ hk_.symm).1.1.2.2.2.2.1) h_) e_)) (fun e_ => (fun h_ => (h_.1.1.1.1.1.1.1.2) hk_) e_))) (fun k_ e_ => HO_358004.out.1 k_ e_)) (fun k_ hk_ => ⟨hk_.1.1.1, hk_.1.1.2.1, hk_.1.1.2.2.1, hk_.1.1.2.2.2.2.2.1, hk_.1.1.2.2.2.2.2.2.1, hk_.1.1.2.2.2.2.2.2.2.1, hk_.1.1.2.2.2.2.2.2.2.2, hk_.1.2, hk_.2⟩)); have n4_ := zA (Kd.R_mono (ok' := fun k_ => zO k_ (.slice Ao24 t344.length co24) ∧ zO k_ (.slice Ao25 t347.length co25) ∧ zO k_ (.slice Ao26 t350.length co26) ∧ zO k_ (.slice Ao27 t353.length co27) ∧ zO k_ (.slice Ao44 t374.length co44) ∧ zO k_ (.slice Ao45 t377.length co45) ∧ zO k_ (.slice Ao46 t380.length co46) ∧ zO k_ (.slice Ao73 t388.length co73) ∧ zO k_ (.slice Ao74 t391.length co74)) (Kd.R_reok rfl (Kd.R_kept (Kd.R_tight rfl (zR HO_385001.out)) hkp (fun k_ hk_ hs_ => Or.elim hs_ (fun e_ => Or.elim e_ (fun e_ => (fun h_ => ((HO_385001.out.1 k_ hk_.symm).1.1.2.2.2.2.1) h_) e_) (fun e_ => (fun h_ => ((HO_385001.out.1 k_ hk_.symm).1.1.2.2.2.2.2.1) h_) e_)) (fun e_ => (fun h_ => (h_.1.1.1.1.1.1.2) hk_) e_))) (fun k_ e_ => HO_385001.out.1 k_ e_)) (fun k_ hk_ => ⟨hk_.1.1.1, hk_.1.1.2.1, hk_.1.1.2.2.1, hk_.1.1.2.2.2.1, hk_.1.1.2.2.2.2.2.2.1, hk_.1.1.2.2.2.2.2.2.2.1, hk_.1.1.2.2.2.2.2.2.2.2, hk_.1.2, hk_.2⟩)); have n5_ := zA (Kd.R_mono (ok' := fun k_ => zO k_ (.slice Ao24 t344.length co24) ∧ zO k_ (.slice Ao25 t347.length co25) ∧ zO k_ (.slice Ao26 t350.length co26) ∧ zO k_ (.slice Ao27 t353.length co27) ∧ zO k_ (.slice Ao43 t371.length co43) ∧ zO k_ (.slice Ao45 t377.length co45) ∧ zO k_ (.slice Ao46 t380.length co46) ∧ zO k_ (.slice Ao73 t388.length co73) ∧ zO k_ (.slice Ao74 t391.length co74)) (Kd.R_reok rfl (Kd.R_kept (Kd.R_tight rfl (zR HO_385002.out)) hkp (fun k_ hk_ hs_ => Or.elim hs_ (fun e_ => Or.elim e_ (fun e_ => (fun h_ => ((HO_385002.out.1 k_ hk_.symm).1.1.2.2.2.2.1) h_) e_) (fun e_ => (fun h_ => ((HO_385002.out.1 k_ hk_.symm).1.1.2.2.2.2.2.1) h_) e_)) (fun e_ => (fun h_ => (h_.1.1.1.1.1.2) hk_) e_))) (fun k_ e_ => HO_385002.out.1 k_ e_)) (fun k_ hk_ => ⟨hk_.1.1.1, hk_.1.1.2.1, hk_.1.1.2.2.1, hk_.1.1.2.2.2.1, hk_.1.1.2.2.2.2.2.2.1, hk_.1.1.2.2.2.2.2.2.2.1, hk_.1.1.2.2.2.2.2.2.2.2, hk_.1.2, hk_.2⟩)); have n6_ := zA (Kd.R_mono (ok' := fun k_ => zO k_ (.slice Ao24 t344.length co24) ∧ zO k_ (.slice Ao25 t347.length co25) ∧ zO k_ (.slice Ao26 t350.length co26) ∧ zO k_ (.slice Ao27 t353.length co27) ∧ zO k_ (.slice Ao43 t371.length co43) ∧ zO k_ (.slice Ao44 t374.length co44) ∧ zO k_ (.slice Ao46 t380.length co46) ∧ zO k_ (.slice Ao73 t388.length co73) ∧ zO k_ (.slice Ao74 t391.length co74)) (Kd.R_reok rfl (Kd.R_kept (Kd.R_tight rfl (zR HO_385003.out)) hkp (fun k_ hk_ hs_ => Or.elim hs_ (fun e_ => Or.elim e_ (fun e_ => (fun h_ => ((HO_385003.out.1 k_ hk_.symm).1.1.2.2.2.2.1) h_) e_) (fun e_ => (fun h_ => ((HO_385003.out.1 k_ hk_.symm).1.1.2.2.2.2.2.1) h_) e_)) (fun e_ => (fun h_ => (h_.1.1.1.1.2) hk_) e_))) (fun k_ e_ => HO_385003.out.1 k_ e_)) (fun k_ hk_ => ⟨hk_.1.1.1, hk_.1.1.2.1, hk_.1.1.2.2.1, hk_.1.1.2.2.2.1, hk_.1.1.2.2.2.2.2.2.1, hk_.1.1.2.2.2.2.2.2.2.1, hk_.1.1.2.2.2.2.2.2.2.2, hk_.1.2, hk_.2⟩)); have n7_ := zA (Kd.R_mono (ok' := fun k_ => zO k_ (.slice Ao24 t344.length co24) ∧ zO k_ (.slice Ao25 t347.length co25) ∧ zO k_ (.slice Ao26 t350.length co26) ∧ zO k_ (.slice Ao27 t353.length co27) ∧ zO k_ (.slice Ao43 t371.length co43) ∧ zO k_ (.slice Ao44 t374.length co44) ∧ zO k_ (.slice Ao45 t377.length co45) ∧ zO k_ (.slice Ao73 t388.length co73) ∧ zO k_ (.slice Ao74 t391.length co74)) (Kd.R_reok rfl (Kd.R_kept (Kd.R_tight rfl (zR HO_385004.out)) hkp (fun k_ hk_ hs_ => Or.elim hs_ (fun e_ => Or.elim e_ (fun e_ => (fun h_ => ((HO_385004.out.1 k_ hk_.symm).1.1.2.2.2.2.1) h_) e_) (fun e_ => (fun h_ => ((HO_385004.out.1 k_ hk_.symm).1.1.2.2.2.2.2.1) h_) e_)) (fun e_ => (fun h_ => (h_.1.1.1.2) hk_) e_))) (fun k_ e_ => HO_385004.out.1 k_ e_)) (fun k_ hk_ => ⟨hk_.1.1.1, hk_.1.1.2.1, hk_.1.1.2.2.1, hk_.1.1.2.2.2.1, hk_.1.1.2.2.2.2.2.2.1, hk_.1.1.2.2.2.2.2.2.2.1, hk_.1.1.2.2.2.2.2.2.2.2, hk_.1.2, hk_.2⟩)); have n8_ := zA (blk_kept (zb BK330.out) hkp (fun hs_ => Or.elim hs_ (fun e_ => Or.elim e_ (fun e_ => (fun e_ => (Kd.R_ne HO_370002.out (zb BK330.out) (by decide)) e_) e_) (fun e_ => (fun e_ => (Kd.R_ne HO_370003.out (zb BK330.out) (by decide)) e_) e_)) (fun e_ => (fun h_ => h_.2.ne ⟨_, (zb BK330.out)⟩ (by decide)) e_))); have n9_ := zA (blk_kept (zb BK357.out) hkp (fun hs_ => Or.elim hs_ (fun e_ => Or.elim e_ (fun e_ => (fun e_ => (Kd.R_ne HO_370002.out (zb BK357.out) (by decide)) e_) e_) (fun e_ => (fun e_ => (Kd.R_ne HO_370003.out (zb BK357.out) (by decide)) e_) e_)) (fun e_ => (fun h_ => h_.2.ne ⟨_, (zb BK357.out)⟩ (by decide)) e_))); have n10_ := zA (blk_kept (zb BK369.out) hkp (fun hs_ => Or.elim hs_ (fun e_ => Or.elim e_ (fun e_ => (fun e_ => (Kd.R_ne HO_370002.out (zb BK369.out) (by decide)) e_) e_) (fun e_ => (fun e_ => (Kd.R_ne HO_370003.out (zb BK369.out) (by decide)) e_) e_)) (fun e_ => (fun h_ => h_.2.ne ⟨_, (zb BK369.out)⟩ (by decide)) e_))); have n11_ := zA (blk_kept (zb BK384.out) hkp (fun hs_ => Or.elim hs_ (fun e_ => Or.elim e_ (fun e_ => (fun e_ => (Kd.R_ne HO_370002.out (zb BK384.out) (by decide)) e_) e_) (fun e_ => (fun e_ => (Kd.R_ne HO_370003.out (zb BK384.out) (by decide)) e_) e_)) (fun e_ => (fun h_ => h_.2.ne ⟨_, (zb BK384.out)⟩ (by decide)) e_))); have n12_ := zA (Kd.R_mono (ok' := fun k_ => zO k_ (.slice Ao24 t344.length co24) ∧ zO k_ (.slice Ao25 t347.length co25) ∧ zO k_ (.slice Ao26 t350.length co26) ∧ zO k_ (.slice Ao27 t353.length co27) ∧ zO k_ (.slice Ao43 t371.length co43) ∧ zO k_ (.slice Ao44 t374.length co44) ∧ zO k_ (.slice Ao45 t377.length co45) ∧ zO k_ (.slice Ao46 t380.length co46) ∧ zO k_ (.slice Ao74 t391.length co74)) (Kd.R_reok rfl (Kd.R_kept (Kd.R_tight rfl (zR HO390.out)) hkp (fun k_ hk_ hs_ => Or.elim hs_ (fun e_ => Or.elim e_ (fun e_ => (fun h_ => ((HO390.out.1 k_ hk_.symm).1.1.1.1.1.2) h_) e_) (fun e_ => (fun h_ => ((HO390.out.1 k_ hk_.symm).1.1.1.1.2) h_) e_)) (fun e_ => (fun h_ => (h_.1.1.2) hk_) e_))) (fun k_ e_ => HO390.out.1 k_ e_)) (fun k_ hk_ => ⟨hk_.1.1.1.1.1.1.1.1.1.2, hk_.1.1.1.1.1.1.1.1.2, hk_.1.1.1.1.1.1.1.2, hk_.1.1.1.1.1.1.2, hk_.1.1.1.2, hk_.1.1.2, hk_.1.2, hk_.2, hk_.1.1.1.1.1.1.1.1.1.1⟩)); have n13_ := zA (Kd.R_mono (ok' := fun k_ => zO k_ (.slice Ao24 t344.length co24) ∧ zO k_ (.slice Ao25 t347.length co25) ∧ zO k_ (.slice Ao26 t350.length co26) ∧ zO k_ (.slice Ao27 t353.length co27) ∧ zO k_ (.slice Ao43 t371.length co43) ∧ zO k_ (.slice Ao44 t374.length co44) ∧ zO k_ (.slice Ao45 t377.length co45) ∧ zO k_ (.slice Ao46 t380.length co46) ∧ zO k_ (.slice Ao73 t388.length co73)) (Kd.R_reok rfl (Kd.R_kept (Kd.R_tight rfl (zR HO393.out)) hkp (fun k_ hk_ hs_ => Or.elim hs_ (fun e_ => Or.elim e_ (fun e_ => (fun h_ => ((HO393.out.1 k_ hk_.symm).1.1.1.1.1.2) h_) e_) (fun e_ => (fun h_ => ((HO393.out.1 k_ hk_.symm).1.1.1.1.2) h_) e_)) (fun e_ => (fun h_ => (h_.1.2) hk_) e_))) (fun k_ e_ => HO393.out.1 k_ e_)) (fun k_ hk_ => ⟨hk_.1.1.1.1.1.1.1.1.1.2, hk_.1.1.1.1.1.1.1.1.2, hk_.1.1.1.1.1.1.1.2, hk_.1.1.1.1.1.1.2, hk_.1.1.1.2, hk_.1.1.2, hk_.1.2, hk_.2, hk_.1.1.1.1.1.1.1.1.1.1⟩)); have n14_ := zA (hb); clear HO_358001 HO_358002 HO_358003 HO_358004 HO_385001 HO_385002 HO_385003 HO_385004 BK330 BK357 BK369 BK384 HO390 HO393 HB HO396 HO_370002 HO_370003 HO_370004; have HO_358001 := n0_; have HO_358002 := n1_; have HO_358003 := n2_; have HO_358004 := n3_; have HO_385001 := n4_; have HO_385002 := n5_; have HO_385003 := n6_; have HO_385004 := n7_; have BK330 := n8_; have BK357 := n9_; have BK369 := n10_; have BK384 := n11_; have HO390 := n12_; have HO393 := n13_; have HB := n14_; clear n0_ n1_ n2_ n3_ n4_ n5_ n6_ n7_ n8_ n9_ n10_ n11_ n12_ n13_ n14_; (try clear hb); (try clear hkp)))
      (try simp only [Act.put, List.setIfInBounds_toArray, List.set_cons_zero, List.set_cons_succ])
      go_cut [61] (fun v61 wc => ∃ (kq : Nat) (x61_69 : Bool), v61 = .bool x61_69 ∧ Aside0 (laws_FnExactBuildGraph.j1 kq t356 x61_69 a0_0 a0_1 l0_2 l0_3 l0_4 t343 t344 t347 t350 t353 t370 t371 t374 t377 t380 = some r) ∧ Aside0 (kq ≤ kj10) ∧ Aside0 (Kd.R (Kd.int .i64) 3 wc w.heap.size (fun k_ => zO k_ ((.slice Ao25 t347.length co25)) ∧ zO k_ ((.slice Ao26 t350.length co26)) ∧ zO k_ ((.slice Ao27 t353.length co27)) ∧ zO k_ ((.slice Ao43 t371.length co43)) ∧ zO k_ ((.slice Ao44 t374.length co44)) ∧ zO k_ ((.slice Ao45 t377.length co45)) ∧ zO k_ ((.slice Ao46 t380.length co46))) (.slice Ao24 t344.length co24) t344) ∧ Aside0 (Kd.R (Kd.int .i64) 3 wc w.heap.size (fun k_ => zO k_ ((.slice Ao24 t344.length co24)) ∧ zO k_ ((.slice Ao26 t350.length co26)) ∧ zO k_ ((.slice Ao27 t353.length co27)) ∧ zO k_ ((.slice Ao43 t371.length co43)) ∧ zO k_ ((.slice Ao44 t374.length co44)) ∧ zO k_ ((.slice Ao45 t377.length co45)) ∧ zO k_ ((.slice Ao46 t380.length co46))) (.slice Ao25 t347.length co25) t347) ∧ Aside0 (Kd.R (Kd.int .i64) 3 wc w.heap.size (fun k_ => zO k_ ((.slice Ao24 t344.length co24)) ∧ zO k_ ((.slice Ao25 t347.length co25)) ∧ zO k_ ((.slice Ao27 t353.length co27)) ∧ zO k_ ((.slice Ao43 t371.length co43)) ∧ zO k_ ((.slice Ao44 t374.length co44)) ∧ zO k_ ((.slice Ao45 t377.length co45)) ∧ zO k_ ((.slice Ao46 t380.length co46))) (.slice Ao26 t350.length co26) t350) ∧ Aside0 (Kd.R (Kd.int .i64) 3 wc w.heap.size (fun k_ => zO k_ ((.slice Ao24 t344.length co24)) ∧ zO k_ ((.slice Ao25 t347.length co25)) ∧ zO k_ ((.slice Ao26 t350.length co26)) ∧ zO k_ ((.slice Ao43 t371.length co43)) ∧ zO k_ ((.slice Ao44 t374.length co44)) ∧ zO k_ ((.slice Ao45 t377.length co45)) ∧ zO k_ ((.slice Ao46 t380.length co46))) (.slice Ao27 t353.length co27) t353) ∧ Aside0 (Kd.R (Kd.int .i64) 3 wc w.heap.size (fun k_ => zO k_ ((.slice Ao24 t344.length co24)) ∧ zO k_ ((.slice Ao25 t347.length co25)) ∧ zO k_ ((.slice Ao26 t350.length co26)) ∧ zO k_ ((.slice Ao27 t353.length co27)) ∧ zO k_ ((.slice Ao44 t374.length co44)) ∧ zO k_ ((.slice Ao45 t377.length co45)) ∧ zO k_ ((.slice Ao46 t380.length co46))) (.slice Ao43 t371.length co43) t371) ∧ Aside0 (Kd.R (Kd.int .i64) 3 wc w.heap.size (fun k_ => zO k_ ((.slice Ao24 t344.length co24)) ∧ zO k_ ((.slice Ao25 t347.length co25)) ∧ zO k_ ((.slice Ao26 t350.length co26)) ∧ zO k_ ((.slice Ao27 t353.length co27)) ∧ zO k_ ((.slice Ao43 t371.length co43)) ∧ zO k_ ((.slice Ao45 t377.length co45)) ∧ zO k_ ((.slice Ao46 t380.length co46))) (.slice Ao44 t374.length co44) t374) ∧ Aside0 (Kd.R (Kd.int .i64) 3 wc w.heap.size (fun k_ => zO k_ ((.slice Ao24 t344.length co24)) ∧ zO k_ ((.slice Ao25 t347.length co25)) ∧ zO k_ ((.slice Ao26 t350.length co26)) ∧ zO k_ ((.slice Ao27 t353.length co27)) ∧ zO k_ ((.slice Ao43 t371.length co43)) ∧ zO k_ ((.slice Ao44 t374.length co44)) ∧ zO k_ ((.slice Ao46 t380.length co46))) (.slice Ao45 t377.length co45) t377) ∧ Aside0 (Kd.R (Kd.int .i64) 3 wc w.heap.size (fun k_ => zO k_ ((.slice Ao24 t344.length co24)) ∧ zO k_ ((.slice Ao25 t347.length co25)) ∧ zO k_ ((.slice Ao26 t350.length co26)) ∧ zO k_ ((.slice Ao27 t353.length co27)) ∧ zO k_ ((.slice Ao43 t371.length co43)) ∧ zO k_ ((.slice Ao44 t374.length co44)) ∧ zO k_ ((.slice Ao45 t377.length co45))) (.slice Ao46 t380.length co46) t380) ∧ Aside0 (wc.heap[gb330]? = some (.cells #[.int .i64 a0_0, .int .i64 a0_1, (.slice A0_2 l0_2.length c0_2), (.slice A0_3 l0_3.length c0_3), (.slice A0_4 l0_4.length c0_4)] 25 (0, 0))) ∧ Aside0 (wc.heap[gb357]? = some (.cells #[.int .i64 t343, (.slice Ao24 t344.length co24), (.slice Ao25 t347.length co25), (.slice Ao26 t350.length co26), (.slice Ao27 t353.length co27)] 28 (0, 0))) ∧ Aside0 (wc.heap[gb384]? = some (.cells #[.int .i64 t370, (.slice Ao43 t371.length co43), (.slice Ao44 t374.length co44), (.slice Ao45 t377.length co45), (.slice Ao46 t380.length co46)] 28 (0, 0))) ∧ Aside0 (Below w.heap.size w wc))
      case first =>
       have H := HC70.out
       clear HC70
       by_cases c82 : t398 < 0
       ·rw [if_pos c82] at H
        have c82b0 : decide (t398 < 0) = true := decide_eq_true c82
        clear c82
        (first | rw [c82b0] | (simp only [i64_w, i32_w]; rw [c82b0]) | skip)
        have H' := zA H
        clear H
        go_wp2
        go_meet
        case rel => exact ⟨_, (true), zr, H', ⟨by have := HJ10.out; first | omega | exact Nat.le_refl _⟩, ⟨zo HO_358001.out (fun _ hk => ⟨hk.1, ⟨hk.2.1, ⟨hk.2.2.1, ⟨hk.2.2.2.1, ⟨hk.2.2.2.2.1, ⟨hk.2.2.2.2.2.1, hk.2.2.2.2.2.2.1⟩⟩⟩⟩⟩⟩)⟩, ⟨zo HO_358002.out (fun _ hk => ⟨hk.1, ⟨hk.2.1, ⟨hk.2.2.1, ⟨hk.2.2.2.1, ⟨hk.2.2.2.2.1, ⟨hk.2.2.2.2.2.1, hk.2.2.2.2.2.2.1⟩⟩⟩⟩⟩⟩)⟩, ⟨zo HO_358003.out (fun _ hk => ⟨hk.1, ⟨hk.2.1, ⟨hk.2.2.1, ⟨hk.2.2.2.1, ⟨hk.2.2.2.2.1, ⟨hk.2.2.2.2.2.1, hk.2.2.2.2.2.2.1⟩⟩⟩⟩⟩⟩)⟩, ⟨zo HO_358004.out (fun _ hk => ⟨hk.1, ⟨hk.2.1, ⟨hk.2.2.1, ⟨hk.2.2.2.1, ⟨hk.2.2.2.2.1, ⟨hk.2.2.2.2.2.1, hk.2.2.2.2.2.2.1⟩⟩⟩⟩⟩⟩)⟩, ⟨zo HO_385001.out (fun _ hk => ⟨hk.1, ⟨hk.2.1, ⟨hk.2.2.1, ⟨hk.2.2.2.1, ⟨hk.2.2.2.2.1, ⟨hk.2.2.2.2.2.1, hk.2.2.2.2.2.2.1⟩⟩⟩⟩⟩⟩)⟩, ⟨zo HO_385002.out (fun _ hk => ⟨hk.1, ⟨hk.2.1, ⟨hk.2.2.1, ⟨hk.2.2.2.1, ⟨hk.2.2.2.2.1, ⟨hk.2.2.2.2.2.1, hk.2.2.2.2.2.2.1⟩⟩⟩⟩⟩⟩)⟩, ⟨zo HO_385003.out (fun _ hk => ⟨hk.1, ⟨hk.2.1, ⟨hk.2.2.1, ⟨hk.2.2.2.1, ⟨hk.2.2.2.2.1, ⟨hk.2.2.2.2.2.1, hk.2.2.2.2.2.2.1⟩⟩⟩⟩⟩⟩)⟩, ⟨zo HO_385004.out (fun _ hk => ⟨hk.1, ⟨hk.2.1, ⟨hk.2.2.1, ⟨hk.2.2.2.1, ⟨hk.2.2.2.2.1, ⟨hk.2.2.2.2.2.1, hk.2.2.2.2.2.2.1⟩⟩⟩⟩⟩⟩)⟩, ⟨zb BK330.out⟩, ⟨zb BK357.out⟩, ⟨zb BK384.out⟩, ⟨(zs4 GE330.out GE357.out GE369.out GE384.out)⟩⟩
       ·rw [if_neg c82] at H
        have c82b0 : decide (t398 < 0) = false := decide_eq_false c82
        clear c82
        (first | rw [c82b0] | (simp only [i64_w, i32_w]; rw [c82b0]) | skip)
        replace H := Option.bind_eq_some_iff.mp H
        obtain ⟨t399, A830, H⟩ := H
        replace H : (if t399 = true then (laws_FnExactBuildGraph.j1 kj10 t356 (t383 != t356) a0_0 a0_1 l0_2 l0_3 l0_4 t343 t344 t347 t350 t353 t370 t371 t374 t377 t380) else (laws_FnExactBuildGraph.j1 kj10 t356 true a0_0 a0_1 l0_2 l0_3 l0_4 t343 t344 t347 t350 t353 t370 t371 t374 t377 t380)) = some r := H
        have A83 := zA A830
        clear A830
        by_cases c84 : t399 = true
        ·subst c84
         have H1 : (laws_FnExactBuildGraph.j1 kj10 t356 (t383 != t356) a0_0 a0_1 l0_2 l0_3 l0_4 t343 t344 t347 t350 t353 t370 t371 t374 t377 t380) = some r := by rw [if_pos rfl] at H; exact H
         clear H
         have H := H1
         clear H1
         have H' := zA H
         clear H
         have hnb85 := NB384_330.out
         have hnc85 := NB330_384.out
         have hnb86 := NB384_357.out
         have hnc86 := NB357_384.out
         have hnb87 := NB384_369.out
         have hnc87 := NB369_384.out
         obtain ⟨hcz88_0, hcz88_1, hcz88_2, hcz88_3, hcz88_4, hfz88_0, hfz88_1, hfz88_2, hfz88_3, hfz88_4⟩ := zh5 BK384.out
         have hnb89 := NB357_330.out
         have hnc89 := NB330_357.out
         have hnb90 := NB357_369.out
         have hnc90 := NB369_357.out
         obtain ⟨hcz91_0, hcz91_1, hcz91_2, hcz91_3, hcz91_4, hfz91_0, hfz91_1, hfz91_2, hfz91_3, hfz91_4⟩ := zh5 BK357.out
         go_wp2_with (first | (go_at_call 17; (with_reducible refine (laws_eqGraph.calls kj10 t370 _ _ t371 _ _ t374 _ _ t377 _ _ t380 t343 _ _ t344 _ _ t347 _ _ t350 _ _ t353 true _ ?side1 ?side2 ?side3 ?side4 ?side5 ?side6 ?side7 ?side8 ?side9 ?side10 ?side11 ?side12 ?side13 ?side14 ?side15 ?side16 A83.out).mono ?_); (case side1 => exact zc ((Kd.R_reads' HO_385001.out).2.2)); (case side2 => exact (Kd.R_reads' HO_385001.out).2.1); (case side3 => exact zc ((Kd.R_reads' HO_385002.out).2.2)); (case side4 => exact (Kd.R_reads' HO_385002.out).2.1); (case side5 => exact zc ((Kd.R_reads' HO_385003.out).2.2)); (case side6 => exact (Kd.R_reads' HO_385003.out).2.1); (case side7 => exact zc ((Kd.R_reads' HO_385004.out).2.2)); (case side8 => exact (Kd.R_reads' HO_385004.out).2.1); (case side9 => exact zc ((Kd.R_reads' HO_358001.out).2.2)); (case side10 => exact (Kd.R_reads' HO_358001.out).2.1); (case side11 => exact zc ((Kd.R_reads' HO_358002.out).2.2)); (case side12 => exact (Kd.R_reads' HO_358002.out).2.1); (case side13 => exact zc ((Kd.R_reads' HO_358003.out).2.2)); (case side14 => exact (Kd.R_reads' HO_358003.out).2.1); (case side15 => exact zc ((Kd.R_reads' HO_358004.out).2.2)); (case side16 => exact (Kd.R_reads' HO_358004.out).2.1); rintro e w92 ⟨rfl, hb⟩; have n0_ := zA (Kd.R_below (zR HO_358001.out) hb); have n1_ := zA (Kd.R_below (zR HO_358002.out) hb); have n2_ := zA (Kd.R_below (zR HO_358003.out) hb); have n3_ := zA (Kd.R_below (zR HO_358004.out) hb); have n4_ := zA (Kd.R_below (zR HO_385001.out) hb); have n5_ := zA (Kd.R_below (zR HO_385002.out) hb); have n6_ := zA (Kd.R_below (zR HO_385003.out) hb); have n7_ := zA (Kd.R_below (zR HO_385004.out) hb); have n8_ := zA (Kd.R_below (zR HO390.out) hb); have n9_ := zA (Kd.R_below (zR HO393.out) hb); have n10_ := zA (zB BK330.out hb); have n11_ := zA (zB BK357.out hb); have n12_ := zA (zB BK369.out hb); have n13_ := zA (zB BK384.out hb); have n14_ := zA (below_step (zs4 GE330.out GE357.out GE369.out GE384.out) hb); clear HO_358001 HO_358002 HO_358003 HO_358004 HO_385001 HO_385002 HO_385003 HO_385004 HO390 HO393 BK330 BK357 BK369 BK384 HB; have HO_358001 := n0_; have HO_358002 := n1_; have HO_358003 := n2_; have HO_358004 := n3_; have HO_385001 := n4_; have HO_385002 := n5_; have HO_385003 := n6_; have HO_385004 := n7_; have HO390 := n8_; have HO393 := n9_; have BK330 := n10_; have BK357 := n11_; have BK369 := n12_; have BK384 := n13_; have HB := n14_; clear n0_ n1_ n2_ n3_ n4_ n5_ n6_ n7_ n8_ n9_ n10_ n11_ n12_ n13_ n14_; (try clear hb); (try clear hb2); (try clear hk); (try clear hi)))
         go_meet
         case rel => exact ⟨_, ((t383 != t356)), zr, H', ⟨by have := HJ10.out; first | omega | exact Nat.le_refl _⟩, ⟨zo HO_358001.out (fun _ hk => ⟨hk.1, ⟨hk.2.1, ⟨hk.2.2.1, ⟨hk.2.2.2.1, ⟨hk.2.2.2.2.1, ⟨hk.2.2.2.2.2.1, hk.2.2.2.2.2.2.1⟩⟩⟩⟩⟩⟩)⟩, ⟨zo HO_358002.out (fun _ hk => ⟨hk.1, ⟨hk.2.1, ⟨hk.2.2.1, ⟨hk.2.2.2.1, ⟨hk.2.2.2.2.1, ⟨hk.2.2.2.2.2.1, hk.2.2.2.2.2.2.1⟩⟩⟩⟩⟩⟩)⟩, ⟨zo HO_358003.out (fun _ hk => ⟨hk.1, ⟨hk.2.1, ⟨hk.2.2.1, ⟨hk.2.2.2.1, ⟨hk.2.2.2.2.1, ⟨hk.2.2.2.2.2.1, hk.2.2.2.2.2.2.1⟩⟩⟩⟩⟩⟩)⟩, ⟨zo HO_358004.out (fun _ hk => ⟨hk.1, ⟨hk.2.1, ⟨hk.2.2.1, ⟨hk.2.2.2.1, ⟨hk.2.2.2.2.1, ⟨hk.2.2.2.2.2.1, hk.2.2.2.2.2.2.1⟩⟩⟩⟩⟩⟩)⟩, ⟨zo HO_385001.out (fun _ hk => ⟨hk.1, ⟨hk.2.1, ⟨hk.2.2.1, ⟨hk.2.2.2.1, ⟨hk.2.2.2.2.1, ⟨hk.2.2.2.2.2.1, hk.2.2.2.2.2.2.1⟩⟩⟩⟩⟩⟩)⟩, ⟨zo HO_385002.out (fun _ hk => ⟨hk.1, ⟨hk.2.1, ⟨hk.2.2.1, ⟨hk.2.2.2.1, ⟨hk.2.2.2.2.1, ⟨hk.2.2.2.2.2.1, hk.2.2.2.2.2.2.1⟩⟩⟩⟩⟩⟩)⟩, ⟨zo HO_385003.out (fun _ hk => ⟨hk.1, ⟨hk.2.1, ⟨hk.2.2.1, ⟨hk.2.2.2.1, ⟨hk.2.2.2.2.1, ⟨hk.2.2.2.2.2.1, hk.2.2.2.2.2.2.1⟩⟩⟩⟩⟩⟩)⟩, ⟨zo HO_385004.out (fun _ hk => ⟨hk.1, ⟨hk.2.1, ⟨hk.2.2.1, ⟨hk.2.2.2.1, ⟨hk.2.2.2.2.1, ⟨hk.2.2.2.2.2.1, hk.2.2.2.2.2.2.1⟩⟩⟩⟩⟩⟩)⟩, ⟨zb BK330.out⟩, ⟨zb BK357.out⟩, ⟨zb BK384.out⟩, ⟨(zs4 GE330.out GE357.out GE369.out GE384.out)⟩⟩
        ·replace c84 := Bool.eq_false_iff.mpr c84
         subst c84
         have H1 : (laws_FnExactBuildGraph.j1 kj10 t356 true a0_0 a0_1 l0_2 l0_3 l0_4 t343 t344 t347 t350 t353 t370 t371 t374 t377 t380) = some r := by rw [if_neg (show ¬ (false = true) by decide)] at H; exact H
         clear H
         have H := H1
         clear H1
         have H' := zA H
         clear H
         have hnb93 := NB384_330.out
         have hnc93 := NB330_384.out
         have hnb94 := NB384_357.out
         have hnc94 := NB357_384.out
         have hnb95 := NB384_369.out
         have hnc95 := NB369_384.out
         obtain ⟨hcz96_0, hcz96_1, hcz96_2, hcz96_3, hcz96_4, hfz96_0, hfz96_1, hfz96_2, hfz96_3, hfz96_4⟩ := zh5 BK384.out
         have hnb97 := NB357_330.out
         have hnc97 := NB330_357.out
         have hnb98 := NB357_369.out
         have hnc98 := NB369_357.out
         obtain ⟨hcz99_0, hcz99_1, hcz99_2, hcz99_3, hcz99_4, hfz99_0, hfz99_1, hfz99_2, hfz99_3, hfz99_4⟩ := zh5 BK357.out
         go_wp2_with (first | (go_at_call 17; (with_reducible refine (laws_eqGraph.calls kj10 t370 _ _ t371 _ _ t374 _ _ t377 _ _ t380 t343 _ _ t344 _ _ t347 _ _ t350 _ _ t353 false _ ?side1 ?side2 ?side3 ?side4 ?side5 ?side6 ?side7 ?side8 ?side9 ?side10 ?side11 ?side12 ?side13 ?side14 ?side15 ?side16 A83.out).mono ?_); (case side1 => exact zc ((Kd.R_reads' HO_385001.out).2.2)); (case side2 => exact (Kd.R_reads' HO_385001.out).2.1); (case side3 => exact zc ((Kd.R_reads' HO_385002.out).2.2)); (case side4 => exact (Kd.R_reads' HO_385002.out).2.1); (case side5 => exact zc ((Kd.R_reads' HO_385003.out).2.2)); (case side6 => exact (Kd.R_reads' HO_385003.out).2.1); (case side7 => exact zc ((Kd.R_reads' HO_385004.out).2.2)); (case side8 => exact (Kd.R_reads' HO_385004.out).2.1); (case side9 => exact zc ((Kd.R_reads' HO_358001.out).2.2)); (case side10 => exact (Kd.R_reads' HO_358001.out).2.1); (case side11 => exact zc ((Kd.R_reads' HO_358002.out).2.2)); (case side12 => exact (Kd.R_reads' HO_358002.out).2.1); (case side13 => exact zc ((Kd.R_reads' HO_358003.out).2.2)); (case side14 => exact (Kd.R_reads' HO_358003.out).2.1); (case side15 => exact zc ((Kd.R_reads' HO_358004.out).2.2)); (case side16 => exact (Kd.R_reads' HO_358004.out).2.1); rintro e w100 ⟨rfl, hb⟩; have n0_ := zA (Kd.R_below (zR HO_358001.out) hb); have n1_ := zA (Kd.R_below (zR HO_358002.out) hb); have n2_ := zA (Kd.R_below (zR HO_358003.out) hb); have n3_ := zA (Kd.R_below (zR HO_358004.out) hb); have n4_ := zA (Kd.R_below (zR HO_385001.out) hb); have n5_ := zA (Kd.R_below (zR HO_385002.out) hb); have n6_ := zA (Kd.R_below (zR HO_385003.out) hb); have n7_ := zA (Kd.R_below (zR HO_385004.out) hb); have n8_ := zA (Kd.R_below (zR HO390.out) hb); have n9_ := zA (Kd.R_below (zR HO393.out) hb); have n10_ := zA (zB BK330.out hb); have n11_ := zA (zB BK357.out hb); have n12_ := zA (zB BK369.out hb); have n13_ := zA (zB BK384.out hb); have n14_ := zA (below_step (zs4 GE330.out GE357.out GE369.out GE384.out) hb); clear HO_358001 HO_358002 HO_358003 HO_358004 HO_385001 HO_385002 HO_385003 HO_385004 HO390 HO393 BK330 BK357 BK369 BK384 HB; have HO_358001 := n0_; have HO_358002 := n1_; have HO_358003 := n2_; have HO_358004 := n3_; have HO_385001 := n4_; have HO_385002 := n5_; have HO_385003 := n6_; have HO_385004 := n7_; have HO390 := n8_; have HO393 := n9_; have BK330 := n10_; have BK357 := n11_; have BK369 := n12_; have BK384 := n13_; have HB := n14_; clear n0_ n1_ n2_ n3_ n4_ n5_ n6_ n7_ n8_ n9_ n10_ n11_ n12_ n13_ n14_; (try clear hb); (try clear hb2); (try clear hk); (try clear hi)))
         go_meet
         case rel => exact ⟨_, (true), zr, H', ⟨by have := HJ10.out; first | omega | exact Nat.le_refl _⟩, ⟨zo HO_358001.out (fun _ hk => ⟨hk.1, ⟨hk.2.1, ⟨hk.2.2.1, ⟨hk.2.2.2.1, ⟨hk.2.2.2.2.1, ⟨hk.2.2.2.2.2.1, hk.2.2.2.2.2.2.1⟩⟩⟩⟩⟩⟩)⟩, ⟨zo HO_358002.out (fun _ hk => ⟨hk.1, ⟨hk.2.1, ⟨hk.2.2.1, ⟨hk.2.2.2.1, ⟨hk.2.2.2.2.1, ⟨hk.2.2.2.2.2.1, hk.2.2.2.2.2.2.1⟩⟩⟩⟩⟩⟩)⟩, ⟨zo HO_358003.out (fun _ hk => ⟨hk.1, ⟨hk.2.1, ⟨hk.2.2.1, ⟨hk.2.2.2.1, ⟨hk.2.2.2.2.1, ⟨hk.2.2.2.2.2.1, hk.2.2.2.2.2.2.1⟩⟩⟩⟩⟩⟩)⟩, ⟨zo HO_358004.out (fun _ hk => ⟨hk.1, ⟨hk.2.1, ⟨hk.2.2.1, ⟨hk.2.2.2.1, ⟨hk.2.2.2.2.1, ⟨hk.2.2.2.2.2.1, hk.2.2.2.2.2.2.1⟩⟩⟩⟩⟩⟩)⟩, ⟨zo HO_385001.out (fun _ hk => ⟨hk.1, ⟨hk.2.1, ⟨hk.2.2.1, ⟨hk.2.2.2.1, ⟨hk.2.2.2.2.1, ⟨hk.2.2.2.2.2.1, hk.2.2.2.2.2.2.1⟩⟩⟩⟩⟩⟩)⟩, ⟨zo HO_385002.out (fun _ hk => ⟨hk.1, ⟨hk.2.1, ⟨hk.2.2.1, ⟨hk.2.2.2.1, ⟨hk.2.2.2.2.1, ⟨hk.2.2.2.2.2.1, hk.2.2.2.2.2.2.1⟩⟩⟩⟩⟩⟩)⟩, ⟨zo HO_385003.out (fun _ hk => ⟨hk.1, ⟨hk.2.1, ⟨hk.2.2.1, ⟨hk.2.2.2.1, ⟨hk.2.2.2.2.1, ⟨hk.2.2.2.2.2.1, hk.2.2.2.2.2.2.1⟩⟩⟩⟩⟩⟩)⟩, ⟨zo HO_385004.out (fun _ hk => ⟨hk.1, ⟨hk.2.1, ⟨hk.2.2.1, ⟨hk.2.2.2.1, ⟨hk.2.2.2.2.1, ⟨hk.2.2.2.2.2.1, hk.2.2.2.2.2.2.1⟩⟩⟩⟩⟩⟩)⟩, ⟨zb BK330.out⟩, ⟨zb BK357.out⟩, ⟨zb BK384.out⟩, ⟨(zs4 GE330.out GE357.out GE369.out GE384.out)⟩⟩
      case rest =>
       clear HC70
       (try clear c1); (try clear c2); (try clear p2); (try clear c3); (try clear c3b0); (try clear c4); (try clear c5); (try clear c6); (try clear c7); (try clear c8); (try clear c9); (try clear c13); (try clear c14); (try clear c15); (try clear c16); (try clear c17); (try clear c18); (try clear c19); (try clear c22); (try clear c31); (try clear c32); (try clear c39); (try clear c40); (try clear c41); (try clear c48); (try clear c49); (try clear c50); (try clear c51); (try clear c53); (try clear c54); (try clear c57); (try clear c58); (try clear c59); (try clear c61); (try clear c62); (try clear c65); (try clear c68); (try clear c77); (try clear c78); (try clear c79); (try clear c82); (try clear c82b0); (try clear c84); (try clear c85); (try clear c86); (try clear c87); (try clear c89); (try clear c90); (try clear c93); (try clear c94); (try clear c95); (try clear c97); (try clear c98); (try clear hcz13_0 hcz13_1 hcz13_2 hcz13_3 hcz13_4); (try clear hcz15_0 hcz15_1 hcz15_2 hcz15_3 hcz15_4); (try clear hcz23_0 hcz23_1 hcz23_2 hcz23_3 hcz23_4); (try clear hcz28_0 hcz28_1 hcz28_2 hcz28_3 hcz28_4); (try clear hcz33_0 hcz33_1 hcz33_2 hcz33_3 hcz33_4); (try clear hcz42_0 hcz42_1 hcz42_2 hcz42_3 hcz42_4); (try clear hcz52_0 hcz52_1 hcz52_2 hcz52_3 hcz52_4); (try clear hcz55_0 hcz55_1 hcz55_2 hcz55_3 hcz55_4); (try clear hcz5_0 hcz5_1 hcz5_2 hcz5_3 hcz5_4); (try clear hcz60_0 hcz60_1 hcz60_2 hcz60_3 hcz60_4); (try clear hcz63_0 hcz63_1 hcz63_2 hcz63_3 hcz63_4); (try clear hcz80_0 hcz80_1 hcz80_2 hcz80_3 hcz80_4); (try clear hcz88_0 hcz88_1 hcz88_2 hcz88_3 hcz88_4); (try clear hcz91_0 hcz91_1 hcz91_2 hcz91_3 hcz91_4); (try clear hcz96_0 hcz96_1 hcz96_2 hcz96_3 hcz96_4); (try clear hcz99_0 hcz99_1 hcz99_2 hcz99_3 hcz99_4); (try clear hfz13_0 hfz13_1 hfz13_2 hfz13_3 hfz13_4); (try clear hfz15_0 hfz15_1 hfz15_2 hfz15_3 hfz15_4); (try clear hfz23_0 hfz23_1 hfz23_2 hfz23_3 hfz23_4); (try clear hfz28_0 hfz28_1 hfz28_2 hfz28_3 hfz28_4); (try clear hfz33_0 hfz33_1 hfz33_2 hfz33_3 hfz33_4); (try clear hfz42_0 hfz42_1 hfz42_2 hfz42_3 hfz42_4); (try clear hfz52_0 hfz52_1 hfz52_2 hfz52_3 hfz52_4); (try clear hfz55_0 hfz55_1 hfz55_2 hfz55_3 hfz55_4); (try clear hfz5_0 hfz5_1 hfz5_2 hfz5_3 hfz5_4); (try clear hfz60_0 hfz60_1 hfz60_2 hfz60_3 hfz60_4); (try clear hfz63_0 hfz63_1 hfz63_2 hfz63_3 hfz63_4); (try clear hfz80_0 hfz80_1 hfz80_2 hfz80_3 hfz80_4); (try clear hfz88_0 hfz88_1 hfz88_2 hfz88_3 hfz88_4); (try clear hfz91_0 hfz91_1 hfz91_2 hfz91_3 hfz91_4); (try clear hfz96_0 hfz96_1 hfz96_2 hfz96_3 hfz96_4); (try clear hfz99_0 hfz99_1 hfz99_2 hfz99_3 hfz99_4); (try clear p2)
       obtain ⟨kq, x61_69, rfl, HA, HJ69, HO_358001, HO_358002, HO_358003, HO_358004, HO_385001, HO_385002, HO_385003, HO_385004, BK330, BK357, BK384, HB⟩ := hcut
       cases kq with
       | zero => exact absurd HA.out (by simp [laws_FnExactBuildGraph.j1])
       | succ kj69 =>
        have H := HA.out
        clear HA
        simp only [laws_FnExactBuildGraph.j1] at H
        by_cases c101 : x61_69 = true
        ·subst c101
         have H1 : (some false) = some r := by rw [if_pos rfl] at H; exact H
         clear H
         have H := H1
         clear H1
         obtain rfl := Option.some.inj H
         go_wp2
         go_ret
         exact ⟨ze, (zs3 GE330.out GE357.out GE384.out)⟩
        ·replace c101 := Bool.eq_false_iff.mpr c101
         subst c101
         have H1 : ((laws_markGraph.f kj69 t370 t371 t374 t377 t380 1).bind fun bt400 => ((laws_heldGraph.f kj69 t370 bt400.2.1 bt400.2.2.1 bt400.2.2.2.1 bt400.2.2.2.2 1).bind fun t405 => (if t405 < 0 then (some false) else (if t405 = bt400.1 then ((laws_toLayout.f kj69 a0_0 a0_1 l0_2 l0_3 l0_4).bind fun bt406 => ((impl_BuildGraph.f kj69 bt406.1 bt406.2.1 bt406.2.2.1 bt406.2.2.2.1 bt406.2.2.2.2).bind fun bt417 => ((laws_eqGraph.f kj69 bt417.1 bt417.2.1 bt417.2.2.1 bt417.2.2.2.1 bt417.2.2.2.2.1 t343 t344 t347 t350 t353).bind fun t432 => (if t432 = true then (laws_FnExactBuildGraph.j2 kj69 bt400.1 (bt417.2.2.2.2.2 != t356) t370 bt400.2.1 bt400.2.2.1 bt400.2.2.2.1 bt400.2.2.2.2) else (laws_FnExactBuildGraph.j2 kj69 bt400.1 true t370 bt400.2.1 bt400.2.2.1 bt400.2.2.2.1 bt400.2.2.2.2))))) else (some false))))) = some r := by rw [if_neg (show ¬ (false = true) by decide)] at H; exact H
         clear H
         have H := H1
         clear H1
         replace H := Option.bind_eq_some_iff.mp H
         obtain ⟨⟨t400, t401, t402, t403, t404⟩, A1020, H⟩ := H
         replace H : ((laws_heldGraph.f kj69 t370 t401 t402 t403 t404 1).bind fun t405 => (if t405 < 0 then (some false) else (if t405 = t400 then ((laws_toLayout.f kj69 a0_0 a0_1 l0_2 l0_3 l0_4).bind fun bt406 => ((impl_BuildGraph.f kj69 bt406.1 bt406.2.1 bt406.2.2.1 bt406.2.2.2.1 bt406.2.2.2.2).bind fun bt417 => ((laws_eqGraph.f kj69 bt417.1 bt417.2.1 bt417.2.2.1 bt417.2.2.2.1 bt417.2.2.2.2.1 t343 t344 t347 t350 t353).bind fun t432 => (if t432 = true then (laws_FnExactBuildGraph.j2 kj69 t400 (bt417.2.2.2.2.2 != t356) t370 t401 t402 t403 t404) else (laws_FnExactBuildGraph.j2 kj69 t400 true t370 t401 t402 t403 t404))))) else (some false)))) = some r := H
         have A102 := zA A1020
         clear A1020
         replace H := Option.bind_eq_some_iff.mp H
         obtain ⟨t405, A1030, H⟩ := H
         replace H : (if t405 < 0 then (some false) else (if t405 = t400 then ((laws_toLayout.f kj69 a0_0 a0_1 l0_2 l0_3 l0_4).bind fun bt406 => ((impl_BuildGraph.f kj69 bt406.1 bt406.2.1 bt406.2.2.1 bt406.2.2.2.1 bt406.2.2.2.2).bind fun bt417 => ((laws_eqGraph.f kj69 bt417.1 bt417.2.1 bt417.2.2.1 bt417.2.2.2.1 bt417.2.2.2.2.1 t343 t344 t347 t350 t353).bind fun t432 => (if t432 = true then (laws_FnExactBuildGraph.j2 kj69 t400 (bt417.2.2.2.2.2 != t356) t370 t401 t402 t403 t404) else (laws_FnExactBuildGraph.j2 kj69 t400 true t370 t401 t402 t403 t404))))) else (some false))) = some r := H
         have A103 := zA A1030
         clear A1030
         by_cases c104 : t405 < 0
         ·rw [if_pos c104] at H
          have c104b0 : decide (t405 < 0) = true := decide_eq_true c104
          clear c104
          obtain rfl := Option.some.inj H
          have hnb105 := NB384_330.out
          have hnc105 := NB330_384.out
          have hnb106 := NB384_357.out
          have hnc106 := NB357_384.out
          obtain ⟨hcz107_0, hcz107_1, hcz107_2, hcz107_3, hcz107_4, hfz107_0, hfz107_1, hfz107_2, hfz107_3, hfz107_4⟩ := zh5 BK384.out
          go_wp2_with (first | ((with_reducible refine gate_callee (f := 20) rfl ?_); refine goesL_ (some 64) rfl rfl Tryd.func20 (by kernel_rfl) rfl #[.agg #[.int .i64 t370, .slice Ao43 t371.length co43, .slice Ao44 t374.length co44, .slice Ao45 t377.length co45, .slice Ao46 t380.length co46], .int .i64 1] rfl za ?_; (with_reducible refine (laws_markGraph.calls kj69 t370 (fun k_ => some k_ = (.slice Ao43 t371.length co43 : Value).ownBlock) (.slice Ao43 t371.length co43) t371 (fun k_ => some k_ = (.slice Ao44 t374.length co44 : Value).ownBlock) (.slice Ao44 t374.length co44) t374 (fun k_ => some k_ = (.slice Ao45 t377.length co45 : Value).ownBlock) (.slice Ao45 t377.length co45) t377 (fun k_ => some k_ = (.slice Ao46 t380.length co46 : Value).ownBlock) (.slice Ao46 t380.length co46) t380 1 t400 t401 t402 t403 t404 w _ ?side1 ?side2 ?side3 ?side4 ?side5 ?side6 ?side7 ?side8 ?side9 ?side10 ?side11 ?side12 ?side13 ?side14 ?side15 ?side16 ?side17 A102.out).mono ?_); (case side1 => repeat (first | (with_reducible first | exact HB.out | apply below_alloc | apply pw_below_drewN | apply below_drew1 | refine below_set ?_ GE330.out | refine below_set ?_ GE357.out | refine below_set ?_ GE384.out) | exact HB.out)); (case side2 => exact Kd.R_tight rfl HO_385001.out); (case side3 => exact fun k_ e_ => (HO_385001.out.1 k_ e_.symm).2.2.2.2.1); (case side4 => exact fun k_ e_ => (HO_385001.out.1 k_ e_.symm).2.2.2.2.2.1); (case side5 => exact fun k_ e_ => (HO_385001.out.1 k_ e_.symm).2.2.2.2.2.2); (case side6 => exact Kd.R_tight rfl HO_385002.out); (case side7 => exact fun k_ e_ => (HO_385002.out.1 k_ e_.symm).2.2.2.2.1); (case side8 => exact fun k_ e_ => (HO_385002.out.1 k_ e_.symm).2.2.2.2.2.1); (case side9 => exact fun k_ e_ => (HO_385002.out.1 k_ e_.symm).2.2.2.2.2.2); (case side10 => exact Kd.R_tight rfl HO_385003.out); (case side11 => exact fun k_ e_ => (HO_385003.out.1 k_ e_.symm).2.2.2.2.1); (case side12 => exact fun k_ e_ => (HO_385003.out.1 k_ e_.symm).2.2.2.2.2.1); (case side13 => exact fun k_ e_ => (HO_385003.out.1 k_ e_.symm).2.2.2.2.2.2); (case side14 => exact Kd.R_tight rfl HO_385004.out); (case side15 => exact fun k_ e_ => (HO_385004.out.1 k_ e_.symm).2.2.2.2.1); (case side16 => exact fun k_ e_ => (HO_385004.out.1 k_ e_.symm).2.2.2.2.2.1); (case side17 => exact fun k_ e_ => (HO_385004.out.1 k_ e_.symm).2.2.2.2.2.2); rintro e w108 ⟨rfl, hy0, hy1, hy2, hy3, hb, hkp⟩; refine ⟨_, rfl, ?_⟩; have n0_ := zA (Kd.R_mono (ok' := fun k_ => zO k_ (.slice Ao25 t347.length co25) ∧ zO k_ (.slice Ao26 t350.length co26) ∧ zO k_ (.slice Ao27 t353.length co27) ∧ zO k_ (.slice Ao43 t371.length co43) ∧ zO k_ (.slice Ao44 t374.length co44) ∧ zO k_ (.slice Ao45 t377.length co45) ∧ zO k_ (.slice Ao46 t380.length co46)) (Kd.R_keptB (HO_358001.out) hkp (fun k_ hk_ hs_ => Or.elim hs_ (fun e_ => (hk_.2.2.2.1) e_) (fun e_ => Or.elim e_ (fun e_ => (hk_.2.2.2.2.1) e_) (fun e_ => Or.elim e_ (fun e_ => (hk_.2.2.2.2.2.1) e_) (fun e_ => (hk_.2.2.2.2.2.2) e_))))) (fun k_ hk_ => ⟨hk_.1.1, hk_.1.2.1, hk_.1.2.2.1, hk_.1.2.2.2.1, hk_.1.2.2.2.2.1, hk_.1.2.2.2.2.2.1, hk_.1.2.2.2.2.2.2⟩)); have n1_ := zA (Kd.R_mono (ok' := fun k_ => zO k_ (.slice Ao24 t344.length co24) ∧ zO k_ (.slice Ao26 t350.length co26) ∧ zO k_ (.slice Ao27 t353.length co27) ∧ zO k_ (.slice Ao43 t371.length co43) ∧ zO k_ (.slice Ao44 t374.length co44) ∧ zO k_ (.slice Ao45 t377.length co45) ∧ zO k_ (.slice Ao46 t380.length co46)) (Kd.R_keptB (HO_358002.out) hkp (fun k_ hk_ hs_ => Or.elim hs_ (fun e_ => (hk_.2.2.2.1) e_) (fun e_ => Or.elim e_ (fun e_ => (hk_.2.2.2.2.1) e_) (fun e_ => Or.elim e_ (fun e_ => (hk_.2.2.2.2.2.1) e_) (fun e_ => (hk_.2.2.2.2.2.2) e_))))) (fun k_ hk_ => ⟨hk_.1.1, hk_.1.2.1, hk_.1.2.2.1, hk_.1.2.2.2.1, hk_.1.2.2.2.2.1, hk_.1.2.2.2.2.2.1, hk_.1.2.2.2.2.2.2⟩)); have n2_ := zA (Kd.R_mono (ok' := fun k_ => zO k_ (.slice Ao24 t344.length co24) ∧ zO k_ (.slice Ao25 t347.length co25) ∧ zO k_ (.slice Ao27 t353.length co27) ∧ zO k_ (.slice Ao43 t371.length co43) ∧ zO k_ (.slice Ao44 t374.length co44) ∧ zO k_ (.slice Ao45 t377.length co45) ∧ zO k_ (.slice Ao46 t380.length co46)) (Kd.R_keptB (HO_358003.out) hkp (fun k_ hk_ hs_ => Or.elim hs_ (fun e_ => (hk_.2.2.2.1) e_) (fun e_ => Or.elim e_ (fun e_ => (hk_.2.2.2.2.1) e_) (fun e_ => Or.elim e_ (fun e_ => (hk_.2.2.2.2.2.1) e_) (fun e_ => (hk_.2.2.2.2.2.2) e_))))) (fun k_ hk_ => ⟨hk_.1.1, hk_.1.2.1, hk_.1.2.2.1, hk_.1.2.2.2.1, hk_.1.2.2.2.2.1, hk_.1.2.2.2.2.2.1, hk_.1.2.2.2.2.2.2⟩)); have n3_ := zA (Kd.R_mono (ok' := fun k_ => zO k_ (.slice Ao24 t344.length co24) ∧ zO k_ (.slice Ao25 t347.length co25) ∧ zO k_ (.slice Ao26 t350.length co26) ∧ zO k_ (.slice Ao43 t371.length co43) ∧ zO k_ (.slice Ao44 t374.length co44) ∧ zO k_ (.slice Ao45 t377.length co45) ∧ zO k_ (.slice Ao46 t380.length co46)) (Kd.R_keptB (HO_358004.out) hkp (fun k_ hk_ hs_ => Or.elim hs_ (fun e_ => (hk_.2.2.2.1) e_) (fun e_ => Or.elim e_ (fun e_ => (hk_.2.2.2.2.1) e_) (fun e_ => Or.elim e_ (fun e_ => (hk_.2.2.2.2.2.1) e_) (fun e_ => (hk_.2.2.2.2.2.2) e_))))) (fun k_ hk_ => ⟨hk_.1.1, hk_.1.2.1, hk_.1.2.2.1, hk_.1.2.2.2.1, hk_.1.2.2.2.2.1, hk_.1.2.2.2.2.2.1, hk_.1.2.2.2.2.2.2⟩)); have n4_ := zA (Kd.R_reok rfl hy0 (fun k_ e_ => HO_385001.out.1 k_ e_)); have n5_ := zA (Kd.R_reok rfl hy1 (fun k_ e_ => HO_385002.out.1 k_ e_)); have n6_ := zA (Kd.R_reok rfl hy2 (fun k_ e_ => HO_385003.out.1 k_ e_)); have n7_ := zA (Kd.R_reok rfl hy3 (fun k_ e_ => HO_385004.out.1 k_ e_)); have n8_ := zA (blk_kept (zb BK330.out) hkp (fun hs_ => Or.elim hs_ (fun e_ => (fun e_ => (Kd.R_ne HO_385001.out BK330.out (by decide)) e_) e_) (fun e_ => Or.elim e_ (fun e_ => (fun e_ => (Kd.R_ne HO_385002.out BK330.out (by decide)) e_) e_) (fun e_ => Or.elim e_ (fun e_ => (fun e_ => (Kd.R_ne HO_385003.out BK330.out (by decide)) e_) e_) (fun e_ => (fun e_ => (Kd.R_ne HO_385004.out BK330.out (by decide)) e_) e_))))); have n9_ := zA (blk_kept (zb BK357.out) hkp (fun hs_ => Or.elim hs_ (fun e_ => (fun e_ => (Kd.R_ne HO_385001.out BK357.out (by decide)) e_) e_) (fun e_ => Or.elim e_ (fun e_ => (fun e_ => (Kd.R_ne HO_385002.out BK357.out (by decide)) e_) e_) (fun e_ => Or.elim e_ (fun e_ => (fun e_ => (Kd.R_ne HO_385003.out BK357.out (by decide)) e_) e_) (fun e_ => (fun e_ => (Kd.R_ne HO_385004.out BK357.out (by decide)) e_) e_))))); have n10_ := zA (blk_kept (zb BK384.out) hkp (fun hs_ => Or.elim hs_ (fun e_ => (fun e_ => (Kd.R_ne HO_385001.out BK384.out (by decide)) e_) e_) (fun e_ => Or.elim e_ (fun e_ => (fun e_ => (Kd.R_ne HO_385002.out BK384.out (by decide)) e_) e_) (fun e_ => Or.elim e_ (fun e_ => (fun e_ => (Kd.R_ne HO_385003.out BK384.out (by decide)) e_) e_) (fun e_ => (fun e_ => (Kd.R_ne HO_385004.out BK384.out (by decide)) e_) e_))))); have n11_ := zA (hb); clear HO_358001 HO_358002 HO_358003 HO_358004 HO_385001 HO_385002 HO_385003 HO_385004 BK330 BK357 BK384 HB; have HO_358001 := n0_; have HO_358002 := n1_; have HO_358003 := n2_; have HO_358004 := n3_; have HO_385001 := n4_; have HO_385002 := n5_; have HO_385003 := n6_; have HO_385004 := n7_; have BK330 := n8_; have BK357 := n9_; have BK384 := n10_; have HB := n11_; clear n0_ n1_ n2_ n3_ n4_ n5_ n6_ n7_ n8_ n9_ n10_ n11_; (try clear hb); (try clear hkp); (try clear hy0); (try clear hy1); (try clear hy2); (try clear hy3); obtain ⟨hcz109_0, hcz109_1, hcz109_2, hcz109_3, hcz109_4, hfz109_0, hfz109_1, hfz109_2, hfz109_3, hfz109_4⟩ := zh5 BK384.out) | ((with_reducible refine gate_callee (f := 21) rfl ?_); refine goesL_ (some 67) rfl rfl Tryd.func21 (by kernel_rfl) rfl #[.agg #[.int .i64 t370, .slice Ao43 t401.length co43, .slice Ao44 t402.length co44, .slice Ao45 t403.length co45, .slice Ao46 t404.length co46], .int .i64 1] rfl (by (try simp only [List.map_toArray, List.map_cons, List.map_nil]); first | done | (rw [show t401.length = t371.length from (Kd.R_reads' HO_385001.out).1.symm, show t402.length = t374.length from (Kd.R_reads' HO_385002.out).1.symm, show t403.length = t377.length from (Kd.R_reads' HO_385003.out).1.symm, show t404.length = t380.length from (Kd.R_reads' HO_385004.out).1.symm] <;> rfl) | rfl | (simp only [List.length_drop, List.length_take]; rfl)) ?_; (with_reducible refine (laws_heldGraph.calls kj69 t370 _ _ t401 _ _ t402 _ _ t403 _ _ t404 1 t405 _ ?side1 ?side2 ?side3 ?side4 ?side5 ?side6 ?side7 ?side8 A103.out).mono ?_); (case side1 => exact zc ((Kd.R_reads' HO_385001.out).2.2)); (case side2 => rw [show t401.length = t371.length from (Kd.R_reads' HO_385001.out).1.symm]; exact (Kd.R_reads' HO_385001.out).2.1); (case side3 => exact zc ((Kd.R_reads' HO_385002.out).2.2)); (case side4 => rw [show t402.length = t374.length from (Kd.R_reads' HO_385002.out).1.symm]; exact (Kd.R_reads' HO_385002.out).2.1); (case side5 => exact zc ((Kd.R_reads' HO_385003.out).2.2)); (case side6 => rw [show t403.length = t377.length from (Kd.R_reads' HO_385003.out).1.symm]; exact (Kd.R_reads' HO_385003.out).2.1); (case side7 => exact zc ((Kd.R_reads' HO_385004.out).2.2)); (case side8 => rw [show t404.length = t380.length from (Kd.R_reads' HO_385004.out).1.symm]; exact (Kd.R_reads' HO_385004.out).2.1); rintro e w110 ⟨rfl, hb⟩; refine ⟨_, rfl, ?_⟩; have n0_ := zA (Kd.R_below (zR HO_358001.out) hb); have n1_ := zA (Kd.R_below (zR HO_358002.out) hb); have n2_ := zA (Kd.R_below (zR HO_358003.out) hb); have n3_ := zA (Kd.R_below (zR HO_358004.out) hb); have n4_ := zA (Kd.R_below (zR HO_385001.out) hb); have n5_ := zA (Kd.R_below (zR HO_385002.out) hb); have n6_ := zA (Kd.R_below (zR HO_385003.out) hb); have n7_ := zA (Kd.R_below (zR HO_385004.out) hb); have n8_ := zA (zB BK330.out hb); have n9_ := zA (zB BK357.out hb); have n10_ := zA (zB BK384.out hb); have n11_ := zA (below_step (zs3 GE330.out GE357.out GE384.out) hb); clear HO_358001 HO_358002 HO_358003 HO_358004 HO_385001 HO_385002 HO_385003 HO_385004 BK330 BK357 BK384 HB; have HO_358001 := n0_; have HO_358002 := n1_; have HO_358003 := n2_; have HO_358004 := n3_; have HO_385001 := n4_; have HO_385002 := n5_; have HO_385003 := n6_; have HO_385004 := n7_; have BK330 := n8_; have BK357 := n9_; have BK384 := n10_; have HB := n11_; clear n0_ n1_ n2_ n3_ n4_ n5_ n6_ n7_ n8_ n9_ n10_ n11_; (try clear hb); (try clear hb2); (try clear hk); (try clear hi)))
          go_ret
          exact ⟨ze, (zs3 GE330.out GE357.out GE384.out)⟩
         ·rw [if_neg c104] at H
          have c104b0 : decide (t405 < 0) = false := decide_eq_false c104
          clear c104
          by_cases c111 : t405 = t400
          ·rw [if_pos c111] at H
           have c111b0 : (t405 == t400) = true := beq_iff_eq.mpr c111
           have c111b1 : (t405 != t400) = false := bne_eq_false_iff_eq.mpr c111
           clear c111
           replace H := Option.bind_eq_some_iff.mp H
           obtain ⟨⟨t406, t407, t408, t411, t414⟩, A1120, H⟩ := H
           replace H : ((impl_BuildGraph.f kj69 t406 t407 t408 t411 t414).bind fun bt417 => ((laws_eqGraph.f kj69 bt417.1 bt417.2.1 bt417.2.2.1 bt417.2.2.2.1 bt417.2.2.2.2.1 t343 t344 t347 t350 t353).bind fun t432 => (if t432 = true then (laws_FnExactBuildGraph.j2 kj69 t400 (bt417.2.2.2.2.2 != t356) t370 t401 t402 t403 t404) else (laws_FnExactBuildGraph.j2 kj69 t400 true t370 t401 t402 t403 t404)))) = some r := H
           have A112 := zA A1120
           clear A1120
           replace H := Option.bind_eq_some_iff.mp H
           obtain ⟨⟨t417, t418, t421, t424, t427, t430⟩, A1130, H⟩ := H
           replace H : ((laws_eqGraph.f kj69 t417 t418 t421 t424 t427 t343 t344 t347 t350 t353).bind fun t432 => (if t432 = true then (laws_FnExactBuildGraph.j2 kj69 t400 (t430 != t356) t370 t401 t402 t403 t404) else (laws_FnExactBuildGraph.j2 kj69 t400 true t370 t401 t402 t403 t404))) = some r := H
           have A113 := zA A1130
           clear A1130
           have HC114 := zA H
           clear H
           have hnb115 := NB384_330.out
           have hnc115 := NB330_384.out
           have hnb116 := NB384_357.out
           have hnc116 := NB357_384.out
           obtain ⟨hcz117_0, hcz117_1, hcz117_2, hcz117_3, hcz117_4, hfz117_0, hfz117_1, hfz117_2, hfz117_3, hfz117_4⟩ := zh5 BK384.out
           go_upto_region 25 with (first | ((with_reducible refine gate_callee (f := 20) rfl ?_); refine goesL_ (some 64) rfl rfl Tryd.func20 (by kernel_rfl) rfl #[.agg #[.int .i64 t370, .slice Ao43 t371.length co43, .slice Ao44 t374.length co44, .slice Ao45 t377.length co45, .slice Ao46 t380.length co46], .int .i64 1] rfl za ?_; (with_reducible refine (laws_markGraph.calls kj69 t370 (fun k_ => some k_ = (.slice Ao43 t371.length co43 : Value).ownBlock) (.slice Ao43 t371.length co43) t371 (fun k_ => some k_ = (.slice Ao44 t374.length co44 : Value).ownBlock) (.slice Ao44 t374.length co44) t374 (fun k_ => some k_ = (.slice Ao45 t377.length co45 : Value).ownBlock) (.slice Ao45 t377.length co45) t377 (fun k_ => some k_ = (.slice Ao46 t380.length co46 : Value).ownBlock) (.slice Ao46 t380.length co46) t380 1 t400 t401 t402 t403 t404 w _ ?side1 ?side2 ?side3 ?side4 ?side5 ?side6 ?side7 ?side8 ?side9 ?side10 ?side11 ?side12 ?side13 ?side14 ?side15 ?side16 ?side17 A102.out).mono ?_); (case side1 => repeat (first | (with_reducible first | exact HB.out | apply below_alloc | apply pw_below_drewN | apply below_drew1 | refine below_set ?_ GE330.out | refine below_set ?_ GE357.out | refine below_set ?_ GE384.out) | exact HB.out)); (case side2 => exact Kd.R_tight rfl HO_385001.out); (case side3 => exact fun k_ e_ => (HO_385001.out.1 k_ e_.symm).2.2.2.2.1); (case side4 => exact fun k_ e_ => (HO_385001.out.1 k_ e_.symm).2.2.2.2.2.1); (case side5 => exact fun k_ e_ => (HO_385001.out.1 k_ e_.symm).2.2.2.2.2.2); (case side6 => exact Kd.R_tight rfl HO_385002.out); (case side7 => exact fun k_ e_ => (HO_385002.out.1 k_ e_.symm).2.2.2.2.1); (case side8 => exact fun k_ e_ => (HO_385002.out.1 k_ e_.symm).2.2.2.2.2.1); (case side9 => exact fun k_ e_ => (HO_385002.out.1 k_ e_.symm).2.2.2.2.2.2); (case side10 => exact Kd.R_tight rfl HO_385003.out); (case side11 => exact fun k_ e_ => (HO_385003.out.1 k_ e_.symm).2.2.2.2.1); (case side12 => exact fun k_ e_ => (HO_385003.out.1 k_ e_.symm).2.2.2.2.2.1); (case side13 => exact fun k_ e_ => (HO_385003.out.1 k_ e_.symm).2.2.2.2.2.2); (case side14 => exact Kd.R_tight rfl HO_385004.out); (case side15 => exact fun k_ e_ => (HO_385004.out.1 k_ e_.symm).2.2.2.2.1); (case side16 => exact fun k_ e_ => (HO_385004.out.1 k_ e_.symm).2.2.2.2.2.1); (case side17 => exact fun k_ e_ => (HO_385004.out.1 k_ e_.symm).2.2.2.2.2.2); rintro e w118 ⟨rfl, hy0, hy1, hy2, hy3, hb, hkp⟩; refine ⟨_, rfl, ?_⟩; have n0_ := zA (Kd.R_mono (ok' := fun k_ => zO k_ (.slice Ao25 t347.length co25) ∧ zO k_ (.slice Ao26 t350.length co26) ∧ zO k_ (.slice Ao27 t353.length co27) ∧ zO k_ (.slice Ao43 t371.length co43) ∧ zO k_ (.slice Ao44 t374.length co44) ∧ zO k_ (.slice Ao45 t377.length co45) ∧ zO k_ (.slice Ao46 t380.length co46)) (Kd.R_keptB (HO_358001.out) hkp (fun k_ hk_ hs_ => Or.elim hs_ (fun e_ => (hk_.2.2.2.1) e_) (fun e_ => Or.elim e_ (fun e_ => (hk_.2.2.2.2.1) e_) (fun e_ => Or.elim e_ (fun e_ => (hk_.2.2.2.2.2.1) e_) (fun e_ => (hk_.2.2.2.2.2.2) e_))))) (fun k_ hk_ => ⟨hk_.1.1, hk_.1.2.1, hk_.1.2.2.1, hk_.1.2.2.2.1, hk_.1.2.2.2.2.1, hk_.1.2.2.2.2.2.1, hk_.1.2.2.2.2.2.2⟩)); have n1_ := zA (Kd.R_mono (ok' := fun k_ => zO k_ (.slice Ao24 t344.length co24) ∧ zO k_ (.slice Ao26 t350.length co26) ∧ zO k_ (.slice Ao27 t353.length co27) ∧ zO k_ (.slice Ao43 t371.length co43) ∧ zO k_ (.slice Ao44 t374.length co44) ∧ zO k_ (.slice Ao45 t377.length co45) ∧ zO k_ (.slice Ao46 t380.length co46)) (Kd.R_keptB (HO_358002.out) hkp (fun k_ hk_ hs_ => Or.elim hs_ (fun e_ => (hk_.2.2.2.1) e_) (fun e_ => Or.elim e_ (fun e_ => (hk_.2.2.2.2.1) e_) (fun e_ => Or.elim e_ (fun e_ => (hk_.2.2.2.2.2.1) e_) (fun e_ => (hk_.2.2.2.2.2.2) e_))))) (fun k_ hk_ => ⟨hk_.1.1, hk_.1.2.1, hk_.1.2.2.1, hk_.1.2.2.2.1, hk_.1.2.2.2.2.1, hk_.1.2.2.2.2.2.1, hk_.1.2.2.2.2.2.2⟩)); have n2_ := zA (Kd.R_mono (ok' := fun k_ => zO k_ (.slice Ao24 t344.length co24) ∧ zO k_ (.slice Ao25 t347.length co25) ∧ zO k_ (.slice Ao27 t353.length co27) ∧ zO k_ (.slice Ao43 t371.length co43) ∧ zO k_ (.slice Ao44 t374.length co44) ∧ zO k_ (.slice Ao45 t377.length co45) ∧ zO k_ (.slice Ao46 t380.length co46)) (Kd.R_keptB (HO_358003.out) hkp (fun k_ hk_ hs_ => Or.elim hs_ (fun e_ => (hk_.2.2.2.1) e_) (fun e_ => Or.elim e_ (fun e_ => (hk_.2.2.2.2.1) e_) (fun e_ => Or.elim e_ (fun e_ => (hk_.2.2.2.2.2.1) e_) (fun e_ => (hk_.2.2.2.2.2.2) e_))))) (fun k_ hk_ => ⟨hk_.1.1, hk_.1.2.1, hk_.1.2.2.1, hk_.1.2.2.2.1, hk_.1.2.2.2.2.1, hk_.1.2.2.2.2.2.1, hk_.1.2.2.2.2.2.2⟩)); have n3_ := zA (Kd.R_mono (ok' := fun k_ => zO k_ (.slice Ao24 t344.length co24) ∧ zO k_ (.slice Ao25 t347.length co25) ∧ zO k_ (.slice Ao26 t350.length co26) ∧ zO k_ (.slice Ao43 t371.length co43) ∧ zO k_ (.slice Ao44 t374.length co44) ∧ zO k_ (.slice Ao45 t377.length co45) ∧ zO k_ (.slice Ao46 t380.length co46)) (Kd.R_keptB (HO_358004.out) hkp (fun k_ hk_ hs_ => Or.elim hs_ (fun e_ => (hk_.2.2.2.1) e_) (fun e_ => Or.elim e_ (fun e_ => (hk_.2.2.2.2.1) e_) (fun e_ => Or.elim e_ (fun e_ => (hk_.2.2.2.2.2.1) e_) (fun e_ => (hk_.2.2.2.2.2.2) e_))))) (fun k_ hk_ => ⟨hk_.1.1, hk_.1.2.1, hk_.1.2.2.1, hk_.1.2.2.2.1, hk_.1.2.2.2.2.1, hk_.1.2.2.2.2.2.1, hk_.1.2.2.2.2.2.2⟩)); have n4_ := zA (Kd.R_reok rfl hy0 (fun k_ e_ => HO_385001.out.1 k_ e_)); have n5_ := zA (Kd.R_reok rfl hy1 (fun k_ e_ => HO_385002.out.1 k_ e_)); have n6_ := zA (Kd.R_reok rfl hy2 (fun k_ e_ => HO_385003.out.1 k_ e_)); have n7_ := zA (Kd.R_reok rfl hy3 (fun k_ e_ => HO_385004.out.1 k_ e_)); have n8_ := zA (blk_kept (zb BK330.out) hkp (fun hs_ => Or.elim hs_ (fun e_ => (fun e_ => (Kd.R_ne HO_385001.out BK330.out (by decide)) e_) e_) (fun e_ => Or.elim e_ (fun e_ => (fun e_ => (Kd.R_ne HO_385002.out BK330.out (by decide)) e_) e_) (fun e_ => Or.elim e_ (fun e_ => (fun e_ => (Kd.R_ne HO_385003.out BK330.out (by decide)) e_) e_) (fun e_ => (fun e_ => (Kd.R_ne HO_385004.out BK330.out (by decide)) e_) e_))))); have n9_ := zA (blk_kept (zb BK357.out) hkp (fun hs_ => Or.elim hs_ (fun e_ => (fun e_ => (Kd.R_ne HO_385001.out BK357.out (by decide)) e_) e_) (fun e_ => Or.elim e_ (fun e_ => (fun e_ => (Kd.R_ne HO_385002.out BK357.out (by decide)) e_) e_) (fun e_ => Or.elim e_ (fun e_ => (fun e_ => (Kd.R_ne HO_385003.out BK357.out (by decide)) e_) e_) (fun e_ => (fun e_ => (Kd.R_ne HO_385004.out BK357.out (by decide)) e_) e_))))); have n10_ := zA (blk_kept (zb BK384.out) hkp (fun hs_ => Or.elim hs_ (fun e_ => (fun e_ => (Kd.R_ne HO_385001.out BK384.out (by decide)) e_) e_) (fun e_ => Or.elim e_ (fun e_ => (fun e_ => (Kd.R_ne HO_385002.out BK384.out (by decide)) e_) e_) (fun e_ => Or.elim e_ (fun e_ => (fun e_ => (Kd.R_ne HO_385003.out BK384.out (by decide)) e_) e_) (fun e_ => (fun e_ => (Kd.R_ne HO_385004.out BK384.out (by decide)) e_) e_))))); have n11_ := zA (hb); clear HO_358001 HO_358002 HO_358003 HO_358004 HO_385001 HO_385002 HO_385003 HO_385004 BK330 BK357 BK384 HB; have HO_358001 := n0_; have HO_358002 := n1_; have HO_358003 := n2_; have HO_358004 := n3_; have HO_385001 := n4_; have HO_385002 := n5_; have HO_385003 := n6_; have HO_385004 := n7_; have BK330 := n8_; have BK357 := n9_; have BK384 := n10_; have HB := n11_; clear n0_ n1_ n2_ n3_ n4_ n5_ n6_ n7_ n8_ n9_ n10_ n11_; (try clear hb); (try clear hkp); (try clear hy0); (try clear hy1); (try clear hy2); (try clear hy3); obtain ⟨hcz119_0, hcz119_1, hcz119_2, hcz119_3, hcz119_4, hfz119_0, hfz119_1, hfz119_2, hfz119_3, hfz119_4⟩ := zh5 BK384.out) | ((with_reducible refine gate_callee (f := 21) rfl ?_); refine goesL_ (some 67) rfl rfl Tryd.func21 (by kernel_rfl) rfl #[.agg #[.int .i64 t370, .slice Ao43 t401.length co43, .slice Ao44 t402.length co44, .slice Ao45 t403.length co45, .slice Ao46 t404.length co46], .int .i64 1] rfl (by (try simp only [List.map_toArray, List.map_cons, List.map_nil]); first | done | (rw [show t401.length = t371.length from (Kd.R_reads' HO_385001.out).1.symm, show t402.length = t374.length from (Kd.R_reads' HO_385002.out).1.symm, show t403.length = t377.length from (Kd.R_reads' HO_385003.out).1.symm, show t404.length = t380.length from (Kd.R_reads' HO_385004.out).1.symm] <;> rfl) | rfl | (simp only [List.length_drop, List.length_take]; rfl)) ?_; (with_reducible refine (laws_heldGraph.calls kj69 t370 _ _ t401 _ _ t402 _ _ t403 _ _ t404 1 t405 _ ?side1 ?side2 ?side3 ?side4 ?side5 ?side6 ?side7 ?side8 A103.out).mono ?_); (case side1 => exact zc ((Kd.R_reads' HO_385001.out).2.2)); (case side2 => rw [show t401.length = t371.length from (Kd.R_reads' HO_385001.out).1.symm]; exact (Kd.R_reads' HO_385001.out).2.1); (case side3 => exact zc ((Kd.R_reads' HO_385002.out).2.2)); (case side4 => rw [show t402.length = t374.length from (Kd.R_reads' HO_385002.out).1.symm]; exact (Kd.R_reads' HO_385002.out).2.1); (case side5 => exact zc ((Kd.R_reads' HO_385003.out).2.2)); (case side6 => rw [show t403.length = t377.length from (Kd.R_reads' HO_385003.out).1.symm]; exact (Kd.R_reads' HO_385003.out).2.1); (case side7 => exact zc ((Kd.R_reads' HO_385004.out).2.2)); (case side8 => rw [show t404.length = t380.length from (Kd.R_reads' HO_385004.out).1.symm]; exact (Kd.R_reads' HO_385004.out).2.1); rintro e w120 ⟨rfl, hb⟩; refine ⟨_, rfl, ?_⟩; have n0_ := zA (Kd.R_below (zR HO_358001.out) hb); have n1_ := zA (Kd.R_below (zR HO_358002.out) hb); have n2_ := zA (Kd.R_below (zR HO_358003.out) hb); have n3_ := zA (Kd.R_below (zR HO_358004.out) hb); have n4_ := zA (Kd.R_below (zR HO_385001.out) hb); have n5_ := zA (Kd.R_below (zR HO_385002.out) hb); have n6_ := zA (Kd.R_below (zR HO_385003.out) hb); have n7_ := zA (Kd.R_below (zR HO_385004.out) hb); have n8_ := zA (zB BK330.out hb); have n9_ := zA (zB BK357.out hb); have n10_ := zA (zB BK384.out hb); have n11_ := zA (below_step (zs3 GE330.out GE357.out GE384.out) hb); clear HO_358001 HO_358002 HO_358003 HO_358004 HO_385001 HO_385002 HO_385003 HO_385004 BK330 BK357 BK384 HB; have HO_358001 := n0_; have HO_358002 := n1_; have HO_358003 := n2_; have HO_358004 := n3_; have HO_385001 := n4_; have HO_385002 := n5_; have HO_385003 := n6_; have HO_385004 := n7_; have BK330 := n8_; have BK357 := n9_; have BK384 := n10_; have HB := n11_; clear n0_ n1_ n2_ n3_ n4_ n5_ n6_ n7_ n8_ n9_ n10_ n11_; (try clear hb); (try clear hb2); (try clear hk); (try clear hi); have hnb121 := NB330_357.out; have hnc121 := NB357_330.out; obtain ⟨hcz122_0, hcz122_1, hcz122_2, hcz122_3, hcz122_4, hfz122_0, hfz122_1, hfz122_2, hfz122_3, hfz122_4⟩ := zh5 BK330.out) | ((with_reducible refine gate_callee (f := 15) rfl ?_); refine goesL_ (some 75) rfl rfl Tryd.func15 (by kernel_rfl) rfl #[.agg #[.int .i64 a0_0, .int .i64 a0_1, .slice A0_2 l0_2.length c0_2, .slice A0_3 l0_3.length c0_3, .slice A0_4 l0_4.length c0_4]] rfl za ?_; (with_reducible refine (laws_toLayout.calls kj69 a0_0 a0_1 _ _ l0_2 _ _ l0_3 _ _ l0_4 t406 t407 t408 t411 t414 _ ?side1 ?side2 ?side3 ?side4 ?side5 ?side6 A112.out).mono ?_); (case side1 => exact zc (Kd.C_below HR0_2.out HB.out)); (case side2 => exact HC0_2.out); (case side3 => exact zc (Kd.C_below HR0_3.out HB.out)); (case side4 => exact HC0_3.out); (case side5 => exact zc (Kd.C_below HR0_4.out HB.out)); (case side6 => exact HC0_4.out); rintro e w123 ⟨v409, v412, v415, rfl, ho0, ho1, ho2, hb⟩; refine ⟨_, rfl, ?_⟩; have n0_ := zA (Kd.R_mono (Kd.R_told (Kd.R_told (Kd.R_old (zR HO_358001.out) hb) (Kd.R_base ho0)) (Kd.R_base ho1)) (fun _ h_ => h_.1)); have n1_ := zA (Kd.R_mono (Kd.R_told (Kd.R_told (Kd.R_old (zR HO_358002.out) hb) (Kd.R_base ho0)) (Kd.R_base ho1)) (fun _ h_ => h_.1)); have n2_ := zA (Kd.R_mono (Kd.R_told (Kd.R_told (Kd.R_old (zR HO_358003.out) hb) (Kd.R_base ho0)) (Kd.R_base ho1)) (fun _ h_ => h_.1)); have n3_ := zA (Kd.R_mono (Kd.R_told (Kd.R_told (Kd.R_old (zR HO_358004.out) hb) (Kd.R_base ho0)) (Kd.R_base ho1)) (fun _ h_ => h_.1)); have n4_ := zA (Kd.R_mono (Kd.R_told (Kd.R_told (Kd.R_old (zR HO_385001.out) hb) (Kd.R_base ho0)) (Kd.R_base ho1)) (fun _ h_ => h_.1)); have n5_ := zA (Kd.R_mono (Kd.R_told (Kd.R_told (Kd.R_old (zR HO_385002.out) hb) (Kd.R_base ho0)) (Kd.R_base ho1)) (fun _ h_ => h_.1)); have n6_ := zA (Kd.R_mono (Kd.R_told (Kd.R_told (Kd.R_old (zR HO_385003.out) hb) (Kd.R_base ho0)) (Kd.R_base ho1)) (fun _ h_ => h_.1)); have n7_ := zA (Kd.R_mono (Kd.R_told (Kd.R_told (Kd.R_old (zR HO_385004.out) hb) (Kd.R_base ho0)) (Kd.R_base ho1)) (fun _ h_ => h_.1)); have n8_ := zA (Kd.R_lower (Kd.R_new' (Kd.R_new' (Kd.R_new' (Kd.R_new' (Kd.R_new' (Kd.R_new' (Kd.R_new' (Kd.R_new' ho0 (zl HO_358001.out)) (zl HO_358002.out)) (zl HO_358003.out)) (zl HO_358004.out)) (zl HO_385001.out)) (zl HO_385002.out)) (zl HO_385003.out)) (zl HO_385004.out)) (below_size (zs3 GE330.out GE357.out GE384.out))); have n9_ := zA (Kd.R_lower (Kd.R_new' (Kd.R_new' (Kd.R_new' (Kd.R_new' (Kd.R_new' (Kd.R_new' (Kd.R_new' (Kd.R_new' ho1 (zl HO_358001.out)) (zl HO_358002.out)) (zl HO_358003.out)) (zl HO_358004.out)) (zl HO_385001.out)) (zl HO_385002.out)) (zl HO_385003.out)) (zl HO_385004.out)) (below_size (zs3 GE330.out GE357.out GE384.out))); have n10_ := zA (Kd.S_lower ho2 (below_size (zs3 GE330.out GE357.out GE384.out))); have n11_ := zA (zB BK330.out hb); have n12_ := zA (zB BK357.out hb); have n13_ := zA (zB BK384.out hb); have n14_ := zA (below_step (zs3 GE330.out GE357.out GE384.out) hb); clear HO_358001 HO_358002 HO_358003 HO_358004 HO_385001 HO_385002 HO_385003 HO_385004 BK330 BK357 BK384 HB; have HO_358001 := n0_; have HO_358002 := n1_; have HO_358003 := n2_; have HO_358004 := n3_; have HO_385001 := n4_; have HO_385002 := n5_; have HO_385003 := n6_; have HO_385004 := n7_; have HO410 := n8_; have HO413 := n9_; have HO416 := n10_; have BK330 := n11_; have BK357 := n12_; have BK384 := n13_; have HB := n14_; clear n0_ n1_ n2_ n3_ n4_ n5_ n6_ n7_ n8_ n9_ n10_ n11_ n12_ n13_ n14_; (try clear hb); (try clear hb2); (try clear hk); (try clear hi); (try clear ho0); (try clear ho1); (try clear ho2); obtain ⟨Ao124, co124, eo124⟩ := Kd.R_slice HO410.out; subst eo124; obtain ⟨Ao125, co125, eo125⟩ := Kd.R_slice HO413.out; subst eo125; obtain ⟨Ao126, co126, eo126⟩ := Kd.S_slice HO416.out; subst eo126) | ((with_reducible refine gate_callee (f := 16) rfl ?_); refine goesL_ (some 76) rfl rfl Tryd.func16 (by kernel_rfl) rfl #[.agg #[.int .i64 t406, .int .i64 t407, .slice Ao124 t408.length co124, .slice Ao125 t411.length co125, .slice Ao126 t414.length co126]] rfl za ?_; (with_reducible refine (impl_BuildGraph.calls kj69 t406 t407 _ _ t408 _ _ t411 _ _ t414 t417 t418 t421 t424 t427 t430 _ ?side1 ?side2 ?side3 ?side4 ?side5 ?side6 ?side7 A113.out).mono ?_); (case side1 => exact zc ((Kd.R_reads' HO410.out).2.2)); (case side2 => exact (Kd.R_reads' HO410.out).2.1); (case side3 => exact zc ((Kd.R_reads' HO413.out).2.2)); (case side4 => exact (Kd.R_reads' HO413.out).2.1); (case side5 => exact zc ((Kd.S_reads' HO416.out).2.2)); (case side6 => exact (Kd.S_reads' HO416.out).2.1); (case side7 => exact LaidW.below HLD.out (zs3 GE330.out GE357.out GE384.out)); rintro e w127 ⟨v419, v422, v425, v428, rfl, ho0, ho1, ho2, ho3, hb⟩; refine ⟨_, rfl, ?_⟩; have n0_ := zA (Kd.R_mono (Kd.R_told (Kd.R_told (Kd.R_told (Kd.R_told (Kd.R_old (zR HO_358001.out) hb) (Kd.R_base ho0)) (Kd.R_base ho1)) (Kd.R_base ho2)) (Kd.R_base ho3)) (fun _ h_ => h_.1)); have n1_ := zA (Kd.R_mono (Kd.R_told (Kd.R_told (Kd.R_told (Kd.R_told (Kd.R_old (zR HO_358002.out) hb) (Kd.R_base ho0)) (Kd.R_base ho1)) (Kd.R_base ho2)) (Kd.R_base ho3)) (fun _ h_ => h_.1)); have n2_ := zA (Kd.R_mono (Kd.R_told (Kd.R_told (Kd.R_told (Kd.R_told (Kd.R_old (zR HO_358003.out) hb) (Kd.R_base ho0)) (Kd.R_base ho1)) (Kd.R_base ho2)) (Kd.R_base ho3)) (fun _ h_ => h_.1)); have n3_ := zA (Kd.R_mono (Kd.R_told (Kd.R_told (Kd.R_told (Kd.R_told (Kd.R_old (zR HO_358004.out) hb) (Kd.R_base ho0)) (Kd.R_base ho1)) (Kd.R_base ho2)) (Kd.R_base ho3)) (fun _ h_ => h_.1)); have n4_ := zA (Kd.R_mono (Kd.R_told (Kd.R_told (Kd.R_told (Kd.R_told (Kd.R_old (zR HO_385001.out) hb) (Kd.R_base ho0)) (Kd.R_base ho1)) (Kd.R_base ho2)) (Kd.R_base ho3)) (fun _ h_ => h_.1)); have n5_ := zA (Kd.R_mono (Kd.R_told (Kd.R_told (Kd.R_told (Kd.R_told (Kd.R_old (zR HO_385002.out) hb) (Kd.R_base ho0)) (Kd.R_base ho1)) (Kd.R_base ho2)) (Kd.R_base ho3)) (fun _ h_ => h_.1)); have n6_ := zA (Kd.R_mono (Kd.R_told (Kd.R_told (Kd.R_told (Kd.R_told (Kd.R_old (zR HO_385003.out) hb) (Kd.R_base ho0)) (Kd.R_base ho1)) (Kd.R_base ho2)) (Kd.R_base ho3)) (fun _ h_ => h_.1)); have n7_ := zA (Kd.R_mono (Kd.R_told (Kd.R_told (Kd.R_told (Kd.R_told (Kd.R_old (zR HO_385004.out) hb) (Kd.R_base ho0)) (Kd.R_base ho1)) (Kd.R_base ho2)) (Kd.R_base ho3)) (fun _ h_ => h_.1)); have n8_ := zA (Kd.R_mono (Kd.R_told (Kd.R_told (Kd.R_told (Kd.R_told (Kd.R_old (zR HO410.out) hb) (Kd.R_base ho0)) (Kd.R_base ho1)) (Kd.R_base ho2)) (Kd.R_base ho3)) (fun _ h_ => h_.1)); have n9_ := zA (Kd.R_mono (Kd.R_told (Kd.R_told (Kd.R_told (Kd.R_told (Kd.R_old (zR HO413.out) hb) (Kd.R_base ho0)) (Kd.R_base ho1)) (Kd.R_base ho2)) (Kd.R_base ho3)) (fun _ h_ => h_.1)); have n10_ := zA (Kd.S_below (zS HO416.out) hb); have n11_ := zA (Kd.R_lower (Kd.R_new' (Kd.R_new' (Kd.R_new' (Kd.R_new' (Kd.R_new' (Kd.R_new' (Kd.R_new' (Kd.R_new' (Kd.R_new' (Kd.R_new' ho0 (zl HO_358001.out)) (zl HO_358002.out)) (zl HO_358003.out)) (zl HO_358004.out)) (zl HO_385001.out)) (zl HO_385002.out)) (zl HO_385003.out)) (zl HO_385004.out)) (zl HO410.out)) (zl HO413.out)) (below_size (zs3 GE330.out GE357.out GE384.out))); have n12_ := zA (Kd.R_lower (Kd.R_new' (Kd.R_new' (Kd.R_new' (Kd.R_new' (Kd.R_new' (Kd.R_new' (Kd.R_new' (Kd.R_new' (Kd.R_new' (Kd.R_new' ho1 (zl HO_358001.out)) (zl HO_358002.out)) (zl HO_358003.out)) (zl HO_358004.out)) (zl HO_385001.out)) (zl HO_385002.out)) (zl HO_385003.out)) (zl HO_385004.out)) (zl HO410.out)) (zl HO413.out)) (below_size (zs3 GE330.out GE357.out GE384.out))); have n13_ := zA (Kd.R_lower (Kd.R_new' (Kd.R_new' (Kd.R_new' (Kd.R_new' (Kd.R_new' (Kd.R_new' (Kd.R_new' (Kd.R_new' (Kd.R_new' (Kd.R_new' ho2 (zl HO_358001.out)) (zl HO_358002.out)) (zl HO_358003.out)) (zl HO_358004.out)) (zl HO_385001.out)) (zl HO_385002.out)) (zl HO_385003.out)) (zl HO_385004.out)) (zl HO410.out)) (zl HO413.out)) (below_size (zs3 GE330.out GE357.out GE384.out))); have n14_ := zA (Kd.R_lower (Kd.R_new' (Kd.R_new' (Kd.R_new' (Kd.R_new' (Kd.R_new' (Kd.R_new' (Kd.R_new' (Kd.R_new' (Kd.R_new' (Kd.R_new' ho3 (zl HO_358001.out)) (zl HO_358002.out)) (zl HO_358003.out)) (zl HO_358004.out)) (zl HO_385001.out)) (zl HO_385002.out)) (zl HO_385003.out)) (zl HO_385004.out)) (zl HO410.out)) (zl HO413.out)) (below_size (zs3 GE330.out GE357.out GE384.out))); have n15_ := zA (zB BK330.out hb); have n16_ := zA (zB BK357.out hb); have n17_ := zA (zB BK384.out hb); have n18_ := zA (below_step (zs3 GE330.out GE357.out GE384.out) hb); clear HO_358001 HO_358002 HO_358003 HO_358004 HO_385001 HO_385002 HO_385003 HO_385004 HO410 HO413 HO416 BK330 BK357 BK384 HB; have HO_358001 := n0_; have HO_358002 := n1_; have HO_358003 := n2_; have HO_358004 := n3_; have HO_385001 := n4_; have HO_385002 := n5_; have HO_385003 := n6_; have HO_385004 := n7_; have HO410 := n8_; have HO413 := n9_; have HO416 := n10_; have HO420 := n11_; have HO423 := n12_; have HO426 := n13_; have HO429 := n14_; have BK330 := n15_; have BK357 := n16_; have BK384 := n17_; have HB := n18_; clear n0_ n1_ n2_ n3_ n4_ n5_ n6_ n7_ n8_ n9_ n10_ n11_ n12_ n13_ n14_ n15_ n16_ n17_ n18_; (try clear hb); (try clear hb2); (try clear hk); (try clear hi); (try clear ho0); (try clear ho1); (try clear ho2); (try clear ho3)) | ((with_reducible refine gate_dst (N := 12) rfl ?_); refine box_event ?hg (N := 12) ?hd (cs := #[.int .i64 0, .slice none 0 0, .slice none 0 0, .slice none 0 0, .slice none 0 0]) (t := 28) ?hr ?_; (case hd => rfl); (case hg => rfl); (case hr => first | (go_simp; done) | (go_simp; rfl)); intro gb431 hg w128 hbox hb; have n0_ := zA (Kd.R_below (zR HO_358001.out) hb); have n1_ := zA (Kd.R_below (zR HO_358002.out) hb); have n2_ := zA (Kd.R_below (zR HO_358003.out) hb); have n3_ := zA (Kd.R_below (zR HO_358004.out) hb); have n4_ := zA (Kd.R_below (zR HO_385001.out) hb); have n5_ := zA (Kd.R_below (zR HO_385002.out) hb); have n6_ := zA (Kd.R_below (zR HO_385003.out) hb); have n7_ := zA (Kd.R_below (zR HO_385004.out) hb); have n8_ := zA (Kd.R_below (zR HO410.out) hb); have n9_ := zA (Kd.R_below (zR HO413.out) hb); have n10_ := zA (Kd.S_below (zS HO416.out) hb); have n11_ := zA (Kd.R_below (zR HO420.out) hb); have n12_ := zA (Kd.R_below (zR HO423.out) hb); have n13_ := zA (Kd.R_below (zR HO426.out) hb); have n14_ := zA (Kd.R_below (zR HO429.out) hb); have n15_ := zA (zB BK330.out hb); have n16_ := zA (zB BK357.out hb); have n17_ := zA (zB BK384.out hb); have n18_ := zA (below_step (zs3 GE330.out GE357.out GE384.out) hb); have n19_ := zA (hbox); have n20_ := zA ((by rw [hg]; exact (below_size (zs3 GE330.out GE357.out GE384.out)) : w.heap.size ≤ gb431)); have n21_ := zA ((by rw [hg]; exact (below_size (zs3 GE330.out GE357.out GE384.out)) : w.heap.size ≤ gb431)); have n22_ := zA ((by rw [hg]; exact Nat.ne_of_lt (zw BK330.out) : gb330 ≠ gb431)); have n23_ := zA ((by rw [hg]; exact Nat.ne_of_gt (zw BK330.out) : gb431 ≠ gb330)); have n24_ := zA ((by rw [hg]; exact Nat.ne_of_lt (zw BK357.out) : gb357 ≠ gb431)); have n25_ := zA ((by rw [hg]; exact Nat.ne_of_gt (zw BK357.out) : gb431 ≠ gb357)); have n26_ := zA ((by rw [hg]; exact Nat.ne_of_lt (zw BK384.out) : gb384 ≠ gb431)); have n27_ := zA ((by rw [hg]; exact Nat.ne_of_gt (zw BK384.out) : gb431 ≠ gb384)); clear HO_358001 HO_358002 HO_358003 HO_358004 HO_385001 HO_385002 HO_385003 HO_385004 HO410 HO413 HO416 HO420 HO423 HO426 HO429 BK330 BK357 BK384 HB; have HO_358001 := n0_; have HO_358002 := n1_; have HO_358003 := n2_; have HO_358004 := n3_; have HO_385001 := n4_; have HO_385002 := n5_; have HO_385003 := n6_; have HO_385004 := n7_; have HO410 := n8_; have HO413 := n9_; have HO416 := n10_; have HO420 := n11_; have HO423 := n12_; have HO426 := n13_; have HO429 := n14_; have BK330 := n15_; have BK357 := n16_; have BK384 := n17_; have HB := n18_; have BK431 := n19_; have GW431 := n20_; have GE431 := n21_; have NB330_431 := n22_; have NB431_330 := n23_; have NB357_431 := n24_; have NB431_357 := n25_; have NB384_431 := n26_; have NB431_384 := n27_; clear n0_ n1_ n2_ n3_ n4_ n5_ n6_ n7_ n8_ n9_ n10_ n11_ n12_ n13_ n14_ n15_ n16_ n17_ n18_ n19_ n20_ n21_ n22_ n23_ n24_ n25_ n26_ n27_; clear hb hbox hg; have hnb129 := NB431_330.out; have hnc129 := NB330_431.out; have hnb130 := NB431_357.out; have hnc130 := NB357_431.out; have hnb131 := NB431_384.out; have hnc131 := NB384_431.out; obtain ⟨hcz132_0, hcz132_1, hcz132_2, hcz132_3, hcz132_4, hfz132_0, hfz132_1, hfz132_2, hfz132_3, hfz132_4⟩ := zh5 BK431.out; obtain ⟨Ao133, co133, eo133⟩ := Kd.R_slice HO420.out; subst eo133; obtain ⟨Ao134, co134, eo134⟩ := Kd.R_slice HO423.out; subst eo134; obtain ⟨Ao135, co135, eo135⟩ := Kd.R_slice HO426.out; subst eo135; obtain ⟨Ao136, co136, eo136⟩ := Kd.R_slice HO429.out; subst eo136))
           (try simp only [Act.put, List.setIfInBounds_toArray, List.set_cons_zero, List.set_cons_succ])
           go_cut [87] (fun v87 wc => ∃ (kq : Nat) (x87_113 : Bool), v87 = .bool x87_113 ∧ Aside0 (laws_FnExactBuildGraph.j2 kq t400 x87_113 t370 t401 t402 t403 t404 = some r) ∧ Aside0 (kq ≤ kj69) ∧ Aside0 (Kd.R (Kd.int .i64) 3 wc w.heap.size (fun k_ => zO k_ ((.slice Ao25 t347.length co25)) ∧ zO k_ ((.slice Ao26 t350.length co26)) ∧ zO k_ ((.slice Ao27 t353.length co27)) ∧ zO k_ ((.slice Ao43 t371.length co43)) ∧ zO k_ ((.slice Ao44 t374.length co44)) ∧ zO k_ ((.slice Ao45 t377.length co45)) ∧ zO k_ ((.slice Ao46 t380.length co46)) ∧ zO k_ ((.slice Ao133 t418.length co133)) ∧ zO k_ ((.slice Ao134 t421.length co134)) ∧ zO k_ ((.slice Ao135 t424.length co135)) ∧ zO k_ ((.slice Ao136 t427.length co136))) (.slice Ao24 t344.length co24) t344) ∧ Aside0 (Kd.R (Kd.int .i64) 3 wc w.heap.size (fun k_ => zO k_ ((.slice Ao24 t344.length co24)) ∧ zO k_ ((.slice Ao26 t350.length co26)) ∧ zO k_ ((.slice Ao27 t353.length co27)) ∧ zO k_ ((.slice Ao43 t371.length co43)) ∧ zO k_ ((.slice Ao44 t374.length co44)) ∧ zO k_ ((.slice Ao45 t377.length co45)) ∧ zO k_ ((.slice Ao46 t380.length co46)) ∧ zO k_ ((.slice Ao133 t418.length co133)) ∧ zO k_ ((.slice Ao134 t421.length co134)) ∧ zO k_ ((.slice Ao135 t424.length co135)) ∧ zO k_ ((.slice Ao136 t427.length co136))) (.slice Ao25 t347.length co25) t347) ∧ Aside0 (Kd.R (Kd.int .i64) 3 wc w.heap.size (fun k_ => zO k_ ((.slice Ao24 t344.length co24)) ∧ zO k_ ((.slice Ao25 t347.length co25)) ∧ zO k_ ((.slice Ao27 t353.length co27)) ∧ zO k_ ((.slice Ao43 t371.length co43)) ∧ zO k_ ((.slice Ao44 t374.length co44)) ∧ zO k_ ((.slice Ao45 t377.length co45)) ∧ zO k_ ((.slice Ao46 t380.length co46)) ∧ zO k_ ((.slice Ao133 t418.length co133)) ∧ zO k_ ((.slice Ao134 t421.length co134)) ∧ zO k_ ((.slice Ao135 t424.length co135)) ∧ zO k_ ((.slice Ao136 t427.length co136))) (.slice Ao26 t350.length co26) t350) ∧ Aside0 (Kd.R (Kd.int .i64) 3 wc w.heap.size (fun k_ => zO k_ ((.slice Ao24 t344.length co24)) ∧ zO k_ ((.slice Ao25 t347.length co25)) ∧ zO k_ ((.slice Ao26 t350.length co26)) ∧ zO k_ ((.slice Ao43 t371.length co43)) ∧ zO k_ ((.slice Ao44 t374.length co44)) ∧ zO k_ ((.slice Ao45 t377.length co45)) ∧ zO k_ ((.slice Ao46 t380.length co46)) ∧ zO k_ ((.slice Ao133 t418.length co133)) ∧ zO k_ ((.slice Ao134 t421.length co134)) ∧ zO k_ ((.slice Ao135 t424.length co135)) ∧ zO k_ ((.slice Ao136 t427.length co136))) (.slice Ao27 t353.length co27) t353) ∧ Aside0 (Kd.R (Kd.int .i64) 3 wc w.heap.size (fun k_ => zO k_ ((.slice Ao24 t344.length co24)) ∧ zO k_ ((.slice Ao25 t347.length co25)) ∧ zO k_ ((.slice Ao26 t350.length co26)) ∧ zO k_ ((.slice Ao27 t353.length co27)) ∧ zO k_ ((.slice Ao44 t374.length co44)) ∧ zO k_ ((.slice Ao45 t377.length co45)) ∧ zO k_ ((.slice Ao46 t380.length co46)) ∧ zO k_ ((.slice Ao133 t418.length co133)) ∧ zO k_ ((.slice Ao134 t421.length co134)) ∧ zO k_ ((.slice Ao135 t424.length co135)) ∧ zO k_ ((.slice Ao136 t427.length co136))) (.slice Ao43 t371.length co43) t401) ∧ Aside0 (Kd.R (Kd.int .i64) 3 wc w.heap.size (fun k_ => zO k_ ((.slice Ao24 t344.length co24)) ∧ zO k_ ((.slice Ao25 t347.length co25)) ∧ zO k_ ((.slice Ao26 t350.length co26)) ∧ zO k_ ((.slice Ao27 t353.length co27)) ∧ zO k_ ((.slice Ao43 t371.length co43)) ∧ zO k_ ((.slice Ao45 t377.length co45)) ∧ zO k_ ((.slice Ao46 t380.length co46)) ∧ zO k_ ((.slice Ao133 t418.length co133)) ∧ zO k_ ((.slice Ao134 t421.length co134)) ∧ zO k_ ((.slice Ao135 t424.length co135)) ∧ zO k_ ((.slice Ao136 t427.length co136))) (.slice Ao44 t374.length co44) t402) ∧ Aside0 (Kd.R (Kd.int .i64) 3 wc w.heap.size (fun k_ => zO k_ ((.slice Ao24 t344.length co24)) ∧ zO k_ ((.slice Ao25 t347.length co25)) ∧ zO k_ ((.slice Ao26 t350.length co26)) ∧ zO k_ ((.slice Ao27 t353.length co27)) ∧ zO k_ ((.slice Ao43 t371.length co43)) ∧ zO k_ ((.slice Ao44 t374.length co44)) ∧ zO k_ ((.slice Ao46 t380.length co46)) ∧ zO k_ ((.slice Ao133 t418.length co133)) ∧ zO k_ ((.slice Ao134 t421.length co134)) ∧ zO k_ ((.slice Ao135 t424.length co135)) ∧ zO k_ ((.slice Ao136 t427.length co136))) (.slice Ao45 t377.length co45) t403) ∧ Aside0 (Kd.R (Kd.int .i64) 3 wc w.heap.size (fun k_ => zO k_ ((.slice Ao24 t344.length co24)) ∧ zO k_ ((.slice Ao25 t347.length co25)) ∧ zO k_ ((.slice Ao26 t350.length co26)) ∧ zO k_ ((.slice Ao27 t353.length co27)) ∧ zO k_ ((.slice Ao43 t371.length co43)) ∧ zO k_ ((.slice Ao44 t374.length co44)) ∧ zO k_ ((.slice Ao45 t377.length co45)) ∧ zO k_ ((.slice Ao133 t418.length co133)) ∧ zO k_ ((.slice Ao134 t421.length co134)) ∧ zO k_ ((.slice Ao135 t424.length co135)) ∧ zO k_ ((.slice Ao136 t427.length co136))) (.slice Ao46 t380.length co46) t404) ∧ Aside0 (Kd.R (Kd.int .i64) 3 wc w.heap.size (fun k_ => zO k_ ((.slice Ao24 t344.length co24)) ∧ zO k_ ((.slice Ao25 t347.length co25)) ∧ zO k_ ((.slice Ao26 t350.length co26)) ∧ zO k_ ((.slice Ao27 t353.length co27)) ∧ zO k_ ((.slice Ao43 t371.length co43)) ∧ zO k_ ((.slice Ao44 t374.length co44)) ∧ zO k_ ((.slice Ao45 t377.length co45)) ∧ zO k_ ((.slice Ao46 t380.length co46)) ∧ zO k_ ((.slice Ao134 t421.length co134)) ∧ zO k_ ((.slice Ao135 t424.length co135)) ∧ zO k_ ((.slice Ao136 t427.length co136))) (.slice Ao133 t418.length co133) t418) ∧ Aside0 (Kd.R (Kd.int .i64) 3 wc w.heap.size (fun k_ => zO k_ ((.slice Ao24 t344.length co24)) ∧ zO k_ ((.slice Ao25 t347.length co25)) ∧ zO k_ ((.slice Ao26 t350.length co26)) ∧ zO k_ ((.slice Ao27 t353.length co27)) ∧ zO k_ ((.slice Ao43 t371.length co43)) ∧ zO k_ ((.slice Ao44 t374.length co44)) ∧ zO k_ ((.slice Ao45 t377.length co45)) ∧ zO k_ ((.slice Ao46 t380.length co46)) ∧ zO k_ ((.slice Ao133 t418.length co133)) ∧ zO k_ ((.slice Ao135 t424.length co135)) ∧ zO k_ ((.slice Ao136 t427.length co136))) (.slice Ao134 t421.length co134) t421) ∧ Aside0 (Kd.R (Kd.int .i64) 3 wc w.heap.size (fun k_ => zO k_ ((.slice Ao24 t344.length co24)) ∧ zO k_ ((.slice Ao25 t347.length co25)) ∧ zO k_ ((.slice Ao26 t350.length co26)) ∧ zO k_ ((.slice Ao27 t353.length co27)) ∧ zO k_ ((.slice Ao43 t371.length co43)) ∧ zO k_ ((.slice Ao44 t374.length co44)) ∧ zO k_ ((.slice Ao45 t377.length co45)) ∧ zO k_ ((.slice Ao46 t380.length co46)) ∧ zO k_ ((.slice Ao133 t418.length co133)) ∧ zO k_ ((.slice Ao134 t421.length co134)) ∧ zO k_ ((.slice Ao136 t427.length co136))) (.slice Ao135 t424.length co135) t424) ∧ Aside0 (Kd.R (Kd.int .i64) 3 wc w.heap.size (fun k_ => zO k_ ((.slice Ao24 t344.length co24)) ∧ zO k_ ((.slice Ao25 t347.length co25)) ∧ zO k_ ((.slice Ao26 t350.length co26)) ∧ zO k_ ((.slice Ao27 t353.length co27)) ∧ zO k_ ((.slice Ao43 t371.length co43)) ∧ zO k_ ((.slice Ao44 t374.length co44)) ∧ zO k_ ((.slice Ao45 t377.length co45)) ∧ zO k_ ((.slice Ao46 t380.length co46)) ∧ zO k_ ((.slice Ao133 t418.length co133)) ∧ zO k_ ((.slice Ao134 t421.length co134)) ∧ zO k_ ((.slice Ao135 t424.length co135))) (.slice Ao136 t427.length co136) t427) ∧ Aside0 (wc.heap[gb330]? = some (.cells #[.int .i64 a0_0, .int .i64 a0_1, (.slice A0_2 l0_2.length c0_2), (.slice A0_3 l0_3.length c0_3), (.slice A0_4 l0_4.length c0_4)] 25 (0, 0))) ∧ Aside0 (wc.heap[gb357]? = some (.cells #[.int .i64 t343, (.slice Ao24 t344.length co24), (.slice Ao25 t347.length co25), (.slice Ao26 t350.length co26), (.slice Ao27 t353.length co27)] 28 (0, 0))) ∧ Aside0 (wc.heap[gb384]? = some (.cells #[.int .i64 t370, (.slice Ao43 t371.length co43), (.slice Ao44 t374.length co44), (.slice Ao45 t377.length co45), (.slice Ao46 t380.length co46)] 28 (0, 0))) ∧ Aside0 (wc.heap[gb431]? = some (.cells #[.int .i64 t417, (.slice Ao133 t418.length co133), (.slice Ao134 t421.length co134), (.slice Ao135 t424.length co135), (.slice Ao136 t427.length co136)] 28 (0, 0))) ∧ Aside0 (Below w.heap.size w wc))
           case first =>
            have H := HC114.out
            clear HC114
            replace H := Option.bind_eq_some_iff.mp H
            obtain ⟨t432, A1370, H⟩ := H
            replace H : (if t432 = true then (laws_FnExactBuildGraph.j2 kj69 t400 (t430 != t356) t370 t401 t402 t403 t404) else (laws_FnExactBuildGraph.j2 kj69 t400 true t370 t401 t402 t403 t404)) = some r := H
            have A137 := zA A1370
            clear A1370
            by_cases c138 : t432 = true
            ·subst c138
             have H1 : (laws_FnExactBuildGraph.j2 kj69 t400 (t430 != t356) t370 t401 t402 t403 t404) = some r := by rw [if_pos rfl] at H; exact H
             clear H
             have H := H1
             clear H1
             have H' := zA H
             clear H
             have hnb139 := NB431_330.out
             have hnc139 := NB330_431.out
             have hnb140 := NB431_357.out
             have hnc140 := NB357_431.out
             have hnb141 := NB431_384.out
             have hnc141 := NB384_431.out
             obtain ⟨hcz142_0, hcz142_1, hcz142_2, hcz142_3, hcz142_4, hfz142_0, hfz142_1, hfz142_2, hfz142_3, hfz142_4⟩ := zh5 BK431.out
             have hnb143 := NB357_330.out
             have hnc143 := NB330_357.out
             have hnb144 := NB357_384.out
             have hnc144 := NB384_357.out
             obtain ⟨hcz145_0, hcz145_1, hcz145_2, hcz145_3, hcz145_4, hfz145_0, hfz145_1, hfz145_2, hfz145_3, hfz145_4⟩ := zh5 BK357.out
             go_wp2_with (first | ((with_reducible refine gate_callee (f := 17) rfl ?_); refine goesL_ (some 81) rfl rfl Tryd.func17 (by kernel_rfl) rfl #[.agg #[.int .i64 t417, .slice Ao133 t418.length co133, .slice Ao134 t421.length co134, .slice Ao135 t424.length co135, .slice Ao136 t427.length co136], .agg #[.int .i64 t343, .slice Ao24 t344.length co24, .slice Ao25 t347.length co25, .slice Ao26 t350.length co26, .slice Ao27 t353.length co27]] rfl za ?_; (with_reducible refine (laws_eqGraph.calls kj69 t417 _ _ t418 _ _ t421 _ _ t424 _ _ t427 t343 _ _ t344 _ _ t347 _ _ t350 _ _ t353 true _ ?side1 ?side2 ?side3 ?side4 ?side5 ?side6 ?side7 ?side8 ?side9 ?side10 ?side11 ?side12 ?side13 ?side14 ?side15 ?side16 A137.out).mono ?_); (case side1 => exact (Kd.R_reads' (zK HO420.out BK431.out)).2.2); (case side2 => exact (Kd.R_reads' HO420.out).2.1); (case side3 => exact (Kd.R_reads' (zK HO423.out BK431.out)).2.2); (case side4 => exact (Kd.R_reads' HO423.out).2.1); (case side5 => exact (Kd.R_reads' (zK HO426.out BK431.out)).2.2); (case side6 => exact (Kd.R_reads' HO426.out).2.1); (case side7 => exact (Kd.R_reads' (zK HO429.out BK431.out)).2.2); (case side8 => exact (Kd.R_reads' HO429.out).2.1); (case side9 => exact (Kd.R_reads' (zK HO_358001.out BK431.out)).2.2); (case side10 => exact (Kd.R_reads' HO_358001.out).2.1); (case side11 => exact (Kd.R_reads' (zK HO_358002.out BK431.out)).2.2); (case side12 => exact (Kd.R_reads' HO_358002.out).2.1); (case side13 => exact (Kd.R_reads' (zK HO_358003.out BK431.out)).2.2); (case side14 => exact (Kd.R_reads' HO_358003.out).2.1); (case side15 => exact (Kd.R_reads' (zK HO_358004.out BK431.out)).2.2); (case side16 => exact (Kd.R_reads' HO_358004.out).2.1); rintro e w146 ⟨rfl, hb⟩; refine ⟨_, rfl, ?_⟩; have n0_ := zA (Kd.R_below (zK HO_358001.out BK431.out) hb); have n1_ := zA (Kd.R_below (zK HO_358002.out BK431.out) hb); have n2_ := zA (Kd.R_below (zK HO_358003.out BK431.out) hb); have n3_ := zA (Kd.R_below (zK HO_358004.out BK431.out) hb); have n4_ := zA (Kd.R_below (zK HO_385001.out BK431.out) hb); have n5_ := zA (Kd.R_below (zK HO_385002.out BK431.out) hb); have n6_ := zA (Kd.R_below (zK HO_385003.out BK431.out) hb); have n7_ := zA (Kd.R_below (zK HO_385004.out BK431.out) hb); have n8_ := zA (Kd.R_below (zK HO410.out BK431.out) hb); have n9_ := zA (Kd.R_below (zK HO413.out BK431.out) hb); have n10_ := zA (Kd.S_below (zT HO416.out BK431.out) hb); have n11_ := zA (Kd.R_below (zK HO420.out BK431.out) hb); have n12_ := zA (Kd.R_below (zK HO423.out BK431.out) hb); have n13_ := zA (Kd.R_below (zK HO426.out BK431.out) hb); have n14_ := zA (Kd.R_below (zK HO429.out BK431.out) hb); have n15_ := zA (blk_below (g := gb330) (o := .cells #[.int .i64 a0_0, .int .i64 a0_1, .slice A0_2 l0_2.length c0_2, .slice A0_3 l0_3.length c0_3, .slice A0_4 l0_4.length c0_4] 25 (0, 0)) (zf BK330.out NB330_431.out) hb); have n16_ := zA (blk_below (g := gb357) (o := .cells #[.int .i64 t343, .slice Ao24 t344.length co24, .slice Ao25 t347.length co25, .slice Ao26 t350.length co26, .slice Ao27 t353.length co27] 28 (0, 0)) (zf BK357.out NB357_431.out) hb); have n17_ := zA (blk_below (g := gb384) (o := .cells #[.int .i64 t370, .slice Ao43 t371.length co43, .slice Ao44 t374.length co44, .slice Ao45 t377.length co45, .slice Ao46 t380.length co46] 28 (0, 0)) (zf BK384.out NB384_431.out) hb); have n18_ := zA (blk_below (g := gb431) (o := .cells #[.int .i64 t417, .slice Ao133 t418.length co133, .slice Ao134 t421.length co134, .slice Ao135 t424.length co135, .slice Ao136 t427.length co136] 28 (0, 0)) (zq BK431.out) hb); have n19_ := zA (below_step (zs4 GE330.out GE357.out GE384.out GE431.out) hb); clear HO_358001 HO_358002 HO_358003 HO_358004 HO_385001 HO_385002 HO_385003 HO_385004 HO410 HO413 HO416 HO420 HO423 HO426 HO429 BK330 BK357 BK384 BK431 HB; have HO_358001 := n0_; have HO_358002 := n1_; have HO_358003 := n2_; have HO_358004 := n3_; have HO_385001 := n4_; have HO_385002 := n5_; have HO_385003 := n6_; have HO_385004 := n7_; have HO410 := n8_; have HO413 := n9_; have HO416 := n10_; have HO420 := n11_; have HO423 := n12_; have HO426 := n13_; have HO429 := n14_; have BK330 := n15_; have BK357 := n16_; have BK384 := n17_; have BK431 := n18_; have HB := n19_; clear n0_ n1_ n2_ n3_ n4_ n5_ n6_ n7_ n8_ n9_ n10_ n11_ n12_ n13_ n14_ n15_ n16_ n17_ n18_ n19_; (try clear hb); (try clear hb2); (try clear hk); (try clear hi)))
             go_meet
             case rel => exact ⟨_, ((t430 != t356)), zr, H', ⟨by have := HJ10.out; have := HJ69.out; first | omega | exact Nat.le_refl _⟩, ⟨zo HO_358001.out (fun _ hk => ⟨hk.1.1.1.1.1.1.1, ⟨hk.1.1.1.1.1.1.2.1, ⟨hk.1.1.1.1.1.1.2.2.1, ⟨hk.1.1.1.1.1.1.2.2.2.1, ⟨hk.1.1.1.1.1.1.2.2.2.2.1, ⟨hk.1.1.1.1.1.1.2.2.2.2.2.1, ⟨hk.1.1.1.1.1.1.2.2.2.2.2.2, ⟨hk.1.1.1.2, ⟨hk.1.1.2, ⟨hk.1.2, hk.2⟩⟩⟩⟩⟩⟩⟩⟩⟩⟩)⟩, ⟨zo HO_358002.out (fun _ hk => ⟨hk.1.1.1.1.1.1.1, ⟨hk.1.1.1.1.1.1.2.1, ⟨hk.1.1.1.1.1.1.2.2.1, ⟨hk.1.1.1.1.1.1.2.2.2.1, ⟨hk.1.1.1.1.1.1.2.2.2.2.1, ⟨hk.1.1.1.1.1.1.2.2.2.2.2.1, ⟨hk.1.1.1.1.1.1.2.2.2.2.2.2, ⟨hk.1.1.1.2, ⟨hk.1.1.2, ⟨hk.1.2, hk.2⟩⟩⟩⟩⟩⟩⟩⟩⟩⟩)⟩, ⟨zo HO_358003.out (fun _ hk => ⟨hk.1.1.1.1.1.1.1, ⟨hk.1.1.1.1.1.1.2.1, ⟨hk.1.1.1.1.1.1.2.2.1, ⟨hk.1.1.1.1.1.1.2.2.2.1, ⟨hk.1.1.1.1.1.1.2.2.2.2.1, ⟨hk.1.1.1.1.1.1.2.2.2.2.2.1, ⟨hk.1.1.1.1.1.1.2.2.2.2.2.2, ⟨hk.1.1.1.2, ⟨hk.1.1.2, ⟨hk.1.2, hk.2⟩⟩⟩⟩⟩⟩⟩⟩⟩⟩)⟩, ⟨zo HO_358004.out (fun _ hk => ⟨hk.1.1.1.1.1.1.1, ⟨hk.1.1.1.1.1.1.2.1, ⟨hk.1.1.1.1.1.1.2.2.1, ⟨hk.1.1.1.1.1.1.2.2.2.1, ⟨hk.1.1.1.1.1.1.2.2.2.2.1, ⟨hk.1.1.1.1.1.1.2.2.2.2.2.1, ⟨hk.1.1.1.1.1.1.2.2.2.2.2.2, ⟨hk.1.1.1.2, ⟨hk.1.1.2, ⟨hk.1.2, hk.2⟩⟩⟩⟩⟩⟩⟩⟩⟩⟩)⟩, ⟨zo HO_385001.out (fun _ hk => ⟨hk.1.1.1.1.1.1.1, ⟨hk.1.1.1.1.1.1.2.1, ⟨hk.1.1.1.1.1.1.2.2.1, ⟨hk.1.1.1.1.1.1.2.2.2.1, ⟨hk.1.1.1.1.1.1.2.2.2.2.1, ⟨hk.1.1.1.1.1.1.2.2.2.2.2.1, ⟨hk.1.1.1.1.1.1.2.2.2.2.2.2, ⟨hk.1.1.1.2, ⟨hk.1.1.2, ⟨hk.1.2, hk.2⟩⟩⟩⟩⟩⟩⟩⟩⟩⟩)⟩, ⟨zo HO_385002.out (fun _ hk => ⟨hk.1.1.1.1.1.1.1, ⟨hk.1.1.1.1.1.1.2.1, ⟨hk.1.1.1.1.1.1.2.2.1, ⟨hk.1.1.1.1.1.1.2.2.2.1, ⟨hk.1.1.1.1.1.1.2.2.2.2.1, ⟨hk.1.1.1.1.1.1.2.2.2.2.2.1, ⟨hk.1.1.1.1.1.1.2.2.2.2.2.2, ⟨hk.1.1.1.2, ⟨hk.1.1.2, ⟨hk.1.2, hk.2⟩⟩⟩⟩⟩⟩⟩⟩⟩⟩)⟩, ⟨zo HO_385003.out (fun _ hk => ⟨hk.1.1.1.1.1.1.1, ⟨hk.1.1.1.1.1.1.2.1, ⟨hk.1.1.1.1.1.1.2.2.1, ⟨hk.1.1.1.1.1.1.2.2.2.1, ⟨hk.1.1.1.1.1.1.2.2.2.2.1, ⟨hk.1.1.1.1.1.1.2.2.2.2.2.1, ⟨hk.1.1.1.1.1.1.2.2.2.2.2.2, ⟨hk.1.1.1.2, ⟨hk.1.1.2, ⟨hk.1.2, hk.2⟩⟩⟩⟩⟩⟩⟩⟩⟩⟩)⟩, ⟨zo HO_385004.out (fun _ hk => ⟨hk.1.1.1.1.1.1.1, ⟨hk.1.1.1.1.1.1.2.1, ⟨hk.1.1.1.1.1.1.2.2.1, ⟨hk.1.1.1.1.1.1.2.2.2.1, ⟨hk.1.1.1.1.1.1.2.2.2.2.1, ⟨hk.1.1.1.1.1.1.2.2.2.2.2.1, ⟨hk.1.1.1.1.1.1.2.2.2.2.2.2, ⟨hk.1.1.1.2, ⟨hk.1.1.2, ⟨hk.1.2, hk.2⟩⟩⟩⟩⟩⟩⟩⟩⟩⟩)⟩, ⟨zo HO420.out (fun _ hk => ⟨hk.1.1.1.1.1.1.1.1.1.2, ⟨hk.1.1.1.1.1.1.1.1.2, ⟨hk.1.1.1.1.1.1.1.2, ⟨hk.1.1.1.1.1.1.2, ⟨hk.1.1.1.1.1.2, ⟨hk.1.1.1.1.2, ⟨hk.1.1.1.2, ⟨hk.1.1.2, ⟨hk.1.1.1.1.1.1.1.1.1.1.1, ⟨hk.1.1.1.1.1.1.1.1.1.1.2.1, hk.1.1.1.1.1.1.1.1.1.1.2.2⟩⟩⟩⟩⟩⟩⟩⟩⟩⟩)⟩, ⟨zo HO423.out (fun _ hk => ⟨hk.1.1.1.1.1.1.1.1.1.2, ⟨hk.1.1.1.1.1.1.1.1.2, ⟨hk.1.1.1.1.1.1.1.2, ⟨hk.1.1.1.1.1.1.2, ⟨hk.1.1.1.1.1.2, ⟨hk.1.1.1.1.2, ⟨hk.1.1.1.2, ⟨hk.1.1.2, ⟨hk.1.1.1.1.1.1.1.1.1.1.1, ⟨hk.1.1.1.1.1.1.1.1.1.1.2.1, hk.1.1.1.1.1.1.1.1.1.1.2.2⟩⟩⟩⟩⟩⟩⟩⟩⟩⟩)⟩, ⟨zo HO426.out (fun _ hk => ⟨hk.1.1.1.1.1.1.1.1.1.2, ⟨hk.1.1.1.1.1.1.1.1.2, ⟨hk.1.1.1.1.1.1.1.2, ⟨hk.1.1.1.1.1.1.2, ⟨hk.1.1.1.1.1.2, ⟨hk.1.1.1.1.2, ⟨hk.1.1.1.2, ⟨hk.1.1.2, ⟨hk.1.1.1.1.1.1.1.1.1.1.1, ⟨hk.1.1.1.1.1.1.1.1.1.1.2.1, hk.1.1.1.1.1.1.1.1.1.1.2.2⟩⟩⟩⟩⟩⟩⟩⟩⟩⟩)⟩, ⟨zo HO429.out (fun _ hk => ⟨hk.1.1.1.1.1.1.1.1.1.2, ⟨hk.1.1.1.1.1.1.1.1.2, ⟨hk.1.1.1.1.1.1.1.2, ⟨hk.1.1.1.1.1.1.2, ⟨hk.1.1.1.1.1.2, ⟨hk.1.1.1.1.2, ⟨hk.1.1.1.2, ⟨hk.1.1.2, ⟨hk.1.1.1.1.1.1.1.1.1.1.1, ⟨hk.1.1.1.1.1.1.1.1.1.1.2.1, hk.1.1.1.1.1.1.1.1.1.1.2.2⟩⟩⟩⟩⟩⟩⟩⟩⟩⟩)⟩, ⟨zb BK330.out⟩, ⟨zb BK357.out⟩, ⟨zb BK384.out⟩, ⟨zb BK431.out⟩, ⟨(zs4 GE330.out GE357.out GE384.out GE431.out)⟩⟩
            ·replace c138 := Bool.eq_false_iff.mpr c138
             subst c138
             have H1 : (laws_FnExactBuildGraph.j2 kj69 t400 true t370 t401 t402 t403 t404) = some r := by rw [if_neg (show ¬ (false = true) by decide)] at H; exact H
             clear H
             have H := H1
             clear H1
             have H' := zA H
             clear H
             have hnb147 := NB431_330.out
             have hnc147 := NB330_431.out
             have hnb148 := NB431_357.out
             have hnc148 := NB357_431.out
             have hnb149 := NB431_384.out
             have hnc149 := NB384_431.out
             obtain ⟨hcz150_0, hcz150_1, hcz150_2, hcz150_3, hcz150_4, hfz150_0, hfz150_1, hfz150_2, hfz150_3, hfz150_4⟩ := zh5 BK431.out
             have hnb151 := NB357_330.out
             have hnc151 := NB330_357.out
             have hnb152 := NB357_384.out
             have hnc152 := NB384_357.out
             obtain ⟨hcz153_0, hcz153_1, hcz153_2, hcz153_3, hcz153_4, hfz153_0, hfz153_1, hfz153_2, hfz153_3, hfz153_4⟩ := zh5 BK357.out
             go_wp2_with (first | ((with_reducible refine gate_callee (f := 17) rfl ?_); refine goesL_ (some 81) rfl rfl Tryd.func17 (by kernel_rfl) rfl #[.agg #[.int .i64 t417, .slice Ao133 t418.length co133, .slice Ao134 t421.length co134, .slice Ao135 t424.length co135, .slice Ao136 t427.length co136], .agg #[.int .i64 t343, .slice Ao24 t344.length co24, .slice Ao25 t347.length co25, .slice Ao26 t350.length co26, .slice Ao27 t353.length co27]] rfl za ?_; (with_reducible refine (laws_eqGraph.calls kj69 t417 _ _ t418 _ _ t421 _ _ t424 _ _ t427 t343 _ _ t344 _ _ t347 _ _ t350 _ _ t353 false _ ?side1 ?side2 ?side3 ?side4 ?side5 ?side6 ?side7 ?side8 ?side9 ?side10 ?side11 ?side12 ?side13 ?side14 ?side15 ?side16 A137.out).mono ?_); (case side1 => exact (Kd.R_reads' (zK HO420.out BK431.out)).2.2); (case side2 => exact (Kd.R_reads' HO420.out).2.1); (case side3 => exact (Kd.R_reads' (zK HO423.out BK431.out)).2.2); (case side4 => exact (Kd.R_reads' HO423.out).2.1); (case side5 => exact (Kd.R_reads' (zK HO426.out BK431.out)).2.2); (case side6 => exact (Kd.R_reads' HO426.out).2.1); (case side7 => exact (Kd.R_reads' (zK HO429.out BK431.out)).2.2); (case side8 => exact (Kd.R_reads' HO429.out).2.1); (case side9 => exact (Kd.R_reads' (zK HO_358001.out BK431.out)).2.2); (case side10 => exact (Kd.R_reads' HO_358001.out).2.1); (case side11 => exact (Kd.R_reads' (zK HO_358002.out BK431.out)).2.2); (case side12 => exact (Kd.R_reads' HO_358002.out).2.1); (case side13 => exact (Kd.R_reads' (zK HO_358003.out BK431.out)).2.2); (case side14 => exact (Kd.R_reads' HO_358003.out).2.1); (case side15 => exact (Kd.R_reads' (zK HO_358004.out BK431.out)).2.2); (case side16 => exact (Kd.R_reads' HO_358004.out).2.1); rintro e w154 ⟨rfl, hb⟩; refine ⟨_, rfl, ?_⟩; have n0_ := zA (Kd.R_below (zK HO_358001.out BK431.out) hb); have n1_ := zA (Kd.R_below (zK HO_358002.out BK431.out) hb); have n2_ := zA (Kd.R_below (zK HO_358003.out BK431.out) hb); have n3_ := zA (Kd.R_below (zK HO_358004.out BK431.out) hb); have n4_ := zA (Kd.R_below (zK HO_385001.out BK431.out) hb); have n5_ := zA (Kd.R_below (zK HO_385002.out BK431.out) hb); have n6_ := zA (Kd.R_below (zK HO_385003.out BK431.out) hb); have n7_ := zA (Kd.R_below (zK HO_385004.out BK431.out) hb); have n8_ := zA (Kd.R_below (zK HO410.out BK431.out) hb); have n9_ := zA (Kd.R_below (zK HO413.out BK431.out) hb); have n10_ := zA (Kd.S_below (zT HO416.out BK431.out) hb); have n11_ := zA (Kd.R_below (zK HO420.out BK431.out) hb); have n12_ := zA (Kd.R_below (zK HO423.out BK431.out) hb); have n13_ := zA (Kd.R_below (zK HO426.out BK431.out) hb); have n14_ := zA (Kd.R_below (zK HO429.out BK431.out) hb); have n15_ := zA (blk_below (g := gb330) (o := .cells #[.int .i64 a0_0, .int .i64 a0_1, .slice A0_2 l0_2.length c0_2, .slice A0_3 l0_3.length c0_3, .slice A0_4 l0_4.length c0_4] 25 (0, 0)) (zf BK330.out NB330_431.out) hb); have n16_ := zA (blk_below (g := gb357) (o := .cells #[.int .i64 t343, .slice Ao24 t344.length co24, .slice Ao25 t347.length co25, .slice Ao26 t350.length co26, .slice Ao27 t353.length co27] 28 (0, 0)) (zf BK357.out NB357_431.out) hb); have n17_ := zA (blk_below (g := gb384) (o := .cells #[.int .i64 t370, .slice Ao43 t371.length co43, .slice Ao44 t374.length co44, .slice Ao45 t377.length co45, .slice Ao46 t380.length co46] 28 (0, 0)) (zf BK384.out NB384_431.out) hb); have n18_ := zA (blk_below (g := gb431) (o := .cells #[.int .i64 t417, .slice Ao133 t418.length co133, .slice Ao134 t421.length co134, .slice Ao135 t424.length co135, .slice Ao136 t427.length co136] 28 (0, 0)) (zq BK431.out) hb); have n19_ := zA (below_step (zs4 GE330.out GE357.out GE384.out GE431.out) hb); clear HO_358001 HO_358002 HO_358003 HO_358004 HO_385001 HO_385002 HO_385003 HO_385004 HO410 HO413 HO416 HO420 HO423 HO426 HO429 BK330 BK357 BK384 BK431 HB; have HO_358001 := n0_; have HO_358002 := n1_; have HO_358003 := n2_; have HO_358004 := n3_; have HO_385001 := n4_; have HO_385002 := n5_; have HO_385003 := n6_; have HO_385004 := n7_; have HO410 := n8_; have HO413 := n9_; have HO416 := n10_; have HO420 := n11_; have HO423 := n12_; have HO426 := n13_; have HO429 := n14_; have BK330 := n15_; have BK357 := n16_; have BK384 := n17_; have BK431 := n18_; have HB := n19_; clear n0_ n1_ n2_ n3_ n4_ n5_ n6_ n7_ n8_ n9_ n10_ n11_ n12_ n13_ n14_ n15_ n16_ n17_ n18_ n19_; (try clear hb); (try clear hb2); (try clear hk); (try clear hi)))
             go_meet
             case rel => exact ⟨_, (true), zr, H', ⟨by have := HJ10.out; have := HJ69.out; first | omega | exact Nat.le_refl _⟩, ⟨zo HO_358001.out (fun _ hk => ⟨hk.1.1.1.1.1.1.1, ⟨hk.1.1.1.1.1.1.2.1, ⟨hk.1.1.1.1.1.1.2.2.1, ⟨hk.1.1.1.1.1.1.2.2.2.1, ⟨hk.1.1.1.1.1.1.2.2.2.2.1, ⟨hk.1.1.1.1.1.1.2.2.2.2.2.1, ⟨hk.1.1.1.1.1.1.2.2.2.2.2.2, ⟨hk.1.1.1.2, ⟨hk.1.1.2, ⟨hk.1.2, hk.2⟩⟩⟩⟩⟩⟩⟩⟩⟩⟩)⟩, ⟨zo HO_358002.out (fun _ hk => ⟨hk.1.1.1.1.1.1.1, ⟨hk.1.1.1.1.1.1.2.1, ⟨hk.1.1.1.1.1.1.2.2.1, ⟨hk.1.1.1.1.1.1.2.2.2.1, ⟨hk.1.1.1.1.1.1.2.2.2.2.1, ⟨hk.1.1.1.1.1.1.2.2.2.2.2.1, ⟨hk.1.1.1.1.1.1.2.2.2.2.2.2, ⟨hk.1.1.1.2, ⟨hk.1.1.2, ⟨hk.1.2, hk.2⟩⟩⟩⟩⟩⟩⟩⟩⟩⟩)⟩, ⟨zo HO_358003.out (fun _ hk => ⟨hk.1.1.1.1.1.1.1, ⟨hk.1.1.1.1.1.1.2.1, ⟨hk.1.1.1.1.1.1.2.2.1, ⟨hk.1.1.1.1.1.1.2.2.2.1, ⟨hk.1.1.1.1.1.1.2.2.2.2.1, ⟨hk.1.1.1.1.1.1.2.2.2.2.2.1, ⟨hk.1.1.1.1.1.1.2.2.2.2.2.2, ⟨hk.1.1.1.2, ⟨hk.1.1.2, ⟨hk.1.2, hk.2⟩⟩⟩⟩⟩⟩⟩⟩⟩⟩)⟩, ⟨zo HO_358004.out (fun _ hk => ⟨hk.1.1.1.1.1.1.1, ⟨hk.1.1.1.1.1.1.2.1, ⟨hk.1.1.1.1.1.1.2.2.1, ⟨hk.1.1.1.1.1.1.2.2.2.1, ⟨hk.1.1.1.1.1.1.2.2.2.2.1, ⟨hk.1.1.1.1.1.1.2.2.2.2.2.1, ⟨hk.1.1.1.1.1.1.2.2.2.2.2.2, ⟨hk.1.1.1.2, ⟨hk.1.1.2, ⟨hk.1.2, hk.2⟩⟩⟩⟩⟩⟩⟩⟩⟩⟩)⟩, ⟨zo HO_385001.out (fun _ hk => ⟨hk.1.1.1.1.1.1.1, ⟨hk.1.1.1.1.1.1.2.1, ⟨hk.1.1.1.1.1.1.2.2.1, ⟨hk.1.1.1.1.1.1.2.2.2.1, ⟨hk.1.1.1.1.1.1.2.2.2.2.1, ⟨hk.1.1.1.1.1.1.2.2.2.2.2.1, ⟨hk.1.1.1.1.1.1.2.2.2.2.2.2, ⟨hk.1.1.1.2, ⟨hk.1.1.2, ⟨hk.1.2, hk.2⟩⟩⟩⟩⟩⟩⟩⟩⟩⟩)⟩, ⟨zo HO_385002.out (fun _ hk => ⟨hk.1.1.1.1.1.1.1, ⟨hk.1.1.1.1.1.1.2.1, ⟨hk.1.1.1.1.1.1.2.2.1, ⟨hk.1.1.1.1.1.1.2.2.2.1, ⟨hk.1.1.1.1.1.1.2.2.2.2.1, ⟨hk.1.1.1.1.1.1.2.2.2.2.2.1, ⟨hk.1.1.1.1.1.1.2.2.2.2.2.2, ⟨hk.1.1.1.2, ⟨hk.1.1.2, ⟨hk.1.2, hk.2⟩⟩⟩⟩⟩⟩⟩⟩⟩⟩)⟩, ⟨zo HO_385003.out (fun _ hk => ⟨hk.1.1.1.1.1.1.1, ⟨hk.1.1.1.1.1.1.2.1, ⟨hk.1.1.1.1.1.1.2.2.1, ⟨hk.1.1.1.1.1.1.2.2.2.1, ⟨hk.1.1.1.1.1.1.2.2.2.2.1, ⟨hk.1.1.1.1.1.1.2.2.2.2.2.1, ⟨hk.1.1.1.1.1.1.2.2.2.2.2.2, ⟨hk.1.1.1.2, ⟨hk.1.1.2, ⟨hk.1.2, hk.2⟩⟩⟩⟩⟩⟩⟩⟩⟩⟩)⟩, ⟨zo HO_385004.out (fun _ hk => ⟨hk.1.1.1.1.1.1.1, ⟨hk.1.1.1.1.1.1.2.1, ⟨hk.1.1.1.1.1.1.2.2.1, ⟨hk.1.1.1.1.1.1.2.2.2.1, ⟨hk.1.1.1.1.1.1.2.2.2.2.1, ⟨hk.1.1.1.1.1.1.2.2.2.2.2.1, ⟨hk.1.1.1.1.1.1.2.2.2.2.2.2, ⟨hk.1.1.1.2, ⟨hk.1.1.2, ⟨hk.1.2, hk.2⟩⟩⟩⟩⟩⟩⟩⟩⟩⟩)⟩, ⟨zo HO420.out (fun _ hk => ⟨hk.1.1.1.1.1.1.1.1.1.2, ⟨hk.1.1.1.1.1.1.1.1.2, ⟨hk.1.1.1.1.1.1.1.2, ⟨hk.1.1.1.1.1.1.2, ⟨hk.1.1.1.1.1.2, ⟨hk.1.1.1.1.2, ⟨hk.1.1.1.2, ⟨hk.1.1.2, ⟨hk.1.1.1.1.1.1.1.1.1.1.1, ⟨hk.1.1.1.1.1.1.1.1.1.1.2.1, hk.1.1.1.1.1.1.1.1.1.1.2.2⟩⟩⟩⟩⟩⟩⟩⟩⟩⟩)⟩, ⟨zo HO423.out (fun _ hk => ⟨hk.1.1.1.1.1.1.1.1.1.2, ⟨hk.1.1.1.1.1.1.1.1.2, ⟨hk.1.1.1.1.1.1.1.2, ⟨hk.1.1.1.1.1.1.2, ⟨hk.1.1.1.1.1.2, ⟨hk.1.1.1.1.2, ⟨hk.1.1.1.2, ⟨hk.1.1.2, ⟨hk.1.1.1.1.1.1.1.1.1.1.1, ⟨hk.1.1.1.1.1.1.1.1.1.1.2.1, hk.1.1.1.1.1.1.1.1.1.1.2.2⟩⟩⟩⟩⟩⟩⟩⟩⟩⟩)⟩, ⟨zo HO426.out (fun _ hk => ⟨hk.1.1.1.1.1.1.1.1.1.2, ⟨hk.1.1.1.1.1.1.1.1.2, ⟨hk.1.1.1.1.1.1.1.2, ⟨hk.1.1.1.1.1.1.2, ⟨hk.1.1.1.1.1.2, ⟨hk.1.1.1.1.2, ⟨hk.1.1.1.2, ⟨hk.1.1.2, ⟨hk.1.1.1.1.1.1.1.1.1.1.1, ⟨hk.1.1.1.1.1.1.1.1.1.1.2.1, hk.1.1.1.1.1.1.1.1.1.1.2.2⟩⟩⟩⟩⟩⟩⟩⟩⟩⟩)⟩, ⟨zo HO429.out (fun _ hk => ⟨hk.1.1.1.1.1.1.1.1.1.2, ⟨hk.1.1.1.1.1.1.1.1.2, ⟨hk.1.1.1.1.1.1.1.2, ⟨hk.1.1.1.1.1.1.2, ⟨hk.1.1.1.1.1.2, ⟨hk.1.1.1.1.2, ⟨hk.1.1.1.2, ⟨hk.1.1.2, ⟨hk.1.1.1.1.1.1.1.1.1.1.1, ⟨hk.1.1.1.1.1.1.1.1.1.1.2.1, hk.1.1.1.1.1.1.1.1.1.1.2.2⟩⟩⟩⟩⟩⟩⟩⟩⟩⟩)⟩, ⟨zb BK330.out⟩, ⟨zb BK357.out⟩, ⟨zb BK384.out⟩, ⟨zb BK431.out⟩, ⟨(zs4 GE330.out GE357.out GE384.out GE431.out)⟩⟩
           case rest =>
            clear HC114
            (try clear c1); (try clear c2); (try clear p2); (try clear c3); (try clear c3b0); (try clear c4); (try clear c5); (try clear c6); (try clear c7); (try clear c8); (try clear c9); (try clear c10); (try clear c11); (try clear c12); (try clear c13); (try clear c14); (try clear c15); (try clear c16); (try clear c17); (try clear c18); (try clear c19); (try clear c20); (try clear c21); (try clear c22); (try clear c31); (try clear c32); (try clear c39); (try clear c40); (try clear c41); (try clear c48); (try clear c49); (try clear c50); (try clear c51); (try clear c53); (try clear c54); (try clear c57); (try clear c58); (try clear c59); (try clear c61); (try clear c62); (try clear c65); (try clear c68); (try clear c77); (try clear c78); (try clear c79); (try clear c82); (try clear c82b0); (try clear c84); (try clear c85); (try clear c86); (try clear c87); (try clear c89); (try clear c90); (try clear c93); (try clear c94); (try clear c95); (try clear c97); (try clear c98); (try clear c101); (try clear c104); (try clear c104b0); (try clear c105); (try clear c106); (try clear c111); (try clear c111b0); (try clear c111b1); (try clear c115); (try clear c116); (try clear c121); (try clear c129); (try clear c130); (try clear c131); (try clear c138); (try clear c139); (try clear c140); (try clear c141); (try clear c143); (try clear c144); (try clear c147); (try clear c148); (try clear c149); (try clear c151); (try clear c152); (try clear hcz107_0 hcz107_1 hcz107_2 hcz107_3 hcz107_4); (try clear hcz109_0 hcz109_1 hcz109_2 hcz109_3 hcz109_4); (try clear hcz117_0 hcz117_1 hcz117_2 hcz117_3 hcz117_4); (try clear hcz119_0 hcz119_1 hcz119_2 hcz119_3 hcz119_4); (try clear hcz122_0 hcz122_1 hcz122_2 hcz122_3 hcz122_4); (try clear hcz132_0 hcz132_1 hcz132_2 hcz132_3 hcz132_4); (try clear hcz13_0 hcz13_1 hcz13_2 hcz13_3 hcz13_4); (try clear hcz142_0 hcz142_1 hcz142_2 hcz142_3 hcz142_4); (try clear hcz145_0 hcz145_1 hcz145_2 hcz145_3 hcz145_4); (try clear hcz150_0 hcz150_1 hcz150_2 hcz150_3 hcz150_4); (try clear hcz153_0 hcz153_1 hcz153_2 hcz153_3 hcz153_4); (try clear hcz15_0 hcz15_1 hcz15_2 hcz15_3 hcz15_4); (try clear hcz23_0 hcz23_1 hcz23_2 hcz23_3 hcz23_4); (try clear hcz28_0 hcz28_1 hcz28_2 hcz28_3 hcz28_4); (try clear hcz33_0 hcz33_1 hcz33_2 hcz33_3 hcz33_4); (try clear hcz42_0 hcz42_1 hcz42_2 hcz42_3 hcz42_4); (try clear hcz52_0 hcz52_1 hcz52_2 hcz52_3 hcz52_4); (try clear hcz55_0 hcz55_1 hcz55_2 hcz55_3 hcz55_4); (try clear hcz5_0 hcz5_1 hcz5_2 hcz5_3 hcz5_4); (try clear hcz60_0 hcz60_1 hcz60_2 hcz60_3 hcz60_4); (try clear hcz63_0 hcz63_1 hcz63_2 hcz63_3 hcz63_4); (try clear hcz80_0 hcz80_1 hcz80_2 hcz80_3 hcz80_4); (try clear hcz88_0 hcz88_1 hcz88_2 hcz88_3 hcz88_4); (try clear hcz91_0 hcz91_1 hcz91_2 hcz91_3 hcz91_4); (try clear hcz96_0 hcz96_1 hcz96_2 hcz96_3 hcz96_4); (try clear hcz99_0 hcz99_1 hcz99_2 hcz99_3 hcz99_4); (try clear hfz107_0 hfz107_1 hfz107_2 hfz107_3 hfz107_4); (try clear hfz109_0 hfz109_1 hfz109_2 hfz109_3 hfz109_4); (try clear hfz117_0 hfz117_1 hfz117_2 hfz117_3 hfz117_4); (try clear hfz119_0 hfz119_1 hfz119_2 hfz119_3 hfz119_4); (try clear hfz122_0 hfz122_1 hfz122_2 hfz122_3 hfz122_4); (try clear hfz132_0 hfz132_1 hfz132_2 hfz132_3 hfz132_4); (try clear hfz13_0 hfz13_1 hfz13_2 hfz13_3 hfz13_4); (try clear hfz142_0 hfz142_1 hfz142_2 hfz142_3 hfz142_4); (try clear hfz145_0 hfz145_1 hfz145_2 hfz145_3 hfz145_4); (try clear hfz150_0 hfz150_1 hfz150_2 hfz150_3 hfz150_4); (try clear hfz153_0 hfz153_1 hfz153_2 hfz153_3 hfz153_4); (try clear hfz15_0 hfz15_1 hfz15_2 hfz15_3 hfz15_4); (try clear hfz23_0 hfz23_1 hfz23_2 hfz23_3 hfz23_4); (try clear hfz28_0 hfz28_1 hfz28_2 hfz28_3 hfz28_4); (try clear hfz33_0 hfz33_1 hfz33_2 hfz33_3 hfz33_4); (try clear hfz42_0 hfz42_1 hfz42_2 hfz42_3 hfz42_4); (try clear hfz52_0 hfz52_1 hfz52_2 hfz52_3 hfz52_4); (try clear hfz55_0 hfz55_1 hfz55_2 hfz55_3 hfz55_4); (try clear hfz5_0 hfz5_1 hfz5_2 hfz5_3 hfz5_4); (try clear hfz60_0 hfz60_1 hfz60_2 hfz60_3 hfz60_4); (try clear hfz63_0 hfz63_1 hfz63_2 hfz63_3 hfz63_4); (try clear hfz80_0 hfz80_1 hfz80_2 hfz80_3 hfz80_4); (try clear hfz88_0 hfz88_1 hfz88_2 hfz88_3 hfz88_4); (try clear hfz91_0 hfz91_1 hfz91_2 hfz91_3 hfz91_4); (try clear hfz96_0 hfz96_1 hfz96_2 hfz96_3 hfz96_4); (try clear hfz99_0 hfz99_1 hfz99_2 hfz99_3 hfz99_4); (try clear p2)
            obtain ⟨kq, x87_113, rfl, HA, HJ113, HO_358001, HO_358002, HO_358003, HO_358004, HO_385001, HO_385002, HO_385003, HO_385004, HO_432001, HO_432002, HO_432003, HO_432004, BK330, BK357, BK384, BK431, HB⟩ := hcut
            have hl385001_113 := (Kd.R_reads' HO_385001.out).1
            rw [hl385001_113] at HO_385001
            (try simp only [hl385001_113])
            (try simp only [hl385001_113] at BK330)
            (try simp only [hl385001_113] at BK357)
            (try simp only [hl385001_113] at BK384)
            (try simp only [hl385001_113] at BK431)
            (try simp only [hl385001_113] at HO_358001)
            (try simp only [hl385001_113] at HO_358002)
            (try simp only [hl385001_113] at HO_358003)
            (try simp only [hl385001_113] at HO_358004)
            (try simp only [hl385001_113] at HO_385002)
            (try simp only [hl385001_113] at HO_385003)
            (try simp only [hl385001_113] at HO_385004)
            (try simp only [hl385001_113] at HO_432001)
            (try simp only [hl385001_113] at HO_432002)
            (try simp only [hl385001_113] at HO_432003)
            (try simp only [hl385001_113] at HO_432004)
            have hl385002_113 := (Kd.R_reads' HO_385002.out).1
            rw [hl385002_113] at HO_385002
            (try simp only [hl385002_113])
            (try simp only [hl385002_113] at BK330)
            (try simp only [hl385002_113] at BK357)
            (try simp only [hl385002_113] at BK384)
            (try simp only [hl385002_113] at BK431)
            (try simp only [hl385002_113] at HO_358001)
            (try simp only [hl385002_113] at HO_358002)
            (try simp only [hl385002_113] at HO_358003)
            (try simp only [hl385002_113] at HO_358004)
            (try simp only [hl385002_113] at HO_385001)
            (try simp only [hl385002_113] at HO_385003)
            (try simp only [hl385002_113] at HO_385004)
            (try simp only [hl385002_113] at HO_432001)
            (try simp only [hl385002_113] at HO_432002)
            (try simp only [hl385002_113] at HO_432003)
            (try simp only [hl385002_113] at HO_432004)
            have hl385003_113 := (Kd.R_reads' HO_385003.out).1
            rw [hl385003_113] at HO_385003
            (try simp only [hl385003_113])
            (try simp only [hl385003_113] at BK330)
            (try simp only [hl385003_113] at BK357)
            (try simp only [hl385003_113] at BK384)
            (try simp only [hl385003_113] at BK431)
            (try simp only [hl385003_113] at HO_358001)
            (try simp only [hl385003_113] at HO_358002)
            (try simp only [hl385003_113] at HO_358003)
            (try simp only [hl385003_113] at HO_358004)
            (try simp only [hl385003_113] at HO_385001)
            (try simp only [hl385003_113] at HO_385002)
            (try simp only [hl385003_113] at HO_385004)
            (try simp only [hl385003_113] at HO_432001)
            (try simp only [hl385003_113] at HO_432002)
            (try simp only [hl385003_113] at HO_432003)
            (try simp only [hl385003_113] at HO_432004)
            have hl385004_113 := (Kd.R_reads' HO_385004.out).1
            rw [hl385004_113] at HO_385004
            (try simp only [hl385004_113])
            (try simp only [hl385004_113] at BK330)
            (try simp only [hl385004_113] at BK357)
            (try simp only [hl385004_113] at BK384)
            (try simp only [hl385004_113] at BK431)
            (try simp only [hl385004_113] at HO_358001)
            (try simp only [hl385004_113] at HO_358002)
            (try simp only [hl385004_113] at HO_358003)
            (try simp only [hl385004_113] at HO_358004)
            (try simp only [hl385004_113] at HO_385001)
            (try simp only [hl385004_113] at HO_385002)
            (try simp only [hl385004_113] at HO_385003)
            (try simp only [hl385004_113] at HO_432001)
            (try simp only [hl385004_113] at HO_432002)
            (try simp only [hl385004_113] at HO_432003)
            (try simp only [hl385004_113] at HO_432004)
            cases kq with
            | zero => exact absurd HA.out (by simp [laws_FnExactBuildGraph.j2])
            | succ kj113 =>
             have H := HA.out
             clear HA
             simp only [laws_FnExactBuildGraph.j2] at H
             by_cases c155 : x87_113 = true
             ·subst c155
              have H1 : (some false) = some r := by rw [if_pos rfl] at H; exact H
              clear H
              have H := H1
              clear H1
              obtain rfl := Option.some.inj H
              go_wp2
              go_ret
              exact ⟨ze, (zs4 GE330.out GE357.out GE384.out GE431.out)⟩
             ·replace c155 := Bool.eq_false_iff.mpr c155
              subst c155
              have H1 : ((laws_heldGraph.f kj113 t370 t401 t402 t403 t404 1).bind fun t433 => (if t433 < 0 then (some false) else (if t433 = t400 then (some true) else (some false)))) = some r := by rw [if_neg (show ¬ (false = true) by decide)] at H; exact H
              clear H
              have H := H1
              clear H1
              replace H := Option.bind_eq_some_iff.mp H
              obtain ⟨t433, A1560, H⟩ := H
              replace H : (if t433 < 0 then (some false) else (if t433 = t400 then (some true) else (some false))) = some r := H
              have A156 := zA A1560
              clear A1560
              by_cases c157 : t433 < 0
              ·rw [if_pos c157] at H
               have c157b0 : decide (t433 < 0) = true := decide_eq_true c157
               clear c157
               obtain rfl := Option.some.inj H
               have hnb158 := NB384_330.out
               have hnc158 := NB330_384.out
               have hnb159 := NB384_357.out
               have hnc159 := NB357_384.out
               have hnb160 := NB384_431.out
               have hnc160 := NB431_384.out
               obtain ⟨hcz161_0, hcz161_1, hcz161_2, hcz161_3, hcz161_4, hfz161_0, hfz161_1, hfz161_2, hfz161_3, hfz161_4⟩ := zh5 BK384.out
               go_wp2_with (first | ((with_reducible refine gate_callee (f := 21) rfl ?_); refine goesL_ (some 90) rfl rfl Tryd.func21 (by kernel_rfl) rfl #[.agg #[.int .i64 t370, .slice Ao43 t401.length co43, .slice Ao44 t402.length co44, .slice Ao45 t403.length co45, .slice Ao46 t404.length co46], .int .i64 1] rfl za ?_; (with_reducible refine (laws_heldGraph.calls kj113 t370 _ _ t401 _ _ t402 _ _ t403 _ _ t404 1 t433 _ ?side1 ?side2 ?side3 ?side4 ?side5 ?side6 ?side7 ?side8 A156.out).mono ?_); (case side1 => exact zc ((Kd.R_reads' HO_385001.out).2.2)); (case side2 => exact (Kd.R_reads' HO_385001.out).2.1); (case side3 => exact zc ((Kd.R_reads' HO_385002.out).2.2)); (case side4 => exact (Kd.R_reads' HO_385002.out).2.1); (case side5 => exact zc ((Kd.R_reads' HO_385003.out).2.2)); (case side6 => exact (Kd.R_reads' HO_385003.out).2.1); (case side7 => exact zc ((Kd.R_reads' HO_385004.out).2.2)); (case side8 => exact (Kd.R_reads' HO_385004.out).2.1); rintro e w162 ⟨rfl, hb⟩; refine ⟨_, rfl, ?_⟩; have n0_ := zA (Kd.R_below (zR HO_358001.out) hb); have n1_ := zA (Kd.R_below (zR HO_358002.out) hb); have n2_ := zA (Kd.R_below (zR HO_358003.out) hb); have n3_ := zA (Kd.R_below (zR HO_358004.out) hb); have n4_ := zA (Kd.R_below (zR HO_385001.out) hb); have n5_ := zA (Kd.R_below (zR HO_385002.out) hb); have n6_ := zA (Kd.R_below (zR HO_385003.out) hb); have n7_ := zA (Kd.R_below (zR HO_385004.out) hb); have n8_ := zA (Kd.R_below (zR HO_432001.out) hb); have n9_ := zA (Kd.R_below (zR HO_432002.out) hb); have n10_ := zA (Kd.R_below (zR HO_432003.out) hb); have n11_ := zA (Kd.R_below (zR HO_432004.out) hb); have n12_ := zA (zB BK330.out hb); have n13_ := zA (zB BK357.out hb); have n14_ := zA (zB BK384.out hb); have n15_ := zA (zB BK431.out hb); have n16_ := zA (below_step (zs4 GE330.out GE357.out GE384.out GE431.out) hb); clear HO_358001 HO_358002 HO_358003 HO_358004 HO_385001 HO_385002 HO_385003 HO_385004 HO_432001 HO_432002 HO_432003 HO_432004 BK330 BK357 BK384 BK431 HB; have HO_358001 := n0_; have HO_358002 := n1_; have HO_358003 := n2_; have HO_358004 := n3_; have HO_385001 := n4_; have HO_385002 := n5_; have HO_385003 := n6_; have HO_385004 := n7_; have HO_432001 := n8_; have HO_432002 := n9_; have HO_432003 := n10_; have HO_432004 := n11_; have BK330 := n12_; have BK357 := n13_; have BK384 := n14_; have BK431 := n15_; have HB := n16_; clear n0_ n1_ n2_ n3_ n4_ n5_ n6_ n7_ n8_ n9_ n10_ n11_ n12_ n13_ n14_ n15_ n16_; (try clear hb); (try clear hb2); (try clear hk); (try clear hi)))
               go_ret
               exact ⟨ze, (zs4 GE330.out GE357.out GE384.out GE431.out)⟩
              ·rw [if_neg c157] at H
               have c157b0 : decide (t433 < 0) = false := decide_eq_false c157
               clear c157
               by_cases c163 : t433 = t400
               ·rw [if_pos c163] at H
                have c163b0 : (t433 == t400) = true := beq_iff_eq.mpr c163
                have c163b1 : (t433 != t400) = false := bne_eq_false_iff_eq.mpr c163
                clear c163
                obtain rfl := Option.some.inj H
                have hnb164 := NB384_330.out
                have hnc164 := NB330_384.out
                have hnb165 := NB384_357.out
                have hnc165 := NB357_384.out
                have hnb166 := NB384_431.out
                have hnc166 := NB431_384.out
                obtain ⟨hcz167_0, hcz167_1, hcz167_2, hcz167_3, hcz167_4, hfz167_0, hfz167_1, hfz167_2, hfz167_3, hfz167_4⟩ := zh5 BK384.out
                go_wp2_with (first | ((with_reducible refine gate_callee (f := 21) rfl ?_); refine goesL_ (some 90) rfl rfl Tryd.func21 (by kernel_rfl) rfl #[.agg #[.int .i64 t370, .slice Ao43 t401.length co43, .slice Ao44 t402.length co44, .slice Ao45 t403.length co45, .slice Ao46 t404.length co46], .int .i64 1] rfl za ?_; (with_reducible refine (laws_heldGraph.calls kj113 t370 _ _ t401 _ _ t402 _ _ t403 _ _ t404 1 t433 _ ?side1 ?side2 ?side3 ?side4 ?side5 ?side6 ?side7 ?side8 A156.out).mono ?_); (case side1 => exact zc ((Kd.R_reads' HO_385001.out).2.2)); (case side2 => exact (Kd.R_reads' HO_385001.out).2.1); (case side3 => exact zc ((Kd.R_reads' HO_385002.out).2.2)); (case side4 => exact (Kd.R_reads' HO_385002.out).2.1); (case side5 => exact zc ((Kd.R_reads' HO_385003.out).2.2)); (case side6 => exact (Kd.R_reads' HO_385003.out).2.1); (case side7 => exact zc ((Kd.R_reads' HO_385004.out).2.2)); (case side8 => exact (Kd.R_reads' HO_385004.out).2.1); rintro e w168 ⟨rfl, hb⟩; refine ⟨_, rfl, ?_⟩; have n0_ := zA (Kd.R_below (zR HO_358001.out) hb); have n1_ := zA (Kd.R_below (zR HO_358002.out) hb); have n2_ := zA (Kd.R_below (zR HO_358003.out) hb); have n3_ := zA (Kd.R_below (zR HO_358004.out) hb); have n4_ := zA (Kd.R_below (zR HO_385001.out) hb); have n5_ := zA (Kd.R_below (zR HO_385002.out) hb); have n6_ := zA (Kd.R_below (zR HO_385003.out) hb); have n7_ := zA (Kd.R_below (zR HO_385004.out) hb); have n8_ := zA (Kd.R_below (zR HO_432001.out) hb); have n9_ := zA (Kd.R_below (zR HO_432002.out) hb); have n10_ := zA (Kd.R_below (zR HO_432003.out) hb); have n11_ := zA (Kd.R_below (zR HO_432004.out) hb); have n12_ := zA (zB BK330.out hb); have n13_ := zA (zB BK357.out hb); have n14_ := zA (zB BK384.out hb); have n15_ := zA (zB BK431.out hb); have n16_ := zA (below_step (zs4 GE330.out GE357.out GE384.out GE431.out) hb); clear HO_358001 HO_358002 HO_358003 HO_358004 HO_385001 HO_385002 HO_385003 HO_385004 HO_432001 HO_432002 HO_432003 HO_432004 BK330 BK357 BK384 BK431 HB; have HO_358001 := n0_; have HO_358002 := n1_; have HO_358003 := n2_; have HO_358004 := n3_; have HO_385001 := n4_; have HO_385002 := n5_; have HO_385003 := n6_; have HO_385004 := n7_; have HO_432001 := n8_; have HO_432002 := n9_; have HO_432003 := n10_; have HO_432004 := n11_; have BK330 := n12_; have BK357 := n13_; have BK384 := n14_; have BK431 := n15_; have HB := n16_; clear n0_ n1_ n2_ n3_ n4_ n5_ n6_ n7_ n8_ n9_ n10_ n11_ n12_ n13_ n14_ n15_ n16_; (try clear hb); (try clear hb2); (try clear hk); (try clear hi)))
                go_ret
                exact ⟨ze, (zs4 GE330.out GE357.out GE384.out GE431.out)⟩
               ·rw [if_neg c163] at H
                have c163b0 : (t433 == t400) = false := beq_eq_false_iff_ne.mpr c163
                have c163b1 : (t433 != t400) = true := bne_iff_ne.mpr c163
                obtain rfl := Option.some.inj H
                have hnb169 := NB384_330.out
                have hnc169 := NB330_384.out
                have hnb170 := NB384_357.out
                have hnc170 := NB357_384.out
                have hnb171 := NB384_431.out
                have hnc171 := NB431_384.out
                obtain ⟨hcz172_0, hcz172_1, hcz172_2, hcz172_3, hcz172_4, hfz172_0, hfz172_1, hfz172_2, hfz172_3, hfz172_4⟩ := zh5 BK384.out
                go_wp2_with (first | ((with_reducible refine gate_callee (f := 21) rfl ?_); refine goesL_ (some 90) rfl rfl Tryd.func21 (by kernel_rfl) rfl #[.agg #[.int .i64 t370, .slice Ao43 t401.length co43, .slice Ao44 t402.length co44, .slice Ao45 t403.length co45, .slice Ao46 t404.length co46], .int .i64 1] rfl za ?_; (with_reducible refine (laws_heldGraph.calls kj113 t370 _ _ t401 _ _ t402 _ _ t403 _ _ t404 1 t433 _ ?side1 ?side2 ?side3 ?side4 ?side5 ?side6 ?side7 ?side8 A156.out).mono ?_); (case side1 => exact zc ((Kd.R_reads' HO_385001.out).2.2)); (case side2 => exact (Kd.R_reads' HO_385001.out).2.1); (case side3 => exact zc ((Kd.R_reads' HO_385002.out).2.2)); (case side4 => exact (Kd.R_reads' HO_385002.out).2.1); (case side5 => exact zc ((Kd.R_reads' HO_385003.out).2.2)); (case side6 => exact (Kd.R_reads' HO_385003.out).2.1); (case side7 => exact zc ((Kd.R_reads' HO_385004.out).2.2)); (case side8 => exact (Kd.R_reads' HO_385004.out).2.1); rintro e w173 ⟨rfl, hb⟩; refine ⟨_, rfl, ?_⟩; have n0_ := zA (Kd.R_below (zR HO_358001.out) hb); have n1_ := zA (Kd.R_below (zR HO_358002.out) hb); have n2_ := zA (Kd.R_below (zR HO_358003.out) hb); have n3_ := zA (Kd.R_below (zR HO_358004.out) hb); have n4_ := zA (Kd.R_below (zR HO_385001.out) hb); have n5_ := zA (Kd.R_below (zR HO_385002.out) hb); have n6_ := zA (Kd.R_below (zR HO_385003.out) hb); have n7_ := zA (Kd.R_below (zR HO_385004.out) hb); have n8_ := zA (Kd.R_below (zR HO_432001.out) hb); have n9_ := zA (Kd.R_below (zR HO_432002.out) hb); have n10_ := zA (Kd.R_below (zR HO_432003.out) hb); have n11_ := zA (Kd.R_below (zR HO_432004.out) hb); have n12_ := zA (zB BK330.out hb); have n13_ := zA (zB BK357.out hb); have n14_ := zA (zB BK384.out hb); have n15_ := zA (zB BK431.out hb); have n16_ := zA (below_step (zs4 GE330.out GE357.out GE384.out GE431.out) hb); clear HO_358001 HO_358002 HO_358003 HO_358004 HO_385001 HO_385002 HO_385003 HO_385004 HO_432001 HO_432002 HO_432003 HO_432004 BK330 BK357 BK384 BK431 HB; have HO_358001 := n0_; have HO_358002 := n1_; have HO_358003 := n2_; have HO_358004 := n3_; have HO_385001 := n4_; have HO_385002 := n5_; have HO_385003 := n6_; have HO_385004 := n7_; have HO_432001 := n8_; have HO_432002 := n9_; have HO_432003 := n10_; have HO_432004 := n11_; have BK330 := n12_; have BK357 := n13_; have BK384 := n14_; have BK431 := n15_; have HB := n16_; clear n0_ n1_ n2_ n3_ n4_ n5_ n6_ n7_ n8_ n9_ n10_ n11_ n12_ n13_ n14_ n15_ n16_; (try clear hb); (try clear hb2); (try clear hk); (try clear hi)))
                go_ret
                exact ⟨ze, (zs4 GE330.out GE357.out GE384.out GE431.out)⟩
          ·rw [if_neg c111] at H
           have c111b0 : (t405 == t400) = false := beq_eq_false_iff_ne.mpr c111
           have c111b1 : (t405 != t400) = true := bne_iff_ne.mpr c111
           obtain rfl := Option.some.inj H
           have hnb174 := NB384_330.out
           have hnc174 := NB330_384.out
           have hnb175 := NB384_357.out
           have hnc175 := NB357_384.out
           obtain ⟨hcz176_0, hcz176_1, hcz176_2, hcz176_3, hcz176_4, hfz176_0, hfz176_1, hfz176_2, hfz176_3, hfz176_4⟩ := zh5 BK384.out
           go_wp2_with (first | ((with_reducible refine gate_callee (f := 20) rfl ?_); refine goesL_ (some 64) rfl rfl Tryd.func20 (by kernel_rfl) rfl #[.agg #[.int .i64 t370, .slice Ao43 t371.length co43, .slice Ao44 t374.length co44, .slice Ao45 t377.length co45, .slice Ao46 t380.length co46], .int .i64 1] rfl za ?_; (with_reducible refine (laws_markGraph.calls kj69 t370 (fun k_ => some k_ = (.slice Ao43 t371.length co43 : Value).ownBlock) (.slice Ao43 t371.length co43) t371 (fun k_ => some k_ = (.slice Ao44 t374.length co44 : Value).ownBlock) (.slice Ao44 t374.length co44) t374 (fun k_ => some k_ = (.slice Ao45 t377.length co45 : Value).ownBlock) (.slice Ao45 t377.length co45) t377 (fun k_ => some k_ = (.slice Ao46 t380.length co46 : Value).ownBlock) (.slice Ao46 t380.length co46) t380 1 t400 t401 t402 t403 t404 w _ ?side1 ?side2 ?side3 ?side4 ?side5 ?side6 ?side7 ?side8 ?side9 ?side10 ?side11 ?side12 ?side13 ?side14 ?side15 ?side16 ?side17 A102.out).mono ?_); (case side1 => repeat (first | (with_reducible first | exact HB.out | apply below_alloc | apply pw_below_drewN | apply below_drew1 | refine below_set ?_ GE330.out | refine below_set ?_ GE357.out | refine below_set ?_ GE384.out) | exact HB.out)); (case side2 => exact Kd.R_tight rfl HO_385001.out); (case side3 => exact fun k_ e_ => (HO_385001.out.1 k_ e_.symm).2.2.2.2.1); (case side4 => exact fun k_ e_ => (HO_385001.out.1 k_ e_.symm).2.2.2.2.2.1); (case side5 => exact fun k_ e_ => (HO_385001.out.1 k_ e_.symm).2.2.2.2.2.2); (case side6 => exact Kd.R_tight rfl HO_385002.out); (case side7 => exact fun k_ e_ => (HO_385002.out.1 k_ e_.symm).2.2.2.2.1); (case side8 => exact fun k_ e_ => (HO_385002.out.1 k_ e_.symm).2.2.2.2.2.1); (case side9 => exact fun k_ e_ => (HO_385002.out.1 k_ e_.symm).2.2.2.2.2.2); (case side10 => exact Kd.R_tight rfl HO_385003.out); (case side11 => exact fun k_ e_ => (HO_385003.out.1 k_ e_.symm).2.2.2.2.1); (case side12 => exact fun k_ e_ => (HO_385003.out.1 k_ e_.symm).2.2.2.2.2.1); (case side13 => exact fun k_ e_ => (HO_385003.out.1 k_ e_.symm).2.2.2.2.2.2); (case side14 => exact Kd.R_tight rfl HO_385004.out); (case side15 => exact fun k_ e_ => (HO_385004.out.1 k_ e_.symm).2.2.2.2.1); (case side16 => exact fun k_ e_ => (HO_385004.out.1 k_ e_.symm).2.2.2.2.2.1); (case side17 => exact fun k_ e_ => (HO_385004.out.1 k_ e_.symm).2.2.2.2.2.2); rintro e w177 ⟨rfl, hy0, hy1, hy2, hy3, hb, hkp⟩; refine ⟨_, rfl, ?_⟩; have n0_ := zA (Kd.R_mono (ok' := fun k_ => zO k_ (.slice Ao25 t347.length co25) ∧ zO k_ (.slice Ao26 t350.length co26) ∧ zO k_ (.slice Ao27 t353.length co27) ∧ zO k_ (.slice Ao43 t371.length co43) ∧ zO k_ (.slice Ao44 t374.length co44) ∧ zO k_ (.slice Ao45 t377.length co45) ∧ zO k_ (.slice Ao46 t380.length co46)) (Kd.R_keptB (HO_358001.out) hkp (fun k_ hk_ hs_ => Or.elim hs_ (fun e_ => (hk_.2.2.2.1) e_) (fun e_ => Or.elim e_ (fun e_ => (hk_.2.2.2.2.1) e_) (fun e_ => Or.elim e_ (fun e_ => (hk_.2.2.2.2.2.1) e_) (fun e_ => (hk_.2.2.2.2.2.2) e_))))) (fun k_ hk_ => ⟨hk_.1.1, hk_.1.2.1, hk_.1.2.2.1, hk_.1.2.2.2.1, hk_.1.2.2.2.2.1, hk_.1.2.2.2.2.2.1, hk_.1.2.2.2.2.2.2⟩)); have n1_ := zA (Kd.R_mono (ok' := fun k_ => zO k_ (.slice Ao24 t344.length co24) ∧ zO k_ (.slice Ao26 t350.length co26) ∧ zO k_ (.slice Ao27 t353.length co27) ∧ zO k_ (.slice Ao43 t371.length co43) ∧ zO k_ (.slice Ao44 t374.length co44) ∧ zO k_ (.slice Ao45 t377.length co45) ∧ zO k_ (.slice Ao46 t380.length co46)) (Kd.R_keptB (HO_358002.out) hkp (fun k_ hk_ hs_ => Or.elim hs_ (fun e_ => (hk_.2.2.2.1) e_) (fun e_ => Or.elim e_ (fun e_ => (hk_.2.2.2.2.1) e_) (fun e_ => Or.elim e_ (fun e_ => (hk_.2.2.2.2.2.1) e_) (fun e_ => (hk_.2.2.2.2.2.2) e_))))) (fun k_ hk_ => ⟨hk_.1.1, hk_.1.2.1, hk_.1.2.2.1, hk_.1.2.2.2.1, hk_.1.2.2.2.2.1, hk_.1.2.2.2.2.2.1, hk_.1.2.2.2.2.2.2⟩)); have n2_ := zA (Kd.R_mono (ok' := fun k_ => zO k_ (.slice Ao24 t344.length co24) ∧ zO k_ (.slice Ao25 t347.length co25) ∧ zO k_ (.slice Ao27 t353.length co27) ∧ zO k_ (.slice Ao43 t371.length co43) ∧ zO k_ (.slice Ao44 t374.length co44) ∧ zO k_ (.slice Ao45 t377.length co45) ∧ zO k_ (.slice Ao46 t380.length co46)) (Kd.R_keptB (HO_358003.out) hkp (fun k_ hk_ hs_ => Or.elim hs_ (fun e_ => (hk_.2.2.2.1) e_) (fun e_ => Or.elim e_ (fun e_ => (hk_.2.2.2.2.1) e_) (fun e_ => Or.elim e_ (fun e_ => (hk_.2.2.2.2.2.1) e_) (fun e_ => (hk_.2.2.2.2.2.2) e_))))) (fun k_ hk_ => ⟨hk_.1.1, hk_.1.2.1, hk_.1.2.2.1, hk_.1.2.2.2.1, hk_.1.2.2.2.2.1, hk_.1.2.2.2.2.2.1, hk_.1.2.2.2.2.2.2⟩)); have n3_ := zA (Kd.R_mono (ok' := fun k_ => zO k_ (.slice Ao24 t344.length co24) ∧ zO k_ (.slice Ao25 t347.length co25) ∧ zO k_ (.slice Ao26 t350.length co26) ∧ zO k_ (.slice Ao43 t371.length co43) ∧ zO k_ (.slice Ao44 t374.length co44) ∧ zO k_ (.slice Ao45 t377.length co45) ∧ zO k_ (.slice Ao46 t380.length co46)) (Kd.R_keptB (HO_358004.out) hkp (fun k_ hk_ hs_ => Or.elim hs_ (fun e_ => (hk_.2.2.2.1) e_) (fun e_ => Or.elim e_ (fun e_ => (hk_.2.2.2.2.1) e_) (fun e_ => Or.elim e_ (fun e_ => (hk_.2.2.2.2.2.1) e_) (fun e_ => (hk_.2.2.2.2.2.2) e_))))) (fun k_ hk_ => ⟨hk_.1.1, hk_.1.2.1, hk_.1.2.2.1, hk_.1.2.2.2.1, hk_.1.2.2.2.2.1, hk_.1.2.2.2.2.2.1, hk_.1.2.2.2.2.2.2⟩)); have n4_ := zA (Kd.R_reok rfl hy0 (fun k_ e_ => HO_385001.out.1 k_ e_)); have n5_ := zA (Kd.R_reok rfl hy1 (fun k_ e_ => HO_385002.out.1 k_ e_)); have n6_ := zA (Kd.R_reok rfl hy2 (fun k_ e_ => HO_385003.out.1 k_ e_)); have n7_ := zA (Kd.R_reok rfl hy3 (fun k_ e_ => HO_385004.out.1 k_ e_)); have n8_ := zA (blk_kept (zb BK330.out) hkp (fun hs_ => Or.elim hs_ (fun e_ => (fun e_ => (Kd.R_ne HO_385001.out BK330.out (by decide)) e_) e_) (fun e_ => Or.elim e_ (fun e_ => (fun e_ => (Kd.R_ne HO_385002.out BK330.out (by decide)) e_) e_) (fun e_ => Or.elim e_ (fun e_ => (fun e_ => (Kd.R_ne HO_385003.out BK330.out (by decide)) e_) e_) (fun e_ => (fun e_ => (Kd.R_ne HO_385004.out BK330.out (by decide)) e_) e_))))); have n9_ := zA (blk_kept (zb BK357.out) hkp (fun hs_ => Or.elim hs_ (fun e_ => (fun e_ => (Kd.R_ne HO_385001.out BK357.out (by decide)) e_) e_) (fun e_ => Or.elim e_ (fun e_ => (fun e_ => (Kd.R_ne HO_385002.out BK357.out (by decide)) e_) e_) (fun e_ => Or.elim e_ (fun e_ => (fun e_ => (Kd.R_ne HO_385003.out BK357.out (by decide)) e_) e_) (fun e_ => (fun e_ => (Kd.R_ne HO_385004.out BK357.out (by decide)) e_) e_))))); have n10_ := zA (blk_kept (zb BK384.out) hkp (fun hs_ => Or.elim hs_ (fun e_ => (fun e_ => (Kd.R_ne HO_385001.out BK384.out (by decide)) e_) e_) (fun e_ => Or.elim e_ (fun e_ => (fun e_ => (Kd.R_ne HO_385002.out BK384.out (by decide)) e_) e_) (fun e_ => Or.elim e_ (fun e_ => (fun e_ => (Kd.R_ne HO_385003.out BK384.out (by decide)) e_) e_) (fun e_ => (fun e_ => (Kd.R_ne HO_385004.out BK384.out (by decide)) e_) e_))))); have n11_ := zA (hb); clear HO_358001 HO_358002 HO_358003 HO_358004 HO_385001 HO_385002 HO_385003 HO_385004 BK330 BK357 BK384 HB; have HO_358001 := n0_; have HO_358002 := n1_; have HO_358003 := n2_; have HO_358004 := n3_; have HO_385001 := n4_; have HO_385002 := n5_; have HO_385003 := n6_; have HO_385004 := n7_; have BK330 := n8_; have BK357 := n9_; have BK384 := n10_; have HB := n11_; clear n0_ n1_ n2_ n3_ n4_ n5_ n6_ n7_ n8_ n9_ n10_ n11_; (try clear hb); (try clear hkp); (try clear hy0); (try clear hy1); (try clear hy2); (try clear hy3); obtain ⟨hcz178_0, hcz178_1, hcz178_2, hcz178_3, hcz178_4, hfz178_0, hfz178_1, hfz178_2, hfz178_3, hfz178_4⟩ := zh5 BK384.out) | ((with_reducible refine gate_callee (f := 21) rfl ?_); refine goesL_ (some 67) rfl rfl Tryd.func21 (by kernel_rfl) rfl #[.agg #[.int .i64 t370, .slice Ao43 t401.length co43, .slice Ao44 t402.length co44, .slice Ao45 t403.length co45, .slice Ao46 t404.length co46], .int .i64 1] rfl (by (try simp only [List.map_toArray, List.map_cons, List.map_nil]); first | done | (rw [show t401.length = t371.length from (Kd.R_reads' HO_385001.out).1.symm, show t402.length = t374.length from (Kd.R_reads' HO_385002.out).1.symm, show t403.length = t377.length from (Kd.R_reads' HO_385003.out).1.symm, show t404.length = t380.length from (Kd.R_reads' HO_385004.out).1.symm] <;> rfl) | rfl | (simp only [List.length_drop, List.length_take]; rfl)) ?_; (with_reducible refine (laws_heldGraph.calls kj69 t370 _ _ t401 _ _ t402 _ _ t403 _ _ t404 1 t405 _ ?side1 ?side2 ?side3 ?side4 ?side5 ?side6 ?side7 ?side8 A103.out).mono ?_); (case side1 => exact zc ((Kd.R_reads' HO_385001.out).2.2)); (case side2 => rw [show t401.length = t371.length from (Kd.R_reads' HO_385001.out).1.symm]; exact (Kd.R_reads' HO_385001.out).2.1); (case side3 => exact zc ((Kd.R_reads' HO_385002.out).2.2)); (case side4 => rw [show t402.length = t374.length from (Kd.R_reads' HO_385002.out).1.symm]; exact (Kd.R_reads' HO_385002.out).2.1); (case side5 => exact zc ((Kd.R_reads' HO_385003.out).2.2)); (case side6 => rw [show t403.length = t377.length from (Kd.R_reads' HO_385003.out).1.symm]; exact (Kd.R_reads' HO_385003.out).2.1); (case side7 => exact zc ((Kd.R_reads' HO_385004.out).2.2)); (case side8 => rw [show t404.length = t380.length from (Kd.R_reads' HO_385004.out).1.symm]; exact (Kd.R_reads' HO_385004.out).2.1); rintro e w179 ⟨rfl, hb⟩; refine ⟨_, rfl, ?_⟩; have n0_ := zA (Kd.R_below (zR HO_358001.out) hb); have n1_ := zA (Kd.R_below (zR HO_358002.out) hb); have n2_ := zA (Kd.R_below (zR HO_358003.out) hb); have n3_ := zA (Kd.R_below (zR HO_358004.out) hb); have n4_ := zA (Kd.R_below (zR HO_385001.out) hb); have n5_ := zA (Kd.R_below (zR HO_385002.out) hb); have n6_ := zA (Kd.R_below (zR HO_385003.out) hb); have n7_ := zA (Kd.R_below (zR HO_385004.out) hb); have n8_ := zA (zB BK330.out hb); have n9_ := zA (zB BK357.out hb); have n10_ := zA (zB BK384.out hb); have n11_ := zA (below_step (zs3 GE330.out GE357.out GE384.out) hb); clear HO_358001 HO_358002 HO_358003 HO_358004 HO_385001 HO_385002 HO_385003 HO_385004 BK330 BK357 BK384 HB; have HO_358001 := n0_; have HO_358002 := n1_; have HO_358003 := n2_; have HO_358004 := n3_; have HO_385001 := n4_; have HO_385002 := n5_; have HO_385003 := n6_; have HO_385004 := n7_; have BK330 := n8_; have BK357 := n9_; have BK384 := n10_; have HB := n11_; clear n0_ n1_ n2_ n3_ n4_ n5_ n6_ n7_ n8_ n9_ n10_ n11_; (try clear hb); (try clear hb2); (try clear hk); (try clear hi)))
           go_ret
           exact ⟨ze, (zs3 GE330.out GE357.out GE384.out)⟩
     ·replace c68 := Bool.eq_false_iff.mpr c68
      subst c68
      have H1 : (some false) = some r := by rw [if_neg (show ¬ (false = true) by decide)] at H; exact H
      clear H
      have H := H1
      clear H1
      obtain rfl := Option.some.inj H
      try go_wp2
      have n0_ := zA (Kd.R_drew HO_358001.out)
      have n1_ := zA (Kd.R_drew HO_358002.out)
      have n2_ := zA (Kd.R_drew HO_358003.out)
      have n3_ := zA (Kd.R_drew HO_358004.out)
      have n4_ := zA (Kd.R_drew HO_370002.out)
      have n5_ := zA (Kd.R_drew HO_370003.out)
      have n6_ := zA (Kd.S_drew HO_370004.out)
      have n7_ := zA (Kd.R_drew HO_385001.out)
      have n8_ := zA (Kd.R_drew HO_385002.out)
      have n9_ := zA (Kd.R_drew HO_385003.out)
      have n10_ := zA (Kd.R_drew HO_385004.out)
      have n11_ := zA (blk_drew BK330.out)
      have n12_ := zA (blk_drew BK357.out)
      have n13_ := zA (blk_drew BK369.out)
      have n14_ := zA (blk_drew BK384.out)
      have n15_ := zA (below_drew1 HB.out)
      clear HO_358001
      clear HO_358002
      clear HO_358003
      clear HO_358004
      clear HO_370002
      clear HO_370003
      clear HO_370004
      clear HO_385001
      clear HO_385002
      clear HO_385003
      clear HO_385004
      clear BK330
      clear BK357
      clear BK369
      clear BK384
      clear HB
      have HO_358001 := n0_
      have HO_358002 := n1_
      have HO_358003 := n2_
      have HO_358004 := n3_
      have HO_370002 := n4_
      have HO_370003 := n5_
      have HO_370004 := n6_
      have HO_385001 := n7_
      have HO_385002 := n8_
      have HO_385003 := n9_
      have HO_385004 := n10_
      have BK330 := n11_
      have BK357 := n12_
      have BK369 := n13_
      have BK384 := n14_
      have HB := n15_
      clear n0_ n1_ n2_ n3_ n4_ n5_ n6_ n7_ n8_ n9_ n10_ n11_ n12_ n13_ n14_ n15_
      refine start_ (n := 5) (S := fun w' => w'.cell? ⟨gb369, 0, none⟩ = some (.int .i64 t358) ∧ w'.cell? ⟨gb369, 1, none⟩ = some (.int .i64 t359) ∧ w'.cell? ⟨gb369, 2, none⟩ = some (.slice Ao34 t360.length co34) ∧ w'.cell? ⟨gb369, 3, none⟩ = some (.slice Ao35 t363.length co35) ∧ w'.cell? ⟨gb369, 4, none⟩ = some (.slice Ao36 t366.length co36) ∧ w'.cell? ⟨gb330, 0, none⟩ = some (.int .i64 a0_0) ∧ w'.cell? ⟨gb330, 1, none⟩ = some (.int .i64 a0_1) ∧ w'.cell? ⟨gb330, 2, none⟩ = some (.slice A0_2 l0_2.length c0_2) ∧ w'.cell? ⟨gb330, 3, none⟩ = some (.slice A0_3 l0_3.length c0_3) ∧ w'.cell? ⟨gb330, 4, none⟩ = some (.slice A0_4 l0_4.length c0_4)) (ds := []) #[false, false, false, false, false] (by kernel_rfl) rfl rfl ⟨(blk_cell BK369.out 0).trans rfl, (blk_cell BK369.out 1).trans rfl, (blk_cell BK369.out 2).trans rfl, (blk_cell BK369.out 3).trans rfl, (blk_cell BK369.out 4).trans rfl, (blk_cell BK330.out 0).trans rfl, (blk_cell BK330.out 1).trans rfl, (blk_cell BK330.out 2).trans rfl, (blk_cell BK330.out 3).trans rfl, (blk_cell BK330.out 4).trans rfl⟩ (fun hHeld => ?_)
      generalize wc.drew = w180 at HO_358001 HO_358002 HO_358003 HO_358004 HO_370002 HO_370003 HO_370004 HO_385001 HO_385002 HO_385003 HO_385004 BK330 BK357 BK369 BK384 HB hHeld ⊢
      refine take_ (i := 0) (N := some 41) (v := ?_) (a' := ?_) #[true, false, false, false, false] rfl rfl (by kernel_rfl) (fun _ _ _ h => h) (Or.inl ⟨by rfl, ?_⟩) hHeld ?_ ?_
      rotate_left
      ·rintro w' ⟨s0, s1, s2, s3, s4, s5, s6, s7, s8, s9⟩
       go_simp
       with_reducible rfl
      rotate_left
      ·simp only [Act.put, List.setIfInBounds_toArray, List.set_cons_zero, List.set_cons_succ, i64_w, i32_w]
       rfl
      refine take_ (i := 1) (N := some 42) (v := ?_) (a' := ?_) #[true, true, false, false, false] rfl rfl (by kernel_rfl) (fun _ _ _ h => h) (Or.inl ⟨by rfl, ?_⟩) hHeld ?_ ?_
      rotate_left
      ·rintro w' ⟨s0, s1, s2, s3, s4, s5, s6, s7, s8, s9⟩
       go_simp
       with_reducible rfl
      rotate_left
      ·simp only [Act.put, List.setIfInBounds_toArray, List.set_cons_zero, List.set_cons_succ, i64_w, i32_w]
       rfl
      refine one_ (i := 2) (N := some 43) #[true, true, true, false, false] rfl rfl (by kernel_rfl) (by decide) (fun K hK => ?_)
      refine goes_ Tryd.func15 (by kernel_rfl) rfl #[.agg #[.int .i64 a0_0, .int .i64 a0_1, .slice A0_2 l0_2.length c0_2, .slice A0_3 l0_3.length c0_3, .slice A0_4 l0_4.length c0_4]] (by rfl) rfl rfl za ?_
      with_reducible refine (laws_toLayout.calls kj10 a0_0 a0_1 _ _ l0_2 _ _ l0_3 _ _ l0_4 t386 t387 t388 t391 t394 _ ?side1 ?side2 ?side3 ?side4 ?side5 ?side6 A66.out).mono ?_
      (case side1 => exact zc (Kd.C_below HR0_2.out HB.out))
      (case side2 => exact HC0_2.out)
      (case side3 => exact zc (Kd.C_below HR0_3.out HB.out))
      (case side4 => exact HC0_3.out)
      (case side5 => exact zc (Kd.C_below HR0_4.out HB.out))
      (case side6 => exact HC0_4.out)
      rintro e w181 ⟨v389, v392, v395, rfl, ho0, ho1, ho2, hb⟩
      refine ⟨_, rfl, ?_⟩
      have n0_ := zA (Kd.R_mono (Kd.R_told (Kd.R_told (Kd.R_old (zR HO_358001.out) hb) (Kd.R_base ho0)) (Kd.R_base ho1)) (fun _ h_ => h_.1))
      have n1_ := zA (Kd.R_mono (Kd.R_told (Kd.R_told (Kd.R_old (zR HO_358002.out) hb) (Kd.R_base ho0)) (Kd.R_base ho1)) (fun _ h_ => h_.1))
      have n2_ := zA (Kd.R_mono (Kd.R_told (Kd.R_told (Kd.R_old (zR HO_358003.out) hb) (Kd.R_base ho0)) (Kd.R_base ho1)) (fun _ h_ => h_.1))
      have n3_ := zA (Kd.R_mono (Kd.R_told (Kd.R_told (Kd.R_old (zR HO_358004.out) hb) (Kd.R_base ho0)) (Kd.R_base ho1)) (fun _ h_ => h_.1))
      have n4_ := zA (Kd.R_mono (Kd.R_told (Kd.R_told (Kd.R_old (zR HO_370002.out) hb) (Kd.R_base ho0)) (Kd.R_base ho1)) (fun _ h_ => h_.1))
      have n5_ := zA (Kd.R_mono (Kd.R_told (Kd.R_told (Kd.R_old (zR HO_370003.out) hb) (Kd.R_base ho0)) (Kd.R_base ho1)) (fun _ h_ => h_.1))
      have n6_ := zA (Kd.S_elder' (zS HO_370004.out) (Kd.S_base ho2) hb)
      have n7_ := zA (Kd.R_mono (Kd.R_told (Kd.R_told (Kd.R_old (zR HO_385001.out) hb) (Kd.R_base ho0)) (Kd.R_base ho1)) (fun _ h_ => h_.1))
      have n8_ := zA (Kd.R_mono (Kd.R_told (Kd.R_told (Kd.R_old (zR HO_385002.out) hb) (Kd.R_base ho0)) (Kd.R_base ho1)) (fun _ h_ => h_.1))
      have n9_ := zA (Kd.R_mono (Kd.R_told (Kd.R_told (Kd.R_old (zR HO_385003.out) hb) (Kd.R_base ho0)) (Kd.R_base ho1)) (fun _ h_ => h_.1))
      have n10_ := zA (Kd.R_mono (Kd.R_told (Kd.R_told (Kd.R_old (zR HO_385004.out) hb) (Kd.R_base ho0)) (Kd.R_base ho1)) (fun _ h_ => h_.1))
      have n11_ := zA (Kd.R_lower (Kd.R_new' (Kd.R_new' (Kd.R_new' (Kd.R_new' (Kd.R_new' (Kd.R_new' (Kd.R_new' (Kd.R_new' (Kd.R_new' (Kd.R_new' ho0 (zl HO_358001.out)) (zl HO_358002.out)) (zl HO_358003.out)) (zl HO_358004.out)) (zl HO_370002.out)) (zl HO_370003.out)) (zl HO_385001.out)) (zl HO_385002.out)) (zl HO_385003.out)) (zl HO_385004.out)) (below_size (zs4 GE330.out GE357.out GE369.out GE384.out)))
      have n12_ := zA (Kd.R_lower (Kd.R_new' (Kd.R_new' (Kd.R_new' (Kd.R_new' (Kd.R_new' (Kd.R_new' (Kd.R_new' (Kd.R_new' (Kd.R_new' (Kd.R_new' ho1 (zl HO_358001.out)) (zl HO_358002.out)) (zl HO_358003.out)) (zl HO_358004.out)) (zl HO_370002.out)) (zl HO_370003.out)) (zl HO_385001.out)) (zl HO_385002.out)) (zl HO_385003.out)) (zl HO_385004.out)) (below_size (zs4 GE330.out GE357.out GE369.out GE384.out)))
      have n13_ := zA (Kd.S_lower (Kd.S_new' ho2 (Kd.S_lt (zS HO_370004.out))) (below_size (zs4 GE330.out GE357.out GE369.out GE384.out)))
      have n14_ := zA (zB BK330.out hb)
      have n15_ := zA (zB BK357.out hb)
      have n16_ := zA (zB BK369.out hb)
      have n17_ := zA (zB BK384.out hb)
      have n18_ := zA (below_step (zs4 GE330.out GE357.out GE369.out GE384.out) hb)
      clear HO_358001
      clear HO_358002
      clear HO_358003
      clear HO_358004
      clear HO_370002
      clear HO_370003
      clear HO_370004
      clear HO_385001
      clear HO_385002
      clear HO_385003
      clear HO_385004
      clear BK330
      clear BK357
      clear BK369
      clear BK384
      clear HB
      have HO_358001 := n0_
      have HO_358002 := n1_
      have HO_358003 := n2_
      have HO_358004 := n3_
      have HO_370002 := n4_
      have HO_370003 := n5_
      have HO_370004 := n6_
      have HO_385001 := n7_
      have HO_385002 := n8_
      have HO_385003 := n9_
      have HO_385004 := n10_
      have HO390 := n11_
      have HO393 := n12_
      have HO396 := n13_
      have BK330 := n14_
      have BK357 := n15_
      have BK369 := n16_
      have BK384 := n17_
      have HB := n18_
      clear n0_ n1_ n2_ n3_ n4_ n5_ n6_ n7_ n8_ n9_ n10_ n11_ n12_ n13_ n14_ n15_ n16_ n17_ n18_
      (try clear hb)
      (try clear hb2)
      (try clear hk)
      (try clear hi)
      (try clear ho0)
      (try clear ho1)
      (try clear ho2)
      obtain ⟨Ao182, co182, eo182⟩ := Kd.R_slice HO390.out
      (first | subst eo182 | (injection eo182 with f1_ f2_ f3_; have f4_ := f1_.symm; have f5_ := f3_.symm; clear f1_ f2_ f3_; subst f4_; subst f5_))
      obtain ⟨Ao183, co183, eo183⟩ := Kd.R_slice HO393.out
      (first | subst eo183 | (injection eo183 with f1_ f2_ f3_; have f4_ := f1_.symm; have f5_ := f3_.symm; clear f1_ f2_ f3_; subst f4_; subst f5_))
      obtain ⟨Ao184, co184, eo184⟩ := Kd.S_slice HO396.out
      (first | subst eo184 | (injection eo184 with f1_ f2_ f3_; have f4_ := f1_.symm; have f5_ := f3_.symm; clear f1_ f2_ f3_; subst f4_; subst f5_))
      refine hK.out _ _ ⟨(blk_cell BK369.out 0).trans rfl, (blk_cell BK369.out 1).trans rfl, (blk_cell BK369.out 2).trans rfl, (blk_cell BK369.out 3).trans rfl, (blk_cell BK369.out 4).trans rfl, (blk_cell BK330.out 0).trans rfl, (blk_cell BK330.out 1).trans rfl, (blk_cell BK330.out 2).trans rfl, (blk_cell BK330.out 3).trans rfl, (blk_cell BK330.out 4).trans rfl⟩ (fun hHeld => ?_)
      clear hK K
      refine norm_ (a' := ?_) ?_ ?_
      rotate_left
      ·show Act.put _ (some 43) _ = _
       simp only [Act.put, List.setIfInBounds_toArray, List.set_cons_zero, List.set_cons_succ, i64_w, i32_w]
       rfl
      refine one_ (i := 3) (N := some 44) #[true, true, true, true, false] rfl rfl (by kernel_rfl) (by decide) (fun K hK => ?_)
      refine goes_ Tryd.func18 (by kernel_rfl) rfl #[.agg #[.int .i64 t358, .int .i64 t359, .slice Ao34 t360.length co34, .slice Ao35 t363.length co35, .slice Ao36 t366.length co36], .agg #[.int .i64 t386, .int .i64 t387, .slice Ao182 t388.length co182, .slice Ao183 t391.length co183, .slice Ao184 t394.length co184]] (by rfl) rfl rfl za ?_
      with_reducible refine (laws_eqLayout.calls kj10 t358 t359 _ _ t360 _ _ t363 _ _ t366 t386 t387 _ _ t388 _ _ t391 _ _ t394 false _ ?side1 ?side2 ?side3 ?side4 ?side5 ?side6 ?side7 ?side8 ?side9 ?side10 ?side11 ?side12 A67.out).mono ?_
      (case side1 => exact zc ((Kd.R_reads' HO_370002.out).2.2))
      (case side2 => exact (Kd.R_reads' HO_370002.out).2.1)
      (case side3 => exact zc ((Kd.R_reads' HO_370003.out).2.2))
      (case side4 => exact (Kd.R_reads' HO_370003.out).2.1)
      (case side5 => exact zc ((Kd.S_reads' HO_370004.out).2.2))
      (case side6 => exact (Kd.S_reads' HO_370004.out).2.1)
      (case side7 => exact zc ((Kd.R_reads' HO390.out).2.2))
      (case side8 => exact (Kd.R_reads' HO390.out).2.1)
      (case side9 => exact zc ((Kd.R_reads' HO393.out).2.2))
      (case side10 => exact (Kd.R_reads' HO393.out).2.1)
      (case side11 => exact zc ((Kd.S_reads' HO396.out).2.2))
      (case side12 => exact (Kd.S_reads' HO396.out).2.1)
      rintro e w185 ⟨rfl, hb⟩
      refine ⟨_, rfl, ?_⟩
      have n0_ := zA (Kd.R_below (zR HO_358001.out) hb)
      have n1_ := zA (Kd.R_below (zR HO_358002.out) hb)
      have n2_ := zA (Kd.R_below (zR HO_358003.out) hb)
      have n3_ := zA (Kd.R_below (zR HO_358004.out) hb)
      have n4_ := zA (Kd.R_below (zR HO_370002.out) hb)
      have n5_ := zA (Kd.R_below (zR HO_370003.out) hb)
      have n6_ := zA (Kd.S_below (zS HO_370004.out) hb)
      have n7_ := zA (Kd.R_below (zR HO_385001.out) hb)
      have n8_ := zA (Kd.R_below (zR HO_385002.out) hb)
      have n9_ := zA (Kd.R_below (zR HO_385003.out) hb)
      have n10_ := zA (Kd.R_below (zR HO_385004.out) hb)
      have n11_ := zA (Kd.R_below (zR HO390.out) hb)
      have n12_ := zA (Kd.R_below (zR HO393.out) hb)
      have n13_ := zA (Kd.S_below (zS HO396.out) hb)
      have n14_ := zA (zB BK330.out hb)
      have n15_ := zA (zB BK357.out hb)
      have n16_ := zA (zB BK369.out hb)
      have n17_ := zA (zB BK384.out hb)
      have n18_ := zA (below_step (zs4 GE330.out GE357.out GE369.out GE384.out) hb)
      clear HO_358001
      clear HO_358002
      clear HO_358003
      clear HO_358004
      clear HO_370002
      clear HO_370003
      clear HO_370004
      clear HO_385001
      clear HO_385002
      clear HO_385003
      clear HO_385004
      clear HO390
      clear HO393
      clear HO396
      clear BK330
      clear BK357
      clear BK369
      clear BK384
      clear HB
      have HO_358001 := n0_
      have HO_358002 := n1_
      have HO_358003 := n2_
      have HO_358004 := n3_
      have HO_370002 := n4_
      have HO_370003 := n5_
      have HO_370004 := n6_
      have HO_385001 := n7_
      have HO_385002 := n8_
      have HO_385003 := n9_
      have HO_385004 := n10_
      have HO390 := n11_
      have HO393 := n12_
      have HO396 := n13_
      have BK330 := n14_
      have BK357 := n15_
      have BK369 := n16_
      have BK384 := n17_
      have HB := n18_
      clear n0_ n1_ n2_ n3_ n4_ n5_ n6_ n7_ n8_ n9_ n10_ n11_ n12_ n13_ n14_ n15_ n16_ n17_ n18_
      (try clear hb)
      (try clear hb2)
      (try clear hk)
      (try clear hi)
      refine hK.out _ _ ⟨(blk_cell BK369.out 0).trans rfl, (blk_cell BK369.out 1).trans rfl, (blk_cell BK369.out 2).trans rfl, (blk_cell BK369.out 3).trans rfl, (blk_cell BK369.out 4).trans rfl, (blk_cell BK330.out 0).trans rfl, (blk_cell BK330.out 1).trans rfl, (blk_cell BK330.out 2).trans rfl, (blk_cell BK330.out 3).trans rfl, (blk_cell BK330.out 4).trans rfl⟩ (fun hHeld => ?_)
      clear hK K
      refine norm_ (a' := ?_) ?_ ?_
      rotate_left
      ·show Act.put _ (some 44) _ = _
       simp only [Act.put, List.setIfInBounds_toArray, List.set_cons_zero, List.set_cons_succ, i64_w, i32_w]
       rfl
      refine pure_ (i := 4) (N := some 45) (v := ?_) (a' := ?_) #[true, true, true, true, true] rfl rfl (by kernel_rfl) (fun _ _ _ h => h) (Or.inl ⟨by rfl, ?_⟩) ?_ ?_
      rotate_left
      ·intro w'
       go_simp
       with_reducible rfl
      rotate_left
      ·simp only [Act.put, List.setIfInBounds_toArray, List.set_cons_zero, List.set_cons_succ, i64_w, i32_w]
       rfl
      refine done_ (by kernel_rfl) ?_
      try go_wp2
      go_ret
      exact ⟨ze, (zs4 GE330.out GE357.out GE369.out GE384.out)⟩

end Go.Proofs.YthbeplmihjhoeaaDoor.PFnExactBuildGraph
