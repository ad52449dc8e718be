-- made by wip/tools/myprint.py (this session's own program, over the kit's printer)
import Derived.Test.YthbeplmihjhoeaaDoorPFnExactWalkx0
import Derived.Test.YthbeplmihjhoeaaDoorPFnExactWalkx1
import Derived.Test.YthbeplmihjhoeaaDoorPFnExactWalkx7
import Derived.Test.YthbeplmihjhoeaaDoorPFnExactWalkx8
import Derived.Test.YthbeplmihjhoeaaDoorPFnExactWalkx12
import Derived.Test.YthbeplmihjhoeaaDoorPFnExactWalkx13
import Derived.Test.YthbeplmihjhoeaaDoorPFnExactWalkx14
import Derived.Test.YthbeplmihjhoeaaDoorPFnExactWalkx15
namespace Go.Proofs.YthbeplmihjhoeaaDoor.PFnExactWalk
open Go.RowKit Go.Proofs.YthbeplmihjhoeaaDoorW.PrintWords Go.Proofs.YthbeplmihjhoeaaDoorW.PrintLast Go.Proofs.YthbeplmihjhoeaaDoorW.PrintMore
attribute [local go_sem] max2_int min2_int max_two min_two max_three min_three max_four min_four   -- for this text's walks alone
set_option linter.unusedVariables false
set_option linter.unusedSimpArgs false

/-! ### laws_FnExactWalk: function 4 -/
mutual
def laws_FnExactWalk.j0 : Nat → Int → Int → List Int → Int → List Int → Int → Bool → Int → Int → List (S185) → List (List Int) → List (List Int) → Int → Int → List (S120) → List (List Int) → List (List Int) → Option (Bool)
 | 0, _, _, _, _, _, _, _, _, _, _, _, _, _, _, _, _, _ => none
 | k + 1, x1, x2, x8, x9, x11, x12, x48, x291000, x291001, x291002, x291003, x291004, x319000, x319001, x319002, x319003, x319004 => if x48 = true then (some false) else ((laws_toTables.f k x291000 x291001 x291002 x291003 x291004).bind fun bt324 => ((laws_eqTables.f k x319000 x319001 x319002 x319003 x319004 bt324.1 bt324.2.1 bt324.2.2.1 bt324.2.2.2.1 bt324.2.2.2.2).bind fun t335 => (if t335 = true then ((laws_markTables.f x319000 x319001 x319002 x319003 x319004 1).bind fun t336 => (if t336 < 0 then (laws_FnExactWalk.j1 k x1 x2 x8 x9 x11 true x291000 x291001 x291002 x291003 x291004) else ((laws_eqIntS.f k x11 x8).bind fun t337 => (if t337 = true then (laws_FnExactWalk.j1 k x1 x2 x8 x9 x11 (x12 != x9) x291000 x291001 x291002 x291003 x291004) else (laws_FnExactWalk.j1 k x1 x2 x8 x9 x11 true x291000 x291001 x291002 x291003 x291004))))) else (some false))))
def laws_FnExactWalk.j1 : Nat → Int → Int → List Int → Int → List Int → Bool → Int → Int → List (S185) → List (List Int) → List (List Int) → Option (Bool)
 | 0, _, _, _, _, _, _, _, _, _, _, _ => none
 | k + 1, x1, x2, x8, x9, x11, x69, x291000, x291001, x291002, x291003, x291004 => if x69 = true then (some false) else ((laws_markIntS.f k x11 1).bind fun bt338 => ((laws_heldIntS.f k bt338.2 1).bind fun t340 => (if t340 < 0 then (some false) else (if t340 = bt338.1 then ((laws_toTables.f k x291000 x291001 x291002 x291003 x291004).bind fun bt341 => ((impl_Walk.f k bt341.1 bt341.2.1 bt341.2.2.1 bt341.2.2.2.1 bt341.2.2.2.2 x1 x2).bind fun bt352 => ((laws_eqIntS.f k bt352.1 x8).bind fun t356 => (if t356 = true then (laws_FnExactWalk.j2 k bt338.2 bt338.1 (bt352.2 != x9)) else (laws_FnExactWalk.j2 k bt338.2 bt338.1 true))))) else (some false)))))
def laws_FnExactWalk.j2 : Nat → List Int → Int → Bool → Option (Bool)
 | 0, _, _, _ => none
 | k + 1, x11, x14, x97 => if x97 = true then (some false) else ((laws_heldIntS.f k x11 1).bind fun t357 => (if t357 < 0 then (some false) else (if t357 = x14 then (some true) else (some false))))
end
def laws_FnExactWalk.f (k : Nat) (a0_0 : Int) (a0_1 : Int) (l0_2 : List (S185)) (l0_3 : List (List Int)) (l0_4 : List (List Int)) (a1 : Int) (a2 : Int) : Option (Bool) := (laws_szTables.f k a0_0 a0_1 l0_2 l0_3 l0_4 1048576).bind fun t291 => (if t291 < 0 then (some true) else ((laws_toTables.f k a0_0 a0_1 l0_2 l0_3 l0_4).bind fun bt292 => ((spec_Walk.f k bt292.1 bt292.2.1 bt292.2.2.1 bt292.2.2.2.1 bt292.2.2.2.2 a1 a2).bind fun bt303 => ((laws_toTables.f k a0_0 a0_1 l0_2 l0_3 l0_4).bind fun bt307 => ((impl_Walk.f k bt307.1 bt307.2.1 bt307.2.2.1 bt307.2.2.2.1 bt307.2.2.2.2 a1 a2).bind fun bt319 => ((laws_eqIntS.f k bt319.1 bt303.1).bind fun t323 => (if t323 = true then (laws_FnExactWalk.j0 k a1 a2 bt303.1 bt303.2 bt319.1 bt319.2 (bt319.2 != bt303.2) a0_0 a0_1 l0_2 l0_3 l0_4 bt307.1 bt307.2.1 bt307.2.2.1 bt307.2.2.2.1 bt307.2.2.2.2) else (laws_FnExactWalk.j0 k a1 a2 bt303.1 bt303.2 bt319.1 bt319.2 true a0_0 a0_1 l0_2 l0_3 l0_4 bt307.1 bt307.2.1 bt307.2.2.1 bt307.2.2.2.1 bt307.2.2.2.2))))))))
theorem laws_FnExactWalk.mono_l : ∀ k, (∀ y0 y1 y2 y3 y4 y5 y6 y7 y8 y9 y10 y11 y12 y13 y14 y15 y16, LeO (laws_FnExactWalk.j0 k y0 y1 y2 y3 y4 y5 y6 y7 y8 y9 y10 y11 y12 y13 y14 y15 y16) (laws_FnExactWalk.j0 (k + 1) y0 y1 y2 y3 y4 y5 y6 y7 y8 y9 y10 y11 y12 y13 y14 y15 y16)) ∧ (∀ y0 y1 y2 y3 y4 y5 y6 y7 y8 y9 y10, LeO (laws_FnExactWalk.j1 k y0 y1 y2 y3 y4 y5 y6 y7 y8 y9 y10) (laws_FnExactWalk.j1 (k + 1) y0 y1 y2 y3 y4 y5 y6 y7 y8 y9 y10)) ∧ (∀ y0 y1 y2, LeO (laws_FnExactWalk.j2 k y0 y1 y2) (laws_FnExactWalk.j2 (k + 1) y0 y1 y2))
 | 0 => ⟨fun _ _ _ _ _ _ _ _ _ _ _ _ _ _ _ _ _ r h => by simp [laws_FnExactWalk.j0] at h, fun _ _ _ _ _ _ _ _ _ _ _ r h => by simp [laws_FnExactWalk.j1] at h, fun _ _ _ r h => by simp [laws_FnExactWalk.j2] at h⟩
 | k + 1 => by
  obtain ⟨ih0, ih1, ih2⟩ := laws_FnExactWalk.mono_l k
  refine ⟨?_, ?_, ?_⟩
  ·intro y0 y1 y2 y3 y4 y5 y6 y7 y8 y9 y10 y11 y12 y13 y14 y15 y16
   unfold laws_FnExactWalk.j0
   repeat' first
   | (with_reducible exact ih0 _ _ _ _ _ _ _ _ _ _ _ _ _ _ _ _ _)
   | (with_reducible exact ih1 _ _ _ _ _ _ _ _ _ _ _)
   | (with_reducible exact ih2 _ _ _)
   | (with_reducible exact impl_Walk.mono _ _ _ _ _ _ _ _)
   | (with_reducible exact laws_eqIntS.mono _ _ _)
   | (with_reducible exact laws_eqTables.mono _ _ _ _ _ _ _ _ _ _ _)
   | (with_reducible exact laws_heldIntS.mono _ _ _)
   | (with_reducible exact laws_markIntS.mono _ _ _)
   | (with_reducible exact laws_szTables.mono _ _ _ _ _ _ _)
   | (with_reducible exact laws_toTables.mono _ _ _ _ _ _)
   | (with_reducible exact spec_Walk.mono _ _ _ _ _ _ _ _)
   | (with_reducible exact LeO.refl _)
   | (with_reducible exact LeO.none _)
   | (with_reducible refine LeO.ite ?_ ?_)
   | (with_reducible refine LeO.bind ?_ (fun _ => ?_))
   | exact LeO.none _
   | refine LeO.ite ?_ ?_
   | refine LeO.bind ?_ (fun _ => ?_)
  ·intro y0 y1 y2 y3 y4 y5 y6 y7 y8 y9 y10
   unfold laws_FnExactWalk.j1
   repeat' first
   | (with_reducible exact ih0 _ _ _ _ _ _ _ _ _ _ _ _ _ _ _ _ _)
   | (with_reducible exact ih1 _ _ _ _ _ _ _ _ _ _ _)
   | (with_reducible exact ih2 _ _ _)
   | (with_reducible exact impl_Walk.mono _ _ _ _ _ _ _ _)
   | (with_reducible exact laws_eqIntS.mono _ _ _)
   | (with_reducible exact laws_eqTables.mono _ _ _ _ _ _ _ _ _ _ _)
   | (with_reducible exact laws_heldIntS.mono _ _ _)
   | (with_reducible exact laws_markIntS.mono _ _ _)
   | (with_reducible exact laws_szTables.mono _ _ _ _ _ _ _)
   | (with_reducible exact laws_toTables.mono _ _ _ _ _ _)
   | (with_reducible exact spec_Walk.mono _ _ _ _ _ _ _ _)
   | (with_reducible exact LeO.refl _)
   | (with_reducible exact LeO.none _)
   | (with_reducible refine LeO.ite ?_ ?_)
   | (with_reducible refine LeO.bind ?_ (fun _ => ?_))
   | exact LeO.none _
   | refine LeO.ite ?_ ?_
   | refine LeO.bind ?_ (fun _ => ?_)
  ·intro y0 y1 y2
   unfold laws_FnExactWalk.j2
   repeat' first
   | (with_reducible exact ih0 _ _ _ _ _ _ _ _ _ _ _ _ _ _ _ _ _)
   | (with_reducible exact ih1 _ _ _ _ _ _ _ _ _ _ _)
   | (with_reducible exact ih2 _ _ _)
   | (with_reducible exact impl_Walk.mono _ _ _ _ _ _ _ _)
   | (with_reducible exact laws_eqIntS.mono _ _ _)
   | (with_reducible exact laws_eqTables.mono _ _ _ _ _ _ _ _ _ _ _)
   | (with_reducible exact laws_heldIntS.mono _ _ _)
   | (with_reducible exact laws_markIntS.mono _ _ _)
   | (with_reducible exact laws_szTables.mono _ _ _ _ _ _ _)
   | (with_reducible exact laws_toTables.mono _ _ _ _ _ _)
   | (with_reducible exact spec_Walk.mono _ _ _ _ _ _ _ _)
   | (with_reducible exact LeO.refl _)
   | (with_reducible exact LeO.none _)
   | (with_reducible refine LeO.ite ?_ ?_)
   | (with_reducible refine LeO.bind ?_ (fun _ => ?_))
   | exact LeO.none _
   | refine LeO.ite ?_ ?_
   | refine LeO.bind ?_ (fun _ => ?_)
theorem laws_FnExactWalk.mono : ∀ a0 a1 a2 a3 a4 a5 a6 k, LeO (laws_FnExactWalk.f k a0 a1 a2 a3 a4 a5 a6) (laws_FnExactWalk.f (k + 1) a0 a1 a2 a3 a4 a5 a6) := by
 intro a0 a1 a2 a3 a4 a5 a6 k
 obtain ⟨ih0, ih1, ih2⟩ := laws_FnExactWalk.mono_l k
 unfold laws_FnExactWalk.f
 repeat' first
   | (with_reducible exact ih0 _ _ _ _ _ _ _ _ _ _ _ _ _ _ _ _ _)
   | (with_reducible exact ih1 _ _ _ _ _ _ _ _ _ _ _)
   | (with_reducible exact ih2 _ _ _)
   | (with_reducible exact impl_Walk.mono _ _ _ _ _ _ _ _)
   | (with_reducible exact laws_eqIntS.mono _ _ _)
   | (with_reducible exact laws_eqTables.mono _ _ _ _ _ _ _ _ _ _ _)
   | (with_reducible exact laws_heldIntS.mono _ _ _)
   | (with_reducible exact laws_markIntS.mono _ _ _)
   | (with_reducible exact laws_szTables.mono _ _ _ _ _ _ _)
   | (with_reducible exact laws_toTables.mono _ _ _ _ _ _)
   | (with_reducible exact spec_Walk.mono _ _ _ _ _ _ _ _)
   | (with_reducible exact LeO.refl _)
   | (with_reducible exact LeO.none _)
   | (with_reducible refine LeO.ite ?_ ?_)
   | (with_reducible refine LeO.bind ?_ (fun _ => ?_))
   | exact LeO.none _
   | refine LeO.ite ?_ ?_
   | refine LeO.bind ?_ (fun _ => ?_)
set_option maxHeartbeats 8000000 in
set_option maxRecDepth 100000 in
theorem laws_FnExactWalk.calls (k : Nat) (a0_0 : Int) (a0_1 : Int) (A0_2 : Option Addr) (c0_2 : Nat) (l0_2 : List (S185)) (A0_3 : Option Addr) (c0_3 : Nat) (l0_3 : List (List Int)) (A0_4 : Option Addr) (c0_4 : Nat) (l0_4 : List (List Int)) (a1 : Int) (a2 : Int) (r : Bool) (w : World) (hr0_2 : Kd.C k185 w A0_2 l0_2.length l0_2) (hc0_2 : l0_2.length ≤ c0_2) (hr0_3 : Kd.C (Kd.slice 3 (Kd.int .i64)) w A0_3 l0_3.length l0_3) (hc0_3 : l0_3.length ≤ c0_3) (hr0_4 : Kd.C (Kd.slice 3 (Kd.int .i64)) w A0_4 l0_4.length l0_4) (hc0_4 : l0_4.length ≤ c0_4) (hL : LaidW w) (h : laws_FnExactWalk.f k a0_0 a0_1 l0_2 l0_3 l0_4 a1 a2 = some r) :
  Calls Tryd.prog 4 #[.agg #[.int .i64 a0_0, .int .i64 a0_1, .slice A0_2 l0_2.length c0_2, .slice A0_3 l0_3.length c0_3, .slice A0_4 l0_4.length c0_4], .int .i64 a1, .int .i64 a2] w fun e w' => e = .returned (.bool r) ∧ Below w.heap.size w w' := by
 have hu42 := Tryd.underlying42
 have hu47 := Tryd.underlying47
 have HR0_2 := Aside0.mk hr0_2
 have HC0_2 := Aside0.mk hc0_2
 clear hr0_2 hc0_2
 have HR0_3 := Aside0.mk hr0_3
 have HC0_3 := Aside0.mk hc0_3
 clear hr0_3 hc0_3
 have HR0_4 := Aside0.mk hr0_4
 have HC0_4 := Aside0.mk hc0_4
 clear hr0_4 hc0_4
 have HLD := Aside0.mk hL
 clear hL
 have HB := Aside0.mk (Below.refl w.heap.size w)
 have H : ((laws_szTables.f k a0_0 a0_1 l0_2 l0_3 l0_4 1048576).bind fun t291 => (if t291 < 0 then (some true) else ((laws_toTables.f k a0_0 a0_1 l0_2 l0_3 l0_4).bind fun bt292 => ((spec_Walk.f k bt292.1 bt292.2.1 bt292.2.2.1 bt292.2.2.2.1 bt292.2.2.2.2 a1 a2).bind fun bt303 => ((laws_toTables.f k a0_0 a0_1 l0_2 l0_3 l0_4).bind fun bt307 => ((impl_Walk.f k bt307.1 bt307.2.1 bt307.2.2.1 bt307.2.2.2.1 bt307.2.2.2.2 a1 a2).bind fun bt319 => ((laws_eqIntS.f k bt319.1 bt303.1).bind fun t323 => (if t323 = true then (laws_FnExactWalk.j0 k a1 a2 bt303.1 bt303.2 bt319.1 bt319.2 (bt319.2 != bt303.2) a0_0 a0_1 l0_2 l0_3 l0_4 bt307.1 bt307.2.1 bt307.2.2.1 bt307.2.2.2.1 bt307.2.2.2.2) else (laws_FnExactWalk.j0 k a1 a2 bt303.1 bt303.2 bt319.1 bt319.2 true a0_0 a0_1 l0_2 l0_3 l0_4 bt307.1 bt307.2.1 bt307.2.2.1 bt307.2.2.2.1 bt307.2.2.2.2))))))))) = some r := h
 clear h
 replace H := Option.bind_eq_some_iff.mp H
 obtain ⟨t291, A40, H⟩ := H
 replace H : (if t291 < 0 then (some true) else ((laws_toTables.f k a0_0 a0_1 l0_2 l0_3 l0_4).bind fun bt292 => ((spec_Walk.f k bt292.1 bt292.2.1 bt292.2.2.1 bt292.2.2.2.1 bt292.2.2.2.2 a1 a2).bind fun bt303 => ((laws_toTables.f k a0_0 a0_1 l0_2 l0_3 l0_4).bind fun bt307 => ((impl_Walk.f k bt307.1 bt307.2.1 bt307.2.2.1 bt307.2.2.2.1 bt307.2.2.2.2 a1 a2).bind fun bt319 => ((laws_eqIntS.f k bt319.1 bt303.1).bind fun t323 => (if t323 = true then (laws_FnExactWalk.j0 k a1 a2 bt303.1 bt303.2 bt319.1 bt319.2 (bt319.2 != bt303.2) a0_0 a0_1 l0_2 l0_3 l0_4 bt307.1 bt307.2.1 bt307.2.2.1 bt307.2.2.2.1 bt307.2.2.2.2) else (laws_FnExactWalk.j0 k a1 a2 bt303.1 bt303.2 bt319.1 bt319.2 true a0_0 a0_1 l0_2 l0_3 l0_4 bt307.1 bt307.2.1 bt307.2.2.1 bt307.2.2.2.1 bt307.2.2.2.2)))))))) = some r := H
 have A4 := Aside0.mk A40
 clear A40
 by_cases c5 : t291 < 0
 ·rw [if_pos c5] at H
  have c5b0 : decide (t291 < 0) = true := decide_eq_true c5
  clear c5
  obtain rfl := Option.some.inj H
  go_enter Tryd.func4, Tryd.ntmps4
  go_wp2_with (first | ((with_reducible refine gate_dst (N := 3) rfl ?_); refine box_event ?hg (N := 3) ?hd (cs := #[.int .i64 a0_0, .int .i64 a0_1, .slice A0_2 l0_2.length c0_2, .slice A0_3 l0_3.length c0_3, .slice A0_4 l0_4.length c0_4]) (t := 42) ?hr ?_; (case hd => rfl); (case hg => rfl); (case hr => first | (go_simp; done) | (go_simp; rfl)); intro gb290 hg w6 hbox hb; have n0_ := Aside0.mk (below_step z_ hb); have n1_ := Aside0.mk (hbox); have n2_ := Aside0.mk ((by rw [hg]; exact (below_size z_) : w.heap.size ≤ gb290)); have n3_ := Aside0.mk ((by rw [hg]; exact (below_size z_) : w.heap.size ≤ gb290)); clear HB; have HB := n0_; have BK290 := n1_; have GW290 := n2_; have GE290 := n3_; clear n0_ n1_ n2_ n3_; clear hb hbox hg; have hcz7_0 : w6.cell? ⟨gb290, 0, none⟩ = some (.int .i64 a0_0) := (blk_cell BK290.out 0).trans rfl; have hcz7_1 : w6.cell? ⟨gb290, 1, none⟩ = some (.int .i64 a0_1) := (blk_cell BK290.out 1).trans rfl; have hcz7_2 : w6.cell? ⟨gb290, 2, none⟩ = some (.slice A0_2 l0_2.length c0_2) := (blk_cell BK290.out 2).trans rfl; have hcz7_3 : w6.cell? ⟨gb290, 3, none⟩ = some (.slice A0_3 l0_3.length c0_3) := (blk_cell BK290.out 3).trans rfl; have hcz7_4 : w6.cell? ⟨gb290, 4, none⟩ = some (.slice A0_4 l0_4.length c0_4) := (blk_cell BK290.out 4).trans rfl; have hfz7_0 := blk_frozen BK290.out 0; have hfz7_1 := blk_frozen BK290.out 1; have hfz7_2 := blk_frozen BK290.out 2; have hfz7_3 := blk_frozen BK290.out 3; have hfz7_4 := blk_frozen BK290.out 4) | ((with_reducible refine gate_callee (f := 22) rfl ?_); refine goesL_ (some 20) rfl rfl Tryd.func22 (by kernel_rfl) rfl #[.agg #[.int .i64 a0_0, .int .i64 a0_1, .slice A0_2 l0_2.length c0_2, .slice A0_3 l0_3.length c0_3, .slice A0_4 l0_4.length c0_4], .int .i64 1048576] rfl za ?_; (with_reducible refine (laws_szTables.calls k a0_0 a0_1 _ _ l0_2 _ _ l0_3 _ _ l0_4 1048576 t291 _ ?side1 ?side2 ?side3 ?side4 ?side5 ?side6 A4.out).mono ?_); (case side1 => exact zc (Kd.C_below HR0_2.out HB.out)); (case side2 => exact HC0_2.out); (case side3 => exact zc (Kd.C_below HR0_3.out HB.out)); (case side4 => exact HC0_3.out); (case side5 => exact zc (Kd.C_below HR0_4.out HB.out)); (case side6 => exact HC0_4.out); rintro e w8 ⟨rfl, hb⟩; refine ⟨_, rfl, ?_⟩; have n0_ := Aside0.mk (blk_below (g := gb290) (o := .cells #[.int .i64 a0_0, .int .i64 a0_1, .slice A0_2 l0_2.length c0_2, .slice A0_3 l0_3.length c0_3, .slice A0_4 l0_4.length c0_4] 42 (0, 0)) (zb BK290.out) hb); have n1_ := Aside0.mk (below_step (zs GE290.out) hb); clear BK290; clear HB; have BK290 := n0_; have HB := n1_; clear n0_ n1_; (try clear hb); (try clear hb2); (try clear hk); (try clear hi)))
  go_ret
  exact ⟨ze, (zs GE290.out)⟩
 ·rw [if_neg c5] at H
  have c5b0 : decide (t291 < 0) = false := decide_eq_false c5
  clear c5
  replace H := Option.bind_eq_some_iff.mp H
  obtain ⟨⟨t292, t293, t294, t297, t300⟩, A90, H⟩ := H
  replace H : ((spec_Walk.f k t292 t293 t294 t297 t300 a1 a2).bind fun bt303 => ((laws_toTables.f k a0_0 a0_1 l0_2 l0_3 l0_4).bind fun bt307 => ((impl_Walk.f k bt307.1 bt307.2.1 bt307.2.2.1 bt307.2.2.2.1 bt307.2.2.2.2 a1 a2).bind fun bt319 => ((laws_eqIntS.f k bt319.1 bt303.1).bind fun t323 => (if t323 = true then (laws_FnExactWalk.j0 k a1 a2 bt303.1 bt303.2 bt319.1 bt319.2 (bt319.2 != bt303.2) a0_0 a0_1 l0_2 l0_3 l0_4 bt307.1 bt307.2.1 bt307.2.2.1 bt307.2.2.2.1 bt307.2.2.2.2) else (laws_FnExactWalk.j0 k a1 a2 bt303.1 bt303.2 bt319.1 bt319.2 true a0_0 a0_1 l0_2 l0_3 l0_4 bt307.1 bt307.2.1 bt307.2.2.1 bt307.2.2.2.1 bt307.2.2.2.2)))))) = some r := H
  have A9 := Aside0.mk A90
  clear A90
  replace H := Option.bind_eq_some_iff.mp H
  obtain ⟨⟨t303, t306⟩, A100, H⟩ := H
  replace H : ((laws_toTables.f k a0_0 a0_1 l0_2 l0_3 l0_4).bind fun bt307 => ((impl_Walk.f k bt307.1 bt307.2.1 bt307.2.2.1 bt307.2.2.2.1 bt307.2.2.2.2 a1 a2).bind fun bt319 => ((laws_eqIntS.f k bt319.1 t303).bind fun t323 => (if t323 = true then (laws_FnExactWalk.j0 k a1 a2 t303 t306 bt319.1 bt319.2 (bt319.2 != t306) a0_0 a0_1 l0_2 l0_3 l0_4 bt307.1 bt307.2.1 bt307.2.2.1 bt307.2.2.2.1 bt307.2.2.2.2) else (laws_FnExactWalk.j0 k a1 a2 t303 t306 bt319.1 bt319.2 true a0_0 a0_1 l0_2 l0_3 l0_4 bt307.1 bt307.2.1 bt307.2.2.1 bt307.2.2.2.1 bt307.2.2.2.2))))) = some r := H
  have A10 := Aside0.mk A100
  clear A100
  replace H := Option.bind_eq_some_iff.mp H
  obtain ⟨⟨t307, t308, t309, t312, t315⟩, A110, H⟩ := H
  replace H : ((impl_Walk.f k t307 t308 t309 t312 t315 a1 a2).bind fun bt319 => ((laws_eqIntS.f k bt319.1 t303).bind fun t323 => (if t323 = true then (laws_FnExactWalk.j0 k a1 a2 t303 t306 bt319.1 bt319.2 (bt319.2 != t306) a0_0 a0_1 l0_2 l0_3 l0_4 t307 t308 t309 t312 t315) else (laws_FnExactWalk.j0 k a1 a2 t303 t306 bt319.1 bt319.2 true a0_0 a0_1 l0_2 l0_3 l0_4 t307 t308 t309 t312 t315)))) = some r := H
  have A11 := Aside0.mk A110
  clear A110
  replace H := Option.bind_eq_some_iff.mp H
  obtain ⟨⟨t319, t322⟩, A120, H⟩ := H
  replace H : ((laws_eqIntS.f k t319 t303).bind fun t323 => (if t323 = true then (laws_FnExactWalk.j0 k a1 a2 t303 t306 t319 t322 (t322 != t306) a0_0 a0_1 l0_2 l0_3 l0_4 t307 t308 t309 t312 t315) else (laws_FnExactWalk.j0 k a1 a2 t303 t306 t319 t322 true a0_0 a0_1 l0_2 l0_3 l0_4 t307 t308 t309 t312 t315))) = some r := H
  have A12 := Aside0.mk A120
  clear A120
  have HC13 := Aside0.mk H
  clear H
  go_enter Tryd.func4, Tryd.ntmps4
  go_upto_region 8 with (first | ((with_reducible refine gate_dst (N := 3) rfl ?_); refine box_event ?hg (N := 3) ?hd (cs := #[.int .i64 a0_0, .int .i64 a0_1, .slice A0_2 l0_2.length c0_2, .slice A0_3 l0_3.length c0_3, .slice A0_4 l0_4.length c0_4]) (t := 42) ?hr ?_; (case hd => rfl); (case hg => rfl); (case hr => first | (go_simp; done) | (go_simp; rfl)); intro gb290 hg w14 hbox hb; have n0_ := Aside0.mk (below_step z_ hb); have n1_ := Aside0.mk (hbox); have n2_ := Aside0.mk ((by rw [hg]; exact (below_size z_) : w.heap.size ≤ gb290)); have n3_ := Aside0.mk ((by rw [hg]; exact (below_size z_) : w.heap.size ≤ gb290)); clear HB; have HB := n0_; have BK290 := n1_; have GW290 := n2_; have GE290 := n3_; clear n0_ n1_ n2_ n3_; clear hb hbox hg; have hcz15_0 : w14.cell? ⟨gb290, 0, none⟩ = some (.int .i64 a0_0) := (blk_cell BK290.out 0).trans rfl; have hcz15_1 : w14.cell? ⟨gb290, 1, none⟩ = some (.int .i64 a0_1) := (blk_cell BK290.out 1).trans rfl; have hcz15_2 : w14.cell? ⟨gb290, 2, none⟩ = some (.slice A0_2 l0_2.length c0_2) := (blk_cell BK290.out 2).trans rfl; have hcz15_3 : w14.cell? ⟨gb290, 3, none⟩ = some (.slice A0_3 l0_3.length c0_3) := (blk_cell BK290.out 3).trans rfl; have hcz15_4 : w14.cell? ⟨gb290, 4, none⟩ = some (.slice A0_4 l0_4.length c0_4) := (blk_cell BK290.out 4).trans rfl; have hfz15_0 := blk_frozen BK290.out 0; have hfz15_1 := blk_frozen BK290.out 1; have hfz15_2 := blk_frozen BK290.out 2; have hfz15_3 := blk_frozen BK290.out 3; have hfz15_4 := blk_frozen BK290.out 4) | ((with_reducible refine gate_callee (f := 22) rfl ?_); refine goesL_ (some 20) rfl rfl Tryd.func22 (by kernel_rfl) rfl #[.agg #[.int .i64 a0_0, .int .i64 a0_1, .slice A0_2 l0_2.length c0_2, .slice A0_3 l0_3.length c0_3, .slice A0_4 l0_4.length c0_4], .int .i64 1048576] rfl za ?_; (with_reducible refine (laws_szTables.calls k a0_0 a0_1 _ _ l0_2 _ _ l0_3 _ _ l0_4 1048576 t291 _ ?side1 ?side2 ?side3 ?side4 ?side5 ?side6 A4.out).mono ?_); (case side1 => exact zc (Kd.C_below HR0_2.out HB.out)); (case side2 => exact HC0_2.out); (case side3 => exact zc (Kd.C_below HR0_3.out HB.out)); (case side4 => exact HC0_3.out); (case side5 => exact zc (Kd.C_below HR0_4.out HB.out)); (case side6 => exact HC0_4.out); rintro e w16 ⟨rfl, hb⟩; refine ⟨_, rfl, ?_⟩; have n0_ := Aside0.mk (blk_below (g := gb290) (o := .cells #[.int .i64 a0_0, .int .i64 a0_1, .slice A0_2 l0_2.length c0_2, .slice A0_3 l0_3.length c0_3, .slice A0_4 l0_4.length c0_4] 42 (0, 0)) (zb BK290.out) hb); have n1_ := Aside0.mk (below_step (zs GE290.out) hb); clear BK290; clear HB; have BK290 := n0_; have HB := n1_; clear n0_ n1_; (try clear hb); (try clear hb2); (try clear hk); (try clear hi); have hcz17_0 : w16.cell? ⟨gb290, 0, none⟩ = some (.int .i64 a0_0) := (blk_cell BK290.out 0).trans rfl; have hcz17_1 : w16.cell? ⟨gb290, 1, none⟩ = some (.int .i64 a0_1) := (blk_cell BK290.out 1).trans rfl; have hcz17_2 : w16.cell? ⟨gb290, 2, none⟩ = some (.slice A0_2 l0_2.length c0_2) := (blk_cell BK290.out 2).trans rfl; have hcz17_3 : w16.cell? ⟨gb290, 3, none⟩ = some (.slice A0_3 l0_3.length c0_3) := (blk_cell BK290.out 3).trans rfl; have hcz17_4 : w16.cell? ⟨gb290, 4, none⟩ = some (.slice A0_4 l0_4.length c0_4) := (blk_cell BK290.out 4).trans rfl; have hfz17_0 := blk_frozen BK290.out 0; have hfz17_1 := blk_frozen BK290.out 1; have hfz17_2 := blk_frozen BK290.out 2; have hfz17_3 := blk_frozen BK290.out 3; have hfz17_4 := blk_frozen BK290.out 4) | ((with_reducible refine gate_callee (f := 24) rfl ?_); refine goesL_ (some 25) rfl rfl Tryd.func24 (by kernel_rfl) rfl #[.agg #[.int .i64 a0_0, .int .i64 a0_1, .slice A0_2 l0_2.length c0_2, .slice A0_3 l0_3.length c0_3, .slice A0_4 l0_4.length c0_4]] rfl za ?_; (with_reducible refine (laws_toTables.calls k a0_0 a0_1 _ _ l0_2 _ _ l0_3 _ _ l0_4 t292 t293 t294 t297 t300 _ ?side1 ?side2 ?side3 ?side4 ?side5 ?side6 A9.out).mono ?_); (case side1 => exact zc (Kd.C_below HR0_2.out HB.out)); (case side2 => exact HC0_2.out); (case side3 => exact zc (Kd.C_below HR0_3.out HB.out)); (case side4 => exact HC0_3.out); (case side5 => exact zc (Kd.C_below HR0_4.out HB.out)); (case side6 => exact HC0_4.out); rintro e w18 ⟨v295, v298, v301, rfl, ho0, ho1, ho2, hb⟩; refine ⟨_, rfl, ?_⟩; have n0_ := Aside0.mk (Kd.S_lower ho0 (below_size (zs GE290.out))); have n1_ := Aside0.mk (Kd.S_lower ho1 (below_size (zs GE290.out))); have n2_ := Aside0.mk (Kd.S_lower ho2 (below_size (zs GE290.out))); have n3_ := Aside0.mk (blk_below (g := gb290) (o := .cells #[.int .i64 a0_0, .int .i64 a0_1, .slice A0_2 l0_2.length c0_2, .slice A0_3 l0_3.length c0_3, .slice A0_4 l0_4.length c0_4] 42 (0, 0)) (zb BK290.out) hb); have n4_ := Aside0.mk (below_step (zs GE290.out) hb); clear BK290; clear HB; have HO296 := n0_; have HO299 := n1_; have HO302 := n2_; have BK290 := n3_; have HB := n4_; clear n0_ n1_ n2_ n3_ n4_; (try clear hb); (try clear hb2); (try clear hk); (try clear hi); (try clear ho0); (try clear ho1); (try clear ho2); obtain ⟨Ao19, co19, eo19⟩ := Kd.S_slice HO296.out; subst eo19; obtain ⟨Ao20, co20, eo20⟩ := Kd.S_slice HO299.out; subst eo20; obtain ⟨Ao21, co21, eo21⟩ := Kd.S_slice HO302.out; subst eo21) | ((with_reducible refine gate_callee (f := 23) rfl ?_); refine goesL_ (some 28) rfl rfl Tryd.func23 (by kernel_rfl) rfl #[.agg #[.int .i64 t292, .int .i64 t293, .slice Ao19 t294.length co19, .slice Ao20 t297.length co20, .slice Ao21 t300.length co21], .int .i64 a1, .int .i64 a2] rfl za ?_; (with_reducible refine (spec_Walk.calls k t292 t293 _ _ t294 _ _ t297 _ _ t300 a1 a2 t303 t306 _ ?side1 ?side2 ?side3 ?side4 ?side5 ?side6 A10.out).mono ?_); (case side1 => repeat (first | exact (Kd.S_reads' HO296.out).2.2 | (with_reducible refine Kd.C_alloc ?_ _) | (with_reducible refine Kd.C_drewN ?_ _) | (with_reducible refine Kd.C_drew ?_))); (case side2 => exact (Kd.S_reads' HO296.out).2.1); (case side3 => repeat (first | exact (Kd.S_reads' HO299.out).2.2 | (with_reducible refine Kd.C_alloc ?_ _) | (with_reducible refine Kd.C_drewN ?_ _) | (with_reducible refine Kd.C_drew ?_))); (case side4 => exact (Kd.S_reads' HO299.out).2.1); (case side5 => repeat (first | exact (Kd.S_reads' HO302.out).2.2 | (with_reducible refine Kd.C_alloc ?_ _) | (with_reducible refine Kd.C_drewN ?_ _) | (with_reducible refine Kd.C_drew ?_))); (case side6 => exact (Kd.S_reads' HO302.out).2.1); rintro e w22 ⟨v304, rfl, ho0, hb⟩; refine ⟨_, rfl, ?_⟩; have n0_ := Aside0.mk (Kd.S_below (zS HO296.out) hb); have n1_ := Aside0.mk (Kd.S_elder' (zS HO299.out) (Kd.R_base ho0) hb); have n2_ := Aside0.mk (Kd.S_elder' (zS HO302.out) (Kd.R_base ho0) hb); have n3_ := Aside0.mk (Kd.R_lower ho0 (below_size (zs GE290.out))); have n4_ := Aside0.mk (blk_below (g := gb290) (o := .cells #[.int .i64 a0_0, .int .i64 a0_1, .slice A0_2 l0_2.length c0_2, .slice A0_3 l0_3.length c0_3, .slice A0_4 l0_4.length c0_4] 42 (0, 0)) (zb BK290.out) hb); have n5_ := Aside0.mk (below_step (zs GE290.out) hb); clear HO296; clear HO299; clear HO302; clear BK290; clear HB; have HO296 := n0_; have HO299 := n1_; have HO302 := n2_; have HO305 := n3_; have BK290 := n4_; have HB := n5_; clear n0_ n1_ n2_ n3_ n4_ n5_; (try clear hb); (try clear hb2); (try clear hk); (try clear hi); (try clear ho0); have hcz23_0 : w22.cell? ⟨gb290, 0, none⟩ = some (.int .i64 a0_0) := (blk_cell BK290.out 0).trans rfl; have hcz23_1 : w22.cell? ⟨gb290, 1, none⟩ = some (.int .i64 a0_1) := (blk_cell BK290.out 1).trans rfl; have hcz23_2 : w22.cell? ⟨gb290, 2, none⟩ = some (.slice A0_2 l0_2.length c0_2) := (blk_cell BK290.out 2).trans rfl; have hcz23_3 : w22.cell? ⟨gb290, 3, none⟩ = some (.slice A0_3 l0_3.length c0_3) := (blk_cell BK290.out 3).trans rfl; have hcz23_4 : w22.cell? ⟨gb290, 4, none⟩ = some (.slice A0_4 l0_4.length c0_4) := (blk_cell BK290.out 4).trans rfl; have hfz23_0 := blk_frozen BK290.out 0; have hfz23_1 := blk_frozen BK290.out 1; have hfz23_2 := blk_frozen BK290.out 2; have hfz23_3 := blk_frozen BK290.out 3; have hfz23_4 := blk_frozen BK290.out 4) | ((with_reducible refine gate_callee (f := 24) rfl ?_); refine goesL_ (some 32) rfl rfl Tryd.func24 (by kernel_rfl) rfl #[.agg #[.int .i64 a0_0, .int .i64 a0_1, .slice A0_2 l0_2.length c0_2, .slice A0_3 l0_3.length c0_3, .slice A0_4 l0_4.length c0_4]] rfl za ?_; (with_reducible refine (laws_toTables.calls k a0_0 a0_1 _ _ l0_2 _ _ l0_3 _ _ l0_4 t307 t308 t309 t312 t315 _ ?side1 ?side2 ?side3 ?side4 ?side5 ?side6 A11.out).mono ?_); (case side1 => exact zc (Kd.C_below HR0_2.out HB.out)); (case side2 => exact HC0_2.out); (case side3 => exact zc (Kd.C_below HR0_3.out HB.out)); (case side4 => exact HC0_3.out); (case side5 => exact zc (Kd.C_below HR0_4.out HB.out)); (case side6 => exact HC0_4.out); rintro e w24 ⟨v310, v313, v316, rfl, ho0, ho1, ho2, hb⟩; refine ⟨_, rfl, ?_⟩; have n0_ := Aside0.mk (Kd.S_elder' (zS HO296.out) (Kd.S_base ho0) hb); have n1_ := Aside0.mk (Kd.S_mono (Kd.S_told (Kd.S_told (Kd.S_old (zS HO299.out) hb) (Kd.S_base ho1)) (Kd.S_base ho2)) (fun _ h_ => h_.1)); have n2_ := Aside0.mk (Kd.S_mono (Kd.S_told (Kd.S_told (Kd.S_old (zS HO302.out) hb) (Kd.S_base ho1)) (Kd.S_base ho2)) (fun _ h_ => h_.1)); have n3_ := Aside0.mk (Kd.R_below (by (with_reducible repeat (first | apply Kd.R_alloc | apply Kd.R_drewN | apply Kd.R_drew)); exact HO305.out) hb); have n4_ := Aside0.mk (Kd.S_lower (Kd.S_new' ho0 (Kd.S_lt (zS HO296.out))) (below_size (zs GE290.out))); have n5_ := Aside0.mk (Kd.S_lower (Kd.S_new' (Kd.S_new' (Kd.S_new' ho1 (Kd.S_lt (zS HO299.out))) (Kd.S_lt (zS HO302.out))) (Kd.R_lt (by (with_reducible repeat (first | apply Kd.R_alloc | apply Kd.R_drewN | apply Kd.R_drew)); exact HO305.out))) (below_size (zs GE290.out))); have n6_ := Aside0.mk (Kd.S_lower (Kd.S_new' (Kd.S_new' (Kd.S_new' ho2 (Kd.S_lt (zS HO299.out))) (Kd.S_lt (zS HO302.out))) (Kd.R_lt (by (with_reducible repeat (first | apply Kd.R_alloc | apply Kd.R_drewN | apply Kd.R_drew)); exact HO305.out))) (below_size (zs GE290.out))); have n7_ := Aside0.mk (blk_below (g := gb290) (o := .cells #[.int .i64 a0_0, .int .i64 a0_1, .slice A0_2 l0_2.length c0_2, .slice A0_3 l0_3.length c0_3, .slice A0_4 l0_4.length c0_4] 42 (0, 0)) (zb BK290.out) hb); have n8_ := Aside0.mk (below_step (zs GE290.out) hb); clear HO296; clear HO299; clear HO302; clear HO305; clear BK290; clear HB; have HO296 := n0_; have HO299 := n1_; have HO302 := n2_; have HO305 := n3_; have HO311 := n4_; have HO314 := n5_; have HO317 := n6_; have BK290 := n7_; have HB := n8_; clear n0_ n1_ n2_ n3_ n4_ n5_ n6_ n7_ n8_; (try clear hb); (try clear hb2); (try clear hk); (try clear hi); (try clear ho0); (try clear ho1); (try clear ho2)) | ((with_reducible refine gate_dst (N := 10) rfl ?_); refine box_event ?hg (N := 10) ?hd (cs := #[.int .i64 0, .int .i64 0, .slice none 0 0, .slice none 0 0, .slice none 0 0]) (t := 47) ?hr ?_; (case hd => rfl); (case hg => rfl); (case hr => first | (go_simp; done) | (go_simp; rfl)); intro gb318 hg w25 hbox hb; have n0_ := Aside0.mk (Kd.S_below (zS HO296.out) hb); have n1_ := Aside0.mk (Kd.S_below (zS HO299.out) hb); have n2_ := Aside0.mk (Kd.S_below (zS HO302.out) hb); have n3_ := Aside0.mk (Kd.R_below (by (with_reducible repeat (first | apply Kd.R_alloc | apply Kd.R_drewN | apply Kd.R_drew)); exact HO305.out) hb); have n4_ := Aside0.mk (Kd.S_below (zS HO311.out) hb); have n5_ := Aside0.mk (Kd.S_below (zS HO314.out) hb); have n6_ := Aside0.mk (Kd.S_below (zS HO317.out) hb); have n7_ := Aside0.mk (blk_below (g := gb290) (o := .cells #[.int .i64 a0_0, .int .i64 a0_1, .slice A0_2 l0_2.length c0_2, .slice A0_3 l0_3.length c0_3, .slice A0_4 l0_4.length c0_4] 42 (0, 0)) (zb BK290.out) hb); have n8_ := Aside0.mk (below_step (zs GE290.out) hb); have n9_ := Aside0.mk (hbox); have n10_ := Aside0.mk ((by rw [hg]; exact (below_size (zs GE290.out)) : w.heap.size ≤ gb318)); have n11_ := Aside0.mk ((by rw [hg]; exact (below_size (zs GE290.out)) : w.heap.size ≤ gb318)); have n12_ := Aside0.mk ((by rw [hg]; exact Nat.ne_of_lt (blk_lt (g := gb290) (o := .cells #[.int .i64 a0_0, .int .i64 a0_1, .slice A0_2 l0_2.length c0_2, .slice A0_3 l0_3.length c0_3, .slice A0_4 l0_4.length c0_4] 42 (0, 0)) (zb BK290.out)) : gb290 ≠ gb318)); have n13_ := Aside0.mk ((by rw [hg]; exact Nat.ne_of_gt (blk_lt (g := gb290) (o := .cells #[.int .i64 a0_0, .int .i64 a0_1, .slice A0_2 l0_2.length c0_2, .slice A0_3 l0_3.length c0_3, .slice A0_4 l0_4.length c0_4] 42 (0, 0)) (zb BK290.out)) : gb318 ≠ gb290)); clear HO296; clear HO299; clear HO302; clear HO305; clear HO311; clear HO314; clear HO317; clear BK290; clear HB; have HO296 := n0_; have HO299 := n1_; have HO302 := n2_; have HO305 := n3_; have HO311 := n4_; have HO314 := n5_; have HO317 := n6_; have BK290 := n7_; have HB := n8_; have BK318 := n9_; have GW318 := n10_; have GE318 := n11_; have NB290_318 := n12_; have NB318_290 := n13_; clear n0_ n1_ n2_ n3_ n4_ n5_ n6_ n7_ n8_ n9_ n10_ n11_ n12_ n13_; clear hb hbox hg; have hnb26 := NB318_290.out; have hnc26 := NB290_318.out; have hcz27_0 : w25.cell? ⟨gb318, 0, none⟩ = some (.int .i64 0) := (blk_cell BK318.out 0).trans rfl; have hcz27_1 : w25.cell? ⟨gb318, 1, none⟩ = some (.int .i64 0) := (blk_cell BK318.out 1).trans rfl; have hcz27_2 : w25.cell? ⟨gb318, 2, none⟩ = some (.slice none 0 0) := (blk_cell BK318.out 2).trans rfl; have hcz27_3 : w25.cell? ⟨gb318, 3, none⟩ = some (.slice none 0 0) := (blk_cell BK318.out 3).trans rfl; have hcz27_4 : w25.cell? ⟨gb318, 4, none⟩ = some (.slice none 0 0) := (blk_cell BK318.out 4).trans rfl; have hfz27_0 := blk_frozen BK318.out 0; have hfz27_1 := blk_frozen BK318.out 1; have hfz27_2 := blk_frozen BK318.out 2; have hfz27_3 := blk_frozen BK318.out 3; have hfz27_4 := blk_frozen BK318.out 4; obtain ⟨Ao28, co28, eo28⟩ := Kd.S_slice HO311.out; subst eo28; obtain ⟨Ao29, co29, eo29⟩ := Kd.S_slice HO314.out; subst eo29; obtain ⟨Ao30, co30, eo30⟩ := Kd.S_slice HO317.out; subst eo30) | ((with_reducible refine gate_callee (f := 25) rfl ?_); refine goesL_ (some 37) rfl rfl Tryd.func25 (by kernel_rfl) rfl #[.agg #[.int .i64 t307, .int .i64 t308, .slice Ao28 t309.length co28, .slice Ao29 t312.length co29, .slice Ao30 t315.length co30], .int .i64 a1, .int .i64 a2] rfl za ?_; (with_reducible refine (impl_Walk.calls k t307 t308 _ _ t309 _ _ t312 _ _ t315 a1 a2 t319 t322 _ ?side1 ?side2 ?side3 ?side4 ?side5 ?side6 ?side7 A12.out).mono ?_); (case side1 => refine (Kd.S_reads' (e := 120) (base := w.heap.size) (ok := fun k_ => (True ∧ some k_ ≠ (.slice Ao19 t294.length co19 : Value).ownBlock)) (n := t309.length) (c := co28) ?_).2.2; exact (by (with_reducible repeat (first | apply Kd.S_alloc | apply Kd.S_drewN | apply Kd.S_drew)); exact (Kd.S_mono (Kd.S_far (p := ⟨gb318, 4, none⟩) (Kd.S_far (p := ⟨gb318, 3, none⟩) (Kd.S_far (p := ⟨gb318, 2, none⟩) (Kd.S_far (p := ⟨gb318, 1, none⟩) (Kd.S_far (p := ⟨gb318, 0, none⟩) (Kd.S_types HO311.out BK318.out (by decide)) (fun _ hk => hk.2) (.int .i64 t307)) (fun _ hk => hk.2) (.int .i64 t308)) (fun _ hk => hk.2) (.slice Ao28 t309.length co28)) (fun _ hk => hk.2) (.slice Ao29 t312.length co29)) (fun _ hk => hk.2) (.slice Ao30 t315.length co30)) (fun _ h_ => h_.1)))); (case side2 => exact (Kd.S_reads' HO311.out).2.1); (case side3 => refine (Kd.S_reads' (e := 22) (base := w.heap.size) (ok := fun k_ => (((some k_ ≠ (.slice Ao30 t315.length co30 : Value).ownBlock ∧ some k_ ≠ (.slice Ao20 t297.length co20 : Value).ownBlock) ∧ some k_ ≠ (.slice Ao21 t300.length co21 : Value).ownBlock) ∧ some k_ ≠ (v304 : Value).ownBlock)) (n := t312.length) (c := co29) ?_).2.2; exact (by (with_reducible repeat (first | apply Kd.S_alloc | apply Kd.S_drewN | apply Kd.S_drew)); exact (Kd.S_mono (Kd.S_far (p := ⟨gb318, 4, none⟩) (Kd.S_far (p := ⟨gb318, 3, none⟩) (Kd.S_far (p := ⟨gb318, 2, none⟩) (Kd.S_far (p := ⟨gb318, 1, none⟩) (Kd.S_far (p := ⟨gb318, 0, none⟩) (Kd.S_types HO314.out BK318.out (by decide)) (fun _ hk => hk.2) (.int .i64 t307)) (fun _ hk => hk.2) (.int .i64 t308)) (fun _ hk => hk.2) (.slice Ao28 t309.length co28)) (fun _ hk => hk.2) (.slice Ao29 t312.length co29)) (fun _ hk => hk.2) (.slice Ao30 t315.length co30)) (fun _ h_ => h_.1)))); (case side4 => exact (Kd.S_reads' HO314.out).2.1); (case side5 => refine (Kd.S_reads' (e := 22) (base := w.heap.size) (ok := fun k_ => (((some k_ ≠ (.slice Ao29 t312.length co29 : Value).ownBlock ∧ some k_ ≠ (.slice Ao20 t297.length co20 : Value).ownBlock) ∧ some k_ ≠ (.slice Ao21 t300.length co21 : Value).ownBlock) ∧ some k_ ≠ (v304 : Value).ownBlock)) (n := t315.length) (c := co30) ?_).2.2; exact (by (with_reducible repeat (first | apply Kd.S_alloc | apply Kd.S_drewN | apply Kd.S_drew)); exact (Kd.S_mono (Kd.S_far (p := ⟨gb318, 4, none⟩) (Kd.S_far (p := ⟨gb318, 3, none⟩) (Kd.S_far (p := ⟨gb318, 2, none⟩) (Kd.S_far (p := ⟨gb318, 1, none⟩) (Kd.S_far (p := ⟨gb318, 0, none⟩) (Kd.S_types HO317.out BK318.out (by decide)) (fun _ hk => hk.2) (.int .i64 t307)) (fun _ hk => hk.2) (.int .i64 t308)) (fun _ hk => hk.2) (.slice Ao28 t309.length co28)) (fun _ hk => hk.2) (.slice Ao29 t312.length co29)) (fun _ hk => hk.2) (.slice Ao30 t315.length co30)) (fun _ h_ => h_.1)))); (case side6 => exact (Kd.S_reads' HO317.out).2.1); (case side7 => exact LaidW.below HLD.out (by repeat (first | (with_reducible first | exact HB.out | apply below_alloc | apply pw_below_drewN | apply below_drew1 | refine below_set ?_ GE290.out | refine below_set ?_ GE318.out) | exact HB.out))); rintro e w31 ⟨v320, rfl, ho0, hb⟩; refine ⟨_, rfl, ?_⟩; have n0_ := Aside0.mk (Kd.S_below (by (with_reducible repeat (first | apply Kd.S_alloc | apply Kd.S_drewN | apply Kd.S_drew)); exact (Kd.S_mono (Kd.S_far (p := ⟨gb318, 4, none⟩) (Kd.S_far (p := ⟨gb318, 3, none⟩) (Kd.S_far (p := ⟨gb318, 2, none⟩) (Kd.S_far (p := ⟨gb318, 1, none⟩) (Kd.S_far (p := ⟨gb318, 0, none⟩) (Kd.S_types HO296.out BK318.out (by decide)) (fun _ hk => hk.2) (.int .i64 t307)) (fun _ hk => hk.2) (.int .i64 t308)) (fun _ hk => hk.2) (.slice Ao28 t309.length co28)) (fun _ hk => hk.2) (.slice Ao29 t312.length co29)) (fun _ hk => hk.2) (.slice Ao30 t315.length co30)) (fun _ h_ => h_.1))) hb); have n1_ := Aside0.mk (Kd.S_elder' (by (with_reducible repeat (first | apply Kd.S_alloc | apply Kd.S_drewN | apply Kd.S_drew)); exact (Kd.S_mono (Kd.S_far (p := ⟨gb318, 4, none⟩) (Kd.S_far (p := ⟨gb318, 3, none⟩) (Kd.S_far (p := ⟨gb318, 2, none⟩) (Kd.S_far (p := ⟨gb318, 1, none⟩) (Kd.S_far (p := ⟨gb318, 0, none⟩) (Kd.S_types HO299.out BK318.out (by decide)) (fun _ hk => hk.2) (.int .i64 t307)) (fun _ hk => hk.2) (.int .i64 t308)) (fun _ hk => hk.2) (.slice Ao28 t309.length co28)) (fun _ hk => hk.2) (.slice Ao29 t312.length co29)) (fun _ hk => hk.2) (.slice Ao30 t315.length co30)) (fun _ h_ => h_.1))) (Kd.R_base ho0) hb); have n2_ := Aside0.mk (Kd.S_elder' (by (with_reducible repeat (first | apply Kd.S_alloc | apply Kd.S_drewN | apply Kd.S_drew)); exact (Kd.S_mono (Kd.S_far (p := ⟨gb318, 4, none⟩) (Kd.S_far (p := ⟨gb318, 3, none⟩) (Kd.S_far (p := ⟨gb318, 2, none⟩) (Kd.S_far (p := ⟨gb318, 1, none⟩) (Kd.S_far (p := ⟨gb318, 0, none⟩) (Kd.S_types HO302.out BK318.out (by decide)) (fun _ hk => hk.2) (.int .i64 t307)) (fun _ hk => hk.2) (.int .i64 t308)) (fun _ hk => hk.2) (.slice Ao28 t309.length co28)) (fun _ hk => hk.2) (.slice Ao29 t312.length co29)) (fun _ hk => hk.2) (.slice Ao30 t315.length co30)) (fun _ h_ => h_.1))) (Kd.R_base ho0) hb); have n3_ := Aside0.mk (Kd.R_elder' (by (with_reducible repeat (first | apply Kd.R_alloc | apply Kd.R_drewN | apply Kd.R_drew)); exact (Kd.R_mono (Kd.R_far (p := ⟨gb318, 4, none⟩) (Kd.R_far (p := ⟨gb318, 3, none⟩) (Kd.R_far (p := ⟨gb318, 2, none⟩) (Kd.R_far (p := ⟨gb318, 1, none⟩) (Kd.R_far (p := ⟨gb318, 0, none⟩) (Kd.R_types HO305.out BK318.out (by decide)) (fun _ hk => hk.2) (.int .i64 t307)) (fun _ hk => hk.2) (.int .i64 t308)) (fun _ hk => hk.2) (.slice Ao28 t309.length co28)) (fun _ hk => hk.2) (.slice Ao29 t312.length co29)) (fun _ hk => hk.2) (.slice Ao30 t315.length co30)) (fun _ h_ => h_.1))) (Kd.R_base ho0) hb); have n4_ := Aside0.mk (Kd.S_below (by (with_reducible repeat (first | apply Kd.S_alloc | apply Kd.S_drewN | apply Kd.S_drew)); exact (Kd.S_mono (Kd.S_far (p := ⟨gb318, 4, none⟩) (Kd.S_far (p := ⟨gb318, 3, none⟩) (Kd.S_far (p := ⟨gb318, 2, none⟩) (Kd.S_far (p := ⟨gb318, 1, none⟩) (Kd.S_far (p := ⟨gb318, 0, none⟩) (Kd.S_types HO311.out BK318.out (by decide)) (fun _ hk => hk.2) (.int .i64 t307)) (fun _ hk => hk.2) (.int .i64 t308)) (fun _ hk => hk.2) (.slice Ao28 t309.length co28)) (fun _ hk => hk.2) (.slice Ao29 t312.length co29)) (fun _ hk => hk.2) (.slice Ao30 t315.length co30)) (fun _ h_ => h_.1))) hb); have n5_ := Aside0.mk (Kd.S_elder' (by (with_reducible repeat (first | apply Kd.S_alloc | apply Kd.S_drewN | apply Kd.S_drew)); exact (Kd.S_mono (Kd.S_far (p := ⟨gb318, 4, none⟩) (Kd.S_far (p := ⟨gb318, 3, none⟩) (Kd.S_far (p := ⟨gb318, 2, none⟩) (Kd.S_far (p := ⟨gb318, 1, none⟩) (Kd.S_far (p := ⟨gb318, 0, none⟩) (Kd.S_types HO314.out BK318.out (by decide)) (fun _ hk => hk.2) (.int .i64 t307)) (fun _ hk => hk.2) (.int .i64 t308)) (fun _ hk => hk.2) (.slice Ao28 t309.length co28)) (fun _ hk => hk.2) (.slice Ao29 t312.length co29)) (fun _ hk => hk.2) (.slice Ao30 t315.length co30)) (fun _ h_ => h_.1))) (Kd.R_base ho0) hb); have n6_ := Aside0.mk (Kd.S_elder' (by (with_reducible repeat (first | apply Kd.S_alloc | apply Kd.S_drewN | apply Kd.S_drew)); exact (Kd.S_mono (Kd.S_far (p := ⟨gb318, 4, none⟩) (Kd.S_far (p := ⟨gb318, 3, none⟩) (Kd.S_far (p := ⟨gb318, 2, none⟩) (Kd.S_far (p := ⟨gb318, 1, none⟩) (Kd.S_far (p := ⟨gb318, 0, none⟩) (Kd.S_types HO317.out BK318.out (by decide)) (fun _ hk => hk.2) (.int .i64 t307)) (fun _ hk => hk.2) (.int .i64 t308)) (fun _ hk => hk.2) (.slice Ao28 t309.length co28)) (fun _ hk => hk.2) (.slice Ao29 t312.length co29)) (fun _ hk => hk.2) (.slice Ao30 t315.length co30)) (fun _ h_ => h_.1))) (Kd.R_base ho0) hb); have n7_ := Aside0.mk (Kd.R_lower (Kd.R_new' ho0 (Kd.R_lt (by (with_reducible repeat (first | apply Kd.R_alloc | apply Kd.R_drewN | apply Kd.R_drew)); exact (Kd.R_mono (Kd.R_far (p := ⟨gb318, 4, none⟩) (Kd.R_far (p := ⟨gb318, 3, none⟩) (Kd.R_far (p := ⟨gb318, 2, none⟩) (Kd.R_far (p := ⟨gb318, 1, none⟩) (Kd.R_far (p := ⟨gb318, 0, none⟩) (Kd.R_types HO305.out BK318.out (by decide)) (fun _ hk => hk.2) (.int .i64 t307)) (fun _ hk => hk.2) (.int .i64 t308)) (fun _ hk => hk.2) (.slice Ao28 t309.length co28)) (fun _ hk => hk.2) (.slice Ao29 t312.length co29)) (fun _ hk => hk.2) (.slice Ao30 t315.length co30)) (fun _ h_ => h_.1))))) (below_size (by repeat (first | (with_reducible first | exact HB.out | apply below_alloc | apply pw_below_drewN | apply below_drew1 | refine below_set ?_ GE290.out | refine below_set ?_ GE318.out) | exact HB.out)))); have n8_ := Aside0.mk (blk_below (g := gb290) (o := .cells #[.int .i64 a0_0, .int .i64 a0_1, .slice A0_2 l0_2.length c0_2, .slice A0_3 l0_3.length c0_3, .slice A0_4 l0_4.length c0_4] 42 (0, 0)) (by (with_reducible repeat (first | refine blk_drewN ?_ _ | refine blk_drew ?_ | refine blk_alloc ?_ _)); refine blk_far ?_ NB290_318.out _; (with_reducible repeat (first | refine blk_drewN ?_ _ | refine blk_drew ?_ | refine blk_alloc ?_ _)); refine blk_far ?_ NB290_318.out _; (with_reducible repeat (first | refine blk_drewN ?_ _ | refine blk_drew ?_ | refine blk_alloc ?_ _)); refine blk_far ?_ NB290_318.out _; (with_reducible repeat (first | refine blk_drewN ?_ _ | refine blk_drew ?_ | refine blk_alloc ?_ _)); refine blk_far ?_ NB290_318.out _; (with_reducible repeat (first | refine blk_drewN ?_ _ | refine blk_drew ?_ | refine blk_alloc ?_ _)); refine blk_far ?_ NB290_318.out _; (with_reducible repeat (first | refine blk_drewN ?_ _ | refine blk_drew ?_ | refine blk_alloc ?_ _)); exact BK290.out) hb); have n9_ := Aside0.mk (blk_below (g := gb318) (o := .cells #[.int .i64 t307, .int .i64 t308, .slice Ao28 t309.length co28, .slice Ao29 t312.length co29, .slice Ao30 t315.length co30] 47 (0, 0)) (by (with_reducible repeat (first | refine blk_drewN ?_ _ | refine blk_drew ?_ | refine blk_alloc ?_ _)); refine blk_put (cs := #[.int .i64 t307, .int .i64 t308, .slice Ao28 t309.length co28, .slice Ao29 t312.length co29, .slice none 0 0]) ?_ 4 _ rfl; (with_reducible repeat (first | refine blk_drewN ?_ _ | refine blk_drew ?_ | refine blk_alloc ?_ _)); refine blk_put (cs := #[.int .i64 t307, .int .i64 t308, .slice Ao28 t309.length co28, .slice none 0 0, .slice none 0 0]) ?_ 3 _ rfl; (with_reducible repeat (first | refine blk_drewN ?_ _ | refine blk_drew ?_ | refine blk_alloc ?_ _)); refine blk_put (cs := #[.int .i64 t307, .int .i64 t308, .slice none 0 0, .slice none 0 0, .slice none 0 0]) ?_ 2 _ rfl; (with_reducible repeat (first | refine blk_drewN ?_ _ | refine blk_drew ?_ | refine blk_alloc ?_ _)); refine blk_put (cs := #[.int .i64 t307, .int .i64 0, .slice none 0 0, .slice none 0 0, .slice none 0 0]) ?_ 1 _ rfl; (with_reducible repeat (first | refine blk_drewN ?_ _ | refine blk_drew ?_ | refine blk_alloc ?_ _)); refine blk_put (cs := #[.int .i64 0, .int .i64 0, .slice none 0 0, .slice none 0 0, .slice none 0 0]) ?_ 0 _ rfl; (with_reducible repeat (first | refine blk_drewN ?_ _ | refine blk_drew ?_ | refine blk_alloc ?_ _)); exact BK318.out) hb); have n10_ := Aside0.mk (below_step (by repeat (first | (with_reducible first | exact HB.out | apply below_alloc | apply pw_below_drewN | apply below_drew1 | refine below_set ?_ GE290.out | refine below_set ?_ GE318.out) | exact HB.out)) hb); clear HO296; clear HO299; clear HO302; clear HO305; clear HO311; clear HO314; clear HO317; clear BK290; clear BK318; clear HB; have HO296 := n0_; have HO299 := n1_; have HO302 := n2_; have HO305 := n3_; have HO311 := n4_; have HO314 := n5_; have HO317 := n6_; have HO321 := n7_; have BK290 := n8_; have BK318 := n9_; have HB := n10_; clear n0_ n1_ n2_ n3_ n4_ n5_ n6_ n7_ n8_ n9_ n10_; (try clear hb); (try clear hb2); (try clear hk); (try clear hi); (try clear ho0)))
  (try simp only [Act.put, List.setIfInBounds_toArray, List.set_cons_zero, List.set_cons_succ])
  go_cut [48] (fun v48 wc => ∃ (kq : Nat) (x48_12 : Bool), v48 = .bool x48_12 ∧ Aside0 (laws_FnExactWalk.j0 kq a1 a2 t303 t306 t319 t322 x48_12 a0_0 a0_1 l0_2 l0_3 l0_4 t307 t308 t309 t312 t315 = some r) ∧ Aside0 (kq ≤ k) ∧ Aside0 (Kd.R (Kd.int .i64) 3 wc w.heap.size (fun k_ => some k_ ≠ (v320 : Value).ownBlock) v304 t303) ∧ Aside0 (Kd.R (Kd.int .i64) 3 wc w.heap.size (fun k_ => some k_ ≠ (v304 : Value).ownBlock) v320 t319) ∧ Aside0 (Kd.S k120 120 wc w.heap.size (fun _ => True) (.slice Ao28 t309.length co28) t309) ∧ Aside0 (Kd.S (Kd.slice 3 (Kd.int .i64)) 22 wc w.heap.size (fun k_ => some k_ ≠ (v304 : Value).ownBlock ∧ some k_ ≠ (v320 : Value).ownBlock ∧ some k_ ≠ ((.slice Ao30 t315.length co30) : Value).ownBlock) (.slice Ao29 t312.length co29) t312) ∧ Aside0 (Kd.S (Kd.slice 3 (Kd.int .i64)) 22 wc w.heap.size (fun k_ => some k_ ≠ (v304 : Value).ownBlock ∧ some k_ ≠ (v320 : Value).ownBlock ∧ some k_ ≠ ((.slice Ao29 t312.length co29) : Value).ownBlock) (.slice Ao30 t315.length co30) t315) ∧ Aside0 (wc.heap[gb290]? = some (.cells #[.int .i64 a0_0, .int .i64 a0_1, (.slice A0_2 l0_2.length c0_2), (.slice A0_3 l0_3.length c0_3), (.slice A0_4 l0_4.length c0_4)] 42 (0, 0))) ∧ Aside0 (wc.heap[gb318]? = some (.cells #[.int .i64 t307, .int .i64 t308, (.slice Ao28 t309.length co28), (.slice Ao29 t312.length co29), (.slice Ao30 t315.length co30)] 47 (0, 0))) ∧ Aside0 (Below w.heap.size w wc))
  case first =>
   have H := HC13.out
   clear HC13
   replace H := Option.bind_eq_some_iff.mp H
   obtain ⟨t323, A320, H⟩ := H
   replace H : (if t323 = true then (laws_FnExactWalk.j0 k a1 a2 t303 t306 t319 t322 (t322 != t306) a0_0 a0_1 l0_2 l0_3 l0_4 t307 t308 t309 t312 t315) else (laws_FnExactWalk.j0 k a1 a2 t303 t306 t319 t322 true a0_0 a0_1 l0_2 l0_3 l0_4 t307 t308 t309 t312 t315)) = some r := H
   have A32 := Aside0.mk A320
   clear A320
   by_cases c33 : t323 = true
   ·subst c33
    have H1 : (laws_FnExactWalk.j0 k a1 a2 t303 t306 t319 t322 (t322 != t306) a0_0 a0_1 l0_2 l0_3 l0_4 t307 t308 t309 t312 t315) = some r := by rw [if_pos rfl] at H; exact H
    clear H
    have H := H1
    clear H1
    have H' := Aside0.mk H
    clear H
    obtain ⟨Ao34, co34, eo34⟩ := Kd.R_slice HO321.out
    subst eo34
    obtain ⟨Ao35, co35, eo35⟩ := Kd.R_slice HO305.out
    subst eo35
    go_wp2_with (first | ((with_reducible refine gate_callee (f := 26) rfl ?_); refine goesL_ (some 42) rfl rfl Tryd.func26 (by kernel_rfl) rfl #[.slice Ao34 t319.length co34, .slice Ao35 t303.length co35] rfl za ?_; (with_reducible refine (laws_eqIntS.calls k _ _ t319 _ _ t303 true _ ?side1 ?side2 ?side3 ?side4 A32.out).mono ?_); (case side1 => repeat (first | exact (Kd.R_reads' HO321.out).2.2 | (with_reducible refine Kd.C_alloc ?_ _) | (with_reducible refine Kd.C_drewN ?_ _) | (with_reducible refine Kd.C_drew ?_))); (case side2 => exact (Kd.R_reads' HO321.out).2.1); (case side3 => repeat (first | exact (Kd.R_reads' HO305.out).2.2 | (with_reducible refine Kd.C_alloc ?_ _) | (with_reducible refine Kd.C_drewN ?_ _) | (with_reducible refine Kd.C_drew ?_))); (case side4 => exact (Kd.R_reads' HO305.out).2.1); rintro e w' ⟨rfl, ⟨nd, rfl⟩⟩; refine ⟨_, rfl, ?_⟩))
    go_meet
    case rel => exact ⟨_, ((t322 != t306)), zr, H', ⟨by first | omega | exact Nat.le_refl _⟩, ⟨by (with_reducible repeat (first | apply Kd.R_alloc | apply Kd.R_drewN | apply Kd.R_drew)); exact Kd.R_mono HO305.out (fun _ hk => hk.2)⟩, ⟨by (with_reducible repeat (first | apply Kd.R_alloc | apply Kd.R_drewN | apply Kd.R_drew)); exact Kd.R_mono HO321.out (fun _ hk => hk.2)⟩, ⟨by (with_reducible repeat (first | apply Kd.S_alloc | apply Kd.S_drewN | apply Kd.S_drew)); exact Kd.S_mono HO311.out (fun _ hk => trivial)⟩, ⟨by (with_reducible repeat (first | apply Kd.S_alloc | apply Kd.S_drewN | apply Kd.S_drew)); exact Kd.S_mono HO314.out (fun _ hk => ⟨hk.1.2, ⟨hk.2, hk.1.1.1.1⟩⟩)⟩, ⟨by (with_reducible repeat (first | apply Kd.S_alloc | apply Kd.S_drewN | apply Kd.S_drew)); exact Kd.S_mono HO317.out (fun _ hk => ⟨hk.1.2, ⟨hk.2, hk.1.1.1.1⟩⟩)⟩, ⟨zb BK290.out⟩, ⟨zb BK318.out⟩, ⟨by repeat (first | (with_reducible first | exact HB.out | apply below_alloc | apply pw_below_drewN | apply below_drew1 | refine below_set ?_ GE290.out | refine below_set ?_ GE318.out) | exact HB.out)⟩⟩
   ·replace c33 := Bool.eq_false_iff.mpr c33
    subst c33
    have H1 : (laws_FnExactWalk.j0 k a1 a2 t303 t306 t319 t322 true a0_0 a0_1 l0_2 l0_3 l0_4 t307 t308 t309 t312 t315) = some r := by rw [if_neg (show ¬ (false = true) by decide)] at H; exact H
    clear H
    have H := H1
    clear H1
    have H' := Aside0.mk H
    clear H
    obtain ⟨Ao36, co36, eo36⟩ := Kd.R_slice HO321.out
    subst eo36
    obtain ⟨Ao37, co37, eo37⟩ := Kd.R_slice HO305.out
    subst eo37
    go_wp2_with (first | ((with_reducible refine gate_callee (f := 26) rfl ?_); refine goesL_ (some 42) rfl rfl Tryd.func26 (by kernel_rfl) rfl #[.slice Ao36 t319.length co36, .slice Ao37 t303.length co37] rfl za ?_; (with_reducible refine (laws_eqIntS.calls k _ _ t319 _ _ t303 false _ ?side1 ?side2 ?side3 ?side4 A32.out).mono ?_); (case side1 => repeat (first | exact (Kd.R_reads' HO321.out).2.2 | (with_reducible refine Kd.C_alloc ?_ _) | (with_reducible refine Kd.C_drewN ?_ _) | (with_reducible refine Kd.C_drew ?_))); (case side2 => exact (Kd.R_reads' HO321.out).2.1); (case side3 => repeat (first | exact (Kd.R_reads' HO305.out).2.2 | (with_reducible refine Kd.C_alloc ?_ _) | (with_reducible refine Kd.C_drewN ?_ _) | (with_reducible refine Kd.C_drew ?_))); (case side4 => exact (Kd.R_reads' HO305.out).2.1); rintro e w' ⟨rfl, ⟨nd, rfl⟩⟩; refine ⟨_, rfl, ?_⟩))
    go_meet
    case rel => exact ⟨_, (true), zr, H', ⟨by first | omega | exact Nat.le_refl _⟩, ⟨by (with_reducible repeat (first | apply Kd.R_alloc | apply Kd.R_drewN | apply Kd.R_drew)); exact Kd.R_mono HO305.out (fun _ hk => hk.2)⟩, ⟨by (with_reducible repeat (first | apply Kd.R_alloc | apply Kd.R_drewN | apply Kd.R_drew)); exact Kd.R_mono HO321.out (fun _ hk => hk.2)⟩, ⟨by (with_reducible repeat (first | apply Kd.S_alloc | apply Kd.S_drewN | apply Kd.S_drew)); exact Kd.S_mono HO311.out (fun _ hk => trivial)⟩, ⟨by (with_reducible repeat (first | apply Kd.S_alloc | apply Kd.S_drewN | apply Kd.S_drew)); exact Kd.S_mono HO314.out (fun _ hk => ⟨hk.1.2, ⟨hk.2, hk.1.1.1.1⟩⟩)⟩, ⟨by (with_reducible repeat (first | apply Kd.S_alloc | apply Kd.S_drewN | apply Kd.S_drew)); exact Kd.S_mono HO317.out (fun _ hk => ⟨hk.1.2, ⟨hk.2, hk.1.1.1.1⟩⟩)⟩, ⟨zb BK290.out⟩, ⟨zb BK318.out⟩, ⟨by repeat (first | (with_reducible first | exact HB.out | apply below_alloc | apply pw_below_drewN | apply below_drew1 | refine below_set ?_ GE290.out | refine below_set ?_ GE318.out) | exact HB.out)⟩⟩
  case rest =>
   clear HC13
   try clear c2
   try clear p2
   try clear c3
   try clear c4
   try clear c5
   try clear c5b0
   try clear c22
   try clear c23
   try clear c24
   try clear c25
   try clear c26
   try clear c33
   try clear hcz15_0
   try clear hcz15_1
   try clear hcz15_2
   try clear hcz15_3
   try clear hcz15_4
   try clear hcz17_0
   try clear hcz17_1
   try clear hcz17_2
   try clear hcz17_3
   try clear hcz17_4
   try clear hcz23_0
   try clear hcz23_1
   try clear hcz23_2
   try clear hcz23_3
   try clear hcz23_4
   try clear hcz27_0
   try clear hcz27_1
   try clear hcz27_2
   try clear hcz27_3
   try clear hcz27_4
   try clear hcz7_0
   try clear hcz7_1
   try clear hcz7_2
   try clear hcz7_3
   try clear hcz7_4
   try clear hfz15_0
   try clear hfz15_1
   try clear hfz15_2
   try clear hfz15_3
   try clear hfz15_4
   try clear hfz17_0
   try clear hfz17_1
   try clear hfz17_2
   try clear hfz17_3
   try clear hfz17_4
   try clear hfz23_0
   try clear hfz23_1
   try clear hfz23_2
   try clear hfz23_3
   try clear hfz23_4
   try clear hfz27_0
   try clear hfz27_1
   try clear hfz27_2
   try clear hfz27_3
   try clear hfz27_4
   try clear hfz7_0
   try clear hfz7_1
   try clear hfz7_2
   try clear hfz7_3
   try clear hfz7_4
   obtain ⟨kq, x48_12, rfl, HA, HJ12, HO_8, HO_11, HO_319002, HO_319003, HO_319004, BK290, BK318, HB⟩ := hcut
   cases kq with
   | zero => exact absurd HA.out (by simp [laws_FnExactWalk.j0])
   | succ kj12 =>
    have H := HA.out
    clear HA
    simp only [laws_FnExactWalk.j0] at H
    by_cases c38 : x48_12 = true
    ·subst c38
     have H1 : (some false) = some r := by rw [if_pos rfl] at H; exact H
     clear H
     have H := H1
     clear H1
     obtain rfl := Option.some.inj H
     go_wp2
     go_ret
     exact ⟨ze, by repeat (first | (with_reducible first | exact HB.out | apply below_alloc | apply pw_below_drewN | apply below_drew1 | refine below_set ?_ GE290.out | refine below_set ?_ GE318.out) | exact HB.out)⟩
    ·replace c38 := Bool.eq_false_iff.mpr c38
     subst c38
     have H1 : ((laws_toTables.f kj12 a0_0 a0_1 l0_2 l0_3 l0_4).bind fun bt324 => ((laws_eqTables.f kj12 t307 t308 t309 t312 t315 bt324.1 bt324.2.1 bt324.2.2.1 bt324.2.2.2.1 bt324.2.2.2.2).bind fun t335 => (if t335 = true then ((laws_markTables.f t307 t308 t309 t312 t315 1).bind fun t336 => (if t336 < 0 then (laws_FnExactWalk.j1 kj12 a1 a2 t303 t306 t319 true a0_0 a0_1 l0_2 l0_3 l0_4) else ((laws_eqIntS.f kj12 t319 t303).bind fun t337 => (if t337 = true then (laws_FnExactWalk.j1 kj12 a1 a2 t303 t306 t319 (t322 != t306) a0_0 a0_1 l0_2 l0_3 l0_4) else (laws_FnExactWalk.j1 kj12 a1 a2 t303 t306 t319 true a0_0 a0_1 l0_2 l0_3 l0_4))))) else (some false)))) = some r := by rw [if_neg (show ¬ (false = true) by decide)] at H; exact H
     clear H
     have H := H1
     clear H1
     replace H := Option.bind_eq_some_iff.mp H
     obtain ⟨⟨t324, t325, t326, t329, t332⟩, A390, H⟩ := H
     replace H : ((laws_eqTables.f kj12 t307 t308 t309 t312 t315 t324 t325 t326 t329 t332).bind fun t335 => (if t335 = true then ((laws_markTables.f t307 t308 t309 t312 t315 1).bind fun t336 => (if t336 < 0 then (laws_FnExactWalk.j1 kj12 a1 a2 t303 t306 t319 true a0_0 a0_1 l0_2 l0_3 l0_4) else ((laws_eqIntS.f kj12 t319 t303).bind fun t337 => (if t337 = true then (laws_FnExactWalk.j1 kj12 a1 a2 t303 t306 t319 (t322 != t306) a0_0 a0_1 l0_2 l0_3 l0_4) else (laws_FnExactWalk.j1 kj12 a1 a2 t303 t306 t319 true a0_0 a0_1 l0_2 l0_3 l0_4))))) else (some false))) = some r := H
     have A39 := Aside0.mk A390
     clear A390
     replace H := Option.bind_eq_some_iff.mp H
     obtain ⟨t335, A400, H⟩ := H
     replace H : (if t335 = true then ((laws_markTables.f t307 t308 t309 t312 t315 1).bind fun t336 => (if t336 < 0 then (laws_FnExactWalk.j1 kj12 a1 a2 t303 t306 t319 true a0_0 a0_1 l0_2 l0_3 l0_4) else ((laws_eqIntS.f kj12 t319 t303).bind fun t337 => (if t337 = true then (laws_FnExactWalk.j1 kj12 a1 a2 t303 t306 t319 (t322 != t306) a0_0 a0_1 l0_2 l0_3 l0_4) else (laws_FnExactWalk.j1 kj12 a1 a2 t303 t306 t319 true a0_0 a0_1 l0_2 l0_3 l0_4))))) else (some false)) = some r := H
     have A40 := Aside0.mk A400
     clear A400
     by_cases c41 : t335 = true
     ·subst c41
      have H1 : ((laws_markTables.f t307 t308 t309 t312 t315 1).bind fun t336 => (if t336 < 0 then (laws_FnExactWalk.j1 kj12 a1 a2 t303 t306 t319 true a0_0 a0_1 l0_2 l0_3 l0_4) else ((laws_eqIntS.f kj12 t319 t303).bind fun t337 => (if t337 = true then (laws_FnExactWalk.j1 kj12 a1 a2 t303 t306 t319 (t322 != t306) a0_0 a0_1 l0_2 l0_3 l0_4) else (laws_FnExactWalk.j1 kj12 a1 a2 t303 t306 t319 true a0_0 a0_1 l0_2 l0_3 l0_4))))) = some r := by rw [if_pos rfl] at H; exact H
      clear H
      have H := H1
      clear H1
      replace H := Option.bind_eq_some_iff.mp H
      obtain ⟨t336, A420, H⟩ := H
      replace H : (if t336 < 0 then (laws_FnExactWalk.j1 kj12 a1 a2 t303 t306 t319 true a0_0 a0_1 l0_2 l0_3 l0_4) else ((laws_eqIntS.f kj12 t319 t303).bind fun t337 => (if t337 = true then (laws_FnExactWalk.j1 kj12 a1 a2 t303 t306 t319 (t322 != t306) a0_0 a0_1 l0_2 l0_3 l0_4) else (laws_FnExactWalk.j1 kj12 a1 a2 t303 t306 t319 true a0_0 a0_1 l0_2 l0_3 l0_4)))) = some r := H
      have A42 := Aside0.mk A420
      clear A420
      have HC43 := Aside0.mk H
      clear H
      try go_wp2
      have n0_ := Aside0.mk (Kd.R_drew HO_8.out)
      have n1_ := Aside0.mk (Kd.R_drew HO_11.out)
      have n2_ := Aside0.mk (Kd.S_drew HO_319002.out)
      have n3_ := Aside0.mk (Kd.S_drew HO_319003.out)
      have n4_ := Aside0.mk (Kd.S_drew HO_319004.out)
      have n5_ := Aside0.mk (blk_drew BK290.out)
      have n6_ := Aside0.mk (blk_drew BK318.out)
      have n7_ := Aside0.mk (below_drew1 HB.out)
      clear HO_8
      clear HO_11
      clear HO_319002
      clear HO_319003
      clear HO_319004
      clear BK290
      clear BK318
      clear HB
      have HO_8 := n0_
      have HO_11 := n1_
      have HO_319002 := n2_
      have HO_319003 := n3_
      have HO_319004 := n4_
      have BK290 := n5_
      have BK318 := n6_
      have HB := n7_
      clear n0_ n1_ n2_ n3_ n4_ n5_ n6_ n7_
      refine start_ (n := 5) (S := fun w' => w'.cell? ⟨gb318, 0, none⟩ = some (.int .i64 t307) ∧ w'.cell? ⟨gb318, 1, none⟩ = some (.int .i64 t308) ∧ w'.cell? ⟨gb318, 2, none⟩ = some (.slice Ao28 t309.length co28) ∧ w'.cell? ⟨gb318, 3, none⟩ = some (.slice Ao29 t312.length co29) ∧ w'.cell? ⟨gb318, 4, none⟩ = some (.slice Ao30 t315.length co30) ∧ w'.cell? ⟨gb290, 0, none⟩ = some (.int .i64 a0_0) ∧ w'.cell? ⟨gb290, 1, none⟩ = some (.int .i64 a0_1) ∧ w'.cell? ⟨gb290, 2, none⟩ = some (.slice A0_2 l0_2.length c0_2) ∧ w'.cell? ⟨gb290, 3, none⟩ = some (.slice A0_3 l0_3.length c0_3) ∧ w'.cell? ⟨gb290, 4, none⟩ = some (.slice A0_4 l0_4.length c0_4)) (ds := []) #[false, false, false, false, false] (by kernel_rfl) rfl rfl ⟨(blk_cell BK318.out 0).trans rfl, (blk_cell BK318.out 1).trans rfl, (blk_cell BK318.out 2).trans rfl, (blk_cell BK318.out 3).trans rfl, (blk_cell BK318.out 4).trans rfl, (blk_cell BK290.out 0).trans rfl, (blk_cell BK290.out 1).trans rfl, (blk_cell BK290.out 2).trans rfl, (blk_cell BK290.out 3).trans rfl, (blk_cell BK290.out 4).trans rfl⟩ (fun hHeld => ?_)
      generalize wc.drew = w44 at HO_8 HO_11 HO_319002 HO_319003 HO_319004 BK290 BK318 HB hHeld ⊢
      refine take_ (i := 0) (N := some 49) (v := ?_) (a' := ?_) #[true, false, false, false, false] rfl rfl (by kernel_rfl) (fun _ _ _ h => h) (Or.inl ⟨by rfl, ?_⟩) hHeld ?_ ?_
      rotate_left
      ·rintro w' ⟨s0, s1, s2, s3, s4, s5, s6, s7, s8, s9⟩
       go_simp
       with_reducible rfl
      rotate_left
      ·simp only [Act.put, List.setIfInBounds_toArray, List.set_cons_zero, List.set_cons_succ, i64_w, i32_w]
       rfl
      refine take_ (i := 1) (N := some 50) (v := ?_) (a' := ?_) #[true, true, false, false, false] rfl rfl (by kernel_rfl) (fun _ _ _ h => h) (Or.inl ⟨by rfl, ?_⟩) hHeld ?_ ?_
      rotate_left
      ·rintro w' ⟨s0, s1, s2, s3, s4, s5, s6, s7, s8, s9⟩
       go_simp
       with_reducible rfl
      rotate_left
      ·simp only [Act.put, List.setIfInBounds_toArray, List.set_cons_zero, List.set_cons_succ, i64_w, i32_w]
       rfl
      refine one_ (i := 2) (N := some 51) #[true, true, true, false, false] rfl rfl (by kernel_rfl) (by decide) (fun K hK => ?_)
      refine goes_ Tryd.func24 (by kernel_rfl) rfl #[.agg #[.int .i64 a0_0, .int .i64 a0_1, .slice A0_2 l0_2.length c0_2, .slice A0_3 l0_3.length c0_3, .slice A0_4 l0_4.length c0_4]] (by rfl) rfl rfl za ?_
      with_reducible refine (laws_toTables.calls kj12 a0_0 a0_1 _ _ l0_2 _ _ l0_3 _ _ l0_4 t324 t325 t326 t329 t332 _ ?side1 ?side2 ?side3 ?side4 ?side5 ?side6 A39.out).mono ?_
      (case side1 => exact zc (Kd.C_below HR0_2.out HB.out))
      (case side2 => exact HC0_2.out)
      (case side3 => exact zc (Kd.C_below HR0_3.out HB.out))
      (case side4 => exact HC0_3.out)
      (case side5 => exact zc (Kd.C_below HR0_4.out HB.out))
      (case side6 => exact HC0_4.out)
      rintro e w45 ⟨v327, v330, v333, rfl, ho0, ho1, ho2, hb⟩
      refine ⟨_, rfl, ?_⟩
      have n0_ := Aside0.mk (Kd.R_below (by (with_reducible repeat (first | apply Kd.R_alloc | apply Kd.R_drewN | apply Kd.R_drew)); exact HO_8.out) hb)
      have n1_ := Aside0.mk (Kd.R_below (by (with_reducible repeat (first | apply Kd.R_alloc | apply Kd.R_drewN | apply Kd.R_drew)); exact HO_11.out) hb)
      have n2_ := Aside0.mk (Kd.S_elder' (zS HO_319002.out) (Kd.S_base ho0) hb)
      have n3_ := Aside0.mk (Kd.S_mono (Kd.S_told (Kd.S_told (Kd.S_old (zS HO_319003.out) hb) (Kd.S_base ho1)) (Kd.S_base ho2)) (fun _ h_ => h_.1))
      have n4_ := Aside0.mk (Kd.S_mono (Kd.S_told (Kd.S_told (Kd.S_old (zS HO_319004.out) hb) (Kd.S_base ho1)) (Kd.S_base ho2)) (fun _ h_ => h_.1))
      have n5_ := Aside0.mk (Kd.S_lower (Kd.S_new' ho0 (Kd.S_lt (zS HO_319002.out))) (below_size (by repeat (first | (with_reducible first | exact HB.out | apply below_alloc | apply pw_below_drewN | apply below_drew1 | refine below_set ?_ GE290.out | refine below_set ?_ GE318.out) | exact HB.out))))
      have n6_ := Aside0.mk (Kd.S_lower (Kd.S_new' (Kd.S_new' (Kd.S_new' (Kd.S_new' ho1 (Kd.R_lt (by (with_reducible repeat (first | apply Kd.R_alloc | apply Kd.R_drewN | apply Kd.R_drew)); exact HO_8.out))) (Kd.R_lt (by (with_reducible repeat (first | apply Kd.R_alloc | apply Kd.R_drewN | apply Kd.R_drew)); exact HO_11.out))) (Kd.S_lt (zS HO_319003.out))) (Kd.S_lt (zS HO_319004.out))) (below_size (by repeat (first | (with_reducible first | exact HB.out | apply below_alloc | apply pw_below_drewN | apply below_drew1 | refine below_set ?_ GE290.out | refine below_set ?_ GE318.out) | exact HB.out))))
      have n7_ := Aside0.mk (Kd.S_lower (Kd.S_new' (Kd.S_new' (Kd.S_new' (Kd.S_new' ho2 (Kd.R_lt (by (with_reducible repeat (first | apply Kd.R_alloc | apply Kd.R_drewN | apply Kd.R_drew)); exact HO_8.out))) (Kd.R_lt (by (with_reducible repeat (first | apply Kd.R_alloc | apply Kd.R_drewN | apply Kd.R_drew)); exact HO_11.out))) (Kd.S_lt (zS HO_319003.out))) (Kd.S_lt (zS HO_319004.out))) (below_size (by repeat (first | (with_reducible first | exact HB.out | apply below_alloc | apply pw_below_drewN | apply below_drew1 | refine below_set ?_ GE290.out | refine below_set ?_ GE318.out) | exact HB.out))))
      have n8_ := Aside0.mk (blk_below (g := gb290) (o := .cells #[.int .i64 a0_0, .int .i64 a0_1, .slice A0_2 l0_2.length c0_2, .slice A0_3 l0_3.length c0_3, .slice A0_4 l0_4.length c0_4] 42 (0, 0)) (zb BK290.out) hb)
      have n9_ := Aside0.mk (blk_below (g := gb318) (o := .cells #[.int .i64 t307, .int .i64 t308, .slice Ao28 t309.length co28, .slice Ao29 t312.length co29, .slice Ao30 t315.length co30] 47 (0, 0)) (zb BK318.out) hb)
      have n10_ := Aside0.mk (below_step (by repeat (first | (with_reducible first | exact HB.out | apply below_alloc | apply pw_below_drewN | apply below_drew1 | refine below_set ?_ GE290.out | refine below_set ?_ GE318.out) | exact HB.out)) hb)
      clear HO_8
      clear HO_11
      clear HO_319002
      clear HO_319003
      clear HO_319004
      clear BK290
      clear BK318
      clear HB
      have HO_8 := n0_
      have HO_11 := n1_
      have HO_319002 := n2_
      have HO_319003 := n3_
      have HO_319004 := n4_
      have HO328 := n5_
      have HO331 := n6_
      have HO334 := n7_
      have BK290 := n8_
      have BK318 := n9_
      have HB := n10_
      clear n0_ n1_ n2_ n3_ n4_ n5_ n6_ n7_ n8_ n9_ n10_
      (try clear hb)
      (try clear hb2)
      (try clear hk)
      (try clear hi)
      (try clear ho0)
      (try clear ho1)
      (try clear ho2)
      obtain ⟨Ao46, co46, eo46⟩ := Kd.S_slice HO328.out
      (first | subst eo46 | (injection eo46 with f1_ f2_ f3_; have f4_ := f1_.symm; have f5_ := f3_.symm; clear f1_ f2_ f3_; subst f4_; subst f5_))
      obtain ⟨Ao47, co47, eo47⟩ := Kd.S_slice HO331.out
      (first | subst eo47 | (injection eo47 with f1_ f2_ f3_; have f4_ := f1_.symm; have f5_ := f3_.symm; clear f1_ f2_ f3_; subst f4_; subst f5_))
      obtain ⟨Ao48, co48, eo48⟩ := Kd.S_slice HO334.out
      (first | subst eo48 | (injection eo48 with f1_ f2_ f3_; have f4_ := f1_.symm; have f5_ := f3_.symm; clear f1_ f2_ f3_; subst f4_; subst f5_))
      refine hK.out _ _ ⟨(blk_cell BK318.out 0).trans rfl, (blk_cell BK318.out 1).trans rfl, (blk_cell BK318.out 2).trans rfl, (blk_cell BK318.out 3).trans rfl, (blk_cell BK318.out 4).trans rfl, (blk_cell BK290.out 0).trans rfl, (blk_cell BK290.out 1).trans rfl, (blk_cell BK290.out 2).trans rfl, (blk_cell BK290.out 3).trans rfl, (blk_cell BK290.out 4).trans rfl⟩ (fun hHeld => ?_)
      clear hK K
      refine norm_ (a' := ?_) ?_ ?_
      rotate_left
      ·show Act.put _ (some 51) _ = _
       simp only [Act.put, List.setIfInBounds_toArray, List.set_cons_zero, List.set_cons_succ, i64_w, i32_w]
       rfl
      refine one_ (i := 3) (N := some 52) #[true, true, true, true, false] rfl rfl (by kernel_rfl) (by decide) (fun K hK => ?_)
      refine goes_ Tryd.func27 (by kernel_rfl) rfl #[.agg #[.int .i64 t307, .int .i64 t308, .slice Ao28 t309.length co28, .slice Ao29 t312.length co29, .slice Ao30 t315.length co30], .agg #[.int .i64 t324, .int .i64 t325, .slice Ao46 t326.length co46, .slice Ao47 t329.length co47, .slice Ao48 t332.length co48]] (by rfl) rfl rfl za ?_
      with_reducible refine (laws_eqTables.calls kj12 t307 t308 _ _ t309 _ _ t312 _ _ t315 t324 t325 _ _ t326 _ _ t329 _ _ t332 true _ ?side1 ?side2 ?side3 ?side4 ?side5 ?side6 ?side7 ?side8 ?side9 ?side10 ?side11 ?side12 A40.out).mono ?_
      (case side1 => repeat (first | exact (Kd.S_reads' HO_319002.out).2.2 | (with_reducible refine Kd.C_alloc ?_ _) | (with_reducible refine Kd.C_drewN ?_ _) | (with_reducible refine Kd.C_drew ?_)))
      (case side2 => exact (Kd.S_reads' HO_319002.out).2.1)
      (case side3 => repeat (first | exact (Kd.S_reads' HO_319003.out).2.2 | (with_reducible refine Kd.C_alloc ?_ _) | (with_reducible refine Kd.C_drewN ?_ _) | (with_reducible refine Kd.C_drew ?_)))
      (case side4 => exact (Kd.S_reads' HO_319003.out).2.1)
      (case side5 => repeat (first | exact (Kd.S_reads' HO_319004.out).2.2 | (with_reducible refine Kd.C_alloc ?_ _) | (with_reducible refine Kd.C_drewN ?_ _) | (with_reducible refine Kd.C_drew ?_)))
      (case side6 => exact (Kd.S_reads' HO_319004.out).2.1)
      (case side7 => repeat (first | exact (Kd.S_reads' HO328.out).2.2 | (with_reducible refine Kd.C_alloc ?_ _) | (with_reducible refine Kd.C_drewN ?_ _) | (with_reducible refine Kd.C_drew ?_)))
      (case side8 => exact (Kd.S_reads' HO328.out).2.1)
      (case side9 => repeat (first | exact (Kd.S_reads' HO331.out).2.2 | (with_reducible refine Kd.C_alloc ?_ _) | (with_reducible refine Kd.C_drewN ?_ _) | (with_reducible refine Kd.C_drew ?_)))
      (case side10 => exact (Kd.S_reads' HO331.out).2.1)
      (case side11 => repeat (first | exact (Kd.S_reads' HO334.out).2.2 | (with_reducible refine Kd.C_alloc ?_ _) | (with_reducible refine Kd.C_drewN ?_ _) | (with_reducible refine Kd.C_drew ?_)))
      (case side12 => exact (Kd.S_reads' HO334.out).2.1)
      rintro e w49 ⟨rfl, hb⟩
      refine ⟨_, rfl, ?_⟩
      have n0_ := Aside0.mk (Kd.R_below (by (with_reducible repeat (first | apply Kd.R_alloc | apply Kd.R_drewN | apply Kd.R_drew)); exact HO_8.out) hb)
      have n1_ := Aside0.mk (Kd.R_below (by (with_reducible repeat (first | apply Kd.R_alloc | apply Kd.R_drewN | apply Kd.R_drew)); exact HO_11.out) hb)
      have n2_ := Aside0.mk (Kd.S_below (zS HO_319002.out) hb)
      have n3_ := Aside0.mk (Kd.S_below (zS HO_319003.out) hb)
      have n4_ := Aside0.mk (Kd.S_below (zS HO_319004.out) hb)
      have n5_ := Aside0.mk (Kd.S_below (zS HO328.out) hb)
      have n6_ := Aside0.mk (Kd.S_below (zS HO331.out) hb)
      have n7_ := Aside0.mk (Kd.S_below (zS HO334.out) hb)
      have n8_ := Aside0.mk (blk_below (g := gb290) (o := .cells #[.int .i64 a0_0, .int .i64 a0_1, .slice A0_2 l0_2.length c0_2, .slice A0_3 l0_3.length c0_3, .slice A0_4 l0_4.length c0_4] 42 (0, 0)) (zb BK290.out) hb)
      have n9_ := Aside0.mk (blk_below (g := gb318) (o := .cells #[.int .i64 t307, .int .i64 t308, .slice Ao28 t309.length co28, .slice Ao29 t312.length co29, .slice Ao30 t315.length co30] 47 (0, 0)) (zb BK318.out) hb)
      have n10_ := Aside0.mk (below_step (by repeat (first | (with_reducible first | exact HB.out | apply below_alloc | apply pw_below_drewN | apply below_drew1 | refine below_set ?_ GE290.out | refine below_set ?_ GE318.out) | exact HB.out)) hb)
      clear HO_8
      clear HO_11
      clear HO_319002
      clear HO_319003
      clear HO_319004
      clear HO328
      clear HO331
      clear HO334
      clear BK290
      clear BK318
      clear HB
      have HO_8 := n0_
      have HO_11 := n1_
      have HO_319002 := n2_
      have HO_319003 := n3_
      have HO_319004 := n4_
      have HO328 := n5_
      have HO331 := n6_
      have HO334 := n7_
      have BK290 := n8_
      have BK318 := n9_
      have HB := n10_
      clear n0_ n1_ n2_ n3_ n4_ n5_ n6_ n7_ n8_ n9_ n10_
      (try clear hb)
      (try clear hb2)
      (try clear hk)
      (try clear hi)
      refine hK.out _ _ ⟨(blk_cell BK318.out 0).trans rfl, (blk_cell BK318.out 1).trans rfl, (blk_cell BK318.out 2).trans rfl, (blk_cell BK318.out 3).trans rfl, (blk_cell BK318.out 4).trans rfl, (blk_cell BK290.out 0).trans rfl, (blk_cell BK290.out 1).trans rfl, (blk_cell BK290.out 2).trans rfl, (blk_cell BK290.out 3).trans rfl, (blk_cell BK290.out 4).trans rfl⟩ (fun hHeld => ?_)
      clear hK K
      refine norm_ (a' := ?_) ?_ ?_
      rotate_left
      ·show Act.put _ (some 52) _ = _
       simp only [Act.put, List.setIfInBounds_toArray, List.set_cons_zero, List.set_cons_succ, i64_w, i32_w]
       rfl
      refine pure_ (i := 4) (N := some 53) (v := ?_) (a' := ?_) #[true, true, true, true, true] rfl rfl (by kernel_rfl) (fun _ _ _ h => h) (Or.inl ⟨by rfl, ?_⟩) ?_ ?_
      rotate_left
      ·intro w'
       go_simp
       with_reducible rfl
      rotate_left
      ·simp only [Act.put, List.setIfInBounds_toArray, List.set_cons_zero, List.set_cons_succ, i64_w, i32_w]
       rfl
      refine done_ (by kernel_rfl) ?_
      have hnb50 := NB318_290.out
      have hnc50 := NB290_318.out
      have hcz51_0 : w49.cell? ⟨gb318, 0, none⟩ = some (.int .i64 t307) := (blk_cell BK318.out 0).trans rfl
      have hcz51_1 : w49.cell? ⟨gb318, 1, none⟩ = some (.int .i64 t308) := (blk_cell BK318.out 1).trans rfl
      have hcz51_2 : w49.cell? ⟨gb318, 2, none⟩ = some (.slice Ao28 t309.length co28) := (blk_cell BK318.out 2).trans rfl
      have hcz51_3 : w49.cell? ⟨gb318, 3, none⟩ = some (.slice Ao29 t312.length co29) := (blk_cell BK318.out 3).trans rfl
      have hcz51_4 : w49.cell? ⟨gb318, 4, none⟩ = some (.slice Ao30 t315.length co30) := (blk_cell BK318.out 4).trans rfl
      have hfz51_0 := blk_frozen BK318.out 0
      have hfz51_1 := blk_frozen BK318.out 1
      have hfz51_2 := blk_frozen BK318.out 2
      have hfz51_3 := blk_frozen BK318.out 3
      have hfz51_4 := blk_frozen BK318.out 4
      go_upto_region 14 with (first | ((with_reducible refine gate_callee (f := 28) rfl ?_); refine goesL_ (some 56) rfl rfl Tryd.func28 (by kernel_rfl) rfl #[.agg #[.int .i64 t307, .int .i64 t308, .slice Ao28 t309.length co28, .slice Ao29 t312.length co29, .slice Ao30 t315.length co30], .int .i64 1] rfl za ?_; (with_reducible refine (laws_markTables.calls t307 t308 (fun k_ => (((True ∧ some k_ ≠ (.slice Ao46 t326.length co46 : Value).ownBlock) ∧ some k_ ≠ (v304 : Value).ownBlock) ∧ some k_ ≠ (v320 : Value).ownBlock)) (.slice Ao28 t309.length co28) t309 (fun k_ => (((some k_ ≠ (v304 : Value).ownBlock ∧ (some k_ ≠ (v320 : Value).ownBlock ∧ some k_ ≠ (.slice Ao30 t315.length co30 : Value).ownBlock)) ∧ some k_ ≠ (.slice Ao47 t329.length co47 : Value).ownBlock) ∧ some k_ ≠ (.slice Ao48 t332.length co48 : Value).ownBlock)) (.slice Ao29 t312.length co29) t312 (fun k_ => (((some k_ ≠ (v304 : Value).ownBlock ∧ (some k_ ≠ (v320 : Value).ownBlock ∧ some k_ ≠ (.slice Ao29 t312.length co29 : Value).ownBlock)) ∧ some k_ ≠ (.slice Ao47 t329.length co47 : Value).ownBlock) ∧ some k_ ≠ (.slice Ao48 t332.length co48 : Value).ownBlock)) (.slice Ao30 t315.length co30) t315 1 t336 w _ ?side1 ?side2 ?side3 ?side4 A42.out).mono ?_); (case side1 => repeat (first | (with_reducible first | exact HB.out | apply below_alloc | apply pw_below_drewN | apply below_drew1 | refine below_set ?_ GE290.out | refine below_set ?_ GE318.out) | exact HB.out)); (case side2 => exact (by (with_reducible repeat (first | apply Kd.S_alloc | apply Kd.S_drewN | apply Kd.S_drew)); exact Kd.S_apart' (Kd.S_apart' (HO_319002.out) (Kd.R_typed HO_8.out) (by decide)) (Kd.R_typed HO_11.out) (by decide))); (case side3 => exact (zS HO_319003.out)); (case side4 => exact (zS HO_319004.out)); rintro e w52 ⟨rfl, hb, hkp⟩; refine ⟨_, rfl, ?_⟩; have n0_ := Aside0.mk (Kd.R_mono (ok' := fun k_ => some k_ ≠ (v320 : Value).ownBlock) (Kd.R_reok rfl (Kd.R_kept (Kd.R_tight rfl (by (with_reducible repeat (first | apply Kd.R_alloc | apply Kd.R_drewN | apply Kd.R_drew)); exact HO_8.out)) hkp (fun k_ hk_ hs_ => Or.elim hs_ (fun e_ => Or.elim e_ (fun e_ => (fun h_ => (h_.1.1.2) hk_) e_) (fun e_ => (fun h_ => (h_.1.1.1.1) hk_) e_)) (fun e_ => (fun h_ => (h_.1.1.1.1) hk_) e_))) (fun k_ e_ => HO_8.out.1 k_ e_)) (fun k_ hk_ => hk_)); have n1_ := Aside0.mk (Kd.R_mono (ok' := fun k_ => some k_ ≠ (v304 : Value).ownBlock) (Kd.R_reok rfl (Kd.R_kept (Kd.R_tight rfl (by (with_reducible repeat (first | apply Kd.R_alloc | apply Kd.R_drewN | apply Kd.R_drew)); exact HO_11.out)) hkp (fun k_ hk_ hs_ => Or.elim hs_ (fun e_ => Or.elim e_ (fun e_ => (fun h_ => (h_.1.2) hk_) e_) (fun e_ => (fun h_ => (h_.1.1.1.2.1) hk_) e_)) (fun e_ => (fun h_ => (h_.1.1.1.2.1) hk_) e_))) (fun k_ e_ => HO_11.out.1 k_ e_)) (fun k_ hk_ => hk_)); have n2_ := Aside0.mk (blk_kept (zb BK290.out) hkp (fun hs_ => Or.elim hs_ (fun e_ => Or.elim e_ (fun e_ => (fun h_ => h_.2.ne ⟨_, (zb BK290.out)⟩ (by decide)) e_) (fun e_ => (fun h_ => h_.2.ne ⟨_, (zb BK290.out)⟩ (by decide)) e_)) (fun e_ => (fun h_ => h_.2.ne ⟨_, (zb BK290.out)⟩ (by decide)) e_))); have n3_ := Aside0.mk (blk_kept (zb BK318.out) hkp (fun hs_ => Or.elim hs_ (fun e_ => Or.elim e_ (fun e_ => (fun h_ => h_.2.ne ⟨_, (zb BK318.out)⟩ (by decide)) e_) (fun e_ => (fun h_ => h_.2.ne ⟨_, (zb BK318.out)⟩ (by decide)) e_)) (fun e_ => (fun h_ => h_.2.ne ⟨_, (zb BK318.out)⟩ (by decide)) e_))); have n4_ := Aside0.mk (hb); clear HO_8; clear HO_11; clear BK290; clear BK318; clear HB; clear HO328; clear HO331; clear HO334; clear HO_319002; clear HO_319003; clear HO_319004; have HO_8 := n0_; have HO_11 := n1_; have BK290 := n2_; have BK318 := n3_; have HB := n4_; clear n0_ n1_ n2_ n3_ n4_; (try clear hb); (try clear hkp)))
      (try simp only [Act.put, List.setIfInBounds_toArray, List.set_cons_zero, List.set_cons_succ])
      go_cut [69] (fun v69 wc => ∃ (kq : Nat) (x69_42 : Bool), v69 = .bool x69_42 ∧ Aside0 (laws_FnExactWalk.j1 kq a1 a2 t303 t306 t319 x69_42 a0_0 a0_1 l0_2 l0_3 l0_4 = some r) ∧ Aside0 (kq ≤ kj12) ∧ Aside0 (Kd.R (Kd.int .i64) 3 wc w.heap.size (fun k_ => some k_ ≠ (v320 : Value).ownBlock) v304 t303) ∧ Aside0 (Kd.R (Kd.int .i64) 3 wc w.heap.size (fun k_ => some k_ ≠ (v304 : Value).ownBlock) v320 t319) ∧ Aside0 (wc.heap[gb290]? = some (.cells #[.int .i64 a0_0, .int .i64 a0_1, (.slice A0_2 l0_2.length c0_2), (.slice A0_3 l0_3.length c0_3), (.slice A0_4 l0_4.length c0_4)] 42 (0, 0))) ∧ Aside0 (Below w.heap.size w wc))
      case first =>
       have H := HC43.out
       clear HC43
       by_cases c53 : t336 < 0
       ·rw [if_pos c53] at H
        have c53b0 : decide (t336 < 0) = true := decide_eq_true c53
        clear c53
        (first | rw [c53b0] | (simp only [i64_w, i32_w]; rw [c53b0]) | skip)
        have H' := Aside0.mk H
        clear H
        go_wp2
        go_meet
        case rel => exact ⟨_, (true), zr, H', ⟨by have := HJ12.out; first | omega | exact Nat.le_refl _⟩, ⟨by (with_reducible repeat (first | apply Kd.R_alloc | apply Kd.R_drewN | apply Kd.R_drew)); exact HO_8.out⟩, ⟨by (with_reducible repeat (first | apply Kd.R_alloc | apply Kd.R_drewN | apply Kd.R_drew)); exact HO_11.out⟩, ⟨zb BK290.out⟩, ⟨by repeat (first | (with_reducible first | exact HB.out | apply below_alloc | apply pw_below_drewN | apply below_drew1 | refine below_set ?_ GE290.out | refine below_set ?_ GE318.out) | exact HB.out)⟩⟩
       ·rw [if_neg c53] at H
        have c53b0 : decide (t336 < 0) = false := decide_eq_false c53
        clear c53
        (first | rw [c53b0] | (simp only [i64_w, i32_w]; rw [c53b0]) | skip)
        replace H := Option.bind_eq_some_iff.mp H
        obtain ⟨t337, A540, H⟩ := H
        replace H : (if t337 = true then (laws_FnExactWalk.j1 kj12 a1 a2 t303 t306 t319 (t322 != t306) a0_0 a0_1 l0_2 l0_3 l0_4) else (laws_FnExactWalk.j1 kj12 a1 a2 t303 t306 t319 true a0_0 a0_1 l0_2 l0_3 l0_4)) = some r := H
        have A54 := Aside0.mk A540
        clear A540
        by_cases c55 : t337 = true
        ·subst c55
         have H1 : (laws_FnExactWalk.j1 kj12 a1 a2 t303 t306 t319 (t322 != t306) a0_0 a0_1 l0_2 l0_3 l0_4) = some r := by rw [if_pos rfl] at H; exact H
         clear H
         have H := H1
         clear H1
         have H' := Aside0.mk H
         clear H
         obtain ⟨Ao56, co56, eo56⟩ := Kd.R_slice HO_11.out
         subst eo56
         obtain ⟨Ao57, co57, eo57⟩ := Kd.R_slice HO_8.out
         subst eo57
         go_wp2_with (first | (go_at_call 26; (with_reducible refine (laws_eqIntS.calls kj12 _ _ t319 _ _ t303 true _ ?side1 ?side2 ?side3 ?side4 A54.out).mono ?_); (case side1 => repeat (first | exact (Kd.R_reads' HO_11.out).2.2 | (with_reducible refine Kd.C_alloc ?_ _) | (with_reducible refine Kd.C_drewN ?_ _) | (with_reducible refine Kd.C_drew ?_))); (case side2 => exact (Kd.R_reads' HO_11.out).2.1); (case side3 => repeat (first | exact (Kd.R_reads' HO_8.out).2.2 | (with_reducible refine Kd.C_alloc ?_ _) | (with_reducible refine Kd.C_drewN ?_ _) | (with_reducible refine Kd.C_drew ?_))); (case side4 => exact (Kd.R_reads' HO_8.out).2.1); rintro e w' ⟨rfl, ⟨nd, rfl⟩⟩))
         go_meet
         case rel => exact ⟨_, ((t322 != t306)), zr, H', ⟨by have := HJ12.out; first | omega | exact Nat.le_refl _⟩, ⟨by (with_reducible repeat (first | apply Kd.R_alloc | apply Kd.R_drewN | apply Kd.R_drew)); exact HO_8.out⟩, ⟨by (with_reducible repeat (first | apply Kd.R_alloc | apply Kd.R_drewN | apply Kd.R_drew)); exact HO_11.out⟩, ⟨zb BK290.out⟩, ⟨by repeat (first | (with_reducible first | exact HB.out | apply below_alloc | apply pw_below_drewN | apply below_drew1 | refine below_set ?_ GE290.out | refine below_set ?_ GE318.out) | exact HB.out)⟩⟩
        ·replace c55 := Bool.eq_false_iff.mpr c55
         subst c55
         have H1 : (laws_FnExactWalk.j1 kj12 a1 a2 t303 t306 t319 true a0_0 a0_1 l0_2 l0_3 l0_4) = some r := by rw [if_neg (show ¬ (false = true) by decide)] at H; exact H
         clear H
         have H := H1
         clear H1
         have H' := Aside0.mk H
         clear H
         obtain ⟨Ao58, co58, eo58⟩ := Kd.R_slice HO_11.out
         subst eo58
         obtain ⟨Ao59, co59, eo59⟩ := Kd.R_slice HO_8.out
         subst eo59
         go_wp2_with (first | (go_at_call 26; (with_reducible refine (laws_eqIntS.calls kj12 _ _ t319 _ _ t303 false _ ?side1 ?side2 ?side3 ?side4 A54.out).mono ?_); (case side1 => repeat (first | exact (Kd.R_reads' HO_11.out).2.2 | (with_reducible refine Kd.C_alloc ?_ _) | (with_reducible refine Kd.C_drewN ?_ _) | (with_reducible refine Kd.C_drew ?_))); (case side2 => exact (Kd.R_reads' HO_11.out).2.1); (case side3 => repeat (first | exact (Kd.R_reads' HO_8.out).2.2 | (with_reducible refine Kd.C_alloc ?_ _) | (with_reducible refine Kd.C_drewN ?_ _) | (with_reducible refine Kd.C_drew ?_))); (case side4 => exact (Kd.R_reads' HO_8.out).2.1); rintro e w' ⟨rfl, ⟨nd, rfl⟩⟩))
         go_meet
         case rel => exact ⟨_, (true), zr, H', ⟨by have := HJ12.out; first | omega | exact Nat.le_refl _⟩, ⟨by (with_reducible repeat (first | apply Kd.R_alloc | apply Kd.R_drewN | apply Kd.R_drew)); exact HO_8.out⟩, ⟨by (with_reducible repeat (first | apply Kd.R_alloc | apply Kd.R_drewN | apply Kd.R_drew)); exact HO_11.out⟩, ⟨zb BK290.out⟩, ⟨by repeat (first | (with_reducible first | exact HB.out | apply below_alloc | apply pw_below_drewN | apply below_drew1 | refine below_set ?_ GE290.out | refine below_set ?_ GE318.out) | exact HB.out)⟩⟩
      case rest =>
       clear HC43
       try clear c2
       try clear p2
       try clear c3
       try clear c4
       try clear c5
       try clear c5b0
       try clear c22
       try clear c23
       try clear c24
       try clear c25
       try clear c26
       try clear c27
       try clear c28
       try clear c33
       try clear c38
       try clear c41
       try clear c50
       try clear c53
       try clear c53b0
       try clear c55
       try clear hcz15_0
       try clear hcz15_1
       try clear hcz15_2
       try clear hcz15_3
       try clear hcz15_4
       try clear hcz17_0
       try clear hcz17_1
       try clear hcz17_2
       try clear hcz17_3
       try clear hcz17_4
       try clear hcz23_0
       try clear hcz23_1
       try clear hcz23_2
       try clear hcz23_3
       try clear hcz23_4
       try clear hcz27_0
       try clear hcz27_1
       try clear hcz27_2
       try clear hcz27_3
       try clear hcz27_4
       try clear hcz51_0
       try clear hcz51_1
       try clear hcz51_2
       try clear hcz51_3
       try clear hcz51_4
       try clear hcz7_0
       try clear hcz7_1
       try clear hcz7_2
       try clear hcz7_3
       try clear hcz7_4
       try clear hfz15_0
       try clear hfz15_1
       try clear hfz15_2
       try clear hfz15_3
       try clear hfz15_4
       try clear hfz17_0
       try clear hfz17_1
       try clear hfz17_2
       try clear hfz17_3
       try clear hfz17_4
       try clear hfz23_0
       try clear hfz23_1
       try clear hfz23_2
       try clear hfz23_3
       try clear hfz23_4
       try clear hfz27_0
       try clear hfz27_1
       try clear hfz27_2
       try clear hfz27_3
       try clear hfz27_4
       try clear hfz51_0
       try clear hfz51_1
       try clear hfz51_2
       try clear hfz51_3
       try clear hfz51_4
       try clear hfz7_0
       try clear hfz7_1
       try clear hfz7_2
       try clear hfz7_3
       try clear hfz7_4
       try clear p2
       obtain ⟨kq, x69_42, rfl, HA, HJ42, HO_8, HO_11, BK290, HB⟩ := hcut
       cases kq with
       | zero => exact absurd HA.out (by simp [laws_FnExactWalk.j1])
       | succ kj42 =>
        have H := HA.out
        clear HA
        simp only [laws_FnExactWalk.j1] at H
        by_cases c60 : x69_42 = true
        ·subst c60
         have H1 : (some false) = some r := by rw [if_pos rfl] at H; exact H
         clear H
         have H := H1
         clear H1
         obtain rfl := Option.some.inj H
         go_wp2
         go_ret
         exact ⟨ze, (zs GE290.out)⟩
        ·replace c60 := Bool.eq_false_iff.mpr c60
         subst c60
         have H1 : ((laws_markIntS.f kj42 t319 1).bind fun bt338 => ((laws_heldIntS.f kj42 bt338.2 1).bind fun t340 => (if t340 < 0 then (some false) else (if t340 = bt338.1 then ((laws_toTables.f kj42 a0_0 a0_1 l0_2 l0_3 l0_4).bind fun bt341 => ((impl_Walk.f kj42 bt341.1 bt341.2.1 bt341.2.2.1 bt341.2.2.2.1 bt341.2.2.2.2 a1 a2).bind fun bt352 => ((laws_eqIntS.f kj42 bt352.1 t303).bind fun t356 => (if t356 = true then (laws_FnExactWalk.j2 kj42 bt338.2 bt338.1 (bt352.2 != t306)) else (laws_FnExactWalk.j2 kj42 bt338.2 bt338.1 true))))) else (some false))))) = some r := by rw [if_neg (show ¬ (false = true) by decide)] at H; exact H
         clear H
         have H := H1
         clear H1
         replace H := Option.bind_eq_some_iff.mp H
         obtain ⟨⟨t338, t339⟩, A610, H⟩ := H
         replace H : ((laws_heldIntS.f kj42 t339 1).bind fun t340 => (if t340 < 0 then (some false) else (if t340 = t338 then ((laws_toTables.f kj42 a0_0 a0_1 l0_2 l0_3 l0_4).bind fun bt341 => ((impl_Walk.f kj42 bt341.1 bt341.2.1 bt341.2.2.1 bt341.2.2.2.1 bt341.2.2.2.2 a1 a2).bind fun bt352 => ((laws_eqIntS.f kj42 bt352.1 t303).bind fun t356 => (if t356 = true then (laws_FnExactWalk.j2 kj42 t339 t338 (bt352.2 != t306)) else (laws_FnExactWalk.j2 kj42 t339 t338 true))))) else (some false)))) = some r := H
         have A61 := Aside0.mk A610
         clear A610
         replace H := Option.bind_eq_some_iff.mp H
         obtain ⟨t340, A620, H⟩ := H
         replace H : (if t340 < 0 then (some false) else (if t340 = t338 then ((laws_toTables.f kj42 a0_0 a0_1 l0_2 l0_3 l0_4).bind fun bt341 => ((impl_Walk.f kj42 bt341.1 bt341.2.1 bt341.2.2.1 bt341.2.2.2.1 bt341.2.2.2.2 a1 a2).bind fun bt352 => ((laws_eqIntS.f kj42 bt352.1 t303).bind fun t356 => (if t356 = true then (laws_FnExactWalk.j2 kj42 t339 t338 (bt352.2 != t306)) else (laws_FnExactWalk.j2 kj42 t339 t338 true))))) else (some false))) = some r := H
         have A62 := Aside0.mk A620
         clear A620
         by_cases c63 : t340 < 0
         ·rw [if_pos c63] at H
          have c63b0 : decide (t340 < 0) = true := decide_eq_true c63
          clear c63
          obtain rfl := Option.some.inj H
          obtain ⟨Ao64, co64, eo64⟩ := Kd.R_slice HO_11.out
          subst eo64
          go_wp2_with (first | ((with_reducible refine gate_callee (f := 29) rfl ?_); refine goesL_ (some 72) rfl rfl Tryd.func29 (by kernel_rfl) rfl #[.slice Ao64 t319.length co64, .int .i64 1] rfl za ?_; (with_reducible refine (laws_markIntS.calls kj42 (fun k_ => some k_ = (.slice Ao64 t319.length co64 : Value).ownBlock) (.slice Ao64 t319.length co64) t319 1 t338 t339 w _ ?side1 ?side2 A61.out).mono ?_); (case side1 => repeat (first | (with_reducible first | exact HB.out | apply below_alloc | apply pw_below_drewN | apply below_drew1 | refine below_set ?_ GE290.out) | exact HB.out)); (case side2 => exact Kd.R_tight rfl HO_11.out); rintro e w65 ⟨rfl, hy0, hb, hkp⟩; refine ⟨_, rfl, ?_⟩; have n0_ := Aside0.mk (Kd.R_mono (ok' := fun k_ => some k_ ≠ (.slice Ao64 t319.length co64 : Value).ownBlock) (Kd.R_keptB (HO_8.out) hkp (fun k_ hk_ hs_ => (hk_) hs_)) (fun k_ hk_ => hk_.1)); have n1_ := Aside0.mk (Kd.R_reok rfl hy0 (fun k_ e_ => HO_11.out.1 k_ e_)); have n2_ := Aside0.mk (blk_kept (zb BK290.out) hkp (fun hs_ => (fun e_ => (Kd.R_ne HO_11.out BK290.out (by decide)) e_) hs_)); have n3_ := Aside0.mk (hb); clear HO_8; clear HO_11; clear BK290; clear HB; have HO_8 := n0_; have HO_11 := n1_; have BK290 := n2_; have HB := n3_; clear n0_ n1_ n2_ n3_; (try clear hb); (try clear hkp); (try clear hy0)) | ((with_reducible refine gate_callee (f := 30) rfl ?_); refine goesL_ (some 75) rfl rfl Tryd.func30 (by kernel_rfl) rfl #[.slice Ao64 t339.length co64, .int .i64 1] rfl (by (try simp only [List.map_toArray, List.map_cons, List.map_nil]); first | done | (rw [show t339.length = t319.length from (Kd.R_reads' HO_11.out).1.symm] <;> rfl) | rfl | (simp only [List.length_drop, List.length_take]; rfl)) ?_; (with_reducible refine (laws_heldIntS.calls kj42 _ _ t339 1 t340 _ ?side1 ?side2 A62.out).mono ?_); (case side1 => repeat (first | exact (Kd.R_reads' HO_11.out).2.2 | (with_reducible refine Kd.C_alloc ?_ _) | (with_reducible refine Kd.C_drewN ?_ _) | (with_reducible refine Kd.C_drew ?_))); (case side2 => rw [show t339.length = t319.length from (Kd.R_reads' HO_11.out).1.symm]; exact (Kd.R_reads' HO_11.out).2.1); rintro e w' ⟨rfl, ⟨nd, rfl⟩⟩; refine ⟨_, rfl, ?_⟩))
          go_ret
          exact ⟨ze, (zs GE290.out)⟩
         ·rw [if_neg c63] at H
          have c63b0 : decide (t340 < 0) = false := decide_eq_false c63
          clear c63
          by_cases c66 : t340 = t338
          ·rw [if_pos c66] at H
           have c66b0 : (t340 == t338) = true := beq_iff_eq.mpr c66
           have c66b1 : (t340 != t338) = false := bne_eq_false_iff_eq.mpr c66
           clear c66
           replace H := Option.bind_eq_some_iff.mp H
           obtain ⟨⟨t341, t342, t343, t346, t349⟩, A670, H⟩ := H
           replace H : ((impl_Walk.f kj42 t341 t342 t343 t346 t349 a1 a2).bind fun bt352 => ((laws_eqIntS.f kj42 bt352.1 t303).bind fun t356 => (if t356 = true then (laws_FnExactWalk.j2 kj42 t339 t338 (bt352.2 != t306)) else (laws_FnExactWalk.j2 kj42 t339 t338 true)))) = some r := H
           have A67 := Aside0.mk A670
           clear A670
           replace H := Option.bind_eq_some_iff.mp H
           obtain ⟨⟨t352, t355⟩, A680, H⟩ := H
           replace H : ((laws_eqIntS.f kj42 t352 t303).bind fun t356 => (if t356 = true then (laws_FnExactWalk.j2 kj42 t339 t338 (t355 != t306)) else (laws_FnExactWalk.j2 kj42 t339 t338 true))) = some r := H
           have A68 := Aside0.mk A680
           clear A680
           have HC69 := Aside0.mk H
           clear H
           obtain ⟨Ao70, co70, eo70⟩ := Kd.R_slice HO_11.out
           subst eo70
           go_upto_region 25 with (first | ((with_reducible refine gate_callee (f := 29) rfl ?_); refine goesL_ (some 72) rfl rfl Tryd.func29 (by kernel_rfl) rfl #[.slice Ao70 t319.length co70, .int .i64 1] rfl za ?_; (with_reducible refine (laws_markIntS.calls kj42 (fun k_ => some k_ = (.slice Ao70 t319.length co70 : Value).ownBlock) (.slice Ao70 t319.length co70) t319 1 t338 t339 w _ ?side1 ?side2 A61.out).mono ?_); (case side1 => repeat (first | (with_reducible first | exact HB.out | apply below_alloc | apply pw_below_drewN | apply below_drew1 | refine below_set ?_ GE290.out) | exact HB.out)); (case side2 => exact Kd.R_tight rfl HO_11.out); rintro e w71 ⟨rfl, hy0, hb, hkp⟩; refine ⟨_, rfl, ?_⟩; have n0_ := Aside0.mk (Kd.R_mono (ok' := fun k_ => some k_ ≠ (.slice Ao70 t319.length co70 : Value).ownBlock) (Kd.R_keptB (HO_8.out) hkp (fun k_ hk_ hs_ => (hk_) hs_)) (fun k_ hk_ => hk_.1)); have n1_ := Aside0.mk (Kd.R_reok rfl hy0 (fun k_ e_ => HO_11.out.1 k_ e_)); have n2_ := Aside0.mk (blk_kept (zb BK290.out) hkp (fun hs_ => (fun e_ => (Kd.R_ne HO_11.out BK290.out (by decide)) e_) hs_)); have n3_ := Aside0.mk (hb); clear HO_8; clear HO_11; clear BK290; clear HB; have HO_8 := n0_; have HO_11 := n1_; have BK290 := n2_; have HB := n3_; clear n0_ n1_ n2_ n3_; (try clear hb); (try clear hkp); (try clear hy0)) | ((with_reducible refine gate_callee (f := 30) rfl ?_); refine goesL_ (some 75) rfl rfl Tryd.func30 (by kernel_rfl) rfl #[.slice Ao70 t339.length co70, .int .i64 1] rfl (by (try simp only [List.map_toArray, List.map_cons, List.map_nil]); first | done | (rw [show t339.length = t319.length from (Kd.R_reads' HO_11.out).1.symm] <;> rfl) | rfl | (simp only [List.length_drop, List.length_take]; rfl)) ?_; (with_reducible refine (laws_heldIntS.calls kj42 _ _ t339 1 t340 _ ?side1 ?side2 A62.out).mono ?_); (case side1 => repeat (first | exact (Kd.R_reads' HO_11.out).2.2 | (with_reducible refine Kd.C_alloc ?_ _) | (with_reducible refine Kd.C_drewN ?_ _) | (with_reducible refine Kd.C_drew ?_))); (case side2 => rw [show t339.length = t319.length from (Kd.R_reads' HO_11.out).1.symm]; exact (Kd.R_reads' HO_11.out).2.1); rintro e w' ⟨rfl, ⟨nd, rfl⟩⟩; refine ⟨_, rfl, ?_⟩; have hcz72_0 : w71.cell? ⟨gb290, 0, none⟩ = some (.int .i64 a0_0) := (blk_cell BK290.out 0).trans rfl; have hcz72_1 : w71.cell? ⟨gb290, 1, none⟩ = some (.int .i64 a0_1) := (blk_cell BK290.out 1).trans rfl; have hcz72_2 : w71.cell? ⟨gb290, 2, none⟩ = some (.slice A0_2 l0_2.length c0_2) := (blk_cell BK290.out 2).trans rfl; have hcz72_3 : w71.cell? ⟨gb290, 3, none⟩ = some (.slice A0_3 l0_3.length c0_3) := (blk_cell BK290.out 3).trans rfl; have hcz72_4 : w71.cell? ⟨gb290, 4, none⟩ = some (.slice A0_4 l0_4.length c0_4) := (blk_cell BK290.out 4).trans rfl; have hfz72_0 := blk_frozen BK290.out 0; have hfz72_1 := blk_frozen BK290.out 1; have hfz72_2 := blk_frozen BK290.out 2; have hfz72_3 := blk_frozen BK290.out 3; have hfz72_4 := blk_frozen BK290.out 4) | ((with_reducible refine gate_callee (f := 24) rfl ?_); refine goesL_ (some 83) rfl rfl Tryd.func24 (by kernel_rfl) rfl #[.agg #[.int .i64 a0_0, .int .i64 a0_1, .slice A0_2 l0_2.length c0_2, .slice A0_3 l0_3.length c0_3, .slice A0_4 l0_4.length c0_4]] rfl za ?_; (with_reducible refine (laws_toTables.calls kj42 a0_0 a0_1 _ _ l0_2 _ _ l0_3 _ _ l0_4 t341 t342 t343 t346 t349 _ ?side1 ?side2 ?side3 ?side4 ?side5 ?side6 A67.out).mono ?_); (case side1 => exact zc (Kd.C_below HR0_2.out (zs GE290.out))); (case side2 => exact HC0_2.out); (case side3 => exact zc (Kd.C_below HR0_3.out (zs GE290.out))); (case side4 => exact HC0_3.out); (case side5 => exact zc (Kd.C_below HR0_4.out (zs GE290.out))); (case side6 => exact HC0_4.out); rintro e w73 ⟨v344, v347, v350, rfl, ho0, ho1, ho2, hb⟩; refine ⟨_, rfl, ?_⟩; have n0_ := Aside0.mk (Kd.R_below (by (with_reducible repeat (first | apply Kd.R_alloc | apply Kd.R_drewN | apply Kd.R_drew)); exact HO_8.out) hb); have n1_ := Aside0.mk (Kd.R_below (by (with_reducible repeat (first | apply Kd.R_alloc | apply Kd.R_drewN | apply Kd.R_drew)); exact HO_11.out) hb); have n2_ := Aside0.mk (Kd.S_lower ho0 (below_size (zs GE290.out))); have n3_ := Aside0.mk (Kd.S_lower (Kd.S_new' (Kd.S_new' ho1 (Kd.R_lt (by (with_reducible repeat (first | apply Kd.R_alloc | apply Kd.R_drewN | apply Kd.R_drew)); exact HO_8.out))) (Kd.R_lt (by (with_reducible repeat (first | apply Kd.R_alloc | apply Kd.R_drewN | apply Kd.R_drew)); exact HO_11.out))) (below_size (zs GE290.out))); have n4_ := Aside0.mk (Kd.S_lower (Kd.S_new' (Kd.S_new' ho2 (Kd.R_lt (by (with_reducible repeat (first | apply Kd.R_alloc | apply Kd.R_drewN | apply Kd.R_drew)); exact HO_8.out))) (Kd.R_lt (by (with_reducible repeat (first | apply Kd.R_alloc | apply Kd.R_drewN | apply Kd.R_drew)); exact HO_11.out))) (below_size (zs GE290.out))); have n5_ := Aside0.mk (blk_below (g := gb290) (o := .cells #[.int .i64 a0_0, .int .i64 a0_1, .slice A0_2 l0_2.length c0_2, .slice A0_3 l0_3.length c0_3, .slice A0_4 l0_4.length c0_4] 42 (0, 0)) (zb BK290.out) hb); have n6_ := Aside0.mk (below_step (zs GE290.out) hb); clear HO_8; clear HO_11; clear BK290; clear HB; have HO_8 := n0_; have HO_11 := n1_; have HO345 := n2_; have HO348 := n3_; have HO351 := n4_; have BK290 := n5_; have HB := n6_; clear n0_ n1_ n2_ n3_ n4_ n5_ n6_; (try clear hb); (try clear hb2); (try clear hk); (try clear hi); (try clear ho0); (try clear ho1); (try clear ho2); obtain ⟨Ao74, co74, eo74⟩ := Kd.S_slice HO345.out; subst eo74; obtain ⟨Ao75, co75, eo75⟩ := Kd.S_slice HO348.out; subst eo75; obtain ⟨Ao76, co76, eo76⟩ := Kd.S_slice HO351.out; subst eo76) | ((with_reducible refine gate_callee (f := 25) rfl ?_); refine goesL_ (some 86) rfl rfl Tryd.func25 (by kernel_rfl) rfl #[.agg #[.int .i64 t341, .int .i64 t342, .slice Ao74 t343.length co74, .slice Ao75 t346.length co75, .slice Ao76 t349.length co76], .int .i64 a1, .int .i64 a2] rfl za ?_; (with_reducible refine (impl_Walk.calls kj42 t341 t342 _ _ t343 _ _ t346 _ _ t349 a1 a2 t352 t355 _ ?side1 ?side2 ?side3 ?side4 ?side5 ?side6 ?side7 A68.out).mono ?_); (case side1 => repeat (first | exact (Kd.S_reads' HO345.out).2.2 | (with_reducible refine Kd.C_alloc ?_ _) | (with_reducible refine Kd.C_drewN ?_ _) | (with_reducible refine Kd.C_drew ?_))); (case side2 => exact (Kd.S_reads' HO345.out).2.1); (case side3 => repeat (first | exact (Kd.S_reads' HO348.out).2.2 | (with_reducible refine Kd.C_alloc ?_ _) | (with_reducible refine Kd.C_drewN ?_ _) | (with_reducible refine Kd.C_drew ?_))); (case side4 => exact (Kd.S_reads' HO348.out).2.1); (case side5 => repeat (first | exact (Kd.S_reads' HO351.out).2.2 | (with_reducible refine Kd.C_alloc ?_ _) | (with_reducible refine Kd.C_drewN ?_ _) | (with_reducible refine Kd.C_drew ?_))); (case side6 => exact (Kd.S_reads' HO351.out).2.1); (case side7 => exact LaidW.below HLD.out (zs GE290.out)); rintro e w77 ⟨v353, rfl, ho0, hb⟩; refine ⟨_, rfl, ?_⟩; have n0_ := Aside0.mk (Kd.R_elder' (by (with_reducible repeat (first | apply Kd.R_alloc | apply Kd.R_drewN | apply Kd.R_drew)); exact HO_8.out) (Kd.R_base ho0) hb); have n1_ := Aside0.mk (Kd.R_elder' (by (with_reducible repeat (first | apply Kd.R_alloc | apply Kd.R_drewN | apply Kd.R_drew)); exact HO_11.out) (Kd.R_base ho0) hb); have n2_ := Aside0.mk (Kd.S_below (zS HO345.out) hb); have n3_ := Aside0.mk (Kd.S_elder' (zS HO348.out) (Kd.R_base ho0) hb); have n4_ := Aside0.mk (Kd.S_elder' (zS HO351.out) (Kd.R_base ho0) hb); have n5_ := Aside0.mk (Kd.R_lower (Kd.R_new' (Kd.R_new' ho0 (Kd.R_lt (by (with_reducible repeat (first | apply Kd.R_alloc | apply Kd.R_drewN | apply Kd.R_drew)); exact HO_8.out))) (Kd.R_lt (by (with_reducible repeat (first | apply Kd.R_alloc | apply Kd.R_drewN | apply Kd.R_drew)); exact HO_11.out))) (below_size (zs GE290.out))); have n6_ := Aside0.mk (blk_below (g := gb290) (o := .cells #[.int .i64 a0_0, .int .i64 a0_1, .slice A0_2 l0_2.length c0_2, .slice A0_3 l0_3.length c0_3, .slice A0_4 l0_4.length c0_4] 42 (0, 0)) (zb BK290.out) hb); have n7_ := Aside0.mk (below_step (zs GE290.out) hb); clear HO_8; clear HO_11; clear HO345; clear HO348; clear HO351; clear BK290; clear HB; have HO_8 := n0_; have HO_11 := n1_; have HO345 := n2_; have HO348 := n3_; have HO351 := n4_; have HO354 := n5_; have BK290 := n6_; have HB := n7_; clear n0_ n1_ n2_ n3_ n4_ n5_ n6_ n7_; (try clear hb); (try clear hb2); (try clear hk); (try clear hi); (try clear ho0)))
           (try simp only [Act.put, List.setIfInBounds_toArray, List.set_cons_zero, List.set_cons_succ])
           go_cut [97] (fun v97 wc => ∃ (kq : Nat) (x97_68 : Bool), v97 = .bool x97_68 ∧ Aside0 (laws_FnExactWalk.j2 kq t339 t338 x97_68 = some r) ∧ Aside0 (kq ≤ kj42) ∧ Aside0 (Kd.R (Kd.int .i64) 3 wc w.heap.size (fun _ => True) (.slice Ao70 t319.length co70) t339) ∧ Aside0 (wc.heap[gb290]? = some (.cells #[.int .i64 a0_0, .int .i64 a0_1, (.slice A0_2 l0_2.length c0_2), (.slice A0_3 l0_3.length c0_3), (.slice A0_4 l0_4.length c0_4)] 42 (0, 0))) ∧ Aside0 (Below w.heap.size w wc))
           case first =>
            have H := HC69.out
            clear HC69
            replace H := Option.bind_eq_some_iff.mp H
            obtain ⟨t356, A780, H⟩ := H
            replace H : (if t356 = true then (laws_FnExactWalk.j2 kj42 t339 t338 (t355 != t306)) else (laws_FnExactWalk.j2 kj42 t339 t338 true)) = some r := H
            have A78 := Aside0.mk A780
            clear A780
            by_cases c79 : t356 = true
            ·subst c79
             have H1 : (laws_FnExactWalk.j2 kj42 t339 t338 (t355 != t306)) = some r := by rw [if_pos rfl] at H; exact H
             clear H
             have H := H1
             clear H1
             have H' := Aside0.mk H
             clear H
             obtain ⟨Ao80, co80, eo80⟩ := Kd.R_slice HO354.out
             subst eo80
             obtain ⟨Ao81, co81, eo81⟩ := Kd.R_slice HO_8.out
             subst eo81
             go_wp2_with (first | ((with_reducible refine gate_callee (f := 26) rfl ?_); refine goesL_ (some 91) rfl rfl Tryd.func26 (by kernel_rfl) rfl #[.slice Ao80 t352.length co80, .slice Ao81 t303.length co81] rfl za ?_; (with_reducible refine (laws_eqIntS.calls kj42 _ _ t352 _ _ t303 true _ ?side1 ?side2 ?side3 ?side4 A78.out).mono ?_); (case side1 => repeat (first | exact (Kd.R_reads' HO354.out).2.2 | (with_reducible refine Kd.C_alloc ?_ _) | (with_reducible refine Kd.C_drewN ?_ _) | (with_reducible refine Kd.C_drew ?_))); (case side2 => exact (Kd.R_reads' HO354.out).2.1); (case side3 => repeat (first | exact (Kd.R_reads' HO_8.out).2.2 | (with_reducible refine Kd.C_alloc ?_ _) | (with_reducible refine Kd.C_drewN ?_ _) | (with_reducible refine Kd.C_drew ?_))); (case side4 => exact (Kd.R_reads' HO_8.out).2.1); rintro e w' ⟨rfl, ⟨nd, rfl⟩⟩; refine ⟨_, rfl, ?_⟩))
             go_meet
             case rel => exact ⟨_, ((t355 != t306)), zr, H', ⟨by have := HJ12.out; have := HJ42.out; first | omega | exact Nat.le_refl _⟩, ⟨by (with_reducible repeat (first | apply Kd.R_alloc | apply Kd.R_drewN | apply Kd.R_drew)); exact Kd.R_mono HO_11.out (fun _ hk => trivial)⟩, ⟨zb BK290.out⟩, ⟨zs GE290.out⟩⟩
            ·replace c79 := Bool.eq_false_iff.mpr c79
             subst c79
             have H1 : (laws_FnExactWalk.j2 kj42 t339 t338 true) = some r := by rw [if_neg (show ¬ (false = true) by decide)] at H; exact H
             clear H
             have H := H1
             clear H1
             have H' := Aside0.mk H
             clear H
             obtain ⟨Ao82, co82, eo82⟩ := Kd.R_slice HO354.out
             subst eo82
             obtain ⟨Ao83, co83, eo83⟩ := Kd.R_slice HO_8.out
             subst eo83
             go_wp2_with (first | ((with_reducible refine gate_callee (f := 26) rfl ?_); refine goesL_ (some 91) rfl rfl Tryd.func26 (by kernel_rfl) rfl #[.slice Ao82 t352.length co82, .slice Ao83 t303.length co83] rfl za ?_; (with_reducible refine (laws_eqIntS.calls kj42 _ _ t352 _ _ t303 false _ ?side1 ?side2 ?side3 ?side4 A78.out).mono ?_); (case side1 => repeat (first | exact (Kd.R_reads' HO354.out).2.2 | (with_reducible refine Kd.C_alloc ?_ _) | (with_reducible refine Kd.C_drewN ?_ _) | (with_reducible refine Kd.C_drew ?_))); (case side2 => exact (Kd.R_reads' HO354.out).2.1); (case side3 => repeat (first | exact (Kd.R_reads' HO_8.out).2.2 | (with_reducible refine Kd.C_alloc ?_ _) | (with_reducible refine Kd.C_drewN ?_ _) | (with_reducible refine Kd.C_drew ?_))); (case side4 => exact (Kd.R_reads' HO_8.out).2.1); rintro e w' ⟨rfl, ⟨nd, rfl⟩⟩; refine ⟨_, rfl, ?_⟩))
             go_meet
             case rel => exact ⟨_, (true), zr, H', ⟨by have := HJ12.out; have := HJ42.out; first | omega | exact Nat.le_refl _⟩, ⟨by (with_reducible repeat (first | apply Kd.R_alloc | apply Kd.R_drewN | apply Kd.R_drew)); exact Kd.R_mono HO_11.out (fun _ hk => trivial)⟩, ⟨zb BK290.out⟩, ⟨zs GE290.out⟩⟩
           case rest =>
            clear HC69
            try clear c2
            try clear p2
            try clear c3
            try clear c4
            try clear c5
            try clear c5b0
            try clear c6
            try clear c7
            try clear c22
            try clear c23
            try clear c24
            try clear c25
            try clear c26
            try clear c27
            try clear c28
            try clear c29
            try clear c30
            try clear c33
            try clear c38
            try clear c41
            try clear c50
            try clear c53
            try clear c53b0
            try clear c55
            try clear c60
            try clear c63
            try clear c63b0
            try clear c66
            try clear c66b0
            try clear c66b1
            try clear c79
            try clear hcz15_0
            try clear hcz15_1
            try clear hcz15_2
            try clear hcz15_3
            try clear hcz15_4
            try clear hcz17_0
            try clear hcz17_1
            try clear hcz17_2
            try clear hcz17_3
            try clear hcz17_4
            try clear hcz23_0
            try clear hcz23_1
            try clear hcz23_2
            try clear hcz23_3
            try clear hcz23_4
            try clear hcz27_0
            try clear hcz27_1
            try clear hcz27_2
            try clear hcz27_3
            try clear hcz27_4
            try clear hcz51_0
            try clear hcz51_1
            try clear hcz51_2
            try clear hcz51_3
            try clear hcz51_4
            try clear hcz72_0
            try clear hcz72_1
            try clear hcz72_2
            try clear hcz72_3
            try clear hcz72_4
            try clear hcz7_0
            try clear hcz7_1
            try clear hcz7_2
            try clear hcz7_3
            try clear hcz7_4
            try clear hfz15_0
            try clear hfz15_1
            try clear hfz15_2
            try clear hfz15_3
            try clear hfz15_4
            try clear hfz17_0
            try clear hfz17_1
            try clear hfz17_2
            try clear hfz17_3
            try clear hfz17_4
            try clear hfz23_0
            try clear hfz23_1
            try clear hfz23_2
            try clear hfz23_3
            try clear hfz23_4
            try clear hfz27_0
            try clear hfz27_1
            try clear hfz27_2
            try clear hfz27_3
            try clear hfz27_4
            try clear hfz51_0
            try clear hfz51_1
            try clear hfz51_2
            try clear hfz51_3
            try clear hfz51_4
            try clear hfz72_0
            try clear hfz72_1
            try clear hfz72_2
            try clear hfz72_3
            try clear hfz72_4
            try clear hfz7_0
            try clear hfz7_1
            try clear hfz7_2
            try clear hfz7_3
            try clear hfz7_4
            try clear p2
            obtain ⟨kq, x97_68, rfl, HA, HJ68, HO_11, BK290, HB⟩ := hcut
            have hl11_68 := (Kd.R_reads' HO_11.out).1
            rw [hl11_68] at HO_11
            (try simp only [hl11_68])
            (try simp only [hl11_68] at BK290)
            cases kq with
            | zero => exact absurd HA.out (by simp [laws_FnExactWalk.j2])
            | succ kj68 =>
             have H := HA.out
             clear HA
             simp only [laws_FnExactWalk.j2] at H
             by_cases c84 : x97_68 = true
             ·subst c84
              have H1 : (some false) = some r := by rw [if_pos rfl] at H; exact H
              clear H
              have H := H1
              clear H1
              obtain rfl := Option.some.inj H
              go_wp2
              go_ret
              exact ⟨ze, (zs GE290.out)⟩
             ·replace c84 := Bool.eq_false_iff.mpr c84
              subst c84
              have H1 : ((laws_heldIntS.f kj68 t339 1).bind fun t357 => (if t357 < 0 then (some false) else (if t357 = t338 then (some true) else (some false)))) = some r := by rw [if_neg (show ¬ (false = true) by decide)] at H; exact H
              clear H
              have H := H1
              clear H1
              replace H := Option.bind_eq_some_iff.mp H
              obtain ⟨t357, A850, H⟩ := H
              replace H : (if t357 < 0 then (some false) else (if t357 = t338 then (some true) else (some false))) = some r := H
              have A85 := Aside0.mk A850
              clear A850
              by_cases c86 : t357 < 0
              ·rw [if_pos c86] at H
               have c86b0 : decide (t357 < 0) = true := decide_eq_true c86
               clear c86
               obtain rfl := Option.some.inj H
               go_wp2_with (first | ((with_reducible refine gate_callee (f := 30) rfl ?_); refine goesL_ (some 100) rfl rfl Tryd.func30 (by kernel_rfl) rfl #[.slice Ao70 t339.length co70, .int .i64 1] rfl za ?_; (with_reducible refine (laws_heldIntS.calls kj68 _ _ t339 1 t357 _ ?side1 ?side2 A85.out).mono ?_); (case side1 => repeat (first | exact (Kd.R_reads' HO_11.out).2.2 | (with_reducible refine Kd.C_alloc ?_ _) | (with_reducible refine Kd.C_drewN ?_ _) | (with_reducible refine Kd.C_drew ?_))); (case side2 => exact (Kd.R_reads' HO_11.out).2.1); rintro e w' ⟨rfl, ⟨nd, rfl⟩⟩; refine ⟨_, rfl, ?_⟩))
               go_ret
               exact ⟨ze, (zs GE290.out)⟩
              ·rw [if_neg c86] at H
               have c86b0 : decide (t357 < 0) = false := decide_eq_false c86
               clear c86
               by_cases c87 : t357 = t338
               ·rw [if_pos c87] at H
                have c87b0 : (t357 == t338) = true := beq_iff_eq.mpr c87
                have c87b1 : (t357 != t338) = false := bne_eq_false_iff_eq.mpr c87
                clear c87
                obtain rfl := Option.some.inj H
                go_wp2_with (first | ((with_reducible refine gate_callee (f := 30) rfl ?_); refine goesL_ (some 100) rfl rfl Tryd.func30 (by kernel_rfl) rfl #[.slice Ao70 t339.length co70, .int .i64 1] rfl za ?_; (with_reducible refine (laws_heldIntS.calls kj68 _ _ t339 1 t357 _ ?side1 ?side2 A85.out).mono ?_); (case side1 => repeat (first | exact (Kd.R_reads' HO_11.out).2.2 | (with_reducible refine Kd.C_alloc ?_ _) | (with_reducible refine Kd.C_drewN ?_ _) | (with_reducible refine Kd.C_drew ?_))); (case side2 => exact (Kd.R_reads' HO_11.out).2.1); rintro e w' ⟨rfl, ⟨nd, rfl⟩⟩; refine ⟨_, rfl, ?_⟩))
                go_ret
                exact ⟨ze, (zs GE290.out)⟩
               ·rw [if_neg c87] at H
                have c87b0 : (t357 == t338) = false := beq_eq_false_iff_ne.mpr c87
                have c87b1 : (t357 != t338) = true := bne_iff_ne.mpr c87
                obtain rfl := Option.some.inj H
                go_wp2_with (first | ((with_reducible refine gate_callee (f := 30) rfl ?_); refine goesL_ (some 100) rfl rfl Tryd.func30 (by kernel_rfl) rfl #[.slice Ao70 t339.length co70, .int .i64 1] rfl za ?_; (with_reducible refine (laws_heldIntS.calls kj68 _ _ t339 1 t357 _ ?side1 ?side2 A85.out).mono ?_); (case side1 => repeat (first | exact (Kd.R_reads' HO_11.out).2.2 | (with_reducible refine Kd.C_alloc ?_ _) | (with_reducible refine Kd.C_drewN ?_ _) | (with_reducible refine Kd.C_drew ?_))); (case side2 => exact (Kd.R_reads' HO_11.out).2.1); rintro e w' ⟨rfl, ⟨nd, rfl⟩⟩; refine ⟨_, rfl, ?_⟩))
                go_ret
                exact ⟨ze, (zs GE290.out)⟩
          ·rw [if_neg c66] at H
           have c66b0 : (t340 == t338) = false := beq_eq_false_iff_ne.mpr c66
           have c66b1 : (t340 != t338) = true := bne_iff_ne.mpr c66
           obtain rfl := Option.some.inj H
           obtain ⟨Ao88, co88, eo88⟩ := Kd.R_slice HO_11.out
           subst eo88
           go_wp2_with (first | ((with_reducible refine gate_callee (f := 29) rfl ?_); refine goesL_ (some 72) rfl rfl Tryd.func29 (by kernel_rfl) rfl #[.slice Ao88 t319.length co88, .int .i64 1] rfl za ?_; (with_reducible refine (laws_markIntS.calls kj42 (fun k_ => some k_ = (.slice Ao88 t319.length co88 : Value).ownBlock) (.slice Ao88 t319.length co88) t319 1 t338 t339 w _ ?side1 ?side2 A61.out).mono ?_); (case side1 => repeat (first | (with_reducible first | exact HB.out | apply below_alloc | apply pw_below_drewN | apply below_drew1 | refine below_set ?_ GE290.out) | exact HB.out)); (case side2 => exact Kd.R_tight rfl HO_11.out); rintro e w89 ⟨rfl, hy0, hb, hkp⟩; refine ⟨_, rfl, ?_⟩; have n0_ := Aside0.mk (Kd.R_mono (ok' := fun k_ => some k_ ≠ (.slice Ao88 t319.length co88 : Value).ownBlock) (Kd.R_keptB (HO_8.out) hkp (fun k_ hk_ hs_ => (hk_) hs_)) (fun k_ hk_ => hk_.1)); have n1_ := Aside0.mk (Kd.R_reok rfl hy0 (fun k_ e_ => HO_11.out.1 k_ e_)); have n2_ := Aside0.mk (blk_kept (zb BK290.out) hkp (fun hs_ => (fun e_ => (Kd.R_ne HO_11.out BK290.out (by decide)) e_) hs_)); have n3_ := Aside0.mk (hb); clear HO_8; clear HO_11; clear BK290; clear HB; have HO_8 := n0_; have HO_11 := n1_; have BK290 := n2_; have HB := n3_; clear n0_ n1_ n2_ n3_; (try clear hb); (try clear hkp); (try clear hy0)) | ((with_reducible refine gate_callee (f := 30) rfl ?_); refine goesL_ (some 75) rfl rfl Tryd.func30 (by kernel_rfl) rfl #[.slice Ao88 t339.length co88, .int .i64 1] rfl (by (try simp only [List.map_toArray, List.map_cons, List.map_nil]); first | done | (rw [show t339.length = t319.length from (Kd.R_reads' HO_11.out).1.symm] <;> rfl) | rfl | (simp only [List.length_drop, List.length_take]; rfl)) ?_; (with_reducible refine (laws_heldIntS.calls kj42 _ _ t339 1 t340 _ ?side1 ?side2 A62.out).mono ?_); (case side1 => repeat (first | exact (Kd.R_reads' HO_11.out).2.2 | (with_reducible refine Kd.C_alloc ?_ _) | (with_reducible refine Kd.C_drewN ?_ _) | (with_reducible refine Kd.C_drew ?_))); (case side2 => rw [show t339.length = t319.length from (Kd.R_reads' HO_11.out).1.symm]; exact (Kd.R_reads' HO_11.out).2.1); rintro e w' ⟨rfl, ⟨nd, rfl⟩⟩; refine ⟨_, rfl, ?_⟩))
           go_ret
           exact ⟨ze, (zs GE290.out)⟩
     ·replace c41 := Bool.eq_false_iff.mpr c41
      subst c41
      have H1 : (some false) = some r := by rw [if_neg (show ¬ (false = true) by decide)] at H; exact H
      clear H
      have H := H1
      clear H1
      obtain rfl := Option.some.inj H
      try go_wp2
      have n0_ := Aside0.mk (Kd.R_drew HO_8.out)
      have n1_ := Aside0.mk (Kd.R_drew HO_11.out)
      have n2_ := Aside0.mk (Kd.S_drew HO_319002.out)
      have n3_ := Aside0.mk (Kd.S_drew HO_319003.out)
      have n4_ := Aside0.mk (Kd.S_drew HO_319004.out)
      have n5_ := Aside0.mk (blk_drew BK290.out)
      have n6_ := Aside0.mk (blk_drew BK318.out)
      have n7_ := Aside0.mk (below_drew1 HB.out)
      clear HO_8
      clear HO_11
      clear HO_319002
      clear HO_319003
      clear HO_319004
      clear BK290
      clear BK318
      clear HB
      have HO_8 := n0_
      have HO_11 := n1_
      have HO_319002 := n2_
      have HO_319003 := n3_
      have HO_319004 := n4_
      have BK290 := n5_
      have BK318 := n6_
      have HB := n7_
      clear n0_ n1_ n2_ n3_ n4_ n5_ n6_ n7_
      refine start_ (n := 5) (S := fun w' => w'.cell? ⟨gb318, 0, none⟩ = some (.int .i64 t307) ∧ w'.cell? ⟨gb318, 1, none⟩ = some (.int .i64 t308) ∧ w'.cell? ⟨gb318, 2, none⟩ = some (.slice Ao28 t309.length co28) ∧ w'.cell? ⟨gb318, 3, none⟩ = some (.slice Ao29 t312.length co29) ∧ w'.cell? ⟨gb318, 4, none⟩ = some (.slice Ao30 t315.length co30) ∧ w'.cell? ⟨gb290, 0, none⟩ = some (.int .i64 a0_0) ∧ w'.cell? ⟨gb290, 1, none⟩ = some (.int .i64 a0_1) ∧ w'.cell? ⟨gb290, 2, none⟩ = some (.slice A0_2 l0_2.length c0_2) ∧ w'.cell? ⟨gb290, 3, none⟩ = some (.slice A0_3 l0_3.length c0_3) ∧ w'.cell? ⟨gb290, 4, none⟩ = some (.slice A0_4 l0_4.length c0_4)) (ds := []) #[false, false, false, false, false] (by kernel_rfl) rfl rfl ⟨(blk_cell BK318.out 0).trans rfl, (blk_cell BK318.out 1).trans rfl, (blk_cell BK318.out 2).trans rfl, (blk_cell BK318.out 3).trans rfl, (blk_cell BK318.out 4).trans rfl, (blk_cell BK290.out 0).trans rfl, (blk_cell BK290.out 1).trans rfl, (blk_cell BK290.out 2).trans rfl, (blk_cell BK290.out 3).trans rfl, (blk_cell BK290.out 4).trans rfl⟩ (fun hHeld => ?_)
      generalize wc.drew = w90 at HO_8 HO_11 HO_319002 HO_319003 HO_319004 BK290 BK318 HB hHeld ⊢
      refine take_ (i := 0) (N := some 49) (v := ?_) (a' := ?_) #[true, false, false, false, false] rfl rfl (by kernel_rfl) (fun _ _ _ h => h) (Or.inl ⟨by rfl, ?_⟩) hHeld ?_ ?_
      rotate_left
      ·rintro w' ⟨s0, s1, s2, s3, s4, s5, s6, s7, s8, s9⟩
       go_simp
       with_reducible rfl
      rotate_left
      ·simp only [Act.put, List.setIfInBounds_toArray, List.set_cons_zero, List.set_cons_succ, i64_w, i32_w]
       rfl
      refine take_ (i := 1) (N := some 50) (v := ?_) (a' := ?_) #[true, true, false, false, false] rfl rfl (by kernel_rfl) (fun _ _ _ h => h) (Or.inl ⟨by rfl, ?_⟩) hHeld ?_ ?_
      rotate_left
      ·rintro w' ⟨s0, s1, s2, s3, s4, s5, s6, s7, s8, s9⟩
       go_simp
       with_reducible rfl
      rotate_left
      ·simp only [Act.put, List.setIfInBounds_toArray, List.set_cons_zero, List.set_cons_succ, i64_w, i32_w]
       rfl
      refine one_ (i := 2) (N := some 51) #[true, true, true, false, false] rfl rfl (by kernel_rfl) (by decide) (fun K hK => ?_)
      refine goes_ Tryd.func24 (by kernel_rfl) rfl #[.agg #[.int .i64 a0_0, .int .i64 a0_1, .slice A0_2 l0_2.length c0_2, .slice A0_3 l0_3.length c0_3, .slice A0_4 l0_4.length c0_4]] (by rfl) rfl rfl za ?_
      with_reducible refine (laws_toTables.calls kj12 a0_0 a0_1 _ _ l0_2 _ _ l0_3 _ _ l0_4 t324 t325 t326 t329 t332 _ ?side1 ?side2 ?side3 ?side4 ?side5 ?side6 A39.out).mono ?_
      (case side1 => exact zc (Kd.C_below HR0_2.out HB.out))
      (case side2 => exact HC0_2.out)
      (case side3 => exact zc (Kd.C_below HR0_3.out HB.out))
      (case side4 => exact HC0_3.out)
      (case side5 => exact zc (Kd.C_below HR0_4.out HB.out))
      (case side6 => exact HC0_4.out)
      rintro e w91 ⟨v327, v330, v333, rfl, ho0, ho1, ho2, hb⟩
      refine ⟨_, rfl, ?_⟩
      have n0_ := Aside0.mk (Kd.R_below (by (with_reducible repeat (first | apply Kd.R_alloc | apply Kd.R_drewN | apply Kd.R_drew)); exact HO_8.out) hb)
      have n1_ := Aside0.mk (Kd.R_below (by (with_reducible repeat (first | apply Kd.R_alloc | apply Kd.R_drewN | apply Kd.R_drew)); exact HO_11.out) hb)
      have n2_ := Aside0.mk (Kd.S_elder' (zS HO_319002.out) (Kd.S_base ho0) hb)
      have n3_ := Aside0.mk (Kd.S_mono (Kd.S_told (Kd.S_told (Kd.S_old (zS HO_319003.out) hb) (Kd.S_base ho1)) (Kd.S_base ho2)) (fun _ h_ => h_.1))
      have n4_ := Aside0.mk (Kd.S_mono (Kd.S_told (Kd.S_told (Kd.S_old (zS HO_319004.out) hb) (Kd.S_base ho1)) (Kd.S_base ho2)) (fun _ h_ => h_.1))
      have n5_ := Aside0.mk (Kd.S_lower (Kd.S_new' ho0 (Kd.S_lt (zS HO_319002.out))) (below_size (by repeat (first | (with_reducible first | exact HB.out | apply below_alloc | apply pw_below_drewN | apply below_drew1 | refine below_set ?_ GE290.out | refine below_set ?_ GE318.out) | exact HB.out))))
      have n6_ := Aside0.mk (Kd.S_lower (Kd.S_new' (Kd.S_new' (Kd.S_new' (Kd.S_new' ho1 (Kd.R_lt (by (with_reducible repeat (first | apply Kd.R_alloc | apply Kd.R_drewN | apply Kd.R_drew)); exact HO_8.out))) (Kd.R_lt (by (with_reducible repeat (first | apply Kd.R_alloc | apply Kd.R_drewN | apply Kd.R_drew)); exact HO_11.out))) (Kd.S_lt (zS HO_319003.out))) (Kd.S_lt (zS HO_319004.out))) (below_size (by repeat (first | (with_reducible first | exact HB.out | apply below_alloc | apply pw_below_drewN | apply below_drew1 | refine below_set ?_ GE290.out | refine below_set ?_ GE318.out) | exact HB.out))))
      have n7_ := Aside0.mk (Kd.S_lower (Kd.S_new' (Kd.S_new' (Kd.S_new' (Kd.S_new' ho2 (Kd.R_lt (by (with_reducible repeat (first | apply Kd.R_alloc | apply Kd.R_drewN | apply Kd.R_drew)); exact HO_8.out))) (Kd.R_lt (by (with_reducible repeat (first | apply Kd.R_alloc | apply Kd.R_drewN | apply Kd.R_drew)); exact HO_11.out))) (Kd.S_lt (zS HO_319003.out))) (Kd.S_lt (zS HO_319004.out))) (below_size (by repeat (first | (with_reducible first | exact HB.out | apply below_alloc | apply pw_below_drewN | apply below_drew1 | refine below_set ?_ GE290.out | refine below_set ?_ GE318.out) | exact HB.out))))
      have n8_ := Aside0.mk (blk_below (g := gb290) (o := .cells #[.int .i64 a0_0, .int .i64 a0_1, .slice A0_2 l0_2.length c0_2, .slice A0_3 l0_3.length c0_3, .slice A0_4 l0_4.length c0_4] 42 (0, 0)) (zb BK290.out) hb)
      have n9_ := Aside0.mk (blk_below (g := gb318) (o := .cells #[.int .i64 t307, .int .i64 t308, .slice Ao28 t309.length co28, .slice Ao29 t312.length co29, .slice Ao30 t315.length co30] 47 (0, 0)) (zb BK318.out) hb)
      have n10_ := Aside0.mk (below_step (by repeat (first | (with_reducible first | exact HB.out | apply below_alloc | apply pw_below_drewN | apply below_drew1 | refine below_set ?_ GE290.out | refine below_set ?_ GE318.out) | exact HB.out)) hb)
      clear HO_8
      clear HO_11
      clear HO_319002
      clear HO_319003
      clear HO_319004
      clear BK290
      clear BK318
      clear HB
      have HO_8 := n0_
      have HO_11 := n1_
      have HO_319002 := n2_
      have HO_319003 := n3_
      have HO_319004 := n4_
      have HO328 := n5_
      have HO331 := n6_
      have HO334 := n7_
      have BK290 := n8_
      have BK318 := n9_
      have HB := n10_
      clear n0_ n1_ n2_ n3_ n4_ n5_ n6_ n7_ n8_ n9_ n10_
      (try clear hb)
      (try clear hb2)
      (try clear hk)
      (try clear hi)
      (try clear ho0)
      (try clear ho1)
      (try clear ho2)
      obtain ⟨Ao92, co92, eo92⟩ := Kd.S_slice HO328.out
      (first | subst eo92 | (injection eo92 with f1_ f2_ f3_; have f4_ := f1_.symm; have f5_ := f3_.symm; clear f1_ f2_ f3_; subst f4_; subst f5_))
      obtain ⟨Ao93, co93, eo93⟩ := Kd.S_slice HO331.out
      (first | subst eo93 | (injection eo93 with f1_ f2_ f3_; have f4_ := f1_.symm; have f5_ := f3_.symm; clear f1_ f2_ f3_; subst f4_; subst f5_))
      obtain ⟨Ao94, co94, eo94⟩ := Kd.S_slice HO334.out
      (first | subst eo94 | (injection eo94 with f1_ f2_ f3_; have f4_ := f1_.symm; have f5_ := f3_.symm; clear f1_ f2_ f3_; subst f4_; subst f5_))
      refine hK.out _ _ ⟨(blk_cell BK318.out 0).trans rfl, (blk_cell BK318.out 1).trans rfl, (blk_cell BK318.out 2).trans rfl, (blk_cell BK318.out 3).trans rfl, (blk_cell BK318.out 4).trans rfl, (blk_cell BK290.out 0).trans rfl, (blk_cell BK290.out 1).trans rfl, (blk_cell BK290.out 2).trans rfl, (blk_cell BK290.out 3).trans rfl, (blk_cell BK290.out 4).trans rfl⟩ (fun hHeld => ?_)
      clear hK K
      refine norm_ (a' := ?_) ?_ ?_
      rotate_left
      ·show Act.put _ (some 51) _ = _
       simp only [Act.put, List.setIfInBounds_toArray, List.set_cons_zero, List.set_cons_succ, i64_w, i32_w]
       rfl
      refine one_ (i := 3) (N := some 52) #[true, true, true, true, false] rfl rfl (by kernel_rfl) (by decide) (fun K hK => ?_)
      refine goes_ Tryd.func27 (by kernel_rfl) rfl #[.agg #[.int .i64 t307, .int .i64 t308, .slice Ao28 t309.length co28, .slice Ao29 t312.length co29, .slice Ao30 t315.length co30], .agg #[.int .i64 t324, .int .i64 t325, .slice Ao92 t326.length co92, .slice Ao93 t329.length co93, .slice Ao94 t332.length co94]] (by rfl) rfl rfl za ?_
      with_reducible refine (laws_eqTables.calls kj12 t307 t308 _ _ t309 _ _ t312 _ _ t315 t324 t325 _ _ t326 _ _ t329 _ _ t332 false _ ?side1 ?side2 ?side3 ?side4 ?side5 ?side6 ?side7 ?side8 ?side9 ?side10 ?side11 ?side12 A40.out).mono ?_
      (case side1 => repeat (first | exact (Kd.S_reads' HO_319002.out).2.2 | (with_reducible refine Kd.C_alloc ?_ _) | (with_reducible refine Kd.C_drewN ?_ _) | (with_reducible refine Kd.C_drew ?_)))
      (case side2 => exact (Kd.S_reads' HO_319002.out).2.1)
      (case side3 => repeat (first | exact (Kd.S_reads' HO_319003.out).2.2 | (with_reducible refine Kd.C_alloc ?_ _) | (with_reducible refine Kd.C_drewN ?_ _) | (with_reducible refine Kd.C_drew ?_)))
      (case side4 => exact (Kd.S_reads' HO_319003.out).2.1)
      (case side5 => repeat (first | exact (Kd.S_reads' HO_319004.out).2.2 | (with_reducible refine Kd.C_alloc ?_ _) | (with_reducible refine Kd.C_drewN ?_ _) | (with_reducible refine Kd.C_drew ?_)))
      (case side6 => exact (Kd.S_reads' HO_319004.out).2.1)
      (case side7 => repeat (first | exact (Kd.S_reads' HO328.out).2.2 | (with_reducible refine Kd.C_alloc ?_ _) | (with_reducible refine Kd.C_drewN ?_ _) | (with_reducible refine Kd.C_drew ?_)))
      (case side8 => exact (Kd.S_reads' HO328.out).2.1)
      (case side9 => repeat (first | exact (Kd.S_reads' HO331.out).2.2 | (with_reducible refine Kd.C_alloc ?_ _) | (with_reducible refine Kd.C_drewN ?_ _) | (with_reducible refine Kd.C_drew ?_)))
      (case side10 => exact (Kd.S_reads' HO331.out).2.1)
      (case side11 => repeat (first | exact (Kd.S_reads' HO334.out).2.2 | (with_reducible refine Kd.C_alloc ?_ _) | (with_reducible refine Kd.C_drewN ?_ _) | (with_reducible refine Kd.C_drew ?_)))
      (case side12 => exact (Kd.S_reads' HO334.out).2.1)
      rintro e w95 ⟨rfl, hb⟩
      refine ⟨_, rfl, ?_⟩
      have n0_ := Aside0.mk (Kd.R_below (by (with_reducible repeat (first | apply Kd.R_alloc | apply Kd.R_drewN | apply Kd.R_drew)); exact HO_8.out) hb)
      have n1_ := Aside0.mk (Kd.R_below (by (with_reducible repeat (first | apply Kd.R_alloc | apply Kd.R_drewN | apply Kd.R_drew)); exact HO_11.out) hb)
      have n2_ := Aside0.mk (Kd.S_below (zS HO_319002.out) hb)
      have n3_ := Aside0.mk (Kd.S_below (zS HO_319003.out) hb)
      have n4_ := Aside0.mk (Kd.S_below (zS HO_319004.out) hb)
      have n5_ := Aside0.mk (Kd.S_below (zS HO328.out) hb)
      have n6_ := Aside0.mk (Kd.S_below (zS HO331.out) hb)
      have n7_ := Aside0.mk (Kd.S_below (zS HO334.out) hb)
      have n8_ := Aside0.mk (blk_below (g := gb290) (o := .cells #[.int .i64 a0_0, .int .i64 a0_1, .slice A0_2 l0_2.length c0_2, .slice A0_3 l0_3.length c0_3, .slice A0_4 l0_4.length c0_4] 42 (0, 0)) (zb BK290.out) hb)
      have n9_ := Aside0.mk (blk_below (g := gb318) (o := .cells #[.int .i64 t307, .int .i64 t308, .slice Ao28 t309.length co28, .slice Ao29 t312.length co29, .slice Ao30 t315.length co30] 47 (0, 0)) (zb BK318.out) hb)
      have n10_ := Aside0.mk (below_step (by repeat (first | (with_reducible first | exact HB.out | apply below_alloc | apply pw_below_drewN | apply below_drew1 | refine below_set ?_ GE290.out | refine below_set ?_ GE318.out) | exact HB.out)) hb)
      clear HO_8
      clear HO_11
      clear HO_319002
      clear HO_319003
      clear HO_319004
      clear HO328
      clear HO331
      clear HO334
      clear BK290
      clear BK318
      clear HB
      have HO_8 := n0_
      have HO_11 := n1_
      have HO_319002 := n2_
      have HO_319003 := n3_
      have HO_319004 := n4_
      have HO328 := n5_
      have HO331 := n6_
      have HO334 := n7_
      have BK290 := n8_
      have BK318 := n9_
      have HB := n10_
      clear n0_ n1_ n2_ n3_ n4_ n5_ n6_ n7_ n8_ n9_ n10_
      (try clear hb)
      (try clear hb2)
      (try clear hk)
      (try clear hi)
      refine hK.out _ _ ⟨(blk_cell BK318.out 0).trans rfl, (blk_cell BK318.out 1).trans rfl, (blk_cell BK318.out 2).trans rfl, (blk_cell BK318.out 3).trans rfl, (blk_cell BK318.out 4).trans rfl, (blk_cell BK290.out 0).trans rfl, (blk_cell BK290.out 1).trans rfl, (blk_cell BK290.out 2).trans rfl, (blk_cell BK290.out 3).trans rfl, (blk_cell BK290.out 4).trans rfl⟩ (fun hHeld => ?_)
      clear hK K
      refine norm_ (a' := ?_) ?_ ?_
      rotate_left
      ·show Act.put _ (some 52) _ = _
       simp only [Act.put, List.setIfInBounds_toArray, List.set_cons_zero, List.set_cons_succ, i64_w, i32_w]
       rfl
      refine pure_ (i := 4) (N := some 53) (v := ?_) (a' := ?_) #[true, true, true, true, true] rfl rfl (by kernel_rfl) (fun _ _ _ h => h) (Or.inl ⟨by rfl, ?_⟩) ?_ ?_
      rotate_left
      ·intro w'
       go_simp
       with_reducible rfl
      rotate_left
      ·simp only [Act.put, List.setIfInBounds_toArray, List.set_cons_zero, List.set_cons_succ, i64_w, i32_w]
       rfl
      refine done_ (by kernel_rfl) ?_
      try go_wp2
      go_ret
      exact ⟨ze, by repeat (first | (with_reducible first | exact HB.out | apply below_alloc | apply pw_below_drewN | apply below_drew1 | refine below_set ?_ GE290.out | refine below_set ?_ GE318.out) | exact HB.out)⟩

end Go.Proofs.YthbeplmihjhoeaaDoor.PFnExactWalk
