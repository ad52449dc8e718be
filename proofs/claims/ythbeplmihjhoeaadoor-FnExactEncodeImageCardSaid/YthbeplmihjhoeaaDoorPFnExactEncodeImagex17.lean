-- made by wip/tools/myprint.py (this session's own program, over the kit's printer)
import Derived.Test.YthbeplmihjhoeaaDoorPFnExactEncodeImagex0
import Derived.Test.YthbeplmihjhoeaaDoorPFnExactEncodeImagex1
import Derived.Test.YthbeplmihjhoeaaDoorPFnExactEncodeImagex2
import Derived.Test.YthbeplmihjhoeaaDoorPFnExactEncodeImagex3
import Derived.Test.YthbeplmihjhoeaaDoorPFnExactEncodeImagex4
import Derived.Test.YthbeplmihjhoeaaDoorPFnExactEncodeImagex12
import Derived.Test.YthbeplmihjhoeaaDoorPFnExactEncodeImagex16
namespace Go.Proofs.YthbeplmihjhoeaaDoor.PFnExactEncodeImage
open Go.RowKit Go.Proofs.YthbeplmihjhoeaaDoorW.PrintWords Go.Proofs.YthbeplmihjhoeaaDoorW.PrintLast Go.Proofs.YthbeplmihjhoeaaDoorW.PrintMore
attribute [local go_sem] max2_int min2_int max_two min_two max_three min_three max_four min_four   -- for this text's walks alone
set_option linter.unusedVariables false
set_option linter.unusedSimpArgs false

/-! ### laws_FnExactEncodeImage: function 5 -/
def laws_FnExactEncodeImage.j0 : Nat → List Int → List Int → Bool → Int → Int → List (S185) → List (List Int) → List (List Int) → Option (Bool)
 | 0, _, _, _, _, _, _, _, _ => none
 | k + 1, x4, x6, x42, x345000, x345001, x345002, x345003, x345004 => if x42 = true then (some false) else ((laws_markByteS.f k x6 1).bind fun bt390 => ((laws_heldByteS.f k bt390.2 1).bind fun t392 => (if t392 < 0 then (some false) else (if t392 = bt390.1 then ((laws_toTables.f k x345000 x345001 x345002 x345003 x345004).bind fun bt393 => ((impl_EncodeImage.f k bt393.1 bt393.2.1 bt393.2.2.1 bt393.2.2.2.1 bt393.2.2.2.2).bind fun t404 => ((laws_eqByteS.f k t404 x4).bind fun t407 => (if t407 = true then ((laws_heldByteS.f k bt390.2 1).bind fun t408 => (if t408 < 0 then (some false) else (if t408 = bt390.1 then (some true) else (some false)))) else (some false))))) else (some false)))))
def laws_FnExactEncodeImage.f (k : Nat) (a0_0 : Int) (a0_1 : Int) (l0_2 : List (S185)) (l0_3 : List (List Int)) (l0_4 : List (List Int)) : Option (Bool) := (laws_szTables.f k a0_0 a0_1 l0_2 l0_3 l0_4 1048576).bind fun t345 => (if t345 < 0 then (some true) else ((laws_toTables.f k a0_0 a0_1 l0_2 l0_3 l0_4).bind fun bt346 => ((spec_EncodeImage.f k bt346.1 bt346.2.1 bt346.2.2.1 bt346.2.2.2.1 bt346.2.2.2.2).bind fun t357 => ((laws_toTables.f k a0_0 a0_1 l0_2 l0_3 l0_4).bind fun bt360 => ((impl_EncodeImage.f k bt360.1 bt360.2.1 bt360.2.2.1 bt360.2.2.2.1 bt360.2.2.2.2).bind fun t372 => ((laws_eqByteS.f k t372 t357).bind fun t375 => (if t375 = true then ((laws_toTables.f k a0_0 a0_1 l0_2 l0_3 l0_4).bind fun bt376 => ((laws_eqTables.f k bt360.1 bt360.2.1 bt360.2.2.1 bt360.2.2.2.1 bt360.2.2.2.2 bt376.1 bt376.2.1 bt376.2.2.1 bt376.2.2.2.1 bt376.2.2.2.2).bind fun t387 => (if t387 = true then ((laws_markTables.f bt360.1 bt360.2.1 bt360.2.2.1 bt360.2.2.2.1 bt360.2.2.2.2 1).bind fun t388 => (if t388 < 0 then (laws_FnExactEncodeImage.j0 k t357 t372 true a0_0 a0_1 l0_2 l0_3 l0_4) else ((laws_eqByteS.f k t372 t357).bind fun t389 => (laws_FnExactEncodeImage.j0 k t357 t372 (!t389) a0_0 a0_1 l0_2 l0_3 l0_4)))) else (some false)))) else (some false))))))))
theorem laws_FnExactEncodeImage.mono_l : ∀ k, (∀ y0 y1 y2 y3 y4 y5 y6 y7, LeO (laws_FnExactEncodeImage.j0 k y0 y1 y2 y3 y4 y5 y6 y7) (laws_FnExactEncodeImage.j0 (k + 1) y0 y1 y2 y3 y4 y5 y6 y7))
 | 0 => fun _ _ _ _ _ _ _ _ r h => by simp [laws_FnExactEncodeImage.j0] at h
 | k + 1 => by
  have ih0 := laws_FnExactEncodeImage.mono_l k
  ·intro y0 y1 y2 y3 y4 y5 y6 y7
   unfold laws_FnExactEncodeImage.j0
   have m1 := @impl_EncodeImage.mono
   have m2 := @laws_eqByteS.mono
   have m3 := @laws_eqTables.mono
   have m4 := @laws_heldByteS.mono
   have m5 := @laws_markByteS.mono
   have m6 := @laws_szTables.mono
   have m7 := @laws_toTables.mono
   have m8 := @spec_EncodeImage.mono
   exact zm
theorem laws_FnExactEncodeImage.mono : ∀ a0 a1 a2 a3 a4 k, LeO (laws_FnExactEncodeImage.f k a0 a1 a2 a3 a4) (laws_FnExactEncodeImage.f (k + 1) a0 a1 a2 a3 a4) := by
 intro a0 a1 a2 a3 a4 k
 have ih0 := laws_FnExactEncodeImage.mono_l k
 unfold laws_FnExactEncodeImage.f
 have m1 := @impl_EncodeImage.mono
 have m2 := @laws_eqByteS.mono
 have m3 := @laws_eqTables.mono
 have m4 := @laws_heldByteS.mono
 have m5 := @laws_markByteS.mono
 have m6 := @laws_szTables.mono
 have m7 := @laws_toTables.mono
 have m8 := @spec_EncodeImage.mono
 exact zm
set_option maxHeartbeats 8000000 in
set_option maxRecDepth 100000 in
theorem laws_FnExactEncodeImage.calls (k : Nat) (a0_0 : Int) (a0_1 : Int) (A0_2 : Option Addr) (c0_2 : Nat) (l0_2 : List (S185)) (A0_3 : Option Addr) (c0_3 : Nat) (l0_3 : List (List Int)) (A0_4 : Option Addr) (c0_4 : Nat) (l0_4 : List (List Int)) (r : Bool) (w : World) (hr0_2 : Kd.C k185 w A0_2 l0_2.length l0_2) (hc0_2 : l0_2.length ≤ c0_2) (hr0_3 : Kd.C (Kd.slice 3 (Kd.int .i64)) w A0_3 l0_3.length l0_3) (hc0_3 : l0_3.length ≤ c0_3) (hr0_4 : Kd.C (Kd.slice 3 (Kd.int .i64)) w A0_4 l0_4.length l0_4) (hc0_4 : l0_4.length ≤ c0_4) (hL : LaidW w) (h : laws_FnExactEncodeImage.f k a0_0 a0_1 l0_2 l0_3 l0_4 = some r) :
  Calls Tryd.prog 5 #[.agg #[.int .i64 a0_0, .int .i64 a0_1, .slice A0_2 l0_2.length c0_2, .slice A0_3 l0_3.length c0_3, .slice A0_4 l0_4.length c0_4]] w fun e w' => e = .returned (.bool r) ∧ Below w.heap.size w w' := by
 have hu42 := Tryd.underlying42
 have hu47 := Tryd.underlying47
 have HR0_2 := zA hr0_2
 have HC0_2 := zA hc0_2
 clear hr0_2 hc0_2
 have HR0_3 := zA hr0_3
 have HC0_3 := zA hc0_3
 clear hr0_3 hc0_3
 have HR0_4 := zA hr0_4
 have HC0_4 := zA hc0_4
 clear hr0_4 hc0_4
 have HLD := zA hL
 clear hL
 have HB := zA (Below.refl w.heap.size w)
 have H : ((laws_szTables.f k a0_0 a0_1 l0_2 l0_3 l0_4 1048576).bind fun t345 => (if t345 < 0 then (some true) else ((laws_toTables.f k a0_0 a0_1 l0_2 l0_3 l0_4).bind fun bt346 => ((spec_EncodeImage.f k bt346.1 bt346.2.1 bt346.2.2.1 bt346.2.2.2.1 bt346.2.2.2.2).bind fun t357 => ((laws_toTables.f k a0_0 a0_1 l0_2 l0_3 l0_4).bind fun bt360 => ((impl_EncodeImage.f k bt360.1 bt360.2.1 bt360.2.2.1 bt360.2.2.2.1 bt360.2.2.2.2).bind fun t372 => ((laws_eqByteS.f k t372 t357).bind fun t375 => (if t375 = true then ((laws_toTables.f k a0_0 a0_1 l0_2 l0_3 l0_4).bind fun bt376 => ((laws_eqTables.f k bt360.1 bt360.2.1 bt360.2.2.1 bt360.2.2.2.1 bt360.2.2.2.2 bt376.1 bt376.2.1 bt376.2.2.1 bt376.2.2.2.1 bt376.2.2.2.2).bind fun t387 => (if t387 = true then ((laws_markTables.f bt360.1 bt360.2.1 bt360.2.2.1 bt360.2.2.2.1 bt360.2.2.2.2 1).bind fun t388 => (if t388 < 0 then (laws_FnExactEncodeImage.j0 k t357 t372 true a0_0 a0_1 l0_2 l0_3 l0_4) else ((laws_eqByteS.f k t372 t357).bind fun t389 => (laws_FnExactEncodeImage.j0 k t357 t372 (!t389) a0_0 a0_1 l0_2 l0_3 l0_4)))) else (some false)))) else (some false))))))))) = some r := h
 clear h
 replace H := Option.bind_eq_some_iff.mp H
 obtain ⟨t345, A20, H⟩ := H
 replace H : (if t345 < 0 then (some true) else ((laws_toTables.f k a0_0 a0_1 l0_2 l0_3 l0_4).bind fun bt346 => ((spec_EncodeImage.f k bt346.1 bt346.2.1 bt346.2.2.1 bt346.2.2.2.1 bt346.2.2.2.2).bind fun t357 => ((laws_toTables.f k a0_0 a0_1 l0_2 l0_3 l0_4).bind fun bt360 => ((impl_EncodeImage.f k bt360.1 bt360.2.1 bt360.2.2.1 bt360.2.2.2.1 bt360.2.2.2.2).bind fun t372 => ((laws_eqByteS.f k t372 t357).bind fun t375 => (if t375 = true then ((laws_toTables.f k a0_0 a0_1 l0_2 l0_3 l0_4).bind fun bt376 => ((laws_eqTables.f k bt360.1 bt360.2.1 bt360.2.2.1 bt360.2.2.2.1 bt360.2.2.2.2 bt376.1 bt376.2.1 bt376.2.2.1 bt376.2.2.2.1 bt376.2.2.2.2).bind fun t387 => (if t387 = true then ((laws_markTables.f bt360.1 bt360.2.1 bt360.2.2.1 bt360.2.2.2.1 bt360.2.2.2.2 1).bind fun t388 => (if t388 < 0 then (laws_FnExactEncodeImage.j0 k t357 t372 true a0_0 a0_1 l0_2 l0_3 l0_4) else ((laws_eqByteS.f k t372 t357).bind fun t389 => (laws_FnExactEncodeImage.j0 k t357 t372 (!t389) a0_0 a0_1 l0_2 l0_3 l0_4)))) else (some false)))) else (some false)))))))) = some r := H
 have A2 := zA A20
 clear A20
 by_cases c3 : t345 < 0
 ·rw [if_pos c3] at H
  have c3b0 : decide (t345 < 0) = true := decide_eq_true c3
  clear c3
  obtain rfl := Option.some.inj H
  go_enter Tryd.func5, Tryd.ntmps5
  go_wp2_with (first | ((with_reducible refine gate_dst (N := 1) rfl ?_); refine box_event ?hg (N := 1) ?hd (cs := #[.int .i64 a0_0, .int .i64 a0_1, .slice A0_2 l0_2.length c0_2, .slice A0_3 l0_3.length c0_3, .slice A0_4 l0_4.length c0_4]) (t := 42) ?hr ?_; (case hd => rfl); (case hg => rfl); (case hr => first | (go_simp; done) | (go_simp; rfl)); intro gb344 hg w4 hbox hb; have n0_ := zA (below_step z_ hb); have n1_ := zA (hbox); have n2_ := zA ((by rw [hg]; exact (below_size z_) : w.heap.size ≤ gb344)); have n3_ := zA ((by rw [hg]; exact (below_size z_) : w.heap.size ≤ gb344)); clear HB; have HB := n0_; have BK344 := n1_; have GW344 := n2_; have GE344 := n3_; clear n0_ n1_ n2_ n3_; clear hb hbox hg; obtain ⟨hcz5_0, hcz5_1, hcz5_2, hcz5_3, hcz5_4, hfz5_0, hfz5_1, hfz5_2, hfz5_3, hfz5_4⟩ := zh5 BK344.out) | ((with_reducible refine gate_callee (f := 22) rfl ?_); refine goesL_ (some 13) rfl rfl Tryd.func22 (by kernel_rfl) rfl #[.agg #[.int .i64 a0_0, .int .i64 a0_1, .slice A0_2 l0_2.length c0_2, .slice A0_3 l0_3.length c0_3, .slice A0_4 l0_4.length c0_4], .int .i64 1048576] rfl za ?_; (with_reducible refine (laws_szTables.calls k a0_0 a0_1 _ _ l0_2 _ _ l0_3 _ _ l0_4 1048576 t345 _ ?side1 ?side2 ?side3 ?side4 ?side5 ?side6 A2.out).mono ?_); (case side1 => exact zc (Kd.C_below HR0_2.out HB.out)); (case side2 => exact HC0_2.out); (case side3 => exact zc (Kd.C_below HR0_3.out HB.out)); (case side4 => exact HC0_3.out); (case side5 => exact zc (Kd.C_below HR0_4.out HB.out)); (case side6 => exact HC0_4.out); rintro e w6 ⟨rfl, hb⟩; refine ⟨_, rfl, ?_⟩; have n0_ := zA (zB BK344.out hb); have n1_ := zA (below_step (zs GE344.out) hb); clear BK344 HB; have BK344 := n0_; have HB := n1_; clear n0_ n1_; (try clear hb); (try clear hb2); (try clear hk); (try clear hi)))
  go_ret
  exact ⟨ze, (zs GE344.out)⟩
 ·rw [if_neg c3] at H
  have c3b0 : decide (t345 < 0) = false := decide_eq_false c3
  clear c3
  replace H := Option.bind_eq_some_iff.mp H
  obtain ⟨⟨t346, t347, t348, t351, t354⟩, A70, H⟩ := H
  replace H : ((spec_EncodeImage.f k t346 t347 t348 t351 t354).bind fun t357 => ((laws_toTables.f k a0_0 a0_1 l0_2 l0_3 l0_4).bind fun bt360 => ((impl_EncodeImage.f k bt360.1 bt360.2.1 bt360.2.2.1 bt360.2.2.2.1 bt360.2.2.2.2).bind fun t372 => ((laws_eqByteS.f k t372 t357).bind fun t375 => (if t375 = true then ((laws_toTables.f k a0_0 a0_1 l0_2 l0_3 l0_4).bind fun bt376 => ((laws_eqTables.f k bt360.1 bt360.2.1 bt360.2.2.1 bt360.2.2.2.1 bt360.2.2.2.2 bt376.1 bt376.2.1 bt376.2.2.1 bt376.2.2.2.1 bt376.2.2.2.2).bind fun t387 => (if t387 = true then ((laws_markTables.f bt360.1 bt360.2.1 bt360.2.2.1 bt360.2.2.2.1 bt360.2.2.2.2 1).bind fun t388 => (if t388 < 0 then (laws_FnExactEncodeImage.j0 k t357 t372 true a0_0 a0_1 l0_2 l0_3 l0_4) else ((laws_eqByteS.f k t372 t357).bind fun t389 => (laws_FnExactEncodeImage.j0 k t357 t372 (!t389) a0_0 a0_1 l0_2 l0_3 l0_4)))) else (some false)))) else (some false)))))) = some r := H
  have A7 := zA A70
  clear A70
  replace H := Option.bind_eq_some_iff.mp H
  obtain ⟨t357, A80, H⟩ := H
  replace H : ((laws_toTables.f k a0_0 a0_1 l0_2 l0_3 l0_4).bind fun bt360 => ((impl_EncodeImage.f k bt360.1 bt360.2.1 bt360.2.2.1 bt360.2.2.2.1 bt360.2.2.2.2).bind fun t372 => ((laws_eqByteS.f k t372 t357).bind fun t375 => (if t375 = true then ((laws_toTables.f k a0_0 a0_1 l0_2 l0_3 l0_4).bind fun bt376 => ((laws_eqTables.f k bt360.1 bt360.2.1 bt360.2.2.1 bt360.2.2.2.1 bt360.2.2.2.2 bt376.1 bt376.2.1 bt376.2.2.1 bt376.2.2.2.1 bt376.2.2.2.2).bind fun t387 => (if t387 = true then ((laws_markTables.f bt360.1 bt360.2.1 bt360.2.2.1 bt360.2.2.2.1 bt360.2.2.2.2 1).bind fun t388 => (if t388 < 0 then (laws_FnExactEncodeImage.j0 k t357 t372 true a0_0 a0_1 l0_2 l0_3 l0_4) else ((laws_eqByteS.f k t372 t357).bind fun t389 => (laws_FnExactEncodeImage.j0 k t357 t372 (!t389) a0_0 a0_1 l0_2 l0_3 l0_4)))) else (some false)))) else (some false))))) = some r := H
  have A8 := zA A80
  clear A80
  replace H := Option.bind_eq_some_iff.mp H
  obtain ⟨⟨t360, t361, t362, t365, t368⟩, A90, H⟩ := H
  replace H : ((impl_EncodeImage.f k t360 t361 t362 t365 t368).bind fun t372 => ((laws_eqByteS.f k t372 t357).bind fun t375 => (if t375 = true then ((laws_toTables.f k a0_0 a0_1 l0_2 l0_3 l0_4).bind fun bt376 => ((laws_eqTables.f k t360 t361 t362 t365 t368 bt376.1 bt376.2.1 bt376.2.2.1 bt376.2.2.2.1 bt376.2.2.2.2).bind fun t387 => (if t387 = true then ((laws_markTables.f t360 t361 t362 t365 t368 1).bind fun t388 => (if t388 < 0 then (laws_FnExactEncodeImage.j0 k t357 t372 true a0_0 a0_1 l0_2 l0_3 l0_4) else ((laws_eqByteS.f k t372 t357).bind fun t389 => (laws_FnExactEncodeImage.j0 k t357 t372 (!t389) a0_0 a0_1 l0_2 l0_3 l0_4)))) else (some false)))) else (some false)))) = some r := H
  have A9 := zA A90
  clear A90
  replace H := Option.bind_eq_some_iff.mp H
  obtain ⟨t372, A100, H⟩ := H
  replace H : ((laws_eqByteS.f k t372 t357).bind fun t375 => (if t375 = true then ((laws_toTables.f k a0_0 a0_1 l0_2 l0_3 l0_4).bind fun bt376 => ((laws_eqTables.f k t360 t361 t362 t365 t368 bt376.1 bt376.2.1 bt376.2.2.1 bt376.2.2.2.1 bt376.2.2.2.2).bind fun t387 => (if t387 = true then ((laws_markTables.f t360 t361 t362 t365 t368 1).bind fun t388 => (if t388 < 0 then (laws_FnExactEncodeImage.j0 k t357 t372 true a0_0 a0_1 l0_2 l0_3 l0_4) else ((laws_eqByteS.f k t372 t357).bind fun t389 => (laws_FnExactEncodeImage.j0 k t357 t372 (!t389) a0_0 a0_1 l0_2 l0_3 l0_4)))) else (some false)))) else (some false))) = some r := H
  have A10 := zA A100
  clear A100
  replace H := Option.bind_eq_some_iff.mp H
  obtain ⟨t375, A110, H⟩ := H
  replace H : (if t375 = true then ((laws_toTables.f k a0_0 a0_1 l0_2 l0_3 l0_4).bind fun bt376 => ((laws_eqTables.f k t360 t361 t362 t365 t368 bt376.1 bt376.2.1 bt376.2.2.1 bt376.2.2.2.1 bt376.2.2.2.2).bind fun t387 => (if t387 = true then ((laws_markTables.f t360 t361 t362 t365 t368 1).bind fun t388 => (if t388 < 0 then (laws_FnExactEncodeImage.j0 k t357 t372 true a0_0 a0_1 l0_2 l0_3 l0_4) else ((laws_eqByteS.f k t372 t357).bind fun t389 => (laws_FnExactEncodeImage.j0 k t357 t372 (!t389) a0_0 a0_1 l0_2 l0_3 l0_4)))) else (some false)))) else (some false)) = some r := H
  have A11 := zA A110
  clear A110
  by_cases c12 : t375 = true
  ·subst c12
   have H1 : ((laws_toTables.f k a0_0 a0_1 l0_2 l0_3 l0_4).bind fun bt376 => ((laws_eqTables.f k t360 t361 t362 t365 t368 bt376.1 bt376.2.1 bt376.2.2.1 bt376.2.2.2.1 bt376.2.2.2.2).bind fun t387 => (if t387 = true then ((laws_markTables.f t360 t361 t362 t365 t368 1).bind fun t388 => (if t388 < 0 then (laws_FnExactEncodeImage.j0 k t357 t372 true a0_0 a0_1 l0_2 l0_3 l0_4) else ((laws_eqByteS.f k t372 t357).bind fun t389 => (laws_FnExactEncodeImage.j0 k t357 t372 (!t389) a0_0 a0_1 l0_2 l0_3 l0_4)))) else (some false)))) = some r := by rw [if_pos rfl] at H; exact H
   clear H
   have H := H1
   clear H1
   replace H := Option.bind_eq_some_iff.mp H
   obtain ⟨⟨t376, t377, t378, t381, t384⟩, A130, H⟩ := H
   replace H : ((laws_eqTables.f k t360 t361 t362 t365 t368 t376 t377 t378 t381 t384).bind fun t387 => (if t387 = true then ((laws_markTables.f t360 t361 t362 t365 t368 1).bind fun t388 => (if t388 < 0 then (laws_FnExactEncodeImage.j0 k t357 t372 true a0_0 a0_1 l0_2 l0_3 l0_4) else ((laws_eqByteS.f k t372 t357).bind fun t389 => (laws_FnExactEncodeImage.j0 k t357 t372 (!t389) a0_0 a0_1 l0_2 l0_3 l0_4)))) else (some false))) = some r := H
   have A13 := zA A130
   clear A130
   replace H := Option.bind_eq_some_iff.mp H
   obtain ⟨t387, A140, H⟩ := H
   replace H : (if t387 = true then ((laws_markTables.f t360 t361 t362 t365 t368 1).bind fun t388 => (if t388 < 0 then (laws_FnExactEncodeImage.j0 k t357 t372 true a0_0 a0_1 l0_2 l0_3 l0_4) else ((laws_eqByteS.f k t372 t357).bind fun t389 => (laws_FnExactEncodeImage.j0 k t357 t372 (!t389) a0_0 a0_1 l0_2 l0_3 l0_4)))) else (some false)) = some r := H
   have A14 := zA A140
   clear A140
   by_cases c15 : t387 = true
   ·subst c15
    have H1 : ((laws_markTables.f t360 t361 t362 t365 t368 1).bind fun t388 => (if t388 < 0 then (laws_FnExactEncodeImage.j0 k t357 t372 true a0_0 a0_1 l0_2 l0_3 l0_4) else ((laws_eqByteS.f k t372 t357).bind fun t389 => (laws_FnExactEncodeImage.j0 k t357 t372 (!t389) a0_0 a0_1 l0_2 l0_3 l0_4)))) = some r := by rw [if_pos rfl] at H; exact H
    clear H
    have H := H1
    clear H1
    replace H := Option.bind_eq_some_iff.mp H
    obtain ⟨t388, A160, H⟩ := H
    replace H : (if t388 < 0 then (laws_FnExactEncodeImage.j0 k t357 t372 true a0_0 a0_1 l0_2 l0_3 l0_4) else ((laws_eqByteS.f k t372 t357).bind fun t389 => (laws_FnExactEncodeImage.j0 k t357 t372 (!t389) a0_0 a0_1 l0_2 l0_3 l0_4))) = some r := H
    have A16 := zA A160
    clear A160
    have HC17 := zA H
    clear H
    go_enter Tryd.func5, Tryd.ntmps5
    try go_wp2_with (first | ((with_reducible refine gate_dst (N := 1) rfl ?_); refine box_event ?hg (N := 1) ?hd (cs := #[.int .i64 a0_0, .int .i64 a0_1, .slice A0_2 l0_2.length c0_2, .slice A0_3 l0_3.length c0_3, .slice A0_4 l0_4.length c0_4]) (t := 42) ?hr ?_; (case hd => rfl); (case hg => rfl); (case hr => first | (go_simp; done) | (go_simp; rfl)); intro gb344 hg w18 hbox hb; have n0_ := zA (below_step z_ hb); have n1_ := zA (hbox); have n2_ := zA ((by rw [hg]; exact (below_size z_) : w.heap.size ≤ gb344)); have n3_ := zA ((by rw [hg]; exact (below_size z_) : w.heap.size ≤ gb344)); clear HB; have HB := n0_; have BK344 := n1_; have GW344 := n2_; have GE344 := n3_; clear n0_ n1_ n2_ n3_; clear hb hbox hg; obtain ⟨hcz19_0, hcz19_1, hcz19_2, hcz19_3, hcz19_4, hfz19_0, hfz19_1, hfz19_2, hfz19_3, hfz19_4⟩ := zh5 BK344.out) | ((with_reducible refine gate_callee (f := 22) rfl ?_); refine goesL_ (some 13) rfl rfl Tryd.func22 (by kernel_rfl) rfl #[.agg #[.int .i64 a0_0, .int .i64 a0_1, .slice A0_2 l0_2.length c0_2, .slice A0_3 l0_3.length c0_3, .slice A0_4 l0_4.length c0_4], .int .i64 1048576] rfl za ?_; (with_reducible refine (laws_szTables.calls k a0_0 a0_1 _ _ l0_2 _ _ l0_3 _ _ l0_4 1048576 t345 _ ?side1 ?side2 ?side3 ?side4 ?side5 ?side6 A2.out).mono ?_); (case side1 => exact zc (Kd.C_below HR0_2.out HB.out)); (case side2 => exact HC0_2.out); (case side3 => exact zc (Kd.C_below HR0_3.out HB.out)); (case side4 => exact HC0_3.out); (case side5 => exact zc (Kd.C_below HR0_4.out HB.out)); (case side6 => exact HC0_4.out); rintro e w20 ⟨rfl, hb⟩; refine ⟨_, rfl, ?_⟩; have n0_ := zA (zB BK344.out hb); have n1_ := zA (below_step (zs GE344.out) hb); clear BK344 HB; have BK344 := n0_; have HB := n1_; clear n0_ n1_; (try clear hb); (try clear hb2); (try clear hk); (try clear hi); obtain ⟨hcz21_0, hcz21_1, hcz21_2, hcz21_3, hcz21_4, hfz21_0, hfz21_1, hfz21_2, hfz21_3, hfz21_4⟩ := zh5 BK344.out) | ((with_reducible refine gate_callee (f := 24) rfl ?_); refine goesL_ (some 17) rfl rfl Tryd.func24 (by kernel_rfl) rfl #[.agg #[.int .i64 a0_0, .int .i64 a0_1, .slice A0_2 l0_2.length c0_2, .slice A0_3 l0_3.length c0_3, .slice A0_4 l0_4.length c0_4]] rfl za ?_; (with_reducible refine (laws_toTables.calls k a0_0 a0_1 _ _ l0_2 _ _ l0_3 _ _ l0_4 t346 t347 t348 t351 t354 _ ?side1 ?side2 ?side3 ?side4 ?side5 ?side6 A7.out).mono ?_); (case side1 => exact zc (Kd.C_below HR0_2.out HB.out)); (case side2 => exact HC0_2.out); (case side3 => exact zc (Kd.C_below HR0_3.out HB.out)); (case side4 => exact HC0_3.out); (case side5 => exact zc (Kd.C_below HR0_4.out HB.out)); (case side6 => exact HC0_4.out); rintro e w22 ⟨v349, v352, v355, rfl, ho0, ho1, ho2, hb⟩; refine ⟨_, rfl, ?_⟩; have n0_ := zA (Kd.S_lower ho0 (below_size (zs GE344.out))); have n1_ := zA (Kd.S_lower ho1 (below_size (zs GE344.out))); have n2_ := zA (Kd.S_lower ho2 (below_size (zs GE344.out))); have n3_ := zA (zB BK344.out hb); have n4_ := zA (below_step (zs GE344.out) hb); clear BK344 HB; have HO350 := n0_; have HO353 := n1_; have HO356 := n2_; have BK344 := n3_; have HB := n4_; clear n0_ n1_ n2_ n3_ n4_; (try clear hb); (try clear hb2); (try clear hk); (try clear hi); (try clear ho0); (try clear ho1); (try clear ho2); obtain ⟨Ao23, co23, eo23⟩ := Kd.S_slice HO350.out; subst eo23; obtain ⟨Ao24, co24, eo24⟩ := Kd.S_slice HO353.out; subst eo24; obtain ⟨Ao25, co25, eo25⟩ := Kd.S_slice HO356.out; subst eo25) | ((with_reducible refine gate_callee (f := 31) rfl ?_); refine goesL_ (some 18) rfl rfl Tryd.func31 (by kernel_rfl) rfl #[.agg #[.int .i64 t346, .int .i64 t347, .slice Ao23 t348.length co23, .slice Ao24 t351.length co24, .slice Ao25 t354.length co25]] rfl za ?_; (with_reducible refine (spec_EncodeImage.calls k t346 t347 _ _ t348 _ _ t351 _ _ t354 t357 _ ?side1 ?side2 ?side3 ?side4 ?side5 ?side6 A8.out).mono ?_); (case side1 => exact zc ((Kd.S_reads' HO350.out).2.2)); (case side2 => exact (Kd.S_reads' HO350.out).2.1); (case side3 => exact zc ((Kd.S_reads' HO353.out).2.2)); (case side4 => exact (Kd.S_reads' HO353.out).2.1); (case side5 => exact zc ((Kd.S_reads' HO356.out).2.2)); (case side6 => exact (Kd.S_reads' HO356.out).2.1); rintro e w26 ⟨v358, rfl, ho0, hb⟩; refine ⟨_, rfl, ?_⟩; have n0_ := zA (Kd.S_elder' (zS HO350.out) (Kd.R_base ho0) hb); have n1_ := zA (Kd.S_below (zS HO353.out) hb); have n2_ := zA (Kd.S_below (zS HO356.out) hb); have n3_ := zA (Kd.R_lower ho0 (below_size (zs GE344.out))); have n4_ := zA (zB BK344.out hb); have n5_ := zA (below_step (zs GE344.out) hb); clear HO350 HO353 HO356 BK344 HB; have HO350 := n0_; have HO353 := n1_; have HO356 := n2_; have HO359 := n3_; have BK344 := n4_; have HB := n5_; clear n0_ n1_ n2_ n3_ n4_ n5_; (try clear hb); (try clear hb2); (try clear hk); (try clear hi); (try clear ho0); obtain ⟨hcz27_0, hcz27_1, hcz27_2, hcz27_3, hcz27_4, hfz27_0, hfz27_1, hfz27_2, hfz27_3, hfz27_4⟩ := zh5 BK344.out) | ((with_reducible refine gate_callee (f := 24) rfl ?_); refine goesL_ (some 20) rfl rfl Tryd.func24 (by kernel_rfl) rfl #[.agg #[.int .i64 a0_0, .int .i64 a0_1, .slice A0_2 l0_2.length c0_2, .slice A0_3 l0_3.length c0_3, .slice A0_4 l0_4.length c0_4]] rfl za ?_; (with_reducible refine (laws_toTables.calls k a0_0 a0_1 _ _ l0_2 _ _ l0_3 _ _ l0_4 t360 t361 t362 t365 t368 _ ?side1 ?side2 ?side3 ?side4 ?side5 ?side6 A9.out).mono ?_); (case side1 => exact zc (Kd.C_below HR0_2.out HB.out)); (case side2 => exact HC0_2.out); (case side3 => exact zc (Kd.C_below HR0_3.out HB.out)); (case side4 => exact HC0_3.out); (case side5 => exact zc (Kd.C_below HR0_4.out HB.out)); (case side6 => exact HC0_4.out); rintro e w28 ⟨v363, v366, v369, rfl, ho0, ho1, ho2, hb⟩; refine ⟨_, rfl, ?_⟩; have n0_ := zA (Kd.S_elder' (zS HO350.out) (Kd.S_base ho0) hb); have n1_ := zA (Kd.S_mono (Kd.S_told (Kd.S_told (Kd.S_old (zS HO353.out) hb) (Kd.S_base ho1)) (Kd.S_base ho2)) (fun _ h_ => h_.1)); have n2_ := zA (Kd.S_mono (Kd.S_told (Kd.S_told (Kd.S_old (zS HO356.out) hb) (Kd.S_base ho1)) (Kd.S_base ho2)) (fun _ h_ => h_.1)); have n3_ := zA (Kd.R_below (zR HO359.out) hb); have n4_ := zA (Kd.S_lower (Kd.S_new' (Kd.S_new' ho0 (Kd.S_lt (zS HO350.out))) (zl HO359.out)) (below_size (zs GE344.out))); have n5_ := zA (Kd.S_lower (Kd.S_new' (Kd.S_new' ho1 (Kd.S_lt (zS HO353.out))) (Kd.S_lt (zS HO356.out))) (below_size (zs GE344.out))); have n6_ := zA (Kd.S_lower (Kd.S_new' (Kd.S_new' ho2 (Kd.S_lt (zS HO353.out))) (Kd.S_lt (zS HO356.out))) (below_size (zs GE344.out))); have n7_ := zA (zB BK344.out hb); have n8_ := zA (below_step (zs GE344.out) hb); clear HO350 HO353 HO356 HO359 BK344 HB; have HO350 := n0_; have HO353 := n1_; have HO356 := n2_; have HO359 := n3_; have HO364 := n4_; have HO367 := n5_; have HO370 := n6_; have BK344 := n7_; have HB := n8_; clear n0_ n1_ n2_ n3_ n4_ n5_ n6_ n7_ n8_; (try clear hb); (try clear hb2); (try clear hk); (try clear hi); (try clear ho0); (try clear ho1); (try clear ho2)) | ((with_reducible refine gate_dst (N := 5) rfl ?_); refine box_event ?hg (N := 5) ?hd (cs := #[.int .i64 0, .int .i64 0, .slice none 0 0, .slice none 0 0, .slice none 0 0]) (t := 47) ?hr ?_; (case hd => rfl); (case hg => rfl); (case hr => first | (go_simp; done) | (go_simp; rfl)); intro gb371 hg w29 hbox hb; have n0_ := zA (Kd.S_below (zS HO350.out) hb); have n1_ := zA (Kd.S_below (zS HO353.out) hb); have n2_ := zA (Kd.S_below (zS HO356.out) hb); have n3_ := zA (Kd.R_below (zR HO359.out) hb); have n4_ := zA (Kd.S_below (zS HO364.out) hb); have n5_ := zA (Kd.S_below (zS HO367.out) hb); have n6_ := zA (Kd.S_below (zS HO370.out) hb); have n7_ := zA (zB BK344.out hb); have n8_ := zA (below_step (zs GE344.out) hb); have n9_ := zA (hbox); have n10_ := zA ((by rw [hg]; exact (below_size (zs GE344.out)) : w.heap.size ≤ gb371)); have n11_ := zA ((by rw [hg]; exact (below_size (zs GE344.out)) : w.heap.size ≤ gb371)); have n12_ := zA ((by rw [hg]; exact Nat.ne_of_lt (zw BK344.out) : gb344 ≠ gb371)); have n13_ := zA ((by rw [hg]; exact Nat.ne_of_gt (zw BK344.out) : gb371 ≠ gb344)); clear HO350 HO353 HO356 HO359 HO364 HO367 HO370 BK344 HB; have HO350 := n0_; have HO353 := n1_; have HO356 := n2_; have HO359 := n3_; have HO364 := n4_; have HO367 := n5_; have HO370 := n6_; have BK344 := n7_; have HB := n8_; have BK371 := n9_; have GW371 := n10_; have GE371 := n11_; have NB344_371 := n12_; have NB371_344 := n13_; clear n0_ n1_ n2_ n3_ n4_ n5_ n6_ n7_ n8_ n9_ n10_ n11_ n12_ n13_; clear hb hbox hg; have hnb30 := NB371_344.out; have hnc30 := NB344_371.out; obtain ⟨hcz31_0, hcz31_1, hcz31_2, hcz31_3, hcz31_4, hfz31_0, hfz31_1, hfz31_2, hfz31_3, hfz31_4⟩ := zh5 BK371.out; obtain ⟨Ao32, co32, eo32⟩ := Kd.S_slice HO364.out; subst eo32; obtain ⟨Ao33, co33, eo33⟩ := Kd.S_slice HO367.out; subst eo33; obtain ⟨Ao34, co34, eo34⟩ := Kd.S_slice HO370.out; subst eo34) | ((with_reducible refine gate_callee (f := 32) rfl ?_); refine goesL_ (some 22) rfl rfl Tryd.func32 (by kernel_rfl) rfl #[.agg #[.int .i64 t360, .int .i64 t361, .slice Ao32 t362.length co32, .slice Ao33 t365.length co33, .slice Ao34 t368.length co34]] rfl za ?_; (with_reducible refine (impl_EncodeImage.calls k t360 t361 _ _ t362 _ _ t365 _ _ t368 t372 _ ?side1 ?side2 ?side3 ?side4 ?side5 ?side6 ?side7 A10.out).mono ?_); (case side1 => refine (Kd.S_reads' (e := 120) (base := w.heap.size) (ok := fun k_ => ((True ∧ zO k_ (.slice Ao23 t348.length co23)) ∧ zO k_ (v358))) (n := t362.length) (c := co32) ?_).2.2; exact (zT HO364.out BK371.out)); (case side2 => exact (Kd.S_reads' HO364.out).2.1); (case side3 => refine (Kd.S_reads' (e := 22) (base := w.heap.size) (ok := fun k_ => ((zO k_ (.slice Ao34 t368.length co34) ∧ zO k_ (.slice Ao24 t351.length co24)) ∧ zO k_ (.slice Ao25 t354.length co25))) (n := t365.length) (c := co33) ?_).2.2; exact (zT HO367.out BK371.out)); (case side4 => exact (Kd.S_reads' HO367.out).2.1); (case side5 => refine (Kd.S_reads' (e := 22) (base := w.heap.size) (ok := fun k_ => ((zO k_ (.slice Ao33 t365.length co33) ∧ zO k_ (.slice Ao24 t351.length co24)) ∧ zO k_ (.slice Ao25 t354.length co25))) (n := t368.length) (c := co34) ?_).2.2; exact (zT HO370.out BK371.out)); (case side6 => exact (Kd.S_reads' HO370.out).2.1); (case side7 => exact LaidW.below HLD.out (zs2 GE344.out GE371.out)); rintro e w35 ⟨v373, rfl, ho0, hb⟩; refine ⟨_, rfl, ?_⟩; have n0_ := zA (Kd.S_elder' (zT HO350.out BK371.out) (Kd.R_base ho0) hb); have n1_ := zA (Kd.S_below (zT HO353.out BK371.out) hb); have n2_ := zA (Kd.S_below (zT HO356.out BK371.out) hb); have n3_ := zA (Kd.R_elder' (zK HO359.out BK371.out) (Kd.R_base ho0) hb); have n4_ := zA (Kd.S_elder' (zT HO364.out BK371.out) (Kd.R_base ho0) hb); have n5_ := zA (Kd.S_below (zT HO367.out BK371.out) hb); have n6_ := zA (Kd.S_below (zT HO370.out BK371.out) hb); have n7_ := zA (Kd.R_lower (Kd.R_new' ho0 (zl HO359.out)) (below_size (zs2 GE344.out GE371.out))); have n8_ := zA (blk_below (g := gb344) (o := .cells #[.int .i64 a0_0, .int .i64 a0_1, .slice A0_2 l0_2.length c0_2, .slice A0_3 l0_3.length c0_3, .slice A0_4 l0_4.length c0_4] 42 (0, 0)) (zf BK344.out NB344_371.out) hb); have n9_ := zA (blk_below (g := gb371) (o := .cells #[.int .i64 t360, .int .i64 t361, .slice Ao32 t362.length co32, .slice Ao33 t365.length co33, .slice Ao34 t368.length co34] 47 (0, 0)) (zq BK371.out) hb); have n10_ := zA (below_step (zs2 GE344.out GE371.out) hb); clear HO350 HO353 HO356 HO359 HO364 HO367 HO370 BK344 BK371 HB; have HO350 := n0_; have HO353 := n1_; have HO356 := n2_; have HO359 := n3_; have HO364 := n4_; have HO367 := n5_; have HO370 := n6_; have HO374 := n7_; have BK344 := n8_; have BK371 := n9_; have HB := n10_; clear n0_ n1_ n2_ n3_ n4_ n5_ n6_ n7_ n8_ n9_ n10_; (try clear hb); (try clear hb2); (try clear hk); (try clear hi); (try clear ho0); obtain ⟨Ao36, co36, eo36⟩ := Kd.R_slice HO374.out; subst eo36; obtain ⟨Ao37, co37, eo37⟩ := Kd.R_slice HO359.out; subst eo37) | ((with_reducible refine gate_callee (f := 33) rfl ?_); refine goesL_ (some 25) rfl rfl Tryd.func33 (by kernel_rfl) rfl #[.slice Ao36 t372.length co36, .slice Ao37 t357.length co37] rfl za ?_; (with_reducible refine (laws_eqByteS.calls k _ _ t372 _ _ t357 true _ ?side1 ?side2 ?side3 ?side4 A11.out).mono ?_); (case side1 => exact zc ((Kd.R_reads' HO374.out).2.2)); (case side2 => exact (Kd.R_reads' HO374.out).2.1); (case side3 => exact zc ((Kd.R_reads' HO359.out).2.2)); (case side4 => exact (Kd.R_reads' HO359.out).2.1); rintro e w' ⟨rfl, ⟨nd, rfl⟩⟩; refine ⟨_, rfl, ?_⟩))
    (try (rw [drewN_self w35]; generalize hq_ : World.drewN w35 _ = w35; have n0_ : Aside0 (Kd.S k120 120 w35 w.heap.size (fun k_ => zO k_ (.slice Ao37 t357.length co37) ∧ zO k_ (.slice Ao32 t362.length co32) ∧ zO k_ (.slice Ao36 t372.length co36)) (.slice Ao23 t348.length co23) t348) := ⟨by rw [← hq_]; exact (by (with_reducible repeat (first | apply Kd.S_alloc | apply Kd.S_drewN | apply Kd.S_drew)); exact Kd.S_mono HO350.out zy)⟩; have n1_ : Aside0 (Kd.S (Kd.slice 3 (Kd.int .i64)) 22 w35 w.heap.size (fun k_ => zO k_ (.slice Ao25 t354.length co25) ∧ zO k_ (.slice Ao33 t365.length co33) ∧ zO k_ (.slice Ao34 t368.length co34)) (.slice Ao24 t351.length co24) t351) := ⟨by rw [← hq_]; exact (by (with_reducible repeat (first | apply Kd.S_alloc | apply Kd.S_drewN | apply Kd.S_drew)); exact Kd.S_mono HO353.out zy)⟩; have n2_ : Aside0 (Kd.S (Kd.slice 3 (Kd.int .i64)) 22 w35 w.heap.size (fun k_ => zO k_ (.slice Ao24 t351.length co24) ∧ zO k_ (.slice Ao33 t365.length co33) ∧ zO k_ (.slice Ao34 t368.length co34)) (.slice Ao25 t354.length co25) t354) := ⟨by rw [← hq_]; exact (by (with_reducible repeat (first | apply Kd.S_alloc | apply Kd.S_drewN | apply Kd.S_drew)); exact Kd.S_mono HO356.out zy)⟩; have n3_ : Aside0 (Kd.R (Kd.int .u8) 5 w35 w.heap.size (fun k_ => zO k_ (.slice Ao36 t372.length co36)) (.slice Ao37 t357.length co37) t357) := ⟨by rw [← hq_]; exact (by (with_reducible repeat (first | apply Kd.R_alloc | apply Kd.R_drewN | apply Kd.R_drew)); exact Kd.R_mono HO359.out (fun _ hk => hk.2))⟩; have n4_ : Aside0 (Kd.S k120 120 w35 w.heap.size (fun k_ => zO k_ (.slice Ao23 t348.length co23) ∧ zO k_ (.slice Ao37 t357.length co37) ∧ zO k_ (.slice Ao36 t372.length co36)) (.slice Ao32 t362.length co32) t362) := ⟨by rw [← hq_]; exact (by (with_reducible repeat (first | apply Kd.S_alloc | apply Kd.S_drewN | apply Kd.S_drew)); exact Kd.S_mono HO364.out zy)⟩; have n5_ : Aside0 (Kd.S (Kd.slice 3 (Kd.int .i64)) 22 w35 w.heap.size (fun k_ => zO k_ (.slice Ao24 t351.length co24) ∧ zO k_ (.slice Ao25 t354.length co25) ∧ zO k_ (.slice Ao34 t368.length co34)) (.slice Ao33 t365.length co33) t365) := ⟨by rw [← hq_]; exact (by (with_reducible repeat (first | apply Kd.S_alloc | apply Kd.S_drewN | apply Kd.S_drew)); exact Kd.S_mono HO367.out zy)⟩; have n6_ : Aside0 (Kd.S (Kd.slice 3 (Kd.int .i64)) 22 w35 w.heap.size (fun k_ => zO k_ (.slice Ao24 t351.length co24) ∧ zO k_ (.slice Ao25 t354.length co25) ∧ zO k_ (.slice Ao33 t365.length co33)) (.slice Ao34 t368.length co34) t368) := ⟨by rw [← hq_]; exact (by (with_reducible repeat (first | apply Kd.S_alloc | apply Kd.S_drewN | apply Kd.S_drew)); exact Kd.S_mono HO370.out zy)⟩; have n7_ : Aside0 (Kd.R (Kd.int .u8) 5 w35 w.heap.size (fun k_ => zO k_ (.slice Ao37 t357.length co37)) (.slice Ao36 t372.length co36) t372) := ⟨by rw [← hq_]; exact (by (with_reducible repeat (first | apply Kd.R_alloc | apply Kd.R_drewN | apply Kd.R_drew)); exact Kd.R_mono HO374.out (fun _ hk => hk.2))⟩; have n8_ : Aside0 (w35.heap[gb344]? = some (.cells #[.int .i64 a0_0, .int .i64 a0_1, .slice A0_2 l0_2.length c0_2, .slice A0_3 l0_3.length c0_3, .slice A0_4 l0_4.length c0_4] 42 (0, 0))) := ⟨by rw [← hq_]; exact (zb BK344.out)⟩; have n9_ : Aside0 (w35.heap[gb371]? = some (.cells #[.int .i64 t360, .int .i64 t361, .slice Ao32 t362.length co32, .slice Ao33 t365.length co33, .slice Ao34 t368.length co34] 47 (0, 0))) := ⟨by rw [← hq_]; exact (zb BK371.out)⟩; have n10_ : Aside0 (Below w.heap.size w w35) := ⟨by rw [← hq_]; exact (zs2 GE344.out GE371.out)⟩; clear HO350 HO353 HO356 HO359 HO364 HO367 HO370 HO374 BK344 BK371 HB hq_; have HO350 := n0_; have HO353 := n1_; have HO356 := n2_; have HO359 := n3_; have HO364 := n4_; have HO367 := n5_; have HO370 := n6_; have HO374 := n7_; have BK344 := n8_; have BK371 := n9_; have HB := n10_; clear n0_ n1_ n2_ n3_ n4_ n5_ n6_ n7_ n8_ n9_ n10_))
    have n0_ := zA (Kd.S_drew HO350.out)
    have n1_ := zA (Kd.S_drew HO353.out)
    have n2_ := zA (Kd.S_drew HO356.out)
    have n3_ := zA (Kd.R_drew HO359.out)
    have n4_ := zA (Kd.S_drew HO364.out)
    have n5_ := zA (Kd.S_drew HO367.out)
    have n6_ := zA (Kd.S_drew HO370.out)
    have n7_ := zA (Kd.R_drew HO374.out)
    have n8_ := zA (blk_drew BK344.out)
    have n9_ := zA (blk_drew BK371.out)
    have n10_ := zA (below_drew1 HB.out)
    clear HO350
    clear HO353
    clear HO356
    clear HO359
    clear HO364
    clear HO367
    clear HO370
    clear HO374
    clear BK344
    clear BK371
    clear HB
    have HO350 := n0_
    have HO353 := n1_
    have HO356 := n2_
    have HO359 := n3_
    have HO364 := n4_
    have HO367 := n5_
    have HO370 := n6_
    have HO374 := n7_
    have BK344 := n8_
    have BK371 := n9_
    have HB := n10_
    clear n0_ n1_ n2_ n3_ n4_ n5_ n6_ n7_ n8_ n9_ n10_
    refine start_ (n := 5) (S := fun w' => w'.cell? ⟨gb371, 0, none⟩ = some (.int .i64 t360) ∧ w'.cell? ⟨gb371, 1, none⟩ = some (.int .i64 t361) ∧ w'.cell? ⟨gb371, 2, none⟩ = some (.slice Ao32 t362.length co32) ∧ w'.cell? ⟨gb371, 3, none⟩ = some (.slice Ao33 t365.length co33) ∧ w'.cell? ⟨gb371, 4, none⟩ = some (.slice Ao34 t368.length co34) ∧ w'.cell? ⟨gb344, 0, none⟩ = some (.int .i64 a0_0) ∧ w'.cell? ⟨gb344, 1, none⟩ = some (.int .i64 a0_1) ∧ w'.cell? ⟨gb344, 2, none⟩ = some (.slice A0_2 l0_2.length c0_2) ∧ w'.cell? ⟨gb344, 3, none⟩ = some (.slice A0_3 l0_3.length c0_3) ∧ w'.cell? ⟨gb344, 4, none⟩ = some (.slice A0_4 l0_4.length c0_4)) (ds := []) #[false, false, false, false, false] (by kernel_rfl) rfl rfl ⟨(blk_cell BK371.out 0).trans rfl, (blk_cell BK371.out 1).trans rfl, (blk_cell BK371.out 2).trans rfl, (blk_cell BK371.out 3).trans rfl, (blk_cell BK371.out 4).trans rfl, (blk_cell BK344.out 0).trans rfl, (blk_cell BK344.out 1).trans rfl, (blk_cell BK344.out 2).trans rfl, (blk_cell BK344.out 3).trans rfl, (blk_cell BK344.out 4).trans rfl⟩ (fun hHeld => ?_)
    generalize w35.drew = w38 at HO350 HO353 HO356 HO359 HO364 HO367 HO370 HO374 BK344 BK371 HB hHeld ⊢
    refine take_ (i := 0) (N := some 27) (v := ?_) (a' := ?_) #[true, false, false, false, false] rfl rfl (by kernel_rfl) (fun _ _ _ h => h) (Or.inl ⟨by rfl, ?_⟩) hHeld ?_ ?_
    rotate_left
    ·rintro w' ⟨s0, s1, s2, s3, s4, s5, s6, s7, s8, s9⟩
     go_simp
     with_reducible rfl
    rotate_left
    ·simp only [Act.put, List.setIfInBounds_toArray, List.set_cons_zero, List.set_cons_succ, i64_w, i32_w]
     rfl
    refine take_ (i := 1) (N := some 28) (v := ?_) (a' := ?_) #[true, true, false, false, false] rfl rfl (by kernel_rfl) (fun _ _ _ h => h) (Or.inl ⟨by rfl, ?_⟩) hHeld ?_ ?_
    rotate_left
    ·rintro w' ⟨s0, s1, s2, s3, s4, s5, s6, s7, s8, s9⟩
     go_simp
     with_reducible rfl
    rotate_left
    ·simp only [Act.put, List.setIfInBounds_toArray, List.set_cons_zero, List.set_cons_succ, i64_w, i32_w]
     rfl
    refine one_ (i := 2) (N := some 29) #[true, true, true, false, false] rfl rfl (by kernel_rfl) (by decide) (fun K hK => ?_)
    refine goes_ Tryd.func24 (by kernel_rfl) rfl #[.agg #[.int .i64 a0_0, .int .i64 a0_1, .slice A0_2 l0_2.length c0_2, .slice A0_3 l0_3.length c0_3, .slice A0_4 l0_4.length c0_4]] (by rfl) rfl rfl za ?_
    with_reducible refine (laws_toTables.calls k a0_0 a0_1 _ _ l0_2 _ _ l0_3 _ _ l0_4 t376 t377 t378 t381 t384 _ ?side1 ?side2 ?side3 ?side4 ?side5 ?side6 A13.out).mono ?_
    (case side1 => exact zc (Kd.C_below HR0_2.out HB.out))
    (case side2 => exact HC0_2.out)
    (case side3 => exact zc (Kd.C_below HR0_3.out HB.out))
    (case side4 => exact HC0_3.out)
    (case side5 => exact zc (Kd.C_below HR0_4.out HB.out))
    (case side6 => exact HC0_4.out)
    rintro e w39 ⟨v379, v382, v385, rfl, ho0, ho1, ho2, hb⟩
    refine ⟨_, rfl, ?_⟩
    have n0_ := zA (Kd.S_elder' (zS HO350.out) (Kd.S_base ho0) hb)
    have n1_ := zA (Kd.S_mono (Kd.S_told (Kd.S_told (Kd.S_old (zS HO353.out) hb) (Kd.S_base ho1)) (Kd.S_base ho2)) (fun _ h_ => h_.1))
    have n2_ := zA (Kd.S_mono (Kd.S_told (Kd.S_told (Kd.S_old (zS HO356.out) hb) (Kd.S_base ho1)) (Kd.S_base ho2)) (fun _ h_ => h_.1))
    have n3_ := zA (Kd.R_below (zR HO359.out) hb)
    have n4_ := zA (Kd.S_elder' (zS HO364.out) (Kd.S_base ho0) hb)
    have n5_ := zA (Kd.S_mono (Kd.S_told (Kd.S_told (Kd.S_old (zS HO367.out) hb) (Kd.S_base ho1)) (Kd.S_base ho2)) (fun _ h_ => h_.1))
    have n6_ := zA (Kd.S_mono (Kd.S_told (Kd.S_told (Kd.S_old (zS HO370.out) hb) (Kd.S_base ho1)) (Kd.S_base ho2)) (fun _ h_ => h_.1))
    have n7_ := zA (Kd.R_below (zR HO374.out) hb)
    have n8_ := zA (Kd.S_lower (Kd.S_new' (Kd.S_new' (Kd.S_new' (Kd.S_new' ho0 (Kd.S_lt (zS HO350.out))) (zl HO359.out)) (Kd.S_lt (zS HO364.out))) (zl HO374.out)) (below_size (zs2 GE344.out GE371.out)))
    have n9_ := zA (Kd.S_lower (Kd.S_new' (Kd.S_new' (Kd.S_new' (Kd.S_new' ho1 (Kd.S_lt (zS HO353.out))) (Kd.S_lt (zS HO356.out))) (Kd.S_lt (zS HO367.out))) (Kd.S_lt (zS HO370.out))) (below_size (zs2 GE344.out GE371.out)))
    have n10_ := zA (Kd.S_lower (Kd.S_new' (Kd.S_new' (Kd.S_new' (Kd.S_new' ho2 (Kd.S_lt (zS HO353.out))) (Kd.S_lt (zS HO356.out))) (Kd.S_lt (zS HO367.out))) (Kd.S_lt (zS HO370.out))) (below_size (zs2 GE344.out GE371.out)))
    have n11_ := zA (zB BK344.out hb)
    have n12_ := zA (zB BK371.out hb)
    have n13_ := zA (below_step (zs2 GE344.out GE371.out) hb)
    clear HO350
    clear HO353
    clear HO356
    clear HO359
    clear HO364
    clear HO367
    clear HO370
    clear HO374
    clear BK344
    clear BK371
    clear HB
    have HO350 := n0_
    have HO353 := n1_
    have HO356 := n2_
    have HO359 := n3_
    have HO364 := n4_
    have HO367 := n5_
    have HO370 := n6_
    have HO374 := n7_
    have HO380 := n8_
    have HO383 := n9_
    have HO386 := n10_
    have BK344 := n11_
    have BK371 := n12_
    have HB := n13_
    clear n0_ n1_ n2_ n3_ n4_ n5_ n6_ n7_ n8_ n9_ n10_ n11_ n12_ n13_
    (try clear hb)
    (try clear hb2)
    (try clear hk)
    (try clear hi)
    (try clear ho0)
    (try clear ho1)
    (try clear ho2)
    obtain ⟨Ao40, co40, eo40⟩ := Kd.S_slice HO380.out
    (first | subst eo40 | (injection eo40 with f1_ f2_ f3_; have f4_ := f1_.symm; have f5_ := f3_.symm; clear f1_ f2_ f3_; subst f4_; subst f5_))
    obtain ⟨Ao41, co41, eo41⟩ := Kd.S_slice HO383.out
    (first | subst eo41 | (injection eo41 with f1_ f2_ f3_; have f4_ := f1_.symm; have f5_ := f3_.symm; clear f1_ f2_ f3_; subst f4_; subst f5_))
    obtain ⟨Ao42, co42, eo42⟩ := Kd.S_slice HO386.out
    (first | subst eo42 | (injection eo42 with f1_ f2_ f3_; have f4_ := f1_.symm; have f5_ := f3_.symm; clear f1_ f2_ f3_; subst f4_; subst f5_))
    refine hK.out _ _ ⟨(blk_cell BK371.out 0).trans rfl, (blk_cell BK371.out 1).trans rfl, (blk_cell BK371.out 2).trans rfl, (blk_cell BK371.out 3).trans rfl, (blk_cell BK371.out 4).trans rfl, (blk_cell BK344.out 0).trans rfl, (blk_cell BK344.out 1).trans rfl, (blk_cell BK344.out 2).trans rfl, (blk_cell BK344.out 3).trans rfl, (blk_cell BK344.out 4).trans rfl⟩ (fun hHeld => ?_)
    clear hK K
    refine norm_ (a' := ?_) ?_ ?_
    rotate_left
    ·show Act.put _ (some 29) _ = _
     simp only [Act.put, List.setIfInBounds_toArray, List.set_cons_zero, List.set_cons_succ, i64_w, i32_w]
     rfl
    refine one_ (i := 3) (N := some 30) #[true, true, true, true, false] rfl rfl (by kernel_rfl) (by decide) (fun K hK => ?_)
    refine goes_ Tryd.func27 (by kernel_rfl) rfl #[.agg #[.int .i64 t360, .int .i64 t361, .slice Ao32 t362.length co32, .slice Ao33 t365.length co33, .slice Ao34 t368.length co34], .agg #[.int .i64 t376, .int .i64 t377, .slice Ao40 t378.length co40, .slice Ao41 t381.length co41, .slice Ao42 t384.length co42]] (by rfl) rfl rfl za ?_
    with_reducible refine (laws_eqTables.calls k t360 t361 _ _ t362 _ _ t365 _ _ t368 t376 t377 _ _ t378 _ _ t381 _ _ t384 true _ ?side1 ?side2 ?side3 ?side4 ?side5 ?side6 ?side7 ?side8 ?side9 ?side10 ?side11 ?side12 A14.out).mono ?_
    (case side1 => exact zc ((Kd.S_reads' HO364.out).2.2))
    (case side2 => exact (Kd.S_reads' HO364.out).2.1)
    (case side3 => exact zc ((Kd.S_reads' HO367.out).2.2))
    (case side4 => exact (Kd.S_reads' HO367.out).2.1)
    (case side5 => exact zc ((Kd.S_reads' HO370.out).2.2))
    (case side6 => exact (Kd.S_reads' HO370.out).2.1)
    (case side7 => exact zc ((Kd.S_reads' HO380.out).2.2))
    (case side8 => exact (Kd.S_reads' HO380.out).2.1)
    (case side9 => exact zc ((Kd.S_reads' HO383.out).2.2))
    (case side10 => exact (Kd.S_reads' HO383.out).2.1)
    (case side11 => exact zc ((Kd.S_reads' HO386.out).2.2))
    (case side12 => exact (Kd.S_reads' HO386.out).2.1)
    rintro e w43 ⟨rfl, hb⟩
    refine ⟨_, rfl, ?_⟩
    have n0_ := zA (Kd.S_below (zS HO350.out) hb)
    have n1_ := zA (Kd.S_below (zS HO353.out) hb)
    have n2_ := zA (Kd.S_below (zS HO356.out) hb)
    have n3_ := zA (Kd.R_below (zR HO359.out) hb)
    have n4_ := zA (Kd.S_below (zS HO364.out) hb)
    have n5_ := zA (Kd.S_below (zS HO367.out) hb)
    have n6_ := zA (Kd.S_below (zS HO370.out) hb)
    have n7_ := zA (Kd.R_below (zR HO374.out) hb)
    have n8_ := zA (Kd.S_below (zS HO380.out) hb)
    have n9_ := zA (Kd.S_below (zS HO383.out) hb)
    have n10_ := zA (Kd.S_below (zS HO386.out) hb)
    have n11_ := zA (zB BK344.out hb)
    have n12_ := zA (zB BK371.out hb)
    have n13_ := zA (below_step (zs2 GE344.out GE371.out) hb)
    clear HO350
    clear HO353
    clear HO356
    clear HO359
    clear HO364
    clear HO367
    clear HO370
    clear HO374
    clear HO380
    clear HO383
    clear HO386
    clear BK344
    clear BK371
    clear HB
    have HO350 := n0_
    have HO353 := n1_
    have HO356 := n2_
    have HO359 := n3_
    have HO364 := n4_
    have HO367 := n5_
    have HO370 := n6_
    have HO374 := n7_
    have HO380 := n8_
    have HO383 := n9_
    have HO386 := n10_
    have BK344 := n11_
    have BK371 := n12_
    have HB := n13_
    clear n0_ n1_ n2_ n3_ n4_ n5_ n6_ n7_ n8_ n9_ n10_ n11_ n12_ n13_
    (try clear hb)
    (try clear hb2)
    (try clear hk)
    (try clear hi)
    refine hK.out _ _ ⟨(blk_cell BK371.out 0).trans rfl, (blk_cell BK371.out 1).trans rfl, (blk_cell BK371.out 2).trans rfl, (blk_cell BK371.out 3).trans rfl, (blk_cell BK371.out 4).trans rfl, (blk_cell BK344.out 0).trans rfl, (blk_cell BK344.out 1).trans rfl, (blk_cell BK344.out 2).trans rfl, (blk_cell BK344.out 3).trans rfl, (blk_cell BK344.out 4).trans rfl⟩ (fun hHeld => ?_)
    clear hK K
    refine norm_ (a' := ?_) ?_ ?_
    rotate_left
    ·show Act.put _ (some 30) _ = _
     simp only [Act.put, List.setIfInBounds_toArray, List.set_cons_zero, List.set_cons_succ, i64_w, i32_w]
     rfl
    refine pure_ (i := 4) (N := some 31) (v := ?_) (a' := ?_) #[true, true, true, true, true] rfl rfl (by kernel_rfl) (fun _ _ _ h => h) (Or.inl ⟨by rfl, ?_⟩) ?_ ?_
    rotate_left
    ·intro w'
     go_simp
     with_reducible rfl
    rotate_left
    ·simp only [Act.put, List.setIfInBounds_toArray, List.set_cons_zero, List.set_cons_succ, i64_w, i32_w]
     rfl
    refine done_ (by kernel_rfl) ?_
    obtain ⟨hcz44_0, hcz44_1, hcz44_2, hcz44_3, hcz44_4, hfz44_0, hfz44_1, hfz44_2, hfz44_3, hfz44_4⟩ := zh5 BK371.out
    go_upto_region 14 with (first | ((with_reducible refine gate_callee (f := 28) rfl ?_); refine goesL_ (some 34) rfl rfl Tryd.func28 (by kernel_rfl) rfl #[.agg #[.int .i64 t360, .int .i64 t361, .slice Ao32 t362.length co32, .slice Ao33 t365.length co33, .slice Ao34 t368.length co34], .int .i64 1] rfl za ?_; (with_reducible refine (laws_markTables.calls t360 t361 (fun k_ => ((((True ∧ zO k_ (.slice Ao23 t348.length co23)) ∧ zO k_ (.slice Ao37 t357.length co37)) ∧ zO k_ (.slice Ao36 t372.length co36)) ∧ zO k_ (.slice Ao40 t378.length co40))) (.slice Ao32 t362.length co32) t362 (fun k_ => ((((((zO k_ (.slice Ao34 t368.length co34) ∧ zO k_ (.slice Ao24 t351.length co24)) ∧ zO k_ (.slice Ao25 t354.length co25)) ∧ zO k_ (.slice Ao41 t381.length co41)) ∧ zO k_ (.slice Ao42 t384.length co42)) ∧ zO k_ (.slice Ao37 t357.length co37)) ∧ zO k_ (.slice Ao36 t372.length co36))) (.slice Ao33 t365.length co33) t365 (fun k_ => ((((((zO k_ (.slice Ao33 t365.length co33) ∧ zO k_ (.slice Ao24 t351.length co24)) ∧ zO k_ (.slice Ao25 t354.length co25)) ∧ zO k_ (.slice Ao41 t381.length co41)) ∧ zO k_ (.slice Ao42 t384.length co42)) ∧ zO k_ (.slice Ao37 t357.length co37)) ∧ zO k_ (.slice Ao36 t372.length co36))) (.slice Ao34 t368.length co34) t368 1 t388 w _ ?side1 ?side2 ?side3 ?side4 A16.out).mono ?_); (case side1 => repeat (first | (with_reducible first | exact HB.out | apply below_alloc | apply pw_below_drewN | apply below_drew1 | refine below_set ?_ GE344.out | refine below_set ?_ GE371.out) | exact HB.out)); (case side2 => exact (by (with_reducible repeat (first | apply Kd.S_alloc | apply Kd.S_drewN | apply Kd.S_drew)); exact Kd.S_mono (HO364.out) zy)); (case side3 => exact (by (with_reducible repeat (first | apply Kd.S_alloc | apply Kd.S_drewN | apply Kd.S_drew)); exact Kd.S_mono (Kd.S_apart' (Kd.S_apart' (HO367.out) (Kd.R_typed HO359.out) (by decide)) (Kd.R_typed HO374.out) (by decide)) zy)); (case side4 => exact (by (with_reducible repeat (first | apply Kd.S_alloc | apply Kd.S_drewN | apply Kd.S_drew)); exact Kd.S_mono (Kd.S_apart' (Kd.S_apart' (HO370.out) (Kd.R_typed HO359.out) (by decide)) (Kd.R_typed HO374.out) (by decide)) zy)); rintro e w45 ⟨rfl, hb, hkp⟩; refine ⟨_, rfl, ?_⟩; have n0_ := zA (blk_kept (zb BK344.out) hkp (fun hs_ => Or.elim hs_ (fun e_ => Or.elim e_ (fun e_ => (fun h_ => h_.2.ne ⟨_, (zb BK344.out)⟩ (by decide)) e_) (fun e_ => (fun h_ => h_.2.ne ⟨_, (zb BK344.out)⟩ (by decide)) e_)) (fun e_ => (fun h_ => h_.2.ne ⟨_, (zb BK344.out)⟩ (by decide)) e_))); have n1_ := zA (Kd.R_mono (ok' := fun k_ => zO k_ (.slice Ao36 t372.length co36)) (Kd.R_reok rfl (Kd.R_kept (Kd.R_tight rfl (zR HO359.out)) hkp (fun k_ hk_ hs_ => Or.elim hs_ (fun e_ => Or.elim e_ (fun e_ => (fun h_ => (h_.1.1.1.2) hk_) e_) (fun e_ => (fun h_ => (h_.1.1.2) hk_) e_)) (fun e_ => (fun h_ => (h_.1.1.2) hk_) e_))) (fun k_ e_ => HO359.out.1 k_ e_)) zy); have n2_ := zA (blk_kept (zb BK371.out) hkp (fun hs_ => Or.elim hs_ (fun e_ => Or.elim e_ (fun e_ => (fun h_ => h_.2.ne ⟨_, (zb BK371.out)⟩ (by decide)) e_) (fun e_ => (fun h_ => h_.2.ne ⟨_, (zb BK371.out)⟩ (by decide)) e_)) (fun e_ => (fun h_ => h_.2.ne ⟨_, (zb BK371.out)⟩ (by decide)) e_))); have n3_ := zA (Kd.R_mono (ok' := fun k_ => zO k_ (.slice Ao37 t357.length co37)) (Kd.R_reok rfl (Kd.R_kept (Kd.R_tight rfl (zR HO374.out)) hkp (fun k_ hk_ hs_ => Or.elim hs_ (fun e_ => Or.elim e_ (fun e_ => (fun h_ => (h_.1.1.2) hk_) e_) (fun e_ => (fun h_ => (h_.1.2) hk_) e_)) (fun e_ => (fun h_ => (h_.1.2) hk_) e_))) (fun k_ e_ => HO374.out.1 k_ e_)) zy); have n4_ := zA (hb); clear BK344 HO359 BK371 HO374 HB HO350 HO353 HO356 HO364 HO367 HO370 HO380 HO383 HO386; have BK344 := n0_; have HO359 := n1_; have BK371 := n2_; have HO374 := n3_; have HB := n4_; clear n0_ n1_ n2_ n3_ n4_; (try clear hb); (try clear hkp)))
    (try simp only [Act.put, List.setIfInBounds_toArray, List.set_cons_zero, List.set_cons_succ])
    go_cut [42] (fun v42 wc => ∃ (kq : Nat) (x42_16 : Bool), v42 = .bool x42_16 ∧ Aside0 (laws_FnExactEncodeImage.j0 kq t357 t372 x42_16 a0_0 a0_1 l0_2 l0_3 l0_4 = some r) ∧ Aside0 (kq ≤ k) ∧ Aside0 (Kd.R (Kd.int .u8) 5 wc w.heap.size (fun k_ => zO k_ ((.slice Ao36 t372.length co36))) (.slice Ao37 t357.length co37) t357) ∧ Aside0 (Kd.R (Kd.int .u8) 5 wc w.heap.size (fun k_ => zO k_ ((.slice Ao37 t357.length co37))) (.slice Ao36 t372.length co36) t372) ∧ Aside0 (wc.heap[gb344]? = some (.cells #[.int .i64 a0_0, .int .i64 a0_1, (.slice A0_2 l0_2.length c0_2), (.slice A0_3 l0_3.length c0_3), (.slice A0_4 l0_4.length c0_4)] 42 (0, 0))) ∧ Aside0 (Below w.heap.size w wc))
    case first =>
     have H := HC17.out
     clear HC17
     by_cases c46 : t388 < 0
     ·rw [if_pos c46] at H
      have c46b0 : decide (t388 < 0) = true := decide_eq_true c46
      clear c46
      (first | rw [c46b0] | (simp only [i64_w, i32_w]; rw [c46b0]) | skip)
      have H' := zA H
      clear H
      go_wp2
      go_meet
      case rel => exact ⟨_, (true), zr, H', ⟨by first | omega | exact Nat.le_refl _⟩, ⟨zR HO359.out⟩, ⟨zR HO374.out⟩, ⟨zb BK344.out⟩, ⟨(zs2 GE344.out GE371.out)⟩⟩
     ·rw [if_neg c46] at H
      have c46b0 : decide (t388 < 0) = false := decide_eq_false c46
      clear c46
      (first | rw [c46b0] | (simp only [i64_w, i32_w]; rw [c46b0]) | skip)
      replace H := Option.bind_eq_some_iff.mp H
      obtain ⟨t389, A470, H⟩ := H
      replace H : (laws_FnExactEncodeImage.j0 k t357 t372 (!t389) a0_0 a0_1 l0_2 l0_3 l0_4) = some r := H
      have A47 := zA A470
      clear A470
      have H' := zA H
      clear H
      go_wp2_with (first | (go_at_call 33; (with_reducible refine (laws_eqByteS.calls k _ _ t372 _ _ t357 t389 _ ?side1 ?side2 ?side3 ?side4 A47.out).mono ?_); (case side1 => exact zc ((Kd.R_reads' HO374.out).2.2)); (case side2 => exact (Kd.R_reads' HO374.out).2.1); (case side3 => exact zc ((Kd.R_reads' HO359.out).2.2)); (case side4 => exact (Kd.R_reads' HO359.out).2.1); rintro e w' ⟨rfl, ⟨nd, rfl⟩⟩))
      go_meet
      case rel => exact ⟨_, (!t389), zr, H', ⟨by first | omega | exact Nat.le_refl _⟩, ⟨zR HO359.out⟩, ⟨zR HO374.out⟩, ⟨zb BK344.out⟩, ⟨(zs2 GE344.out GE371.out)⟩⟩
    case rest =>
     clear HC17
     (try clear c1); (try clear c2); (try clear p2); (try clear c3); (try clear c3b0); (try clear c4); (try clear c5); (try clear c12); (try clear c15); (try clear c22); (try clear c24); (try clear c27); (try clear c28); (try clear c30); (try clear c31); (try clear c32); (try clear c33); (try clear c46); (try clear c46b0); (try clear hcz19_0 hcz19_1 hcz19_2 hcz19_3 hcz19_4); (try clear hcz21_0 hcz21_1 hcz21_2 hcz21_3 hcz21_4); (try clear hcz27_0 hcz27_1 hcz27_2 hcz27_3 hcz27_4); (try clear hcz31_0 hcz31_1 hcz31_2 hcz31_3 hcz31_4); (try clear hcz44_0 hcz44_1 hcz44_2 hcz44_3 hcz44_4); (try clear hcz5_0 hcz5_1 hcz5_2 hcz5_3 hcz5_4); (try clear hfz19_0 hfz19_1 hfz19_2 hfz19_3 hfz19_4); (try clear hfz21_0 hfz21_1 hfz21_2 hfz21_3 hfz21_4); (try clear hfz27_0 hfz27_1 hfz27_2 hfz27_3 hfz27_4); (try clear hfz31_0 hfz31_1 hfz31_2 hfz31_3 hfz31_4); (try clear hfz44_0 hfz44_1 hfz44_2 hfz44_3 hfz44_4); (try clear hfz5_0 hfz5_1 hfz5_2 hfz5_3 hfz5_4)
     obtain ⟨kq, x42_16, rfl, HA, HJ16, HO_4, HO_6, BK344, HB⟩ := hcut
     cases kq with
     | zero => exact absurd HA.out (by simp [laws_FnExactEncodeImage.j0])
     | succ kj16 =>
      have H := HA.out
      clear HA
      simp only [laws_FnExactEncodeImage.j0] at H
      by_cases c48 : x42_16 = true
      ·subst c48
       have H1 : (some false) = some r := by rw [if_pos rfl] at H; exact H
       clear H
       have H := H1
       clear H1
       obtain rfl := Option.some.inj H
       go_wp2
       go_ret
       exact ⟨ze, (zs GE344.out)⟩
      ·replace c48 := Bool.eq_false_iff.mpr c48
       subst c48
       have H1 : ((laws_markByteS.f kj16 t372 1).bind fun bt390 => ((laws_heldByteS.f kj16 bt390.2 1).bind fun t392 => (if t392 < 0 then (some false) else (if t392 = bt390.1 then ((laws_toTables.f kj16 a0_0 a0_1 l0_2 l0_3 l0_4).bind fun bt393 => ((impl_EncodeImage.f kj16 bt393.1 bt393.2.1 bt393.2.2.1 bt393.2.2.2.1 bt393.2.2.2.2).bind fun t404 => ((laws_eqByteS.f kj16 t404 t357).bind fun t407 => (if t407 = true then ((laws_heldByteS.f kj16 bt390.2 1).bind fun t408 => (if t408 < 0 then (some false) else (if t408 = bt390.1 then (some true) else (some false)))) else (some false))))) else (some false))))) = some r := by rw [if_neg (show ¬ (false = true) by decide)] at H; exact H
       clear H
       have H := H1
       clear H1
       replace H := Option.bind_eq_some_iff.mp H
       obtain ⟨⟨t390, t391⟩, A490, H⟩ := H
       replace H : ((laws_heldByteS.f kj16 t391 1).bind fun t392 => (if t392 < 0 then (some false) else (if t392 = t390 then ((laws_toTables.f kj16 a0_0 a0_1 l0_2 l0_3 l0_4).bind fun bt393 => ((impl_EncodeImage.f kj16 bt393.1 bt393.2.1 bt393.2.2.1 bt393.2.2.2.1 bt393.2.2.2.2).bind fun t404 => ((laws_eqByteS.f kj16 t404 t357).bind fun t407 => (if t407 = true then ((laws_heldByteS.f kj16 t391 1).bind fun t408 => (if t408 < 0 then (some false) else (if t408 = t390 then (some true) else (some false)))) else (some false))))) else (some false)))) = some r := H
       have A49 := zA A490
       clear A490
       replace H := Option.bind_eq_some_iff.mp H
       obtain ⟨t392, A500, H⟩ := H
       replace H : (if t392 < 0 then (some false) else (if t392 = t390 then ((laws_toTables.f kj16 a0_0 a0_1 l0_2 l0_3 l0_4).bind fun bt393 => ((impl_EncodeImage.f kj16 bt393.1 bt393.2.1 bt393.2.2.1 bt393.2.2.2.1 bt393.2.2.2.2).bind fun t404 => ((laws_eqByteS.f kj16 t404 t357).bind fun t407 => (if t407 = true then ((laws_heldByteS.f kj16 t391 1).bind fun t408 => (if t408 < 0 then (some false) else (if t408 = t390 then (some true) else (some false)))) else (some false))))) else (some false))) = some r := H
       have A50 := zA A500
       clear A500
       by_cases c51 : t392 < 0
       ·rw [if_pos c51] at H
        have c51b0 : decide (t392 < 0) = true := decide_eq_true c51
        clear c51
        obtain rfl := Option.some.inj H
        go_wp2_with (first | ((with_reducible refine gate_callee (f := 34) rfl ?_); refine goesL_ (some 45) rfl rfl Tryd.func34 (by kernel_rfl) rfl #[.slice Ao36 t372.length co36, .int .i64 1] rfl za ?_; (with_reducible refine (laws_markByteS.calls kj16 (fun k_ => some k_ = (.slice Ao36 t372.length co36 : Value).ownBlock) (.slice Ao36 t372.length co36) t372 1 t390 t391 w _ ?side1 ?side2 A49.out).mono ?_); (case side1 => repeat (first | (with_reducible first | exact HB.out | apply below_alloc | apply pw_below_drewN | apply below_drew1 | refine below_set ?_ GE344.out) | exact HB.out)); (case side2 => exact Kd.R_tight rfl HO_6.out); rintro e w52 ⟨rfl, hy0, hb, hkp⟩; refine ⟨_, rfl, ?_⟩; have n0_ := zA (Kd.R_mono (ok' := fun k_ => zO k_ (.slice Ao36 t372.length co36)) (Kd.R_keptB (HO_4.out) hkp (fun k_ hk_ hs_ => (hk_) hs_)) (fun k_ hk_ => hk_.1)); have n1_ := zA (Kd.R_reok rfl hy0 (fun k_ e_ => HO_6.out.1 k_ e_)); have n2_ := zA (blk_kept (zb BK344.out) hkp (fun hs_ => (fun e_ => (Kd.R_ne HO_6.out BK344.out (by decide)) e_) hs_)); have n3_ := zA (hb); clear HO_4 HO_6 BK344 HB; have HO_4 := n0_; have HO_6 := n1_; have BK344 := n2_; have HB := n3_; clear n0_ n1_ n2_ n3_; (try clear hb); (try clear hkp); (try clear hy0)) | ((with_reducible refine gate_callee (f := 35) rfl ?_); refine goesL_ (some 48) rfl rfl Tryd.func35 (by kernel_rfl) rfl #[.slice Ao36 t391.length co36, .int .i64 1] rfl (by (try simp only [List.map_toArray, List.map_cons, List.map_nil]); first | done | (rw [show t391.length = t372.length from (Kd.R_reads' HO_6.out).1.symm] <;> rfl) | rfl | (simp only [List.length_drop, List.length_take]; rfl)) ?_; (with_reducible refine (laws_heldByteS.calls kj16 _ _ t391 1 t392 _ ?side1 ?side2 A50.out).mono ?_); (case side1 => exact zc ((Kd.R_reads' HO_6.out).2.2)); (case side2 => rw [show t391.length = t372.length from (Kd.R_reads' HO_6.out).1.symm]; exact (Kd.R_reads' HO_6.out).2.1); rintro e w' ⟨rfl, ⟨nd, rfl⟩⟩; refine ⟨_, rfl, ?_⟩))
        go_ret
        exact ⟨ze, (zs GE344.out)⟩
       ·rw [if_neg c51] at H
        have c51b0 : decide (t392 < 0) = false := decide_eq_false c51
        clear c51
        by_cases c53 : t392 = t390
        ·rw [if_pos c53] at H
         have c53b0 : (t392 == t390) = true := beq_iff_eq.mpr c53
         have c53b1 : (t392 != t390) = false := bne_eq_false_iff_eq.mpr c53
         clear c53
         replace H := Option.bind_eq_some_iff.mp H
         obtain ⟨⟨t393, t394, t395, t398, t401⟩, A540, H⟩ := H
         replace H : ((impl_EncodeImage.f kj16 t393 t394 t395 t398 t401).bind fun t404 => ((laws_eqByteS.f kj16 t404 t357).bind fun t407 => (if t407 = true then ((laws_heldByteS.f kj16 t391 1).bind fun t408 => (if t408 < 0 then (some false) else (if t408 = t390 then (some true) else (some false)))) else (some false)))) = some r := H
         have A54 := zA A540
         clear A540
         replace H := Option.bind_eq_some_iff.mp H
         obtain ⟨t404, A550, H⟩ := H
         replace H : ((laws_eqByteS.f kj16 t404 t357).bind fun t407 => (if t407 = true then ((laws_heldByteS.f kj16 t391 1).bind fun t408 => (if t408 < 0 then (some false) else (if t408 = t390 then (some true) else (some false)))) else (some false))) = some r := H
         have A55 := zA A550
         clear A550
         replace H := Option.bind_eq_some_iff.mp H
         obtain ⟨t407, A560, H⟩ := H
         replace H : (if t407 = true then ((laws_heldByteS.f kj16 t391 1).bind fun t408 => (if t408 < 0 then (some false) else (if t408 = t390 then (some true) else (some false)))) else (some false)) = some r := H
         have A56 := zA A560
         clear A560
         by_cases c57 : t407 = true
         ·subst c57
          have H1 : ((laws_heldByteS.f kj16 t391 1).bind fun t408 => (if t408 < 0 then (some false) else (if t408 = t390 then (some true) else (some false)))) = some r := by rw [if_pos rfl] at H; exact H
          clear H
          have H := H1
          clear H1
          replace H := Option.bind_eq_some_iff.mp H
          obtain ⟨t408, A580, H⟩ := H
          replace H : (if t408 < 0 then (some false) else (if t408 = t390 then (some true) else (some false))) = some r := H
          have A58 := zA A580
          clear A580
          by_cases c59 : t408 < 0
          ·rw [if_pos c59] at H
           have c59b0 : decide (t408 < 0) = true := decide_eq_true c59
           clear c59
           obtain rfl := Option.some.inj H
           go_wp2_with (first | ((with_reducible refine gate_callee (f := 34) rfl ?_); refine goesL_ (some 45) rfl rfl Tryd.func34 (by kernel_rfl) rfl #[.slice Ao36 t372.length co36, .int .i64 1] rfl za ?_; (with_reducible refine (laws_markByteS.calls kj16 (fun k_ => some k_ = (.slice Ao36 t372.length co36 : Value).ownBlock) (.slice Ao36 t372.length co36) t372 1 t390 t391 w _ ?side1 ?side2 A49.out).mono ?_); (case side1 => repeat (first | (with_reducible first | exact HB.out | apply below_alloc | apply pw_below_drewN | apply below_drew1 | refine below_set ?_ GE344.out) | exact HB.out)); (case side2 => exact Kd.R_tight rfl HO_6.out); rintro e w60 ⟨rfl, hy0, hb, hkp⟩; refine ⟨_, rfl, ?_⟩; have n0_ := zA (Kd.R_mono (ok' := fun k_ => zO k_ (.slice Ao36 t372.length co36)) (Kd.R_keptB (HO_4.out) hkp (fun k_ hk_ hs_ => (hk_) hs_)) (fun k_ hk_ => hk_.1)); have n1_ := zA (Kd.R_reok rfl hy0 (fun k_ e_ => HO_6.out.1 k_ e_)); have n2_ := zA (blk_kept (zb BK344.out) hkp (fun hs_ => (fun e_ => (Kd.R_ne HO_6.out BK344.out (by decide)) e_) hs_)); have n3_ := zA (hb); clear HO_4 HO_6 BK344 HB; have HO_4 := n0_; have HO_6 := n1_; have BK344 := n2_; have HB := n3_; clear n0_ n1_ n2_ n3_; (try clear hb); (try clear hkp); (try clear hy0)) | ((with_reducible refine gate_callee (f := 35) rfl ?_); refine goesL_ (some 48) rfl rfl Tryd.func35 (by kernel_rfl) rfl #[.slice Ao36 t391.length co36, .int .i64 1] rfl (by (try simp only [List.map_toArray, List.map_cons, List.map_nil]); first | done | (rw [show t391.length = t372.length from (Kd.R_reads' HO_6.out).1.symm] <;> rfl) | rfl | (simp only [List.length_drop, List.length_take]; rfl)) ?_; (with_reducible refine (laws_heldByteS.calls kj16 _ _ t391 1 t392 _ ?side1 ?side2 A50.out).mono ?_); (case side1 => exact zc ((Kd.R_reads' HO_6.out).2.2)); (case side2 => rw [show t391.length = t372.length from (Kd.R_reads' HO_6.out).1.symm]; exact (Kd.R_reads' HO_6.out).2.1); rintro e w' ⟨rfl, ⟨nd, rfl⟩⟩; refine ⟨_, rfl, ?_⟩; obtain ⟨hcz61_0, hcz61_1, hcz61_2, hcz61_3, hcz61_4, hfz61_0, hfz61_1, hfz61_2, hfz61_3, hfz61_4⟩ := zh5 BK344.out) | ((with_reducible refine gate_callee (f := 24) rfl ?_); refine goesL_ (some 55) rfl rfl Tryd.func24 (by kernel_rfl) rfl #[.agg #[.int .i64 a0_0, .int .i64 a0_1, .slice A0_2 l0_2.length c0_2, .slice A0_3 l0_3.length c0_3, .slice A0_4 l0_4.length c0_4]] rfl za ?_; (with_reducible refine (laws_toTables.calls kj16 a0_0 a0_1 _ _ l0_2 _ _ l0_3 _ _ l0_4 t393 t394 t395 t398 t401 _ ?side1 ?side2 ?side3 ?side4 ?side5 ?side6 A54.out).mono ?_); (case side1 => exact zc (Kd.C_below HR0_2.out (zs GE344.out))); (case side2 => exact HC0_2.out); (case side3 => exact zc (Kd.C_below HR0_3.out (zs GE344.out))); (case side4 => exact HC0_3.out); (case side5 => exact zc (Kd.C_below HR0_4.out (zs GE344.out))); (case side6 => exact HC0_4.out); rintro e w62 ⟨v396, v399, v402, rfl, ho0, ho1, ho2, hb⟩; refine ⟨_, rfl, ?_⟩; have n0_ := zA (Kd.R_below (zR HO_4.out) hb); have n1_ := zA (Kd.R_below (zR HO_6.out) hb); have n2_ := zA (Kd.S_lower (Kd.S_new' (Kd.S_new' ho0 (zl HO_4.out)) (zl HO_6.out)) (below_size (zs GE344.out))); have n3_ := zA (Kd.S_lower ho1 (below_size (zs GE344.out))); have n4_ := zA (Kd.S_lower ho2 (below_size (zs GE344.out))); have n5_ := zA (zB BK344.out hb); have n6_ := zA (below_step (zs GE344.out) hb); clear HO_4 HO_6 BK344 HB; have HO_4 := n0_; have HO_6 := n1_; have HO397 := n2_; have HO400 := n3_; have HO403 := n4_; have BK344 := n5_; have HB := n6_; clear n0_ n1_ n2_ n3_ n4_ n5_ n6_; (try clear hb); (try clear hb2); (try clear hk); (try clear hi); (try clear ho0); (try clear ho1); (try clear ho2); obtain ⟨Ao63, co63, eo63⟩ := Kd.S_slice HO397.out; subst eo63; obtain ⟨Ao64, co64, eo64⟩ := Kd.S_slice HO400.out; subst eo64; obtain ⟨Ao65, co65, eo65⟩ := Kd.S_slice HO403.out; subst eo65) | ((with_reducible refine gate_callee (f := 32) rfl ?_); refine goesL_ (some 56) rfl rfl Tryd.func32 (by kernel_rfl) rfl #[.agg #[.int .i64 t393, .int .i64 t394, .slice Ao63 t395.length co63, .slice Ao64 t398.length co64, .slice Ao65 t401.length co65]] rfl za ?_; (with_reducible refine (impl_EncodeImage.calls kj16 t393 t394 _ _ t395 _ _ t398 _ _ t401 t404 _ ?side1 ?side2 ?side3 ?side4 ?side5 ?side6 ?side7 A55.out).mono ?_); (case side1 => exact zc ((Kd.S_reads' HO397.out).2.2)); (case side2 => exact (Kd.S_reads' HO397.out).2.1); (case side3 => exact zc ((Kd.S_reads' HO400.out).2.2)); (case side4 => exact (Kd.S_reads' HO400.out).2.1); (case side5 => exact zc ((Kd.S_reads' HO403.out).2.2)); (case side6 => exact (Kd.S_reads' HO403.out).2.1); (case side7 => exact LaidW.below HLD.out (zs GE344.out)); rintro e w66 ⟨v405, rfl, ho0, hb⟩; refine ⟨_, rfl, ?_⟩; have n0_ := zA (Kd.R_elder' (zR HO_4.out) (Kd.R_base ho0) hb); have n1_ := zA (Kd.R_elder' (zR HO_6.out) (Kd.R_base ho0) hb); have n2_ := zA (Kd.S_elder' (zS HO397.out) (Kd.R_base ho0) hb); have n3_ := zA (Kd.S_below (zS HO400.out) hb); have n4_ := zA (Kd.S_below (zS HO403.out) hb); have n5_ := zA (Kd.R_lower (Kd.R_new' (Kd.R_new' ho0 (zl HO_4.out)) (zl HO_6.out)) (below_size (zs GE344.out))); have n6_ := zA (zB BK344.out hb); have n7_ := zA (below_step (zs GE344.out) hb); clear HO_4 HO_6 HO397 HO400 HO403 BK344 HB; have HO_4 := n0_; have HO_6 := n1_; have HO397 := n2_; have HO400 := n3_; have HO403 := n4_; have HO406 := n5_; have BK344 := n6_; have HB := n7_; clear n0_ n1_ n2_ n3_ n4_ n5_ n6_ n7_; (try clear hb); (try clear hb2); (try clear hk); (try clear hi); (try clear ho0); obtain ⟨Ao67, co67, eo67⟩ := Kd.R_slice HO406.out; subst eo67) | ((with_reducible refine gate_callee (f := 33) rfl ?_); refine goesL_ (some 59) rfl rfl Tryd.func33 (by kernel_rfl) rfl #[.slice Ao67 t404.length co67, .slice Ao37 t357.length co37] rfl za ?_; (with_reducible refine (laws_eqByteS.calls kj16 _ _ t404 _ _ t357 true _ ?side1 ?side2 ?side3 ?side4 A56.out).mono ?_); (case side1 => exact zc ((Kd.R_reads' HO406.out).2.2)); (case side2 => exact (Kd.R_reads' HO406.out).2.1); (case side3 => exact zc ((Kd.R_reads' HO_4.out).2.2)); (case side4 => exact (Kd.R_reads' HO_4.out).2.1); rintro e w' ⟨rfl, ⟨nd, rfl⟩⟩; refine ⟨_, rfl, ?_⟩) | ((with_reducible refine gate_callee (f := 35) rfl ?_); refine goesL_ (some 63) rfl rfl Tryd.func35 (by kernel_rfl) rfl #[.slice Ao36 t391.length co36, .int .i64 1] rfl (by (try simp only [List.map_toArray, List.map_cons, List.map_nil]); first | done | (rw [show t391.length = t372.length from (Kd.R_reads' HO_6.out).1.symm] <;> rfl) | rfl | (simp only [List.length_drop, List.length_take]; rfl)) ?_; (with_reducible refine (laws_heldByteS.calls kj16 _ _ t391 1 t408 _ ?side1 ?side2 A58.out).mono ?_); (case side1 => exact zc ((Kd.R_reads' HO_6.out).2.2)); (case side2 => rw [show t391.length = t372.length from (Kd.R_reads' HO_6.out).1.symm]; exact (Kd.R_reads' HO_6.out).2.1); rintro e w' ⟨rfl, ⟨nd, rfl⟩⟩; refine ⟨_, rfl, ?_⟩))
           go_ret
           exact ⟨ze, (zs GE344.out)⟩
          ·rw [if_neg c59] at H
           have c59b0 : decide (t408 < 0) = false := decide_eq_false c59
           clear c59
           by_cases c68 : t408 = t390
           ·rw [if_pos c68] at H
            have c68b0 : (t408 == t390) = true := beq_iff_eq.mpr c68
            have c68b1 : (t408 != t390) = false := bne_eq_false_iff_eq.mpr c68
            clear c68
            obtain rfl := Option.some.inj H
            go_wp2_with (first | ((with_reducible refine gate_callee (f := 34) rfl ?_); refine goesL_ (some 45) rfl rfl Tryd.func34 (by kernel_rfl) rfl #[.slice Ao36 t372.length co36, .int .i64 1] rfl za ?_; (with_reducible refine (laws_markByteS.calls kj16 (fun k_ => some k_ = (.slice Ao36 t372.length co36 : Value).ownBlock) (.slice Ao36 t372.length co36) t372 1 t390 t391 w _ ?side1 ?side2 A49.out).mono ?_); (case side1 => repeat (first | (with_reducible first | exact HB.out | apply below_alloc | apply pw_below_drewN | apply below_drew1 | refine below_set ?_ GE344.out) | exact HB.out)); (case side2 => exact Kd.R_tight rfl HO_6.out); rintro e w69 ⟨rfl, hy0, hb, hkp⟩; refine ⟨_, rfl, ?_⟩; have n0_ := zA (Kd.R_mono (ok' := fun k_ => zO k_ (.slice Ao36 t372.length co36)) (Kd.R_keptB (HO_4.out) hkp (fun k_ hk_ hs_ => (hk_) hs_)) (fun k_ hk_ => hk_.1)); have n1_ := zA (Kd.R_reok rfl hy0 (fun k_ e_ => HO_6.out.1 k_ e_)); have n2_ := zA (blk_kept (zb BK344.out) hkp (fun hs_ => (fun e_ => (Kd.R_ne HO_6.out BK344.out (by decide)) e_) hs_)); have n3_ := zA (hb); clear HO_4 HO_6 BK344 HB; have HO_4 := n0_; have HO_6 := n1_; have BK344 := n2_; have HB := n3_; clear n0_ n1_ n2_ n3_; (try clear hb); (try clear hkp); (try clear hy0)) | ((with_reducible refine gate_callee (f := 35) rfl ?_); refine goesL_ (some 48) rfl rfl Tryd.func35 (by kernel_rfl) rfl #[.slice Ao36 t391.length co36, .int .i64 1] rfl (by (try simp only [List.map_toArray, List.map_cons, List.map_nil]); first | done | (rw [show t391.length = t372.length from (Kd.R_reads' HO_6.out).1.symm] <;> rfl) | rfl | (simp only [List.length_drop, List.length_take]; rfl)) ?_; (with_reducible refine (laws_heldByteS.calls kj16 _ _ t391 1 t392 _ ?side1 ?side2 A50.out).mono ?_); (case side1 => exact zc ((Kd.R_reads' HO_6.out).2.2)); (case side2 => rw [show t391.length = t372.length from (Kd.R_reads' HO_6.out).1.symm]; exact (Kd.R_reads' HO_6.out).2.1); rintro e w' ⟨rfl, ⟨nd, rfl⟩⟩; refine ⟨_, rfl, ?_⟩; obtain ⟨hcz70_0, hcz70_1, hcz70_2, hcz70_3, hcz70_4, hfz70_0, hfz70_1, hfz70_2, hfz70_3, hfz70_4⟩ := zh5 BK344.out) | ((with_reducible refine gate_callee (f := 24) rfl ?_); refine goesL_ (some 55) rfl rfl Tryd.func24 (by kernel_rfl) rfl #[.agg #[.int .i64 a0_0, .int .i64 a0_1, .slice A0_2 l0_2.length c0_2, .slice A0_3 l0_3.length c0_3, .slice A0_4 l0_4.length c0_4]] rfl za ?_; (with_reducible refine (laws_toTables.calls kj16 a0_0 a0_1 _ _ l0_2 _ _ l0_3 _ _ l0_4 t393 t394 t395 t398 t401 _ ?side1 ?side2 ?side3 ?side4 ?side5 ?side6 A54.out).mono ?_); (case side1 => exact zc (Kd.C_below HR0_2.out (zs GE344.out))); (case side2 => exact HC0_2.out); (case side3 => exact zc (Kd.C_below HR0_3.out (zs GE344.out))); (case side4 => exact HC0_3.out); (case side5 => exact zc (Kd.C_below HR0_4.out (zs GE344.out))); (case side6 => exact HC0_4.out); rintro e w71 ⟨v396, v399, v402, rfl, ho0, ho1, ho2, hb⟩; refine ⟨_, rfl, ?_⟩; have n0_ := zA (Kd.R_below (zR HO_4.out) hb); have n1_ := zA (Kd.R_below (zR HO_6.out) hb); have n2_ := zA (Kd.S_lower (Kd.S_new' (Kd.S_new' ho0 (zl HO_4.out)) (zl HO_6.out)) (below_size (zs GE344.out))); have n3_ := zA (Kd.S_lower ho1 (below_size (zs GE344.out))); have n4_ := zA (Kd.S_lower ho2 (below_size (zs GE344.out))); have n5_ := zA (zB BK344.out hb); have n6_ := zA (below_step (zs GE344.out) hb); clear HO_4 HO_6 BK344 HB; have HO_4 := n0_; have HO_6 := n1_; have HO397 := n2_; have HO400 := n3_; have HO403 := n4_; have BK344 := n5_; have HB := n6_; clear n0_ n1_ n2_ n3_ n4_ n5_ n6_; (try clear hb); (try clear hb2); (try clear hk); (try clear hi); (try clear ho0); (try clear ho1); (try clear ho2); obtain ⟨Ao72, co72, eo72⟩ := Kd.S_slice HO397.out; subst eo72; obtain ⟨Ao73, co73, eo73⟩ := Kd.S_slice HO400.out; subst eo73; obtain ⟨Ao74, co74, eo74⟩ := Kd.S_slice HO403.out; subst eo74) | ((with_reducible refine gate_callee (f := 32) rfl ?_); refine goesL_ (some 56) rfl rfl Tryd.func32 (by kernel_rfl) rfl #[.agg #[.int .i64 t393, .int .i64 t394, .slice Ao72 t395.length co72, .slice Ao73 t398.length co73, .slice Ao74 t401.length co74]] rfl za ?_; (with_reducible refine (impl_EncodeImage.calls kj16 t393 t394 _ _ t395 _ _ t398 _ _ t401 t404 _ ?side1 ?side2 ?side3 ?side4 ?side5 ?side6 ?side7 A55.out).mono ?_); (case side1 => exact zc ((Kd.S_reads' HO397.out).2.2)); (case side2 => exact (Kd.S_reads' HO397.out).2.1); (case side3 => exact zc ((Kd.S_reads' HO400.out).2.2)); (case side4 => exact (Kd.S_reads' HO400.out).2.1); (case side5 => exact zc ((Kd.S_reads' HO403.out).2.2)); (case side6 => exact (Kd.S_reads' HO403.out).2.1); (case side7 => exact LaidW.below HLD.out (zs GE344.out)); rintro e w75 ⟨v405, rfl, ho0, hb⟩; refine ⟨_, rfl, ?_⟩; have n0_ := zA (Kd.R_elder' (zR HO_4.out) (Kd.R_base ho0) hb); have n1_ := zA (Kd.R_elder' (zR HO_6.out) (Kd.R_base ho0) hb); have n2_ := zA (Kd.S_elder' (zS HO397.out) (Kd.R_base ho0) hb); have n3_ := zA (Kd.S_below (zS HO400.out) hb); have n4_ := zA (Kd.S_below (zS HO403.out) hb); have n5_ := zA (Kd.R_lower (Kd.R_new' (Kd.R_new' ho0 (zl HO_4.out)) (zl HO_6.out)) (below_size (zs GE344.out))); have n6_ := zA (zB BK344.out hb); have n7_ := zA (below_step (zs GE344.out) hb); clear HO_4 HO_6 HO397 HO400 HO403 BK344 HB; have HO_4 := n0_; have HO_6 := n1_; have HO397 := n2_; have HO400 := n3_; have HO403 := n4_; have HO406 := n5_; have BK344 := n6_; have HB := n7_; clear n0_ n1_ n2_ n3_ n4_ n5_ n6_ n7_; (try clear hb); (try clear hb2); (try clear hk); (try clear hi); (try clear ho0); obtain ⟨Ao76, co76, eo76⟩ := Kd.R_slice HO406.out; subst eo76) | ((with_reducible refine gate_callee (f := 33) rfl ?_); refine goesL_ (some 59) rfl rfl Tryd.func33 (by kernel_rfl) rfl #[.slice Ao76 t404.length co76, .slice Ao37 t357.length co37] rfl za ?_; (with_reducible refine (laws_eqByteS.calls kj16 _ _ t404 _ _ t357 true _ ?side1 ?side2 ?side3 ?side4 A56.out).mono ?_); (case side1 => exact zc ((Kd.R_reads' HO406.out).2.2)); (case side2 => exact (Kd.R_reads' HO406.out).2.1); (case side3 => exact zc ((Kd.R_reads' HO_4.out).2.2)); (case side4 => exact (Kd.R_reads' HO_4.out).2.1); rintro e w' ⟨rfl, ⟨nd, rfl⟩⟩; refine ⟨_, rfl, ?_⟩) | ((with_reducible refine gate_callee (f := 35) rfl ?_); refine goesL_ (some 63) rfl rfl Tryd.func35 (by kernel_rfl) rfl #[.slice Ao36 t391.length co36, .int .i64 1] rfl (by (try simp only [List.map_toArray, List.map_cons, List.map_nil]); first | done | (rw [show t391.length = t372.length from (Kd.R_reads' HO_6.out).1.symm] <;> rfl) | rfl | (simp only [List.length_drop, List.length_take]; rfl)) ?_; (with_reducible refine (laws_heldByteS.calls kj16 _ _ t391 1 t408 _ ?side1 ?side2 A58.out).mono ?_); (case side1 => exact zc ((Kd.R_reads' HO_6.out).2.2)); (case side2 => rw [show t391.length = t372.length from (Kd.R_reads' HO_6.out).1.symm]; exact (Kd.R_reads' HO_6.out).2.1); rintro e w' ⟨rfl, ⟨nd, rfl⟩⟩; refine ⟨_, rfl, ?_⟩))
            go_ret
            exact ⟨ze, (zs GE344.out)⟩
           ·rw [if_neg c68] at H
            have c68b0 : (t408 == t390) = false := beq_eq_false_iff_ne.mpr c68
            have c68b1 : (t408 != t390) = true := bne_iff_ne.mpr c68
            obtain rfl := Option.some.inj H
            go_wp2_with (first | ((with_reducible refine gate_callee (f := 34) rfl ?_); refine goesL_ (some 45) rfl rfl Tryd.func34 (by kernel_rfl) rfl #[.slice Ao36 t372.length co36, .int .i64 1] rfl za ?_; (with_reducible refine (laws_markByteS.calls kj16 (fun k_ => some k_ = (.slice Ao36 t372.length co36 : Value).ownBlock) (.slice Ao36 t372.length co36) t372 1 t390 t391 w _ ?side1 ?side2 A49.out).mono ?_); (case side1 => repeat (first | (with_reducible first | exact HB.out | apply below_alloc | apply pw_below_drewN | apply below_drew1 | refine below_set ?_ GE344.out) | exact HB.out)); (case side2 => exact Kd.R_tight rfl HO_6.out); rintro e w77 ⟨rfl, hy0, hb, hkp⟩; refine ⟨_, rfl, ?_⟩; have n0_ := zA (Kd.R_mono (ok' := fun k_ => zO k_ (.slice Ao36 t372.length co36)) (Kd.R_keptB (HO_4.out) hkp (fun k_ hk_ hs_ => (hk_) hs_)) (fun k_ hk_ => hk_.1)); have n1_ := zA (Kd.R_reok rfl hy0 (fun k_ e_ => HO_6.out.1 k_ e_)); have n2_ := zA (blk_kept (zb BK344.out) hkp (fun hs_ => (fun e_ => (Kd.R_ne HO_6.out BK344.out (by decide)) e_) hs_)); have n3_ := zA (hb); clear HO_4 HO_6 BK344 HB; have HO_4 := n0_; have HO_6 := n1_; have BK344 := n2_; have HB := n3_; clear n0_ n1_ n2_ n3_; (try clear hb); (try clear hkp); (try clear hy0)) | ((with_reducible refine gate_callee (f := 35) rfl ?_); refine goesL_ (some 48) rfl rfl Tryd.func35 (by kernel_rfl) rfl #[.slice Ao36 t391.length co36, .int .i64 1] rfl (by (try simp only [List.map_toArray, List.map_cons, List.map_nil]); first | done | (rw [show t391.length = t372.length from (Kd.R_reads' HO_6.out).1.symm] <;> rfl) | rfl | (simp only [List.length_drop, List.length_take]; rfl)) ?_; (with_reducible refine (laws_heldByteS.calls kj16 _ _ t391 1 t392 _ ?side1 ?side2 A50.out).mono ?_); (case side1 => exact zc ((Kd.R_reads' HO_6.out).2.2)); (case side2 => rw [show t391.length = t372.length from (Kd.R_reads' HO_6.out).1.symm]; exact (Kd.R_reads' HO_6.out).2.1); rintro e w' ⟨rfl, ⟨nd, rfl⟩⟩; refine ⟨_, rfl, ?_⟩; obtain ⟨hcz78_0, hcz78_1, hcz78_2, hcz78_3, hcz78_4, hfz78_0, hfz78_1, hfz78_2, hfz78_3, hfz78_4⟩ := zh5 BK344.out) | ((with_reducible refine gate_callee (f := 24) rfl ?_); refine goesL_ (some 55) rfl rfl Tryd.func24 (by kernel_rfl) rfl #[.agg #[.int .i64 a0_0, .int .i64 a0_1, .slice A0_2 l0_2.length c0_2, .slice A0_3 l0_3.length c0_3, .slice A0_4 l0_4.length c0_4]] rfl za ?_; (with_reducible refine (laws_toTables.calls kj16 a0_0 a0_1 _ _ l0_2 _ _ l0_3 _ _ l0_4 t393 t394 t395 t398 t401 _ ?side1 ?side2 ?side3 ?side4 ?side5 ?side6 A54.out).mono ?_); (case side1 => exact zc (Kd.C_below HR0_2.out (zs GE344.out))); (case side2 => exact HC0_2.out); (case side3 => exact zc (Kd.C_below HR0_3.out (zs GE344.out))); (case side4 => exact HC0_3.out); (case side5 => exact zc (Kd.C_below HR0_4.out (zs GE344.out))); (case side6 => exact HC0_4.out); rintro e w79 ⟨v396, v399, v402, rfl, ho0, ho1, ho2, hb⟩; refine ⟨_, rfl, ?_⟩; have n0_ := zA (Kd.R_below (zR HO_4.out) hb); have n1_ := zA (Kd.R_below (zR HO_6.out) hb); have n2_ := zA (Kd.S_lower (Kd.S_new' (Kd.S_new' ho0 (zl HO_4.out)) (zl HO_6.out)) (below_size (zs GE344.out))); have n3_ := zA (Kd.S_lower ho1 (below_size (zs GE344.out))); have n4_ := zA (Kd.S_lower ho2 (below_size (zs GE344.out))); have n5_ := zA (zB BK344.out hb); have n6_ := zA (below_step (zs GE344.out) hb); clear HO_4 HO_6 BK344 HB; have HO_4 := n0_; have HO_6 := n1_; have HO397 := n2_; have HO400 := n3_; have HO403 := n4_; have BK344 := n5_; have HB := n6_; clear n0_ n1_ n2_ n3_ n4_ n5_ n6_; (try clear hb); (try clear hb2); (try clear hk); (try clear hi); (try clear ho0); (try clear ho1); (try clear ho2); obtain ⟨Ao80, co80, eo80⟩ := Kd.S_slice HO397.out; subst eo80; obtain ⟨Ao81, co81, eo81⟩ := Kd.S_slice HO400.out; subst eo81; obtain ⟨Ao82, co82, eo82⟩ := Kd.S_slice HO403.out; subst eo82) | ((with_reducible refine gate_callee (f := 32) rfl ?_); refine goesL_ (some 56) rfl rfl Tryd.func32 (by kernel_rfl) rfl #[.agg #[.int .i64 t393, .int .i64 t394, .slice Ao80 t395.length co80, .slice Ao81 t398.length co81, .slice Ao82 t401.length co82]] rfl za ?_; (with_reducible refine (impl_EncodeImage.calls kj16 t393 t394 _ _ t395 _ _ t398 _ _ t401 t404 _ ?side1 ?side2 ?side3 ?side4 ?side5 ?side6 ?side7 A55.out).mono ?_); (case side1 => exact zc ((Kd.S_reads' HO397.out).2.2)); (case side2 => exact (Kd.S_reads' HO397.out).2.1); (case side3 => exact zc ((Kd.S_reads' HO400.out).2.2)); (case side4 => exact (Kd.S_reads' HO400.out).2.1); (case side5 => exact zc ((Kd.S_reads' HO403.out).2.2)); (case side6 => exact (Kd.S_reads' HO403.out).2.1); (case side7 => exact LaidW.below HLD.out (zs GE344.out)); rintro e w83 ⟨v405, rfl, ho0, hb⟩; refine ⟨_, rfl, ?_⟩; have n0_ := zA (Kd.R_elder' (zR HO_4.out) (Kd.R_base ho0) hb); have n1_ := zA (Kd.R_elder' (zR HO_6.out) (Kd.R_base ho0) hb); have n2_ := zA (Kd.S_elder' (zS HO397.out) (Kd.R_base ho0) hb); have n3_ := zA (Kd.S_below (zS HO400.out) hb); have n4_ := zA (Kd.S_below (zS HO403.out) hb); have n5_ := zA (Kd.R_lower (Kd.R_new' (Kd.R_new' ho0 (zl HO_4.out)) (zl HO_6.out)) (below_size (zs GE344.out))); have n6_ := zA (zB BK344.out hb); have n7_ := zA (below_step (zs GE344.out) hb); clear HO_4 HO_6 HO397 HO400 HO403 BK344 HB; have HO_4 := n0_; have HO_6 := n1_; have HO397 := n2_; have HO400 := n3_; have HO403 := n4_; have HO406 := n5_; have BK344 := n6_; have HB := n7_; clear n0_ n1_ n2_ n3_ n4_ n5_ n6_ n7_; (try clear hb); (try clear hb2); (try clear hk); (try clear hi); (try clear ho0); obtain ⟨Ao84, co84, eo84⟩ := Kd.R_slice HO406.out; subst eo84) | ((with_reducible refine gate_callee (f := 33) rfl ?_); refine goesL_ (some 59) rfl rfl Tryd.func33 (by kernel_rfl) rfl #[.slice Ao84 t404.length co84, .slice Ao37 t357.length co37] rfl za ?_; (with_reducible refine (laws_eqByteS.calls kj16 _ _ t404 _ _ t357 true _ ?side1 ?side2 ?side3 ?side4 A56.out).mono ?_); (case side1 => exact zc ((Kd.R_reads' HO406.out).2.2)); (case side2 => exact (Kd.R_reads' HO406.out).2.1); (case side3 => exact zc ((Kd.R_reads' HO_4.out).2.2)); (case side4 => exact (Kd.R_reads' HO_4.out).2.1); rintro e w' ⟨rfl, ⟨nd, rfl⟩⟩; refine ⟨_, rfl, ?_⟩) | ((with_reducible refine gate_callee (f := 35) rfl ?_); refine goesL_ (some 63) rfl rfl Tryd.func35 (by kernel_rfl) rfl #[.slice Ao36 t391.length co36, .int .i64 1] rfl (by (try simp only [List.map_toArray, List.map_cons, List.map_nil]); first | done | (rw [show t391.length = t372.length from (Kd.R_reads' HO_6.out).1.symm] <;> rfl) | rfl | (simp only [List.length_drop, List.length_take]; rfl)) ?_; (with_reducible refine (laws_heldByteS.calls kj16 _ _ t391 1 t408 _ ?side1 ?side2 A58.out).mono ?_); (case side1 => exact zc ((Kd.R_reads' HO_6.out).2.2)); (case side2 => rw [show t391.length = t372.length from (Kd.R_reads' HO_6.out).1.symm]; exact (Kd.R_reads' HO_6.out).2.1); rintro e w' ⟨rfl, ⟨nd, rfl⟩⟩; refine ⟨_, rfl, ?_⟩))
            go_ret
            exact ⟨ze, (zs GE344.out)⟩
         ·replace c57 := Bool.eq_false_iff.mpr c57
          subst c57
          have H1 : (some false) = some r := by rw [if_neg (show ¬ (false = true) by decide)] at H; exact H
          clear H
          have H := H1
          clear H1
          obtain rfl := Option.some.inj H
          go_wp2_with (first | ((with_reducible refine gate_callee (f := 34) rfl ?_); refine goesL_ (some 45) rfl rfl Tryd.func34 (by kernel_rfl) rfl #[.slice Ao36 t372.length co36, .int .i64 1] rfl za ?_; (with_reducible refine (laws_markByteS.calls kj16 (fun k_ => some k_ = (.slice Ao36 t372.length co36 : Value).ownBlock) (.slice Ao36 t372.length co36) t372 1 t390 t391 w _ ?side1 ?side2 A49.out).mono ?_); (case side1 => repeat (first | (with_reducible first | exact HB.out | apply below_alloc | apply pw_below_drewN | apply below_drew1 | refine below_set ?_ GE344.out) | exact HB.out)); (case side2 => exact Kd.R_tight rfl HO_6.out); rintro e w85 ⟨rfl, hy0, hb, hkp⟩; refine ⟨_, rfl, ?_⟩; have n0_ := zA (Kd.R_mono (ok' := fun k_ => zO k_ (.slice Ao36 t372.length co36)) (Kd.R_keptB (HO_4.out) hkp (fun k_ hk_ hs_ => (hk_) hs_)) (fun k_ hk_ => hk_.1)); have n1_ := zA (Kd.R_reok rfl hy0 (fun k_ e_ => HO_6.out.1 k_ e_)); have n2_ := zA (blk_kept (zb BK344.out) hkp (fun hs_ => (fun e_ => (Kd.R_ne HO_6.out BK344.out (by decide)) e_) hs_)); have n3_ := zA (hb); clear HO_4 HO_6 BK344 HB; have HO_4 := n0_; have HO_6 := n1_; have BK344 := n2_; have HB := n3_; clear n0_ n1_ n2_ n3_; (try clear hb); (try clear hkp); (try clear hy0)) | ((with_reducible refine gate_callee (f := 35) rfl ?_); refine goesL_ (some 48) rfl rfl Tryd.func35 (by kernel_rfl) rfl #[.slice Ao36 t391.length co36, .int .i64 1] rfl (by (try simp only [List.map_toArray, List.map_cons, List.map_nil]); first | done | (rw [show t391.length = t372.length from (Kd.R_reads' HO_6.out).1.symm] <;> rfl) | rfl | (simp only [List.length_drop, List.length_take]; rfl)) ?_; (with_reducible refine (laws_heldByteS.calls kj16 _ _ t391 1 t392 _ ?side1 ?side2 A50.out).mono ?_); (case side1 => exact zc ((Kd.R_reads' HO_6.out).2.2)); (case side2 => rw [show t391.length = t372.length from (Kd.R_reads' HO_6.out).1.symm]; exact (Kd.R_reads' HO_6.out).2.1); rintro e w' ⟨rfl, ⟨nd, rfl⟩⟩; refine ⟨_, rfl, ?_⟩; obtain ⟨hcz86_0, hcz86_1, hcz86_2, hcz86_3, hcz86_4, hfz86_0, hfz86_1, hfz86_2, hfz86_3, hfz86_4⟩ := zh5 BK344.out) | ((with_reducible refine gate_callee (f := 24) rfl ?_); refine goesL_ (some 55) rfl rfl Tryd.func24 (by kernel_rfl) rfl #[.agg #[.int .i64 a0_0, .int .i64 a0_1, .slice A0_2 l0_2.length c0_2, .slice A0_3 l0_3.length c0_3, .slice A0_4 l0_4.length c0_4]] rfl za ?_; (with_reducible refine (laws_toTables.calls kj16 a0_0 a0_1 _ _ l0_2 _ _ l0_3 _ _ l0_4 t393 t394 t395 t398 t401 _ ?side1 ?side2 ?side3 ?side4 ?side5 ?side6 A54.out).mono ?_); (case side1 => exact zc (Kd.C_below HR0_2.out (zs GE344.out))); (case side2 => exact HC0_2.out); (case side3 => exact zc (Kd.C_below HR0_3.out (zs GE344.out))); (case side4 => exact HC0_3.out); (case side5 => exact zc (Kd.C_below HR0_4.out (zs GE344.out))); (case side6 => exact HC0_4.out); rintro e w87 ⟨v396, v399, v402, rfl, ho0, ho1, ho2, hb⟩; refine ⟨_, rfl, ?_⟩; have n0_ := zA (Kd.R_below (zR HO_4.out) hb); have n1_ := zA (Kd.R_below (zR HO_6.out) hb); have n2_ := zA (Kd.S_lower (Kd.S_new' (Kd.S_new' ho0 (zl HO_4.out)) (zl HO_6.out)) (below_size (zs GE344.out))); have n3_ := zA (Kd.S_lower ho1 (below_size (zs GE344.out))); have n4_ := zA (Kd.S_lower ho2 (below_size (zs GE344.out))); have n5_ := zA (zB BK344.out hb); have n6_ := zA (below_step (zs GE344.out) hb); clear HO_4 HO_6 BK344 HB; have HO_4 := n0_; have HO_6 := n1_; have HO397 := n2_; have HO400 := n3_; have HO403 := n4_; have BK344 := n5_; have HB := n6_; clear n0_ n1_ n2_ n3_ n4_ n5_ n6_; (try clear hb); (try clear hb2); (try clear hk); (try clear hi); (try clear ho0); (try clear ho1); (try clear ho2); obtain ⟨Ao88, co88, eo88⟩ := Kd.S_slice HO397.out; subst eo88; obtain ⟨Ao89, co89, eo89⟩ := Kd.S_slice HO400.out; subst eo89; obtain ⟨Ao90, co90, eo90⟩ := Kd.S_slice HO403.out; subst eo90) | ((with_reducible refine gate_callee (f := 32) rfl ?_); refine goesL_ (some 56) rfl rfl Tryd.func32 (by kernel_rfl) rfl #[.agg #[.int .i64 t393, .int .i64 t394, .slice Ao88 t395.length co88, .slice Ao89 t398.length co89, .slice Ao90 t401.length co90]] rfl za ?_; (with_reducible refine (impl_EncodeImage.calls kj16 t393 t394 _ _ t395 _ _ t398 _ _ t401 t404 _ ?side1 ?side2 ?side3 ?side4 ?side5 ?side6 ?side7 A55.out).mono ?_); (case side1 => exact zc ((Kd.S_reads' HO397.out).2.2)); (case side2 => exact (Kd.S_reads' HO397.out).2.1); (case side3 => exact zc ((Kd.S_reads' HO400.out).2.2)); (case side4 => exact (Kd.S_reads' HO400.out).2.1); (case side5 => exact zc ((Kd.S_reads' HO403.out).2.2)); (case side6 => exact (Kd.S_reads' HO403.out).2.1); (case side7 => exact LaidW.below HLD.out (zs GE344.out)); rintro e w91 ⟨v405, rfl, ho0, hb⟩; refine ⟨_, rfl, ?_⟩; have n0_ := zA (Kd.R_elder' (zR HO_4.out) (Kd.R_base ho0) hb); have n1_ := zA (Kd.R_elder' (zR HO_6.out) (Kd.R_base ho0) hb); have n2_ := zA (Kd.S_elder' (zS HO397.out) (Kd.R_base ho0) hb); have n3_ := zA (Kd.S_below (zS HO400.out) hb); have n4_ := zA (Kd.S_below (zS HO403.out) hb); have n5_ := zA (Kd.R_lower (Kd.R_new' (Kd.R_new' ho0 (zl HO_4.out)) (zl HO_6.out)) (below_size (zs GE344.out))); have n6_ := zA (zB BK344.out hb); have n7_ := zA (below_step (zs GE344.out) hb); clear HO_4 HO_6 HO397 HO400 HO403 BK344 HB; have HO_4 := n0_; have HO_6 := n1_; have HO397 := n2_; have HO400 := n3_; have HO403 := n4_; have HO406 := n5_; have BK344 := n6_; have HB := n7_; clear n0_ n1_ n2_ n3_ n4_ n5_ n6_ n7_; (try clear hb); (try clear hb2); (try clear hk); (try clear hi); (try clear ho0); obtain ⟨Ao92, co92, eo92⟩ := Kd.R_slice HO406.out; subst eo92) | ((with_reducible refine gate_callee (f := 33) rfl ?_); refine goesL_ (some 59) rfl rfl Tryd.func33 (by kernel_rfl) rfl #[.slice Ao92 t404.length co92, .slice Ao37 t357.length co37] rfl za ?_; (with_reducible refine (laws_eqByteS.calls kj16 _ _ t404 _ _ t357 false _ ?side1 ?side2 ?side3 ?side4 A56.out).mono ?_); (case side1 => exact zc ((Kd.R_reads' HO406.out).2.2)); (case side2 => exact (Kd.R_reads' HO406.out).2.1); (case side3 => exact zc ((Kd.R_reads' HO_4.out).2.2)); (case side4 => exact (Kd.R_reads' HO_4.out).2.1); rintro e w' ⟨rfl, ⟨nd, rfl⟩⟩; refine ⟨_, rfl, ?_⟩))
          go_ret
          exact ⟨ze, (zs GE344.out)⟩
        ·rw [if_neg c53] at H
         have c53b0 : (t392 == t390) = false := beq_eq_false_iff_ne.mpr c53
         have c53b1 : (t392 != t390) = true := bne_iff_ne.mpr c53
         obtain rfl := Option.some.inj H
         go_wp2_with (first | ((with_reducible refine gate_callee (f := 34) rfl ?_); refine goesL_ (some 45) rfl rfl Tryd.func34 (by kernel_rfl) rfl #[.slice Ao36 t372.length co36, .int .i64 1] rfl za ?_; (with_reducible refine (laws_markByteS.calls kj16 (fun k_ => some k_ = (.slice Ao36 t372.length co36 : Value).ownBlock) (.slice Ao36 t372.length co36) t372 1 t390 t391 w _ ?side1 ?side2 A49.out).mono ?_); (case side1 => repeat (first | (with_reducible first | exact HB.out | apply below_alloc | apply pw_below_drewN | apply below_drew1 | refine below_set ?_ GE344.out) | exact HB.out)); (case side2 => exact Kd.R_tight rfl HO_6.out); rintro e w93 ⟨rfl, hy0, hb, hkp⟩; refine ⟨_, rfl, ?_⟩; have n0_ := zA (Kd.R_mono (ok' := fun k_ => zO k_ (.slice Ao36 t372.length co36)) (Kd.R_keptB (HO_4.out) hkp (fun k_ hk_ hs_ => (hk_) hs_)) (fun k_ hk_ => hk_.1)); have n1_ := zA (Kd.R_reok rfl hy0 (fun k_ e_ => HO_6.out.1 k_ e_)); have n2_ := zA (blk_kept (zb BK344.out) hkp (fun hs_ => (fun e_ => (Kd.R_ne HO_6.out BK344.out (by decide)) e_) hs_)); have n3_ := zA (hb); clear HO_4 HO_6 BK344 HB; have HO_4 := n0_; have HO_6 := n1_; have BK344 := n2_; have HB := n3_; clear n0_ n1_ n2_ n3_; (try clear hb); (try clear hkp); (try clear hy0)) | ((with_reducible refine gate_callee (f := 35) rfl ?_); refine goesL_ (some 48) rfl rfl Tryd.func35 (by kernel_rfl) rfl #[.slice Ao36 t391.length co36, .int .i64 1] rfl (by (try simp only [List.map_toArray, List.map_cons, List.map_nil]); first | done | (rw [show t391.length = t372.length from (Kd.R_reads' HO_6.out).1.symm] <;> rfl) | rfl | (simp only [List.length_drop, List.length_take]; rfl)) ?_; (with_reducible refine (laws_heldByteS.calls kj16 _ _ t391 1 t392 _ ?side1 ?side2 A50.out).mono ?_); (case side1 => exact zc ((Kd.R_reads' HO_6.out).2.2)); (case side2 => rw [show t391.length = t372.length from (Kd.R_reads' HO_6.out).1.symm]; exact (Kd.R_reads' HO_6.out).2.1); rintro e w' ⟨rfl, ⟨nd, rfl⟩⟩; refine ⟨_, rfl, ?_⟩))
         go_ret
         exact ⟨ze, (zs GE344.out)⟩
   ·replace c15 := Bool.eq_false_iff.mpr c15
    subst c15
    have H1 : (some false) = some r := by rw [if_neg (show ¬ (false = true) by decide)] at H; exact H
    clear H
    have H := H1
    clear H1
    obtain rfl := Option.some.inj H
    go_enter Tryd.func5, Tryd.ntmps5
    try go_wp2_with (first | ((with_reducible refine gate_dst (N := 1) rfl ?_); refine box_event ?hg (N := 1) ?hd (cs := #[.int .i64 a0_0, .int .i64 a0_1, .slice A0_2 l0_2.length c0_2, .slice A0_3 l0_3.length c0_3, .slice A0_4 l0_4.length c0_4]) (t := 42) ?hr ?_; (case hd => rfl); (case hg => rfl); (case hr => first | (go_simp; done) | (go_simp; rfl)); intro gb344 hg w94 hbox hb; have n0_ := zA (below_step z_ hb); have n1_ := zA (hbox); have n2_ := zA ((by rw [hg]; exact (below_size z_) : w.heap.size ≤ gb344)); have n3_ := zA ((by rw [hg]; exact (below_size z_) : w.heap.size ≤ gb344)); clear HB; have HB := n0_; have BK344 := n1_; have GW344 := n2_; have GE344 := n3_; clear n0_ n1_ n2_ n3_; clear hb hbox hg; obtain ⟨hcz95_0, hcz95_1, hcz95_2, hcz95_3, hcz95_4, hfz95_0, hfz95_1, hfz95_2, hfz95_3, hfz95_4⟩ := zh5 BK344.out) | ((with_reducible refine gate_callee (f := 22) rfl ?_); refine goesL_ (some 13) rfl rfl Tryd.func22 (by kernel_rfl) rfl #[.agg #[.int .i64 a0_0, .int .i64 a0_1, .slice A0_2 l0_2.length c0_2, .slice A0_3 l0_3.length c0_3, .slice A0_4 l0_4.length c0_4], .int .i64 1048576] rfl za ?_; (with_reducible refine (laws_szTables.calls k a0_0 a0_1 _ _ l0_2 _ _ l0_3 _ _ l0_4 1048576 t345 _ ?side1 ?side2 ?side3 ?side4 ?side5 ?side6 A2.out).mono ?_); (case side1 => exact zc (Kd.C_below HR0_2.out HB.out)); (case side2 => exact HC0_2.out); (case side3 => exact zc (Kd.C_below HR0_3.out HB.out)); (case side4 => exact HC0_3.out); (case side5 => exact zc (Kd.C_below HR0_4.out HB.out)); (case side6 => exact HC0_4.out); rintro e w96 ⟨rfl, hb⟩; refine ⟨_, rfl, ?_⟩; have n0_ := zA (zB BK344.out hb); have n1_ := zA (below_step (zs GE344.out) hb); clear BK344 HB; have BK344 := n0_; have HB := n1_; clear n0_ n1_; (try clear hb); (try clear hb2); (try clear hk); (try clear hi); obtain ⟨hcz97_0, hcz97_1, hcz97_2, hcz97_3, hcz97_4, hfz97_0, hfz97_1, hfz97_2, hfz97_3, hfz97_4⟩ := zh5 BK344.out) | ((with_reducible refine gate_callee (f := 24) rfl ?_); refine goesL_ (some 17) rfl rfl Tryd.func24 (by kernel_rfl) rfl #[.agg #[.int .i64 a0_0, .int .i64 a0_1, .slice A0_2 l0_2.length c0_2, .slice A0_3 l0_3.length c0_3, .slice A0_4 l0_4.length c0_4]] rfl za ?_; (with_reducible refine (laws_toTables.calls k a0_0 a0_1 _ _ l0_2 _ _ l0_3 _ _ l0_4 t346 t347 t348 t351 t354 _ ?side1 ?side2 ?side3 ?side4 ?side5 ?side6 A7.out).mono ?_); (case side1 => exact zc (Kd.C_below HR0_2.out HB.out)); (case side2 => exact HC0_2.out); (case side3 => exact zc (Kd.C_below HR0_3.out HB.out)); (case side4 => exact HC0_3.out); (case side5 => exact zc (Kd.C_below HR0_4.out HB.out)); (case side6 => exact HC0_4.out); rintro e w98 ⟨v349, v352, v355, rfl, ho0, ho1, ho2, hb⟩; refine ⟨_, rfl, ?_⟩; have n0_ := zA (Kd.S_lower ho0 (below_size (zs GE344.out))); have n1_ := zA (Kd.S_lower ho1 (below_size (zs GE344.out))); have n2_ := zA (Kd.S_lower ho2 (below_size (zs GE344.out))); have n3_ := zA (zB BK344.out hb); have n4_ := zA (below_step (zs GE344.out) hb); clear BK344 HB; have HO350 := n0_; have HO353 := n1_; have HO356 := n2_; have BK344 := n3_; have HB := n4_; clear n0_ n1_ n2_ n3_ n4_; (try clear hb); (try clear hb2); (try clear hk); (try clear hi); (try clear ho0); (try clear ho1); (try clear ho2); obtain ⟨Ao99, co99, eo99⟩ := Kd.S_slice HO350.out; subst eo99; obtain ⟨Ao100, co100, eo100⟩ := Kd.S_slice HO353.out; subst eo100; obtain ⟨Ao101, co101, eo101⟩ := Kd.S_slice HO356.out; subst eo101) | ((with_reducible refine gate_callee (f := 31) rfl ?_); refine goesL_ (some 18) rfl rfl Tryd.func31 (by kernel_rfl) rfl #[.agg #[.int .i64 t346, .int .i64 t347, .slice Ao99 t348.length co99, .slice Ao100 t351.length co100, .slice Ao101 t354.length co101]] rfl za ?_; (with_reducible refine (spec_EncodeImage.calls k t346 t347 _ _ t348 _ _ t351 _ _ t354 t357 _ ?side1 ?side2 ?side3 ?side4 ?side5 ?side6 A8.out).mono ?_); (case side1 => exact zc ((Kd.S_reads' HO350.out).2.2)); (case side2 => exact (Kd.S_reads' HO350.out).2.1); (case side3 => exact zc ((Kd.S_reads' HO353.out).2.2)); (case side4 => exact (Kd.S_reads' HO353.out).2.1); (case side5 => exact zc ((Kd.S_reads' HO356.out).2.2)); (case side6 => exact (Kd.S_reads' HO356.out).2.1); rintro e w102 ⟨v358, rfl, ho0, hb⟩; refine ⟨_, rfl, ?_⟩; have n0_ := zA (Kd.S_elder' (zS HO350.out) (Kd.R_base ho0) hb); have n1_ := zA (Kd.S_below (zS HO353.out) hb); have n2_ := zA (Kd.S_below (zS HO356.out) hb); have n3_ := zA (Kd.R_lower ho0 (below_size (zs GE344.out))); have n4_ := zA (zB BK344.out hb); have n5_ := zA (below_step (zs GE344.out) hb); clear HO350 HO353 HO356 BK344 HB; have HO350 := n0_; have HO353 := n1_; have HO356 := n2_; have HO359 := n3_; have BK344 := n4_; have HB := n5_; clear n0_ n1_ n2_ n3_ n4_ n5_; (try clear hb); (try clear hb2); (try clear hk); (try clear hi); (try clear ho0); obtain ⟨hcz103_0, hcz103_1, hcz103_2, hcz103_3, hcz103_4, hfz103_0, hfz103_1, hfz103_2, hfz103_3, hfz103_4⟩ := zh5 BK344.out) | ((with_reducible refine gate_callee (f := 24) rfl ?_); refine goesL_ (some 20) rfl rfl Tryd.func24 (by kernel_rfl) rfl #[.agg #[.int .i64 a0_0, .int .i64 a0_1, .slice A0_2 l0_2.length c0_2, .slice A0_3 l0_3.length c0_3, .slice A0_4 l0_4.length c0_4]] rfl za ?_; (with_reducible refine (laws_toTables.calls k a0_0 a0_1 _ _ l0_2 _ _ l0_3 _ _ l0_4 t360 t361 t362 t365 t368 _ ?side1 ?side2 ?side3 ?side4 ?side5 ?side6 A9.out).mono ?_); (case side1 => exact zc (Kd.C_below HR0_2.out HB.out)); (case side2 => exact HC0_2.out); (case side3 => exact zc (Kd.C_below HR0_3.out HB.out)); (case side4 => exact HC0_3.out); (case side5 => exact zc (Kd.C_below HR0_4.out HB.out)); (case side6 => exact HC0_4.out); rintro e w104 ⟨v363, v366, v369, rfl, ho0, ho1, ho2, hb⟩; refine ⟨_, rfl, ?_⟩; have n0_ := zA (Kd.S_elder' (zS HO350.out) (Kd.S_base ho0) hb); have n1_ := zA (Kd.S_mono (Kd.S_told (Kd.S_told (Kd.S_old (zS HO353.out) hb) (Kd.S_base ho1)) (Kd.S_base ho2)) (fun _ h_ => h_.1)); have n2_ := zA (Kd.S_mono (Kd.S_told (Kd.S_told (Kd.S_old (zS HO356.out) hb) (Kd.S_base ho1)) (Kd.S_base ho2)) (fun _ h_ => h_.1)); have n3_ := zA (Kd.R_below (zR HO359.out) hb); have n4_ := zA (Kd.S_lower (Kd.S_new' (Kd.S_new' ho0 (Kd.S_lt (zS HO350.out))) (zl HO359.out)) (below_size (zs GE344.out))); have n5_ := zA (Kd.S_lower (Kd.S_new' (Kd.S_new' ho1 (Kd.S_lt (zS HO353.out))) (Kd.S_lt (zS HO356.out))) (below_size (zs GE344.out))); have n6_ := zA (Kd.S_lower (Kd.S_new' (Kd.S_new' ho2 (Kd.S_lt (zS HO353.out))) (Kd.S_lt (zS HO356.out))) (below_size (zs GE344.out))); have n7_ := zA (zB BK344.out hb); have n8_ := zA (below_step (zs GE344.out) hb); clear HO350 HO353 HO356 HO359 BK344 HB; have HO350 := n0_; have HO353 := n1_; have HO356 := n2_; have HO359 := n3_; have HO364 := n4_; have HO367 := n5_; have HO370 := n6_; have BK344 := n7_; have HB := n8_; clear n0_ n1_ n2_ n3_ n4_ n5_ n6_ n7_ n8_; (try clear hb); (try clear hb2); (try clear hk); (try clear hi); (try clear ho0); (try clear ho1); (try clear ho2)) | ((with_reducible refine gate_dst (N := 5) rfl ?_); refine box_event ?hg (N := 5) ?hd (cs := #[.int .i64 0, .int .i64 0, .slice none 0 0, .slice none 0 0, .slice none 0 0]) (t := 47) ?hr ?_; (case hd => rfl); (case hg => rfl); (case hr => first | (go_simp; done) | (go_simp; rfl)); intro gb371 hg w105 hbox hb; have n0_ := zA (Kd.S_below (zS HO350.out) hb); have n1_ := zA (Kd.S_below (zS HO353.out) hb); have n2_ := zA (Kd.S_below (zS HO356.out) hb); have n3_ := zA (Kd.R_below (zR HO359.out) hb); have n4_ := zA (Kd.S_below (zS HO364.out) hb); have n5_ := zA (Kd.S_below (zS HO367.out) hb); have n6_ := zA (Kd.S_below (zS HO370.out) hb); have n7_ := zA (zB BK344.out hb); have n8_ := zA (below_step (zs GE344.out) hb); have n9_ := zA (hbox); have n10_ := zA ((by rw [hg]; exact (below_size (zs GE344.out)) : w.heap.size ≤ gb371)); have n11_ := zA ((by rw [hg]; exact (below_size (zs GE344.out)) : w.heap.size ≤ gb371)); have n12_ := zA ((by rw [hg]; exact Nat.ne_of_lt (zw BK344.out) : gb344 ≠ gb371)); have n13_ := zA ((by rw [hg]; exact Nat.ne_of_gt (zw BK344.out) : gb371 ≠ gb344)); clear HO350 HO353 HO356 HO359 HO364 HO367 HO370 BK344 HB; have HO350 := n0_; have HO353 := n1_; have HO356 := n2_; have HO359 := n3_; have HO364 := n4_; have HO367 := n5_; have HO370 := n6_; have BK344 := n7_; have HB := n8_; have BK371 := n9_; have GW371 := n10_; have GE371 := n11_; have NB344_371 := n12_; have NB371_344 := n13_; clear n0_ n1_ n2_ n3_ n4_ n5_ n6_ n7_ n8_ n9_ n10_ n11_ n12_ n13_; clear hb hbox hg; have hnb106 := NB371_344.out; have hnc106 := NB344_371.out; obtain ⟨hcz107_0, hcz107_1, hcz107_2, hcz107_3, hcz107_4, hfz107_0, hfz107_1, hfz107_2, hfz107_3, hfz107_4⟩ := zh5 BK371.out; obtain ⟨Ao108, co108, eo108⟩ := Kd.S_slice HO364.out; subst eo108; obtain ⟨Ao109, co109, eo109⟩ := Kd.S_slice HO367.out; subst eo109; obtain ⟨Ao110, co110, eo110⟩ := Kd.S_slice HO370.out; subst eo110) | ((with_reducible refine gate_callee (f := 32) rfl ?_); refine goesL_ (some 22) rfl rfl Tryd.func32 (by kernel_rfl) rfl #[.agg #[.int .i64 t360, .int .i64 t361, .slice Ao108 t362.length co108, .slice Ao109 t365.length co109, .slice Ao110 t368.length co110]] rfl za ?_; (with_reducible refine (impl_EncodeImage.calls k t360 t361 _ _ t362 _ _ t365 _ _ t368 t372 _ ?side1 ?side2 ?side3 ?side4 ?side5 ?side6 ?side7 A10.out).mono ?_); (case side1 => refine (Kd.S_reads' (e := 120) (base := w.heap.size) (ok := fun k_ => ((True ∧ zO k_ (.slice Ao99 t348.length co99)) ∧ zO k_ (v358))) (n := t362.length) (c := co108) ?_).2.2; exact (zT HO364.out BK371.out)); (case side2 => exact (Kd.S_reads' HO364.out).2.1); (case side3 => refine (Kd.S_reads' (e := 22) (base := w.heap.size) (ok := fun k_ => ((zO k_ (.slice Ao110 t368.length co110) ∧ zO k_ (.slice Ao100 t351.length co100)) ∧ zO k_ (.slice Ao101 t354.length co101))) (n := t365.length) (c := co109) ?_).2.2; exact (zT HO367.out BK371.out)); (case side4 => exact (Kd.S_reads' HO367.out).2.1); (case side5 => refine (Kd.S_reads' (e := 22) (base := w.heap.size) (ok := fun k_ => ((zO k_ (.slice Ao109 t365.length co109) ∧ zO k_ (.slice Ao100 t351.length co100)) ∧ zO k_ (.slice Ao101 t354.length co101))) (n := t368.length) (c := co110) ?_).2.2; exact (zT HO370.out BK371.out)); (case side6 => exact (Kd.S_reads' HO370.out).2.1); (case side7 => exact LaidW.below HLD.out (zs2 GE344.out GE371.out)); rintro e w111 ⟨v373, rfl, ho0, hb⟩; refine ⟨_, rfl, ?_⟩; have n0_ := zA (Kd.S_elder' (zT HO350.out BK371.out) (Kd.R_base ho0) hb); have n1_ := zA (Kd.S_below (zT HO353.out BK371.out) hb); have n2_ := zA (Kd.S_below (zT HO356.out BK371.out) hb); have n3_ := zA (Kd.R_elder' (zK HO359.out BK371.out) (Kd.R_base ho0) hb); have n4_ := zA (Kd.S_elder' (zT HO364.out BK371.out) (Kd.R_base ho0) hb); have n5_ := zA (Kd.S_below (zT HO367.out BK371.out) hb); have n6_ := zA (Kd.S_below (zT HO370.out BK371.out) hb); have n7_ := zA (Kd.R_lower (Kd.R_new' ho0 (zl HO359.out)) (below_size (zs2 GE344.out GE371.out))); have n8_ := zA (blk_below (g := gb344) (o := .cells #[.int .i64 a0_0, .int .i64 a0_1, .slice A0_2 l0_2.length c0_2, .slice A0_3 l0_3.length c0_3, .slice A0_4 l0_4.length c0_4] 42 (0, 0)) (zf BK344.out NB344_371.out) hb); have n9_ := zA (blk_below (g := gb371) (o := .cells #[.int .i64 t360, .int .i64 t361, .slice Ao108 t362.length co108, .slice Ao109 t365.length co109, .slice Ao110 t368.length co110] 47 (0, 0)) (zq BK371.out) hb); have n10_ := zA (below_step (zs2 GE344.out GE371.out) hb); clear HO350 HO353 HO356 HO359 HO364 HO367 HO370 BK344 BK371 HB; have HO350 := n0_; have HO353 := n1_; have HO356 := n2_; have HO359 := n3_; have HO364 := n4_; have HO367 := n5_; have HO370 := n6_; have HO374 := n7_; have BK344 := n8_; have BK371 := n9_; have HB := n10_; clear n0_ n1_ n2_ n3_ n4_ n5_ n6_ n7_ n8_ n9_ n10_; (try clear hb); (try clear hb2); (try clear hk); (try clear hi); (try clear ho0); obtain ⟨Ao112, co112, eo112⟩ := Kd.R_slice HO374.out; subst eo112; obtain ⟨Ao113, co113, eo113⟩ := Kd.R_slice HO359.out; subst eo113) | ((with_reducible refine gate_callee (f := 33) rfl ?_); refine goesL_ (some 25) rfl rfl Tryd.func33 (by kernel_rfl) rfl #[.slice Ao112 t372.length co112, .slice Ao113 t357.length co113] rfl za ?_; (with_reducible refine (laws_eqByteS.calls k _ _ t372 _ _ t357 true _ ?side1 ?side2 ?side3 ?side4 A11.out).mono ?_); (case side1 => exact zc ((Kd.R_reads' HO374.out).2.2)); (case side2 => exact (Kd.R_reads' HO374.out).2.1); (case side3 => exact zc ((Kd.R_reads' HO359.out).2.2)); (case side4 => exact (Kd.R_reads' HO359.out).2.1); rintro e w' ⟨rfl, ⟨nd, rfl⟩⟩; refine ⟨_, rfl, ?_⟩))
    (try (rw [drewN_self w111]; generalize hq_ : World.drewN w111 _ = w111; have n0_ : Aside0 (Kd.S k120 120 w111 w.heap.size (fun k_ => zO k_ (.slice Ao113 t357.length co113) ∧ zO k_ (.slice Ao108 t362.length co108) ∧ zO k_ (.slice Ao112 t372.length co112)) (.slice Ao99 t348.length co99) t348) := ⟨by rw [← hq_]; exact (by (with_reducible repeat (first | apply Kd.S_alloc | apply Kd.S_drewN | apply Kd.S_drew)); exact Kd.S_mono HO350.out zy)⟩; have n1_ : Aside0 (Kd.S (Kd.slice 3 (Kd.int .i64)) 22 w111 w.heap.size (fun k_ => zO k_ (.slice Ao101 t354.length co101) ∧ zO k_ (.slice Ao109 t365.length co109) ∧ zO k_ (.slice Ao110 t368.length co110)) (.slice Ao100 t351.length co100) t351) := ⟨by rw [← hq_]; exact (by (with_reducible repeat (first | apply Kd.S_alloc | apply Kd.S_drewN | apply Kd.S_drew)); exact Kd.S_mono HO353.out zy)⟩; have n2_ : Aside0 (Kd.S (Kd.slice 3 (Kd.int .i64)) 22 w111 w.heap.size (fun k_ => zO k_ (.slice Ao100 t351.length co100) ∧ zO k_ (.slice Ao109 t365.length co109) ∧ zO k_ (.slice Ao110 t368.length co110)) (.slice Ao101 t354.length co101) t354) := ⟨by rw [← hq_]; exact (by (with_reducible repeat (first | apply Kd.S_alloc | apply Kd.S_drewN | apply Kd.S_drew)); exact Kd.S_mono HO356.out zy)⟩; have n3_ : Aside0 (Kd.R (Kd.int .u8) 5 w111 w.heap.size (fun k_ => zO k_ (.slice Ao112 t372.length co112)) (.slice Ao113 t357.length co113) t357) := ⟨by rw [← hq_]; exact (by (with_reducible repeat (first | apply Kd.R_alloc | apply Kd.R_drewN | apply Kd.R_drew)); exact Kd.R_mono HO359.out (fun _ hk => hk.2))⟩; have n4_ : Aside0 (Kd.S k120 120 w111 w.heap.size (fun k_ => zO k_ (.slice Ao99 t348.length co99) ∧ zO k_ (.slice Ao113 t357.length co113) ∧ zO k_ (.slice Ao112 t372.length co112)) (.slice Ao108 t362.length co108) t362) := ⟨by rw [← hq_]; exact (by (with_reducible repeat (first | apply Kd.S_alloc | apply Kd.S_drewN | apply Kd.S_drew)); exact Kd.S_mono HO364.out zy)⟩; have n5_ : Aside0 (Kd.S (Kd.slice 3 (Kd.int .i64)) 22 w111 w.heap.size (fun k_ => zO k_ (.slice Ao100 t351.length co100) ∧ zO k_ (.slice Ao101 t354.length co101) ∧ zO k_ (.slice Ao110 t368.length co110)) (.slice Ao109 t365.length co109) t365) := ⟨by rw [← hq_]; exact (by (with_reducible repeat (first | apply Kd.S_alloc | apply Kd.S_drewN | apply Kd.S_drew)); exact Kd.S_mono HO367.out zy)⟩; have n6_ : Aside0 (Kd.S (Kd.slice 3 (Kd.int .i64)) 22 w111 w.heap.size (fun k_ => zO k_ (.slice Ao100 t351.length co100) ∧ zO k_ (.slice Ao101 t354.length co101) ∧ zO k_ (.slice Ao109 t365.length co109)) (.slice Ao110 t368.length co110) t368) := ⟨by rw [← hq_]; exact (by (with_reducible repeat (first | apply Kd.S_alloc | apply Kd.S_drewN | apply Kd.S_drew)); exact Kd.S_mono HO370.out zy)⟩; have n7_ : Aside0 (Kd.R (Kd.int .u8) 5 w111 w.heap.size (fun k_ => zO k_ (.slice Ao113 t357.length co113)) (.slice Ao112 t372.length co112) t372) := ⟨by rw [← hq_]; exact (by (with_reducible repeat (first | apply Kd.R_alloc | apply Kd.R_drewN | apply Kd.R_drew)); exact Kd.R_mono HO374.out (fun _ hk => hk.2))⟩; have n8_ : Aside0 (w111.heap[gb344]? = some (.cells #[.int .i64 a0_0, .int .i64 a0_1, .slice A0_2 l0_2.length c0_2, .slice A0_3 l0_3.length c0_3, .slice A0_4 l0_4.length c0_4] 42 (0, 0))) := ⟨by rw [← hq_]; exact (zb BK344.out)⟩; have n9_ : Aside0 (w111.heap[gb371]? = some (.cells #[.int .i64 t360, .int .i64 t361, .slice Ao108 t362.length co108, .slice Ao109 t365.length co109, .slice Ao110 t368.length co110] 47 (0, 0))) := ⟨by rw [← hq_]; exact (zb BK371.out)⟩; have n10_ : Aside0 (Below w.heap.size w w111) := ⟨by rw [← hq_]; exact (zs2 GE344.out GE371.out)⟩; clear HO350 HO353 HO356 HO359 HO364 HO367 HO370 HO374 BK344 BK371 HB hq_; have HO350 := n0_; have HO353 := n1_; have HO356 := n2_; have HO359 := n3_; have HO364 := n4_; have HO367 := n5_; have HO370 := n6_; have HO374 := n7_; have BK344 := n8_; have BK371 := n9_; have HB := n10_; clear n0_ n1_ n2_ n3_ n4_ n5_ n6_ n7_ n8_ n9_ n10_))
    have n0_ := zA (Kd.S_drew HO350.out)
    have n1_ := zA (Kd.S_drew HO353.out)
    have n2_ := zA (Kd.S_drew HO356.out)
    have n3_ := zA (Kd.R_drew HO359.out)
    have n4_ := zA (Kd.S_drew HO364.out)
    have n5_ := zA (Kd.S_drew HO367.out)
    have n6_ := zA (Kd.S_drew HO370.out)
    have n7_ := zA (Kd.R_drew HO374.out)
    have n8_ := zA (blk_drew BK344.out)
    have n9_ := zA (blk_drew BK371.out)
    have n10_ := zA (below_drew1 HB.out)
    clear HO350
    clear HO353
    clear HO356
    clear HO359
    clear HO364
    clear HO367
    clear HO370
    clear HO374
    clear BK344
    clear BK371
    clear HB
    have HO350 := n0_
    have HO353 := n1_
    have HO356 := n2_
    have HO359 := n3_
    have HO364 := n4_
    have HO367 := n5_
    have HO370 := n6_
    have HO374 := n7_
    have BK344 := n8_
    have BK371 := n9_
    have HB := n10_
    clear n0_ n1_ n2_ n3_ n4_ n5_ n6_ n7_ n8_ n9_ n10_
    refine start_ (n := 5) (S := fun w' => w'.cell? ⟨gb371, 0, none⟩ = some (.int .i64 t360) ∧ w'.cell? ⟨gb371, 1, none⟩ = some (.int .i64 t361) ∧ w'.cell? ⟨gb371, 2, none⟩ = some (.slice Ao108 t362.length co108) ∧ w'.cell? ⟨gb371, 3, none⟩ = some (.slice Ao109 t365.length co109) ∧ w'.cell? ⟨gb371, 4, none⟩ = some (.slice Ao110 t368.length co110) ∧ w'.cell? ⟨gb344, 0, none⟩ = some (.int .i64 a0_0) ∧ w'.cell? ⟨gb344, 1, none⟩ = some (.int .i64 a0_1) ∧ w'.cell? ⟨gb344, 2, none⟩ = some (.slice A0_2 l0_2.length c0_2) ∧ w'.cell? ⟨gb344, 3, none⟩ = some (.slice A0_3 l0_3.length c0_3) ∧ w'.cell? ⟨gb344, 4, none⟩ = some (.slice A0_4 l0_4.length c0_4)) (ds := []) #[false, false, false, false, false] (by kernel_rfl) rfl rfl ⟨(blk_cell BK371.out 0).trans rfl, (blk_cell BK371.out 1).trans rfl, (blk_cell BK371.out 2).trans rfl, (blk_cell BK371.out 3).trans rfl, (blk_cell BK371.out 4).trans rfl, (blk_cell BK344.out 0).trans rfl, (blk_cell BK344.out 1).trans rfl, (blk_cell BK344.out 2).trans rfl, (blk_cell BK344.out 3).trans rfl, (blk_cell BK344.out 4).trans rfl⟩ (fun hHeld => ?_)
    generalize w111.drew = w114 at HO350 HO353 HO356 HO359 HO364 HO367 HO370 HO374 BK344 BK371 HB hHeld ⊢
    refine take_ (i := 0) (N := some 27) (v := ?_) (a' := ?_) #[true, false, false, false, false] rfl rfl (by kernel_rfl) (fun _ _ _ h => h) (Or.inl ⟨by rfl, ?_⟩) hHeld ?_ ?_
    rotate_left
    ·rintro w' ⟨s0, s1, s2, s3, s4, s5, s6, s7, s8, s9⟩
     go_simp
     with_reducible rfl
    rotate_left
    ·simp only [Act.put, List.setIfInBounds_toArray, List.set_cons_zero, List.set_cons_succ, i64_w, i32_w]
     rfl
    refine take_ (i := 1) (N := some 28) (v := ?_) (a' := ?_) #[true, true, false, false, false] rfl rfl (by kernel_rfl) (fun _ _ _ h => h) (Or.inl ⟨by rfl, ?_⟩) hHeld ?_ ?_
    rotate_left
    ·rintro w' ⟨s0, s1, s2, s3, s4, s5, s6, s7, s8, s9⟩
     go_simp
     with_reducible rfl
    rotate_left
    ·simp only [Act.put, List.setIfInBounds_toArray, List.set_cons_zero, List.set_cons_succ, i64_w, i32_w]
     rfl
    refine one_ (i := 2) (N := some 29) #[true, true, true, false, false] rfl rfl (by kernel_rfl) (by decide) (fun K hK => ?_)
    refine goes_ Tryd.func24 (by kernel_rfl) rfl #[.agg #[.int .i64 a0_0, .int .i64 a0_1, .slice A0_2 l0_2.length c0_2, .slice A0_3 l0_3.length c0_3, .slice A0_4 l0_4.length c0_4]] (by rfl) rfl rfl za ?_
    with_reducible refine (laws_toTables.calls k a0_0 a0_1 _ _ l0_2 _ _ l0_3 _ _ l0_4 t376 t377 t378 t381 t384 _ ?side1 ?side2 ?side3 ?side4 ?side5 ?side6 A13.out).mono ?_
    (case side1 => exact zc (Kd.C_below HR0_2.out HB.out))
    (case side2 => exact HC0_2.out)
    (case side3 => exact zc (Kd.C_below HR0_3.out HB.out))
    (case side4 => exact HC0_3.out)
    (case side5 => exact zc (Kd.C_below HR0_4.out HB.out))
    (case side6 => exact HC0_4.out)
    rintro e w115 ⟨v379, v382, v385, rfl, ho0, ho1, ho2, hb⟩
    refine ⟨_, rfl, ?_⟩
    have n0_ := zA (Kd.S_elder' (zS HO350.out) (Kd.S_base ho0) hb)
    have n1_ := zA (Kd.S_mono (Kd.S_told (Kd.S_told (Kd.S_old (zS HO353.out) hb) (Kd.S_base ho1)) (Kd.S_base ho2)) (fun _ h_ => h_.1))
    have n2_ := zA (Kd.S_mono (Kd.S_told (Kd.S_told (Kd.S_old (zS HO356.out) hb) (Kd.S_base ho1)) (Kd.S_base ho2)) (fun _ h_ => h_.1))
    have n3_ := zA (Kd.R_below (zR HO359.out) hb)
    have n4_ := zA (Kd.S_elder' (zS HO364.out) (Kd.S_base ho0) hb)
    have n5_ := zA (Kd.S_mono (Kd.S_told (Kd.S_told (Kd.S_old (zS HO367.out) hb) (Kd.S_base ho1)) (Kd.S_base ho2)) (fun _ h_ => h_.1))
    have n6_ := zA (Kd.S_mono (Kd.S_told (Kd.S_told (Kd.S_old (zS HO370.out) hb) (Kd.S_base ho1)) (Kd.S_base ho2)) (fun _ h_ => h_.1))
    have n7_ := zA (Kd.R_below (zR HO374.out) hb)
    have n8_ := zA (Kd.S_lower (Kd.S_new' (Kd.S_new' (Kd.S_new' (Kd.S_new' ho0 (Kd.S_lt (zS HO350.out))) (zl HO359.out)) (Kd.S_lt (zS HO364.out))) (zl HO374.out)) (below_size (zs2 GE344.out GE371.out)))
    have n9_ := zA (Kd.S_lower (Kd.S_new' (Kd.S_new' (Kd.S_new' (Kd.S_new' ho1 (Kd.S_lt (zS HO353.out))) (Kd.S_lt (zS HO356.out))) (Kd.S_lt (zS HO367.out))) (Kd.S_lt (zS HO370.out))) (below_size (zs2 GE344.out GE371.out)))
    have n10_ := zA (Kd.S_lower (Kd.S_new' (Kd.S_new' (Kd.S_new' (Kd.S_new' ho2 (Kd.S_lt (zS HO353.out))) (Kd.S_lt (zS HO356.out))) (Kd.S_lt (zS HO367.out))) (Kd.S_lt (zS HO370.out))) (below_size (zs2 GE344.out GE371.out)))
    have n11_ := zA (zB BK344.out hb)
    have n12_ := zA (zB BK371.out hb)
    have n13_ := zA (below_step (zs2 GE344.out GE371.out) hb)
    clear HO350
    clear HO353
    clear HO356
    clear HO359
    clear HO364
    clear HO367
    clear HO370
    clear HO374
    clear BK344
    clear BK371
    clear HB
    have HO350 := n0_
    have HO353 := n1_
    have HO356 := n2_
    have HO359 := n3_
    have HO364 := n4_
    have HO367 := n5_
    have HO370 := n6_
    have HO374 := n7_
    have HO380 := n8_
    have HO383 := n9_
    have HO386 := n10_
    have BK344 := n11_
    have BK371 := n12_
    have HB := n13_
    clear n0_ n1_ n2_ n3_ n4_ n5_ n6_ n7_ n8_ n9_ n10_ n11_ n12_ n13_
    (try clear hb)
    (try clear hb2)
    (try clear hk)
    (try clear hi)
    (try clear ho0)
    (try clear ho1)
    (try clear ho2)
    obtain ⟨Ao116, co116, eo116⟩ := Kd.S_slice HO380.out
    (first | subst eo116 | (injection eo116 with f1_ f2_ f3_; have f4_ := f1_.symm; have f5_ := f3_.symm; clear f1_ f2_ f3_; subst f4_; subst f5_))
    obtain ⟨Ao117, co117, eo117⟩ := Kd.S_slice HO383.out
    (first | subst eo117 | (injection eo117 with f1_ f2_ f3_; have f4_ := f1_.symm; have f5_ := f3_.symm; clear f1_ f2_ f3_; subst f4_; subst f5_))
    obtain ⟨Ao118, co118, eo118⟩ := Kd.S_slice HO386.out
    (first | subst eo118 | (injection eo118 with f1_ f2_ f3_; have f4_ := f1_.symm; have f5_ := f3_.symm; clear f1_ f2_ f3_; subst f4_; subst f5_))
    refine hK.out _ _ ⟨(blk_cell BK371.out 0).trans rfl, (blk_cell BK371.out 1).trans rfl, (blk_cell BK371.out 2).trans rfl, (blk_cell BK371.out 3).trans rfl, (blk_cell BK371.out 4).trans rfl, (blk_cell BK344.out 0).trans rfl, (blk_cell BK344.out 1).trans rfl, (blk_cell BK344.out 2).trans rfl, (blk_cell BK344.out 3).trans rfl, (blk_cell BK344.out 4).trans rfl⟩ (fun hHeld => ?_)
    clear hK K
    refine norm_ (a' := ?_) ?_ ?_
    rotate_left
    ·show Act.put _ (some 29) _ = _
     simp only [Act.put, List.setIfInBounds_toArray, List.set_cons_zero, List.set_cons_succ, i64_w, i32_w]
     rfl
    refine one_ (i := 3) (N := some 30) #[true, true, true, true, false] rfl rfl (by kernel_rfl) (by decide) (fun K hK => ?_)
    refine goes_ Tryd.func27 (by kernel_rfl) rfl #[.agg #[.int .i64 t360, .int .i64 t361, .slice Ao108 t362.length co108, .slice Ao109 t365.length co109, .slice Ao110 t368.length co110], .agg #[.int .i64 t376, .int .i64 t377, .slice Ao116 t378.length co116, .slice Ao117 t381.length co117, .slice Ao118 t384.length co118]] (by rfl) rfl rfl za ?_
    with_reducible refine (laws_eqTables.calls k t360 t361 _ _ t362 _ _ t365 _ _ t368 t376 t377 _ _ t378 _ _ t381 _ _ t384 false _ ?side1 ?side2 ?side3 ?side4 ?side5 ?side6 ?side7 ?side8 ?side9 ?side10 ?side11 ?side12 A14.out).mono ?_
    (case side1 => exact zc ((Kd.S_reads' HO364.out).2.2))
    (case side2 => exact (Kd.S_reads' HO364.out).2.1)
    (case side3 => exact zc ((Kd.S_reads' HO367.out).2.2))
    (case side4 => exact (Kd.S_reads' HO367.out).2.1)
    (case side5 => exact zc ((Kd.S_reads' HO370.out).2.2))
    (case side6 => exact (Kd.S_reads' HO370.out).2.1)
    (case side7 => exact zc ((Kd.S_reads' HO380.out).2.2))
    (case side8 => exact (Kd.S_reads' HO380.out).2.1)
    (case side9 => exact zc ((Kd.S_reads' HO383.out).2.2))
    (case side10 => exact (Kd.S_reads' HO383.out).2.1)
    (case side11 => exact zc ((Kd.S_reads' HO386.out).2.2))
    (case side12 => exact (Kd.S_reads' HO386.out).2.1)
    rintro e w119 ⟨rfl, hb⟩
    refine ⟨_, rfl, ?_⟩
    have n0_ := zA (Kd.S_below (zS HO350.out) hb)
    have n1_ := zA (Kd.S_below (zS HO353.out) hb)
    have n2_ := zA (Kd.S_below (zS HO356.out) hb)
    have n3_ := zA (Kd.R_below (zR HO359.out) hb)
    have n4_ := zA (Kd.S_below (zS HO364.out) hb)
    have n5_ := zA (Kd.S_below (zS HO367.out) hb)
    have n6_ := zA (Kd.S_below (zS HO370.out) hb)
    have n7_ := zA (Kd.R_below (zR HO374.out) hb)
    have n8_ := zA (Kd.S_below (zS HO380.out) hb)
    have n9_ := zA (Kd.S_below (zS HO383.out) hb)
    have n10_ := zA (Kd.S_below (zS HO386.out) hb)
    have n11_ := zA (zB BK344.out hb)
    have n12_ := zA (zB BK371.out hb)
    have n13_ := zA (below_step (zs2 GE344.out GE371.out) hb)
    clear HO350
    clear HO353
    clear HO356
    clear HO359
    clear HO364
    clear HO367
    clear HO370
    clear HO374
    clear HO380
    clear HO383
    clear HO386
    clear BK344
    clear BK371
    clear HB
    have HO350 := n0_
    have HO353 := n1_
    have HO356 := n2_
    have HO359 := n3_
    have HO364 := n4_
    have HO367 := n5_
    have HO370 := n6_
    have HO374 := n7_
    have HO380 := n8_
    have HO383 := n9_
    have HO386 := n10_
    have BK344 := n11_
    have BK371 := n12_
    have HB := n13_
    clear n0_ n1_ n2_ n3_ n4_ n5_ n6_ n7_ n8_ n9_ n10_ n11_ n12_ n13_
    (try clear hb)
    (try clear hb2)
    (try clear hk)
    (try clear hi)
    refine hK.out _ _ ⟨(blk_cell BK371.out 0).trans rfl, (blk_cell BK371.out 1).trans rfl, (blk_cell BK371.out 2).trans rfl, (blk_cell BK371.out 3).trans rfl, (blk_cell BK371.out 4).trans rfl, (blk_cell BK344.out 0).trans rfl, (blk_cell BK344.out 1).trans rfl, (blk_cell BK344.out 2).trans rfl, (blk_cell BK344.out 3).trans rfl, (blk_cell BK344.out 4).trans rfl⟩ (fun hHeld => ?_)
    clear hK K
    refine norm_ (a' := ?_) ?_ ?_
    rotate_left
    ·show Act.put _ (some 30) _ = _
     simp only [Act.put, List.setIfInBounds_toArray, List.set_cons_zero, List.set_cons_succ, i64_w, i32_w]
     rfl
    refine pure_ (i := 4) (N := some 31) (v := ?_) (a' := ?_) #[true, true, true, true, true] rfl rfl (by kernel_rfl) (fun _ _ _ h => h) (Or.inl ⟨by rfl, ?_⟩) ?_ ?_
    rotate_left
    ·intro w'
     go_simp
     with_reducible rfl
    rotate_left
    ·simp only [Act.put, List.setIfInBounds_toArray, List.set_cons_zero, List.set_cons_succ, i64_w, i32_w]
     rfl
    refine done_ (by kernel_rfl) ?_
    try go_wp2
    go_ret
    exact ⟨ze, (zs2 GE344.out GE371.out)⟩
  ·replace c12 := Bool.eq_false_iff.mpr c12
   subst c12
   have H1 : (some false) = some r := by rw [if_neg (show ¬ (false = true) by decide)] at H; exact H
   clear H
   have H := H1
   clear H1
   obtain rfl := Option.some.inj H
   go_enter Tryd.func5, Tryd.ntmps5
   go_wp2_with (first | ((with_reducible refine gate_dst (N := 1) rfl ?_); refine box_event ?hg (N := 1) ?hd (cs := #[.int .i64 a0_0, .int .i64 a0_1, .slice A0_2 l0_2.length c0_2, .slice A0_3 l0_3.length c0_3, .slice A0_4 l0_4.length c0_4]) (t := 42) ?hr ?_; (case hd => rfl); (case hg => rfl); (case hr => first | (go_simp; done) | (go_simp; rfl)); intro gb344 hg w120 hbox hb; have n0_ := zA (below_step z_ hb); have n1_ := zA (hbox); have n2_ := zA ((by rw [hg]; exact (below_size z_) : w.heap.size ≤ gb344)); have n3_ := zA ((by rw [hg]; exact (below_size z_) : w.heap.size ≤ gb344)); clear HB; have HB := n0_; have BK344 := n1_; have GW344 := n2_; have GE344 := n3_; clear n0_ n1_ n2_ n3_; clear hb hbox hg; obtain ⟨hcz121_0, hcz121_1, hcz121_2, hcz121_3, hcz121_4, hfz121_0, hfz121_1, hfz121_2, hfz121_3, hfz121_4⟩ := zh5 BK344.out) | ((with_reducible refine gate_callee (f := 22) rfl ?_); refine goesL_ (some 13) rfl rfl Tryd.func22 (by kernel_rfl) rfl #[.agg #[.int .i64 a0_0, .int .i64 a0_1, .slice A0_2 l0_2.length c0_2, .slice A0_3 l0_3.length c0_3, .slice A0_4 l0_4.length c0_4], .int .i64 1048576] rfl za ?_; (with_reducible refine (laws_szTables.calls k a0_0 a0_1 _ _ l0_2 _ _ l0_3 _ _ l0_4 1048576 t345 _ ?side1 ?side2 ?side3 ?side4 ?side5 ?side6 A2.out).mono ?_); (case side1 => exact zc (Kd.C_below HR0_2.out HB.out)); (case side2 => exact HC0_2.out); (case side3 => exact zc (Kd.C_below HR0_3.out HB.out)); (case side4 => exact HC0_3.out); (case side5 => exact zc (Kd.C_below HR0_4.out HB.out)); (case side6 => exact HC0_4.out); rintro e w122 ⟨rfl, hb⟩; refine ⟨_, rfl, ?_⟩; have n0_ := zA (zB BK344.out hb); have n1_ := zA (below_step (zs GE344.out) hb); clear BK344 HB; have BK344 := n0_; have HB := n1_; clear n0_ n1_; (try clear hb); (try clear hb2); (try clear hk); (try clear hi); obtain ⟨hcz123_0, hcz123_1, hcz123_2, hcz123_3, hcz123_4, hfz123_0, hfz123_1, hfz123_2, hfz123_3, hfz123_4⟩ := zh5 BK344.out) | ((with_reducible refine gate_callee (f := 24) rfl ?_); refine goesL_ (some 17) rfl rfl Tryd.func24 (by kernel_rfl) rfl #[.agg #[.int .i64 a0_0, .int .i64 a0_1, .slice A0_2 l0_2.length c0_2, .slice A0_3 l0_3.length c0_3, .slice A0_4 l0_4.length c0_4]] rfl za ?_; (with_reducible refine (laws_toTables.calls k a0_0 a0_1 _ _ l0_2 _ _ l0_3 _ _ l0_4 t346 t347 t348 t351 t354 _ ?side1 ?side2 ?side3 ?side4 ?side5 ?side6 A7.out).mono ?_); (case side1 => exact zc (Kd.C_below HR0_2.out HB.out)); (case side2 => exact HC0_2.out); (case side3 => exact zc (Kd.C_below HR0_3.out HB.out)); (case side4 => exact HC0_3.out); (case side5 => exact zc (Kd.C_below HR0_4.out HB.out)); (case side6 => exact HC0_4.out); rintro e w124 ⟨v349, v352, v355, rfl, ho0, ho1, ho2, hb⟩; refine ⟨_, rfl, ?_⟩; have n0_ := zA (Kd.S_lower ho0 (below_size (zs GE344.out))); have n1_ := zA (Kd.S_lower ho1 (below_size (zs GE344.out))); have n2_ := zA (Kd.S_lower ho2 (below_size (zs GE344.out))); have n3_ := zA (zB BK344.out hb); have n4_ := zA (below_step (zs GE344.out) hb); clear BK344 HB; have HO350 := n0_; have HO353 := n1_; have HO356 := n2_; have BK344 := n3_; have HB := n4_; clear n0_ n1_ n2_ n3_ n4_; (try clear hb); (try clear hb2); (try clear hk); (try clear hi); (try clear ho0); (try clear ho1); (try clear ho2); obtain ⟨Ao125, co125, eo125⟩ := Kd.S_slice HO350.out; subst eo125; obtain ⟨Ao126, co126, eo126⟩ := Kd.S_slice HO353.out; subst eo126; obtain ⟨Ao127, co127, eo127⟩ := Kd.S_slice HO356.out; subst eo127) | ((with_reducible refine gate_callee (f := 31) rfl ?_); refine goesL_ (some 18) rfl rfl Tryd.func31 (by kernel_rfl) rfl #[.agg #[.int .i64 t346, .int .i64 t347, .slice Ao125 t348.length co125, .slice Ao126 t351.length co126, .slice Ao127 t354.length co127]] rfl za ?_; (with_reducible refine (spec_EncodeImage.calls k t346 t347 _ _ t348 _ _ t351 _ _ t354 t357 _ ?side1 ?side2 ?side3 ?side4 ?side5 ?side6 A8.out).mono ?_); (case side1 => exact zc ((Kd.S_reads' HO350.out).2.2)); (case side2 => exact (Kd.S_reads' HO350.out).2.1); (case side3 => exact zc ((Kd.S_reads' HO353.out).2.2)); (case side4 => exact (Kd.S_reads' HO353.out).2.1); (case side5 => exact zc ((Kd.S_reads' HO356.out).2.2)); (case side6 => exact (Kd.S_reads' HO356.out).2.1); rintro e w128 ⟨v358, rfl, ho0, hb⟩; refine ⟨_, rfl, ?_⟩; have n0_ := zA (Kd.S_elder' (zS HO350.out) (Kd.R_base ho0) hb); have n1_ := zA (Kd.S_below (zS HO353.out) hb); have n2_ := zA (Kd.S_below (zS HO356.out) hb); have n3_ := zA (Kd.R_lower ho0 (below_size (zs GE344.out))); have n4_ := zA (zB BK344.out hb); have n5_ := zA (below_step (zs GE344.out) hb); clear HO350 HO353 HO356 BK344 HB; have HO350 := n0_; have HO353 := n1_; have HO356 := n2_; have HO359 := n3_; have BK344 := n4_; have HB := n5_; clear n0_ n1_ n2_ n3_ n4_ n5_; (try clear hb); (try clear hb2); (try clear hk); (try clear hi); (try clear ho0); obtain ⟨hcz129_0, hcz129_1, hcz129_2, hcz129_3, hcz129_4, hfz129_0, hfz129_1, hfz129_2, hfz129_3, hfz129_4⟩ := zh5 BK344.out) | ((with_reducible refine gate_callee (f := 24) rfl ?_); refine goesL_ (some 20) rfl rfl Tryd.func24 (by kernel_rfl) rfl #[.agg #[.int .i64 a0_0, .int .i64 a0_1, .slice A0_2 l0_2.length c0_2, .slice A0_3 l0_3.length c0_3, .slice A0_4 l0_4.length c0_4]] rfl za ?_; (with_reducible refine (laws_toTables.calls k a0_0 a0_1 _ _ l0_2 _ _ l0_3 _ _ l0_4 t360 t361 t362 t365 t368 _ ?side1 ?side2 ?side3 ?side4 ?side5 ?side6 A9.out).mono ?_); (case side1 => exact zc (Kd.C_below HR0_2.out HB.out)); (case side2 => exact HC0_2.out); (case side3 => exact zc (Kd.C_below HR0_3.out HB.out)); (case side4 => exact HC0_3.out); (case side5 => exact zc (Kd.C_below HR0_4.out HB.out)); (case side6 => exact HC0_4.out); rintro e w130 ⟨v363, v366, v369, rfl, ho0, ho1, ho2, hb⟩; refine ⟨_, rfl, ?_⟩; have n0_ := zA (Kd.S_elder' (zS HO350.out) (Kd.S_base ho0) hb); have n1_ := zA (Kd.S_mono (Kd.S_told (Kd.S_told (Kd.S_old (zS HO353.out) hb) (Kd.S_base ho1)) (Kd.S_base ho2)) (fun _ h_ => h_.1)); have n2_ := zA (Kd.S_mono (Kd.S_told (Kd.S_told (Kd.S_old (zS HO356.out) hb) (Kd.S_base ho1)) (Kd.S_base ho2)) (fun _ h_ => h_.1)); have n3_ := zA (Kd.R_below (zR HO359.out) hb); have n4_ := zA (Kd.S_lower (Kd.S_new' (Kd.S_new' ho0 (Kd.S_lt (zS HO350.out))) (zl HO359.out)) (below_size (zs GE344.out))); have n5_ := zA (Kd.S_lower (Kd.S_new' (Kd.S_new' ho1 (Kd.S_lt (zS HO353.out))) (Kd.S_lt (zS HO356.out))) (below_size (zs GE344.out))); have n6_ := zA (Kd.S_lower (Kd.S_new' (Kd.S_new' ho2 (Kd.S_lt (zS HO353.out))) (Kd.S_lt (zS HO356.out))) (below_size (zs GE344.out))); have n7_ := zA (zB BK344.out hb); have n8_ := zA (below_step (zs GE344.out) hb); clear HO350 HO353 HO356 HO359 BK344 HB; have HO350 := n0_; have HO353 := n1_; have HO356 := n2_; have HO359 := n3_; have HO364 := n4_; have HO367 := n5_; have HO370 := n6_; have BK344 := n7_; have HB := n8_; clear n0_ n1_ n2_ n3_ n4_ n5_ n6_ n7_ n8_; (try clear hb); (try clear hb2); (try clear hk); (try clear hi); (try clear ho0); (try clear ho1); (try clear ho2)) | ((with_reducible refine gate_dst (N := 5) rfl ?_); refine box_event ?hg (N := 5) ?hd (cs := #[.int .i64 0, .int .i64 0, .slice none 0 0, .slice none 0 0, .slice none 0 0]) (t := 47) ?hr ?_; (case hd => rfl); (case hg => rfl); (case hr => first | (go_simp; done) | (go_simp; rfl)); intro gb371 hg w131 hbox hb; have n0_ := zA (Kd.S_below (zS HO350.out) hb); have n1_ := zA (Kd.S_below (zS HO353.out) hb); have n2_ := zA (Kd.S_below (zS HO356.out) hb); have n3_ := zA (Kd.R_below (zR HO359.out) hb); have n4_ := zA (Kd.S_below (zS HO364.out) hb); have n5_ := zA (Kd.S_below (zS HO367.out) hb); have n6_ := zA (Kd.S_below (zS HO370.out) hb); have n7_ := zA (zB BK344.out hb); have n8_ := zA (below_step (zs GE344.out) hb); have n9_ := zA (hbox); have n10_ := zA ((by rw [hg]; exact (below_size (zs GE344.out)) : w.heap.size ≤ gb371)); have n11_ := zA ((by rw [hg]; exact (below_size (zs GE344.out)) : w.heap.size ≤ gb371)); have n12_ := zA ((by rw [hg]; exact Nat.ne_of_lt (zw BK344.out) : gb344 ≠ gb371)); have n13_ := zA ((by rw [hg]; exact Nat.ne_of_gt (zw BK344.out) : gb371 ≠ gb344)); clear HO350 HO353 HO356 HO359 HO364 HO367 HO370 BK344 HB; have HO350 := n0_; have HO353 := n1_; have HO356 := n2_; have HO359 := n3_; have HO364 := n4_; have HO367 := n5_; have HO370 := n6_; have BK344 := n7_; have HB := n8_; have BK371 := n9_; have GW371 := n10_; have GE371 := n11_; have NB344_371 := n12_; have NB371_344 := n13_; clear n0_ n1_ n2_ n3_ n4_ n5_ n6_ n7_ n8_ n9_ n10_ n11_ n12_ n13_; clear hb hbox hg; have hnb132 := NB371_344.out; have hnc132 := NB344_371.out; obtain ⟨hcz133_0, hcz133_1, hcz133_2, hcz133_3, hcz133_4, hfz133_0, hfz133_1, hfz133_2, hfz133_3, hfz133_4⟩ := zh5 BK371.out; obtain ⟨Ao134, co134, eo134⟩ := Kd.S_slice HO364.out; subst eo134; obtain ⟨Ao135, co135, eo135⟩ := Kd.S_slice HO367.out; subst eo135; obtain ⟨Ao136, co136, eo136⟩ := Kd.S_slice HO370.out; subst eo136) | ((with_reducible refine gate_callee (f := 32) rfl ?_); refine goesL_ (some 22) rfl rfl Tryd.func32 (by kernel_rfl) rfl #[.agg #[.int .i64 t360, .int .i64 t361, .slice Ao134 t362.length co134, .slice Ao135 t365.length co135, .slice Ao136 t368.length co136]] rfl za ?_; (with_reducible refine (impl_EncodeImage.calls k t360 t361 _ _ t362 _ _ t365 _ _ t368 t372 _ ?side1 ?side2 ?side3 ?side4 ?side5 ?side6 ?side7 A10.out).mono ?_); (case side1 => refine (Kd.S_reads' (e := 120) (base := w.heap.size) (ok := fun k_ => ((True ∧ zO k_ (.slice Ao125 t348.length co125)) ∧ zO k_ (v358))) (n := t362.length) (c := co134) ?_).2.2; exact (zT HO364.out BK371.out)); (case side2 => exact (Kd.S_reads' HO364.out).2.1); (case side3 => refine (Kd.S_reads' (e := 22) (base := w.heap.size) (ok := fun k_ => ((zO k_ (.slice Ao136 t368.length co136) ∧ zO k_ (.slice Ao126 t351.length co126)) ∧ zO k_ (.slice Ao127 t354.length co127))) (n := t365.length) (c := co135) ?_).2.2; exact (zT HO367.out BK371.out)); (case side4 => exact (Kd.S_reads' HO367.out).2.1); (case side5 => refine (Kd.S_reads' (e := 22) (base := w.heap.size) (ok := fun k_ => ((zO k_ (.slice Ao135 t365.length co135) ∧ zO k_ (.slice Ao126 t351.length co126)) ∧ zO k_ (.slice Ao127 t354.length co127))) (n := t368.length) (c := co136) ?_).2.2; exact (zT HO370.out BK371.out)); (case side6 => exact (Kd.S_reads' HO370.out).2.1); (case side7 => exact LaidW.below HLD.out (zs2 GE344.out GE371.out)); rintro e w137 ⟨v373, rfl, ho0, hb⟩; refine ⟨_, rfl, ?_⟩; have n0_ := zA (Kd.S_elder' (zT HO350.out BK371.out) (Kd.R_base ho0) hb); have n1_ := zA (Kd.S_below (zT HO353.out BK371.out) hb); have n2_ := zA (Kd.S_below (zT HO356.out BK371.out) hb); have n3_ := zA (Kd.R_elder' (zK HO359.out BK371.out) (Kd.R_base ho0) hb); have n4_ := zA (Kd.S_elder' (zT HO364.out BK371.out) (Kd.R_base ho0) hb); have n5_ := zA (Kd.S_below (zT HO367.out BK371.out) hb); have n6_ := zA (Kd.S_below (zT HO370.out BK371.out) hb); have n7_ := zA (Kd.R_lower (Kd.R_new' ho0 (zl HO359.out)) (below_size (zs2 GE344.out GE371.out))); have n8_ := zA (blk_below (g := gb344) (o := .cells #[.int .i64 a0_0, .int .i64 a0_1, .slice A0_2 l0_2.length c0_2, .slice A0_3 l0_3.length c0_3, .slice A0_4 l0_4.length c0_4] 42 (0, 0)) (zf BK344.out NB344_371.out) hb); have n9_ := zA (blk_below (g := gb371) (o := .cells #[.int .i64 t360, .int .i64 t361, .slice Ao134 t362.length co134, .slice Ao135 t365.length co135, .slice Ao136 t368.length co136] 47 (0, 0)) (zq BK371.out) hb); have n10_ := zA (below_step (zs2 GE344.out GE371.out) hb); clear HO350 HO353 HO356 HO359 HO364 HO367 HO370 BK344 BK371 HB; have HO350 := n0_; have HO353 := n1_; have HO356 := n2_; have HO359 := n3_; have HO364 := n4_; have HO367 := n5_; have HO370 := n6_; have HO374 := n7_; have BK344 := n8_; have BK371 := n9_; have HB := n10_; clear n0_ n1_ n2_ n3_ n4_ n5_ n6_ n7_ n8_ n9_ n10_; (try clear hb); (try clear hb2); (try clear hk); (try clear hi); (try clear ho0); obtain ⟨Ao138, co138, eo138⟩ := Kd.R_slice HO374.out; subst eo138; obtain ⟨Ao139, co139, eo139⟩ := Kd.R_slice HO359.out; subst eo139) | ((with_reducible refine gate_callee (f := 33) rfl ?_); refine goesL_ (some 25) rfl rfl Tryd.func33 (by kernel_rfl) rfl #[.slice Ao138 t372.length co138, .slice Ao139 t357.length co139] rfl za ?_; (with_reducible refine (laws_eqByteS.calls k _ _ t372 _ _ t357 false _ ?side1 ?side2 ?side3 ?side4 A11.out).mono ?_); (case side1 => exact zc ((Kd.R_reads' HO374.out).2.2)); (case side2 => exact (Kd.R_reads' HO374.out).2.1); (case side3 => exact zc ((Kd.R_reads' HO359.out).2.2)); (case side4 => exact (Kd.R_reads' HO359.out).2.1); rintro e w' ⟨rfl, ⟨nd, rfl⟩⟩; refine ⟨_, rfl, ?_⟩))
   go_ret
   exact ⟨ze, (zs2 GE344.out GE371.out)⟩

end Go.Proofs.YthbeplmihjhoeaaDoor.PFnExactEncodeImage
