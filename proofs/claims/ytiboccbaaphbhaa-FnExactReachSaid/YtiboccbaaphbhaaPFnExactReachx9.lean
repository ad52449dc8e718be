-- made by wip/tools/myprint.py (this session's own program, over the kit's printer)
import Derived.Test.YtiboccbaaphbhaaPFnExactReachx0
import Derived.Test.YtiboccbaaphbhaaPFnExactReachx1
import Derived.Test.YtiboccbaaphbhaaPFnExactReachx5
import Derived.Test.YtiboccbaaphbhaaPFnExactReachx8
namespace Go.Proofs.Ytiboccbaaphbhaa.PFnExactReach
open Go.RowKit Go.Proofs.YtiboccbaaphbhaaW.PrintWords Go.Proofs.YtiboccbaaphbhaaW.PrintLast Go.Proofs.YtiboccbaaphbhaaW.PrintMore
attribute [local go_sem] max2_int min2_int max_two min_two max_three min_three max_four min_four   -- for this text's walks alone
set_option linter.unusedVariables false
set_option linter.unusedSimpArgs false

/-! ### laws_FnExactReach: function 4 -/
mutual
def laws_FnExactReach.j0 : Nat → List Int → List Bool → Int → List Int → List Bool → Int → Bool → Int → List Int → List Int → List Int → List Int → Int → List Int → List Int → List Int → List Int → Option (Bool)
 | 0, _, _, _, _, _, _, _, _, _, _, _, _, _, _, _, _, _ => none
 | k + 1, x1, x6, x7, x9, x10, x11, x51, x206000, x206001, x206002, x206003, x206004, x241000, x241001, x241002, x241003, x241004 => if x51 = true then (some false) else ((laws_toGraph.f k x206000 x206001 x206002 x206003 x206004).bind fun bt249 => ((laws_eqGraph.f k x241000 x241001 x241002 x241003 x241004 bt249.1 bt249.2.1 bt249.2.2.1 bt249.2.2.2.1 bt249.2.2.2.2).bind fun t262 => (if t262 = true then ((laws_toIntS.f k x1).bind fun t263 => ((laws_eqIntS.f k x9 t263).bind fun t266 => (if t266 = true then ((laws_markGraph.f k x241000 x241001 x241002 x241003 x241004 1).bind fun bt267 => ((laws_markIntS.f k x9 bt267.1).bind fun bt272 => (if bt272.1 < 0 then (laws_FnExactReach.j1 k x1 x6 x7 x10 true x206000 x206001 x206002 x206003 x206004) else ((laws_eqBoolS.f k x10 x6).bind fun t274 => (if t274 = true then (laws_FnExactReach.j1 k x1 x6 x7 x10 (x11 != x7) x206000 x206001 x206002 x206003 x206004) else (laws_FnExactReach.j1 k x1 x6 x7 x10 true x206000 x206001 x206002 x206003 x206004)))))) else (some false)))) else (some false))))
def laws_FnExactReach.j1 : Nat → List Int → List Bool → Int → List Bool → Bool → Int → List Int → List Int → List Int → List Int → Option (Bool)
 | 0, _, _, _, _, _, _, _, _, _, _ => none
 | k + 1, x1, x6, x7, x10, x80, x206000, x206001, x206002, x206003, x206004 => if x80 = true then (some false) else ((laws_markBoolS.f k x10 1).bind fun bt275 => ((laws_heldBoolS.f k bt275.2 1).bind fun t277 => (if t277 < 0 then (some false) else (if t277 = bt275.1 then ((laws_toGraph.f k x206000 x206001 x206002 x206003 x206004).bind fun bt278 => ((laws_toIntS.f k x1).bind fun t291 => ((impl_Reach.f k bt278.1 bt278.2.1 bt278.2.2.1 bt278.2.2.2.1 bt278.2.2.2.2 t291).bind fun bt294 => ((laws_eqBoolS.f k bt294.1 x6).bind fun t298 => (if t298 = true then (laws_FnExactReach.j2 k bt275.2 bt275.1 (bt294.2 != x7)) else (laws_FnExactReach.j2 k bt275.2 bt275.1 true)))))) else (some false)))))
def laws_FnExactReach.j2 : Nat → List Bool → Int → Bool → Option (Bool)
 | 0, _, _, _ => none
 | k + 1, x10, x13, x108 => if x108 = true then (some false) else ((laws_heldBoolS.f k x10 1).bind fun t299 => (if t299 < 0 then (some false) else (if t299 = x13 then (some true) else (some false))))
end
def laws_FnExactReach.f (k : Nat) (a0_0 : Int) (l0_1 : List Int) (l0_2 : List Int) (l0_3 : List Int) (l0_4 : List Int) (l1 : List Int) : Option (Bool) := if (l1.length : Int) > 1048576 then (some true) else ((laws_szGraph.f a0_0 l0_1 l0_2 l0_3 l0_4 1048576).bind fun t206 => (if t206 < 0 then (some true) else ((laws_toGraph.f k a0_0 l0_1 l0_2 l0_3 l0_4).bind fun bt207 => ((laws_toIntS.f k l1).bind fun t220 => ((spec_Reach.f k bt207.1 bt207.2.1 bt207.2.2.1 bt207.2.2.2.1 bt207.2.2.2.2 t220).bind fun bt223 => ((laws_toGraph.f k a0_0 l0_1 l0_2 l0_3 l0_4).bind fun bt227 => ((laws_toIntS.f k l1).bind fun t241 => ((impl_Reach.f k bt227.1 bt227.2.1 bt227.2.2.1 bt227.2.2.2.1 bt227.2.2.2.2 t241).bind fun bt244 => ((laws_eqBoolS.f k bt244.1 bt223.1).bind fun t248 => (if t248 = true then (laws_FnExactReach.j0 k l1 bt223.1 bt223.2 t241 bt244.1 bt244.2 (bt244.2 != bt223.2) a0_0 l0_1 l0_2 l0_3 l0_4 bt227.1 bt227.2.1 bt227.2.2.1 bt227.2.2.2.1 bt227.2.2.2.2) else (laws_FnExactReach.j0 k l1 bt223.1 bt223.2 t241 bt244.1 bt244.2 true a0_0 l0_1 l0_2 l0_3 l0_4 bt227.1 bt227.2.1 bt227.2.2.1 bt227.2.2.2.1 bt227.2.2.2.2)))))))))))
theorem laws_FnExactReach.mono_l : ∀ k, (∀ y0 y1 y2 y3 y4 y5 y6 y7 y8 y9 y10 y11 y12 y13 y14 y15 y16, LeO (laws_FnExactReach.j0 k y0 y1 y2 y3 y4 y5 y6 y7 y8 y9 y10 y11 y12 y13 y14 y15 y16) (laws_FnExactReach.j0 (k + 1) y0 y1 y2 y3 y4 y5 y6 y7 y8 y9 y10 y11 y12 y13 y14 y15 y16)) ∧ (∀ y0 y1 y2 y3 y4 y5 y6 y7 y8 y9, LeO (laws_FnExactReach.j1 k y0 y1 y2 y3 y4 y5 y6 y7 y8 y9) (laws_FnExactReach.j1 (k + 1) y0 y1 y2 y3 y4 y5 y6 y7 y8 y9)) ∧ (∀ y0 y1 y2, LeO (laws_FnExactReach.j2 k y0 y1 y2) (laws_FnExactReach.j2 (k + 1) y0 y1 y2))
 | 0 => ⟨fun _ _ _ _ _ _ _ _ _ _ _ _ _ _ _ _ _ r h => by simp [laws_FnExactReach.j0] at h, fun _ _ _ _ _ _ _ _ _ _ r h => by simp [laws_FnExactReach.j1] at h, fun _ _ _ r h => by simp [laws_FnExactReach.j2] at h⟩
 | k + 1 => by
  obtain ⟨ih0, ih1, ih2⟩ := laws_FnExactReach.mono_l k
  refine ⟨?_, ?_, ?_⟩
  ·intro y0 y1 y2 y3 y4 y5 y6 y7 y8 y9 y10 y11 y12 y13 y14 y15 y16
   unfold laws_FnExactReach.j0
   have m1 := @impl_Reach.mono
   have m2 := @laws_eqBoolS.mono
   have m3 := @laws_eqGraph.mono
   have m4 := @laws_eqIntS.mono
   have m5 := @laws_heldBoolS.mono
   have m6 := @laws_markBoolS.mono
   have m7 := @laws_markGraph.mono
   have m8 := @laws_markIntS.mono
   have m9 := @laws_toGraph.mono
   have m10 := @laws_toIntS.mono
   have m11 := @spec_Reach.mono
   exact zm
  ·intro y0 y1 y2 y3 y4 y5 y6 y7 y8 y9
   unfold laws_FnExactReach.j1
   have m1 := @impl_Reach.mono
   have m2 := @laws_eqBoolS.mono
   have m3 := @laws_eqGraph.mono
   have m4 := @laws_eqIntS.mono
   have m5 := @laws_heldBoolS.mono
   have m6 := @laws_markBoolS.mono
   have m7 := @laws_markGraph.mono
   have m8 := @laws_markIntS.mono
   have m9 := @laws_toGraph.mono
   have m10 := @laws_toIntS.mono
   have m11 := @spec_Reach.mono
   exact zm
  ·intro y0 y1 y2
   unfold laws_FnExactReach.j2
   have m1 := @impl_Reach.mono
   have m2 := @laws_eqBoolS.mono
   have m3 := @laws_eqGraph.mono
   have m4 := @laws_eqIntS.mono
   have m5 := @laws_heldBoolS.mono
   have m6 := @laws_markBoolS.mono
   have m7 := @laws_markGraph.mono
   have m8 := @laws_markIntS.mono
   have m9 := @laws_toGraph.mono
   have m10 := @laws_toIntS.mono
   have m11 := @spec_Reach.mono
   exact zm
theorem laws_FnExactReach.mono : ∀ a0 a1 a2 a3 a4 a5 k, LeO (laws_FnExactReach.f k a0 a1 a2 a3 a4 a5) (laws_FnExactReach.f (k + 1) a0 a1 a2 a3 a4 a5) := by
 intro a0 a1 a2 a3 a4 a5 k
 obtain ⟨ih0, ih1, ih2⟩ := laws_FnExactReach.mono_l k
 unfold laws_FnExactReach.f
 have m1 := @impl_Reach.mono
 have m2 := @laws_eqBoolS.mono
 have m3 := @laws_eqGraph.mono
 have m4 := @laws_eqIntS.mono
 have m5 := @laws_heldBoolS.mono
 have m6 := @laws_markBoolS.mono
 have m7 := @laws_markGraph.mono
 have m8 := @laws_markIntS.mono
 have m9 := @laws_toGraph.mono
 have m10 := @laws_toIntS.mono
 have m11 := @spec_Reach.mono
 exact zm
set_option maxHeartbeats 8000000 in
set_option maxRecDepth 100000 in
theorem laws_FnExactReach.calls (k : Nat) (a0_0 : Int) (A0_1 : Option Addr) (c0_1 : Nat) (l0_1 : List Int) (A0_2 : Option Addr) (c0_2 : Nat) (l0_2 : List Int) (A0_3 : Option Addr) (c0_3 : Nat) (l0_3 : List Int) (A0_4 : Option Addr) (c0_4 : Nat) (l0_4 : List Int) (A1 : Option Addr) (c1 : Nat) (l1 : List Int) (r : Bool) (w : World) (hr0_1 : Kd.C (Kd.int .i64) w A0_1 l0_1.length l0_1) (hc0_1 : l0_1.length ≤ c0_1) (hr0_2 : Kd.C (Kd.int .i64) w A0_2 l0_2.length l0_2) (hc0_2 : l0_2.length ≤ c0_2) (hr0_3 : Kd.C (Kd.int .i64) w A0_3 l0_3.length l0_3) (hc0_3 : l0_3.length ≤ c0_3) (hr0_4 : Kd.C (Kd.int .i64) w A0_4 l0_4.length l0_4) (hc0_4 : l0_4.length ≤ c0_4) (hr1 : Kd.C (Kd.int .i64) w A1 l1.length l1) (hc1 : l1.length ≤ c1) (h : laws_FnExactReach.f k a0_0 l0_1 l0_2 l0_3 l0_4 l1 = some r) :
  Calls Try.prog 4 #[.agg #[.int .i64 a0_0, .slice A0_1 l0_1.length c0_1, .slice A0_2 l0_2.length c0_2, .slice A0_3 l0_3.length c0_3, .slice A0_4 l0_4.length c0_4], .slice A1 l1.length c1] w fun e w' => e = .returned (.bool r) ∧ Below w.heap.size w w' := by
 have hu24 := Try.underlying24
 have hu26 := Try.underlying26
 have HR0_1 := zA hr0_1
 have HC0_1 := zA hc0_1
 clear hr0_1 hc0_1
 have HR0_2 := zA hr0_2
 have HC0_2 := zA hc0_2
 clear hr0_2 hc0_2
 have HR0_3 := zA hr0_3
 have HC0_3 := zA hc0_3
 clear hr0_3 hc0_3
 have HR0_4 := zA hr0_4
 have HC0_4 := zA hc0_4
 clear hr0_4 hc0_4
 have HR1 := zA hr1
 have HC1 := zA hc1
 clear hr1 hc1
 have HB := zA (Below.refl w.heap.size w)
 have H : (if (l1.length : Int) > 1048576 then (some true) else ((laws_szGraph.f a0_0 l0_1 l0_2 l0_3 l0_4 1048576).bind fun t206 => (if t206 < 0 then (some true) else ((laws_toGraph.f k a0_0 l0_1 l0_2 l0_3 l0_4).bind fun bt207 => ((laws_toIntS.f k l1).bind fun t220 => ((spec_Reach.f k bt207.1 bt207.2.1 bt207.2.2.1 bt207.2.2.2.1 bt207.2.2.2.2 t220).bind fun bt223 => ((laws_toGraph.f k a0_0 l0_1 l0_2 l0_3 l0_4).bind fun bt227 => ((laws_toIntS.f k l1).bind fun t241 => ((impl_Reach.f k bt227.1 bt227.2.1 bt227.2.2.1 bt227.2.2.2.1 bt227.2.2.2.2 t241).bind fun bt244 => ((laws_eqBoolS.f k bt244.1 bt223.1).bind fun t248 => (if t248 = true then (laws_FnExactReach.j0 k l1 bt223.1 bt223.2 t241 bt244.1 bt244.2 (bt244.2 != bt223.2) a0_0 l0_1 l0_2 l0_3 l0_4 bt227.1 bt227.2.1 bt227.2.2.1 bt227.2.2.2.1 bt227.2.2.2.2) else (laws_FnExactReach.j0 k l1 bt223.1 bt223.2 t241 bt244.1 bt244.2 true a0_0 l0_1 l0_2 l0_3 l0_4 bt227.1 bt227.2.1 bt227.2.2.1 bt227.2.2.2.1 bt227.2.2.2.2)))))))))))) = some r := h
 clear h
 by_cases c3 : (l1.length : Int) > 1048576
 ·rw [if_pos c3] at H
  have c3b0 : decide (1048576 < (l1.length : Int)) = true := decide_eq_true c3
  have c3b1 : decide (1048576 < l1.length) = true := decide_eq_true (by omega)
  clear c3
  obtain rfl := Option.some.inj H
  go_enter Try.func4, Try.ntmps4
  go_wp2_with (first | ((with_reducible refine gate_dst (N := 2) rfl ?_); refine box_event ?hg (N := 2) ?hd (cs := #[.int .i64 a0_0, .slice A0_1 l0_1.length c0_1, .slice A0_2 l0_2.length c0_2, .slice A0_3 l0_3.length c0_3, .slice A0_4 l0_4.length c0_4]) (t := 24) ?hr ?_; (case hd => rfl); (case hg => rfl); (case hr => first | (go_simp; done) | (go_simp; rfl)); intro gb205 hg w4 hbox hb; have n0_ := zA (below_step z_ hb); have n1_ := zA (hbox); have n2_ := zA ((by rw [hg]; exact (below_size z_) : w.heap.size ≤ gb205)); have n3_ := zA ((by rw [hg]; exact (below_size z_) : w.heap.size ≤ gb205)); clear HB; have HB := n0_; have BK205 := n1_; have GW205 := n2_; have GE205 := n3_; clear n0_ n1_ n2_ n3_; clear hb hbox hg))
  go_ret
  exact ⟨ze, (zs GE205.out)⟩
 ·rw [if_neg c3] at H
  have c3b0 : decide (1048576 < (l1.length : Int)) = false := decide_eq_false c3
  have c3b1 : decide (1048576 < l1.length) = false := decide_eq_false (by omega)
  clear c3
  replace H := Option.bind_eq_some_iff.mp H
  obtain ⟨t206, A50, H⟩ := H
  replace H : (if t206 < 0 then (some true) else ((laws_toGraph.f k a0_0 l0_1 l0_2 l0_3 l0_4).bind fun bt207 => ((laws_toIntS.f k l1).bind fun t220 => ((spec_Reach.f k bt207.1 bt207.2.1 bt207.2.2.1 bt207.2.2.2.1 bt207.2.2.2.2 t220).bind fun bt223 => ((laws_toGraph.f k a0_0 l0_1 l0_2 l0_3 l0_4).bind fun bt227 => ((laws_toIntS.f k l1).bind fun t241 => ((impl_Reach.f k bt227.1 bt227.2.1 bt227.2.2.1 bt227.2.2.2.1 bt227.2.2.2.2 t241).bind fun bt244 => ((laws_eqBoolS.f k bt244.1 bt223.1).bind fun t248 => (if t248 = true then (laws_FnExactReach.j0 k l1 bt223.1 bt223.2 t241 bt244.1 bt244.2 (bt244.2 != bt223.2) a0_0 l0_1 l0_2 l0_3 l0_4 bt227.1 bt227.2.1 bt227.2.2.1 bt227.2.2.2.1 bt227.2.2.2.2) else (laws_FnExactReach.j0 k l1 bt223.1 bt223.2 t241 bt244.1 bt244.2 true a0_0 l0_1 l0_2 l0_3 l0_4 bt227.1 bt227.2.1 bt227.2.2.1 bt227.2.2.2.1 bt227.2.2.2.2)))))))))) = some r := H
  have A5 := zA A50
  clear A50
  by_cases c6 : t206 < 0
  ·rw [if_pos c6] at H
   have c6b0 : decide (t206 < 0) = true := decide_eq_true c6
   clear c6
   obtain rfl := Option.some.inj H
   go_enter Try.func4, Try.ntmps4
   go_wp2_with (first | ((with_reducible refine gate_dst (N := 2) rfl ?_); refine box_event ?hg (N := 2) ?hd (cs := #[.int .i64 a0_0, .slice A0_1 l0_1.length c0_1, .slice A0_2 l0_2.length c0_2, .slice A0_3 l0_3.length c0_3, .slice A0_4 l0_4.length c0_4]) (t := 24) ?hr ?_; (case hd => rfl); (case hg => rfl); (case hr => first | (go_simp; done) | (go_simp; rfl)); intro gb205 hg w7 hbox hb; have n0_ := zA (below_step z_ hb); have n1_ := zA (hbox); have n2_ := zA ((by rw [hg]; exact (below_size z_) : w.heap.size ≤ gb205)); have n3_ := zA ((by rw [hg]; exact (below_size z_) : w.heap.size ≤ gb205)); clear HB; have HB := n0_; have BK205 := n1_; have GW205 := n2_; have GE205 := n3_; clear n0_ n1_ n2_ n3_; clear hb hbox hg; obtain ⟨hcz8_0, hcz8_1, hcz8_2, hcz8_3, hcz8_4, hfz8_0, hfz8_1, hfz8_2, hfz8_3, hfz8_4⟩ := zh5 BK205.out) | ((with_reducible refine gate_callee (f := 7) rfl ?_); refine goesL_ (some 22) rfl rfl Try.func7 (by kernel_rfl) rfl #[.agg #[.int .i64 a0_0, .slice A0_1 l0_1.length c0_1, .slice A0_2 l0_2.length c0_2, .slice A0_3 l0_3.length c0_3, .slice A0_4 l0_4.length c0_4], .int .i64 1048576] rfl za ?_; (with_reducible refine (laws_szGraph.calls a0_0 _ _ l0_1 _ _ l0_2 _ _ l0_3 _ _ l0_4 1048576 t206 _ ?side1 ?side2 ?side3 ?side4 ?side5 ?side6 ?side7 ?side8 A5.out).mono ?_); (case side1 => exact zc (Kd.C_below HR0_1.out HB.out)); (case side2 => exact HC0_1.out); (case side3 => exact zc (Kd.C_below HR0_2.out HB.out)); (case side4 => exact HC0_2.out); (case side5 => exact zc (Kd.C_below HR0_3.out HB.out)); (case side6 => exact HC0_3.out); (case side7 => exact zc (Kd.C_below HR0_4.out HB.out)); (case side8 => exact HC0_4.out); rintro e w9 ⟨rfl, hb⟩; refine ⟨_, rfl, ?_⟩; have n0_ := zA (zB BK205.out hb); have n1_ := zA (below_step (zs GE205.out) hb); clear BK205 HB; have BK205 := n0_; have HB := n1_; clear n0_ n1_; (try clear hb); (try clear hb2); (try clear hk); (try clear hi)))
   go_ret
   exact ⟨ze, (zs GE205.out)⟩
  ·rw [if_neg c6] at H
   have c6b0 : decide (t206 < 0) = false := decide_eq_false c6
   clear c6
   replace H := Option.bind_eq_some_iff.mp H
   obtain ⟨⟨t207, t208, t211, t214, t217⟩, A100, H⟩ := H
   replace H : ((laws_toIntS.f k l1).bind fun t220 => ((spec_Reach.f k t207 t208 t211 t214 t217 t220).bind fun bt223 => ((laws_toGraph.f k a0_0 l0_1 l0_2 l0_3 l0_4).bind fun bt227 => ((laws_toIntS.f k l1).bind fun t241 => ((impl_Reach.f k bt227.1 bt227.2.1 bt227.2.2.1 bt227.2.2.2.1 bt227.2.2.2.2 t241).bind fun bt244 => ((laws_eqBoolS.f k bt244.1 bt223.1).bind fun t248 => (if t248 = true then (laws_FnExactReach.j0 k l1 bt223.1 bt223.2 t241 bt244.1 bt244.2 (bt244.2 != bt223.2) a0_0 l0_1 l0_2 l0_3 l0_4 bt227.1 bt227.2.1 bt227.2.2.1 bt227.2.2.2.1 bt227.2.2.2.2) else (laws_FnExactReach.j0 k l1 bt223.1 bt223.2 t241 bt244.1 bt244.2 true a0_0 l0_1 l0_2 l0_3 l0_4 bt227.1 bt227.2.1 bt227.2.2.1 bt227.2.2.2.1 bt227.2.2.2.2)))))))) = some r := H
   have A10 := zA A100
   clear A100
   replace H := Option.bind_eq_some_iff.mp H
   obtain ⟨t220, A110, H⟩ := H
   replace H : ((spec_Reach.f k t207 t208 t211 t214 t217 t220).bind fun bt223 => ((laws_toGraph.f k a0_0 l0_1 l0_2 l0_3 l0_4).bind fun bt227 => ((laws_toIntS.f k l1).bind fun t241 => ((impl_Reach.f k bt227.1 bt227.2.1 bt227.2.2.1 bt227.2.2.2.1 bt227.2.2.2.2 t241).bind fun bt244 => ((laws_eqBoolS.f k bt244.1 bt223.1).bind fun t248 => (if t248 = true then (laws_FnExactReach.j0 k l1 bt223.1 bt223.2 t241 bt244.1 bt244.2 (bt244.2 != bt223.2) a0_0 l0_1 l0_2 l0_3 l0_4 bt227.1 bt227.2.1 bt227.2.2.1 bt227.2.2.2.1 bt227.2.2.2.2) else (laws_FnExactReach.j0 k l1 bt223.1 bt223.2 t241 bt244.1 bt244.2 true a0_0 l0_1 l0_2 l0_3 l0_4 bt227.1 bt227.2.1 bt227.2.2.1 bt227.2.2.2.1 bt227.2.2.2.2))))))) = some r := H
   have A11 := zA A110
   clear A110
   replace H := Option.bind_eq_some_iff.mp H
   obtain ⟨⟨t223, t226⟩, A120, H⟩ := H
   replace H : ((laws_toGraph.f k a0_0 l0_1 l0_2 l0_3 l0_4).bind fun bt227 => ((laws_toIntS.f k l1).bind fun t241 => ((impl_Reach.f k bt227.1 bt227.2.1 bt227.2.2.1 bt227.2.2.2.1 bt227.2.2.2.2 t241).bind fun bt244 => ((laws_eqBoolS.f k bt244.1 t223).bind fun t248 => (if t248 = true then (laws_FnExactReach.j0 k l1 t223 t226 t241 bt244.1 bt244.2 (bt244.2 != t226) a0_0 l0_1 l0_2 l0_3 l0_4 bt227.1 bt227.2.1 bt227.2.2.1 bt227.2.2.2.1 bt227.2.2.2.2) else (laws_FnExactReach.j0 k l1 t223 t226 t241 bt244.1 bt244.2 true a0_0 l0_1 l0_2 l0_3 l0_4 bt227.1 bt227.2.1 bt227.2.2.1 bt227.2.2.2.1 bt227.2.2.2.2)))))) = some r := H
   have A12 := zA A120
   clear A120
   replace H := Option.bind_eq_some_iff.mp H
   obtain ⟨⟨t227, t228, t231, t234, t237⟩, A130, H⟩ := H
   replace H : ((laws_toIntS.f k l1).bind fun t241 => ((impl_Reach.f k t227 t228 t231 t234 t237 t241).bind fun bt244 => ((laws_eqBoolS.f k bt244.1 t223).bind fun t248 => (if t248 = true then (laws_FnExactReach.j0 k l1 t223 t226 t241 bt244.1 bt244.2 (bt244.2 != t226) a0_0 l0_1 l0_2 l0_3 l0_4 t227 t228 t231 t234 t237) else (laws_FnExactReach.j0 k l1 t223 t226 t241 bt244.1 bt244.2 true a0_0 l0_1 l0_2 l0_3 l0_4 t227 t228 t231 t234 t237))))) = some r := H
   have A13 := zA A130
   clear A130
   replace H := Option.bind_eq_some_iff.mp H
   obtain ⟨t241, A140, H⟩ := H
   replace H : ((impl_Reach.f k t227 t228 t231 t234 t237 t241).bind fun bt244 => ((laws_eqBoolS.f k bt244.1 t223).bind fun t248 => (if t248 = true then (laws_FnExactReach.j0 k l1 t223 t226 t241 bt244.1 bt244.2 (bt244.2 != t226) a0_0 l0_1 l0_2 l0_3 l0_4 t227 t228 t231 t234 t237) else (laws_FnExactReach.j0 k l1 t223 t226 t241 bt244.1 bt244.2 true a0_0 l0_1 l0_2 l0_3 l0_4 t227 t228 t231 t234 t237)))) = some r := H
   have A14 := zA A140
   clear A140
   replace H := Option.bind_eq_some_iff.mp H
   obtain ⟨⟨t244, t247⟩, A150, H⟩ := H
   replace H : ((laws_eqBoolS.f k t244 t223).bind fun t248 => (if t248 = true then (laws_FnExactReach.j0 k l1 t223 t226 t241 t244 t247 (t247 != t226) a0_0 l0_1 l0_2 l0_3 l0_4 t227 t228 t231 t234 t237) else (laws_FnExactReach.j0 k l1 t223 t226 t241 t244 t247 true a0_0 l0_1 l0_2 l0_3 l0_4 t227 t228 t231 t234 t237))) = some r := H
   have A15 := zA A150
   clear A150
   have HC16 := zA H
   clear H
   go_enter Try.func4, Try.ntmps4
   go_upto_region 11 with (first | ((with_reducible refine gate_dst (N := 2) rfl ?_); refine box_event ?hg (N := 2) ?hd (cs := #[.int .i64 a0_0, .slice A0_1 l0_1.length c0_1, .slice A0_2 l0_2.length c0_2, .slice A0_3 l0_3.length c0_3, .slice A0_4 l0_4.length c0_4]) (t := 24) ?hr ?_; (case hd => rfl); (case hg => rfl); (case hr => first | (go_simp; done) | (go_simp; rfl)); intro gb205 hg w17 hbox hb; have n0_ := zA (below_step z_ hb); have n1_ := zA (hbox); have n2_ := zA ((by rw [hg]; exact (below_size z_) : w.heap.size ≤ gb205)); have n3_ := zA ((by rw [hg]; exact (below_size z_) : w.heap.size ≤ gb205)); clear HB; have HB := n0_; have BK205 := n1_; have GW205 := n2_; have GE205 := n3_; clear n0_ n1_ n2_ n3_; clear hb hbox hg; obtain ⟨hcz18_0, hcz18_1, hcz18_2, hcz18_3, hcz18_4, hfz18_0, hfz18_1, hfz18_2, hfz18_3, hfz18_4⟩ := zh5 BK205.out) | ((with_reducible refine gate_callee (f := 7) rfl ?_); refine goesL_ (some 22) rfl rfl Try.func7 (by kernel_rfl) rfl #[.agg #[.int .i64 a0_0, .slice A0_1 l0_1.length c0_1, .slice A0_2 l0_2.length c0_2, .slice A0_3 l0_3.length c0_3, .slice A0_4 l0_4.length c0_4], .int .i64 1048576] rfl za ?_; (with_reducible refine (laws_szGraph.calls a0_0 _ _ l0_1 _ _ l0_2 _ _ l0_3 _ _ l0_4 1048576 t206 _ ?side1 ?side2 ?side3 ?side4 ?side5 ?side6 ?side7 ?side8 A5.out).mono ?_); (case side1 => exact zc (Kd.C_below HR0_1.out HB.out)); (case side2 => exact HC0_1.out); (case side3 => exact zc (Kd.C_below HR0_2.out HB.out)); (case side4 => exact HC0_2.out); (case side5 => exact zc (Kd.C_below HR0_3.out HB.out)); (case side6 => exact HC0_3.out); (case side7 => exact zc (Kd.C_below HR0_4.out HB.out)); (case side8 => exact HC0_4.out); rintro e w19 ⟨rfl, hb⟩; refine ⟨_, rfl, ?_⟩; have n0_ := zA (zB BK205.out hb); have n1_ := zA (below_step (zs GE205.out) hb); clear BK205 HB; have BK205 := n0_; have HB := n1_; clear n0_ n1_; (try clear hb); (try clear hb2); (try clear hk); (try clear hi); obtain ⟨hcz20_0, hcz20_1, hcz20_2, hcz20_3, hcz20_4, hfz20_0, hfz20_1, hfz20_2, hfz20_3, hfz20_4⟩ := zh5 BK205.out) | ((with_reducible refine gate_callee (f := 9) rfl ?_); refine goesL_ (some 27) rfl rfl Try.func9 (by kernel_rfl) rfl #[.agg #[.int .i64 a0_0, .slice A0_1 l0_1.length c0_1, .slice A0_2 l0_2.length c0_2, .slice A0_3 l0_3.length c0_3, .slice A0_4 l0_4.length c0_4]] rfl za ?_; (with_reducible refine (laws_toGraph.calls k a0_0 _ _ l0_1 _ _ l0_2 _ _ l0_3 _ _ l0_4 t207 t208 t211 t214 t217 _ ?side1 ?side2 ?side3 ?side4 ?side5 ?side6 ?side7 ?side8 A10.out).mono ?_); (case side1 => exact zc (Kd.C_below HR0_1.out HB.out)); (case side2 => exact HC0_1.out); (case side3 => exact zc (Kd.C_below HR0_2.out HB.out)); (case side4 => exact HC0_2.out); (case side5 => exact zc (Kd.C_below HR0_3.out HB.out)); (case side6 => exact HC0_3.out); (case side7 => exact zc (Kd.C_below HR0_4.out HB.out)); (case side8 => exact HC0_4.out); rintro e w21 ⟨v209, v212, v215, v218, rfl, ho0, ho1, ho2, ho3, hb⟩; refine ⟨_, rfl, ?_⟩; have n0_ := zA (Kd.R_lower ho0 (below_size (zs GE205.out))); have n1_ := zA (Kd.R_lower ho1 (below_size (zs GE205.out))); have n2_ := zA (Kd.R_lower ho2 (below_size (zs GE205.out))); have n3_ := zA (Kd.R_lower ho3 (below_size (zs GE205.out))); have n4_ := zA (zB BK205.out hb); have n5_ := zA (below_step (zs GE205.out) hb); clear BK205 HB; have HO210 := n0_; have HO213 := n1_; have HO216 := n2_; have HO219 := n3_; have BK205 := n4_; have HB := n5_; clear n0_ n1_ n2_ n3_ n4_ n5_; (try clear hb); (try clear hb2); (try clear hk); (try clear hi); (try clear ho0); (try clear ho1); (try clear ho2); (try clear ho3)) | ((with_reducible refine gate_callee (f := 15) rfl ?_); refine goesL_ (some 29) rfl rfl Try.func15 (by kernel_rfl) rfl #[.slice A1 l1.length c1] rfl za ?_; (with_reducible refine (laws_toIntS.calls k _ _ l1 t220 _ ?side1 ?side2 A11.out).mono ?_); (case side1 => exact zc (Kd.C_below HR1.out HB.out)); (case side2 => exact HC1.out); rintro e w22 ⟨v221, rfl, ho0, hb⟩; refine ⟨_, rfl, ?_⟩; have n0_ := zA (Kd.R_elder' (zR HO210.out) (Kd.R_base ho0) hb); have n1_ := zA (Kd.R_elder' (zR HO213.out) (Kd.R_base ho0) hb); have n2_ := zA (Kd.R_elder' (zR HO216.out) (Kd.R_base ho0) hb); have n3_ := zA (Kd.R_elder' (zR HO219.out) (Kd.R_base ho0) hb); have n4_ := zA (Kd.R_lower (Kd.R_new' (Kd.R_new' (Kd.R_new' (Kd.R_new' ho0 (zl HO210.out)) (zl HO213.out)) (zl HO216.out)) (zl HO219.out)) (below_size (zs GE205.out))); have n5_ := zA (zB BK205.out hb); have n6_ := zA (below_step (zs GE205.out) hb); clear HO210 HO213 HO216 HO219 BK205 HB; have HO210 := n0_; have HO213 := n1_; have HO216 := n2_; have HO219 := n3_; have HO222 := n4_; have BK205 := n5_; have HB := n6_; clear n0_ n1_ n2_ n3_ n4_ n5_ n6_; (try clear hb); (try clear hb2); (try clear hk); (try clear hi); (try clear ho0); obtain ⟨Ao23, co23, eo23⟩ := Kd.R_slice HO210.out; subst eo23; obtain ⟨Ao24, co24, eo24⟩ := Kd.R_slice HO213.out; subst eo24; obtain ⟨Ao25, co25, eo25⟩ := Kd.R_slice HO216.out; subst eo25; obtain ⟨Ao26, co26, eo26⟩ := Kd.R_slice HO219.out; subst eo26; obtain ⟨Ao27, co27, eo27⟩ := Kd.R_slice HO222.out; subst eo27) | ((with_reducible refine gate_callee (f := 14) rfl ?_); refine goesL_ (some 30) rfl rfl Try.func14 (by kernel_rfl) rfl #[.agg #[.int .i64 t207, .slice Ao23 t208.length co23, .slice Ao24 t211.length co24, .slice Ao25 t214.length co25, .slice Ao26 t217.length co26], .slice Ao27 t220.length co27] rfl za ?_; (with_reducible refine (spec_Reach.calls k t207 _ _ t208 _ _ t211 _ _ t214 _ _ t217 _ _ t220 t223 t226 _ ?side1 ?side2 ?side3 ?side4 ?side5 ?side6 ?side7 ?side8 ?side9 ?side10 A12.out).mono ?_); (case side1 => exact zc ((Kd.R_reads' HO210.out).2.2)); (case side2 => exact (Kd.R_reads' HO210.out).2.1); (case side3 => exact zc ((Kd.R_reads' HO213.out).2.2)); (case side4 => exact (Kd.R_reads' HO213.out).2.1); (case side5 => exact zc ((Kd.R_reads' HO216.out).2.2)); (case side6 => exact (Kd.R_reads' HO216.out).2.1); (case side7 => exact zc ((Kd.R_reads' HO219.out).2.2)); (case side8 => exact (Kd.R_reads' HO219.out).2.1); (case side9 => exact zc ((Kd.R_reads' HO222.out).2.2)); (case side10 => exact (Kd.R_reads' HO222.out).2.1); rintro e w28 ⟨v224, rfl, ho0, hb⟩; refine ⟨_, rfl, ?_⟩; have n0_ := zA (Kd.R_below (zR HO210.out) hb); have n1_ := zA (Kd.R_below (zR HO213.out) hb); have n2_ := zA (Kd.R_below (zR HO216.out) hb); have n3_ := zA (Kd.R_below (zR HO219.out) hb); have n4_ := zA (Kd.R_below (zR HO222.out) hb); have n5_ := zA (Kd.R_lower ho0 (below_size (zs GE205.out))); have n6_ := zA (zB BK205.out hb); have n7_ := zA (below_step (zs GE205.out) hb); clear HO210 HO213 HO216 HO219 HO222 BK205 HB; have HO210 := n0_; have HO213 := n1_; have HO216 := n2_; have HO219 := n3_; have HO222 := n4_; have HO225 := n5_; have BK205 := n6_; have HB := n7_; clear n0_ n1_ n2_ n3_ n4_ n5_ n6_ n7_; (try clear hb); (try clear hb2); (try clear hk); (try clear hi); (try clear ho0); obtain ⟨hcz29_0, hcz29_1, hcz29_2, hcz29_3, hcz29_4, hfz29_0, hfz29_1, hfz29_2, hfz29_3, hfz29_4⟩ := zh5 BK205.out) | ((with_reducible refine gate_callee (f := 9) rfl ?_); refine goesL_ (some 34) rfl rfl Try.func9 (by kernel_rfl) rfl #[.agg #[.int .i64 a0_0, .slice A0_1 l0_1.length c0_1, .slice A0_2 l0_2.length c0_2, .slice A0_3 l0_3.length c0_3, .slice A0_4 l0_4.length c0_4]] rfl za ?_; (with_reducible refine (laws_toGraph.calls k a0_0 _ _ l0_1 _ _ l0_2 _ _ l0_3 _ _ l0_4 t227 t228 t231 t234 t237 _ ?side1 ?side2 ?side3 ?side4 ?side5 ?side6 ?side7 ?side8 A13.out).mono ?_); (case side1 => exact zc (Kd.C_below HR0_1.out HB.out)); (case side2 => exact HC0_1.out); (case side3 => exact zc (Kd.C_below HR0_2.out HB.out)); (case side4 => exact HC0_2.out); (case side5 => exact zc (Kd.C_below HR0_3.out HB.out)); (case side6 => exact HC0_3.out); (case side7 => exact zc (Kd.C_below HR0_4.out HB.out)); (case side8 => exact HC0_4.out); rintro e w30 ⟨v229, v232, v235, v238, rfl, ho0, ho1, ho2, ho3, hb⟩; refine ⟨_, rfl, ?_⟩; have n0_ := zA (Kd.R_mono (Kd.R_told (Kd.R_told (Kd.R_told (Kd.R_told (Kd.R_old (zR HO210.out) hb) (Kd.R_base ho0)) (Kd.R_base ho1)) (Kd.R_base ho2)) (Kd.R_base ho3)) (fun _ h_ => h_.1)); have n1_ := zA (Kd.R_mono (Kd.R_told (Kd.R_told (Kd.R_told (Kd.R_told (Kd.R_old (zR HO213.out) hb) (Kd.R_base ho0)) (Kd.R_base ho1)) (Kd.R_base ho2)) (Kd.R_base ho3)) (fun _ h_ => h_.1)); have n2_ := zA (Kd.R_mono (Kd.R_told (Kd.R_told (Kd.R_told (Kd.R_told (Kd.R_old (zR HO216.out) hb) (Kd.R_base ho0)) (Kd.R_base ho1)) (Kd.R_base ho2)) (Kd.R_base ho3)) (fun _ h_ => h_.1)); have n3_ := zA (Kd.R_mono (Kd.R_told (Kd.R_told (Kd.R_told (Kd.R_told (Kd.R_old (zR HO219.out) hb) (Kd.R_base ho0)) (Kd.R_base ho1)) (Kd.R_base ho2)) (Kd.R_base ho3)) (fun _ h_ => h_.1)); have n4_ := zA (Kd.R_mono (Kd.R_told (Kd.R_told (Kd.R_told (Kd.R_told (Kd.R_old (zR HO222.out) hb) (Kd.R_base ho0)) (Kd.R_base ho1)) (Kd.R_base ho2)) (Kd.R_base ho3)) (fun _ h_ => h_.1)); have n5_ := zA (Kd.R_below (zR HO225.out) hb); have n6_ := zA (Kd.R_lower (Kd.R_new' (Kd.R_new' (Kd.R_new' (Kd.R_new' (Kd.R_new' ho0 (zl HO210.out)) (zl HO213.out)) (zl HO216.out)) (zl HO219.out)) (zl HO222.out)) (below_size (zs GE205.out))); have n7_ := zA (Kd.R_lower (Kd.R_new' (Kd.R_new' (Kd.R_new' (Kd.R_new' (Kd.R_new' ho1 (zl HO210.out)) (zl HO213.out)) (zl HO216.out)) (zl HO219.out)) (zl HO222.out)) (below_size (zs GE205.out))); have n8_ := zA (Kd.R_lower (Kd.R_new' (Kd.R_new' (Kd.R_new' (Kd.R_new' (Kd.R_new' ho2 (zl HO210.out)) (zl HO213.out)) (zl HO216.out)) (zl HO219.out)) (zl HO222.out)) (below_size (zs GE205.out))); have n9_ := zA (Kd.R_lower (Kd.R_new' (Kd.R_new' (Kd.R_new' (Kd.R_new' (Kd.R_new' ho3 (zl HO210.out)) (zl HO213.out)) (zl HO216.out)) (zl HO219.out)) (zl HO222.out)) (below_size (zs GE205.out))); have n10_ := zA (zB BK205.out hb); have n11_ := zA (below_step (zs GE205.out) hb); clear HO210 HO213 HO216 HO219 HO222 HO225 BK205 HB; have HO210 := n0_; have HO213 := n1_; have HO216 := n2_; have HO219 := n3_; have HO222 := n4_; have HO225 := n5_; have HO230 := n6_; have HO233 := n7_; have HO236 := n8_; have HO239 := n9_; have BK205 := n10_; have HB := n11_; clear n0_ n1_ n2_ n3_ n4_ n5_ n6_ n7_ n8_ n9_ n10_ n11_; (try clear hb); (try clear hb2); (try clear hk); (try clear hi); (try clear ho0); (try clear ho1); (try clear ho2); (try clear ho3)) | ((with_reducible refine gate_dst (N := 8) rfl ?_); refine box_event ?hg (N := 8) ?hd (cs := #[.int .i64 0, .slice none 0 0, .slice none 0 0, .slice none 0 0, .slice none 0 0]) (t := 26) ?hr ?_; (case hd => rfl); (case hg => rfl); (case hr => first | (go_simp; done) | (go_simp; rfl)); intro gb240 hg w31 hbox hb; have n0_ := zA (Kd.R_below (zR HO210.out) hb); have n1_ := zA (Kd.R_below (zR HO213.out) hb); have n2_ := zA (Kd.R_below (zR HO216.out) hb); have n3_ := zA (Kd.R_below (zR HO219.out) hb); have n4_ := zA (Kd.R_below (zR HO222.out) hb); have n5_ := zA (Kd.R_below (zR HO225.out) hb); have n6_ := zA (Kd.R_below (zR HO230.out) hb); have n7_ := zA (Kd.R_below (zR HO233.out) hb); have n8_ := zA (Kd.R_below (zR HO236.out) hb); have n9_ := zA (Kd.R_below (zR HO239.out) hb); have n10_ := zA (zB BK205.out hb); have n11_ := zA (below_step (zs GE205.out) hb); have n12_ := zA (hbox); have n13_ := zA ((by rw [hg]; exact (below_size (zs GE205.out)) : w.heap.size ≤ gb240)); have n14_ := zA ((by rw [hg]; exact (below_size (zs GE205.out)) : w.heap.size ≤ gb240)); have n15_ := zA ((by rw [hg]; exact Nat.ne_of_lt (zw BK205.out) : gb205 ≠ gb240)); have n16_ := zA ((by rw [hg]; exact Nat.ne_of_gt (zw BK205.out) : gb240 ≠ gb205)); clear HO210 HO213 HO216 HO219 HO222 HO225 HO230 HO233 HO236 HO239 BK205 HB; have HO210 := n0_; have HO213 := n1_; have HO216 := n2_; have HO219 := n3_; have HO222 := n4_; have HO225 := n5_; have HO230 := n6_; have HO233 := n7_; have HO236 := n8_; have HO239 := n9_; have BK205 := n10_; have HB := n11_; have BK240 := n12_; have GW240 := n13_; have GE240 := n14_; have NB205_240 := n15_; have NB240_205 := n16_; clear n0_ n1_ n2_ n3_ n4_ n5_ n6_ n7_ n8_ n9_ n10_ n11_ n12_ n13_ n14_ n15_ n16_; clear hb hbox hg; have hnb32 := NB240_205.out; have hnc32 := NB205_240.out; obtain ⟨hcz33_0, hcz33_1, hcz33_2, hcz33_3, hcz33_4, hfz33_0, hfz33_1, hfz33_2, hfz33_3, hfz33_4⟩ := zh5 BK240.out; obtain ⟨Ao34, co34, eo34⟩ := Kd.R_slice HO230.out; subst eo34; obtain ⟨Ao35, co35, eo35⟩ := Kd.R_slice HO233.out; subst eo35; obtain ⟨Ao36, co36, eo36⟩ := Kd.R_slice HO236.out; subst eo36; obtain ⟨Ao37, co37, eo37⟩ := Kd.R_slice HO239.out; subst eo37) | ((with_reducible refine gate_callee (f := 15) rfl ?_); refine goesL_ (some 36) rfl rfl Try.func15 (by kernel_rfl) rfl #[.slice A1 l1.length c1] rfl za ?_; (with_reducible refine (laws_toIntS.calls k _ _ l1 t241 _ ?side1 ?side2 A14.out).mono ?_); (case side1 => exact Kd.C_below HR1.out (zs2 GE205.out GE240.out)); (case side2 => exact HC1.out); rintro e w38 ⟨v242, rfl, ho0, hb⟩; refine ⟨_, rfl, ?_⟩; have n0_ := zA (Kd.R_elder' (zK HO210.out BK240.out) (Kd.R_base ho0) hb); have n1_ := zA (Kd.R_elder' (zK HO213.out BK240.out) (Kd.R_base ho0) hb); have n2_ := zA (Kd.R_elder' (zK HO216.out BK240.out) (Kd.R_base ho0) hb); have n3_ := zA (Kd.R_elder' (zK HO219.out BK240.out) (Kd.R_base ho0) hb); have n4_ := zA (Kd.R_elder' (zK HO222.out BK240.out) (Kd.R_base ho0) hb); have n5_ := zA (Kd.R_below (zK HO225.out BK240.out) hb); have n6_ := zA (Kd.R_elder' (zK HO230.out BK240.out) (Kd.R_base ho0) hb); have n7_ := zA (Kd.R_elder' (zK HO233.out BK240.out) (Kd.R_base ho0) hb); have n8_ := zA (Kd.R_elder' (zK HO236.out BK240.out) (Kd.R_base ho0) hb); have n9_ := zA (Kd.R_elder' (zK HO239.out BK240.out) (Kd.R_base ho0) hb); have n10_ := zA (Kd.R_lower (Kd.R_new' (Kd.R_new' (Kd.R_new' (Kd.R_new' (Kd.R_new' (Kd.R_new' (Kd.R_new' (Kd.R_new' (Kd.R_new' ho0 (zl HO210.out)) (zl HO213.out)) (zl HO216.out)) (zl HO219.out)) (zl HO222.out)) (zl HO230.out)) (zl HO233.out)) (zl HO236.out)) (zl HO239.out)) (below_size (zs2 GE205.out GE240.out))); have n11_ := zA (blk_below (g := gb205) (o := .cells #[.int .i64 a0_0, .slice A0_1 l0_1.length c0_1, .slice A0_2 l0_2.length c0_2, .slice A0_3 l0_3.length c0_3, .slice A0_4 l0_4.length c0_4] 24 (0, 0)) (zf BK205.out NB205_240.out) hb); have n12_ := zA (blk_below (g := gb240) (o := .cells #[.int .i64 t227, .slice Ao34 t228.length co34, .slice Ao35 t231.length co35, .slice Ao36 t234.length co36, .slice Ao37 t237.length co37] 26 (0, 0)) (zq BK240.out) hb); have n13_ := zA (below_step (zs2 GE205.out GE240.out) hb); clear HO210 HO213 HO216 HO219 HO222 HO225 HO230 HO233 HO236 HO239 BK205 BK240 HB; have HO210 := n0_; have HO213 := n1_; have HO216 := n2_; have HO219 := n3_; have HO222 := n4_; have HO225 := n5_; have HO230 := n6_; have HO233 := n7_; have HO236 := n8_; have HO239 := n9_; have HO243 := n10_; have BK205 := n11_; have BK240 := n12_; have HB := n13_; clear n0_ n1_ n2_ n3_ n4_ n5_ n6_ n7_ n8_ n9_ n10_ n11_ n12_ n13_; (try clear hb); (try clear hb2); (try clear hk); (try clear hi); (try clear ho0); obtain ⟨hcz39_0, hcz39_1, hcz39_2, hcz39_3, hcz39_4, hfz39_0, hfz39_1, hfz39_2, hfz39_3, hfz39_4⟩ := zh5 BK240.out; obtain ⟨Ao40, co40, eo40⟩ := Kd.R_slice HO243.out; subst eo40) | ((with_reducible refine gate_callee (f := 16) rfl ?_); refine goesL_ (some 40) rfl rfl Try.func16 (by kernel_rfl) rfl #[.agg #[.int .i64 t227, .slice Ao34 t228.length co34, .slice Ao35 t231.length co35, .slice Ao36 t234.length co36, .slice Ao37 t237.length co37], .slice Ao40 t241.length co40] rfl za ?_; (with_reducible refine (impl_Reach.calls k t227 _ _ t228 _ _ t231 _ _ t234 _ _ t237 _ _ t241 t244 t247 _ ?side1 ?side2 ?side3 ?side4 ?side5 ?side6 ?side7 ?side8 ?side9 ?side10 A15.out).mono ?_); (case side1 => exact zc ((Kd.R_reads' HO230.out).2.2)); (case side2 => exact (Kd.R_reads' HO230.out).2.1); (case side3 => exact zc ((Kd.R_reads' HO233.out).2.2)); (case side4 => exact (Kd.R_reads' HO233.out).2.1); (case side5 => exact zc ((Kd.R_reads' HO236.out).2.2)); (case side6 => exact (Kd.R_reads' HO236.out).2.1); (case side7 => exact zc ((Kd.R_reads' HO239.out).2.2)); (case side8 => exact (Kd.R_reads' HO239.out).2.1); (case side9 => exact zc ((Kd.R_reads' HO243.out).2.2)); (case side10 => exact (Kd.R_reads' HO243.out).2.1); rintro e w41 ⟨v245, rfl, ho0, hb⟩; refine ⟨_, rfl, ?_⟩; have n0_ := zA (Kd.R_below (zR HO210.out) hb); have n1_ := zA (Kd.R_below (zR HO213.out) hb); have n2_ := zA (Kd.R_below (zR HO216.out) hb); have n3_ := zA (Kd.R_below (zR HO219.out) hb); have n4_ := zA (Kd.R_below (zR HO222.out) hb); have n5_ := zA (Kd.R_elder' (zR HO225.out) (Kd.R_base ho0) hb); have n6_ := zA (Kd.R_below (zR HO230.out) hb); have n7_ := zA (Kd.R_below (zR HO233.out) hb); have n8_ := zA (Kd.R_below (zR HO236.out) hb); have n9_ := zA (Kd.R_below (zR HO239.out) hb); have n10_ := zA (Kd.R_below (zR HO243.out) hb); have n11_ := zA (Kd.R_lower (Kd.R_new' ho0 (zl HO225.out)) (below_size (zs2 GE205.out GE240.out))); have n12_ := zA (zB BK205.out hb); have n13_ := zA (zB BK240.out hb); have n14_ := zA (below_step (zs2 GE205.out GE240.out) hb); clear HO210 HO213 HO216 HO219 HO222 HO225 HO230 HO233 HO236 HO239 HO243 BK205 BK240 HB; have HO210 := n0_; have HO213 := n1_; have HO216 := n2_; have HO219 := n3_; have HO222 := n4_; have HO225 := n5_; have HO230 := n6_; have HO233 := n7_; have HO236 := n8_; have HO239 := n9_; have HO243 := n10_; have HO246 := n11_; have BK205 := n12_; have BK240 := n13_; have HB := n14_; clear n0_ n1_ n2_ n3_ n4_ n5_ n6_ n7_ n8_ n9_ n10_ n11_ n12_ n13_ n14_; (try clear hb); (try clear hb2); (try clear hk); (try clear hi); (try clear ho0)))
   (try simp only [Act.put, List.setIfInBounds_toArray, List.set_cons_zero, List.set_cons_succ])
   go_cut [51] (fun v51 wc => ∃ (kq : Nat) (x51_15 : Bool), v51 = .bool x51_15 ∧ Aside0 (laws_FnExactReach.j0 kq l1 t223 t226 t241 t244 t247 x51_15 a0_0 l0_1 l0_2 l0_3 l0_4 t227 t228 t231 t234 t237 = some r) ∧ Aside0 (kq ≤ k) ∧ Aside0 (Kd.R Kd.bool 4 wc w.heap.size (fun k_ => zO k_ (v245)) v224 t223) ∧ Aside0 (Kd.R (Kd.int .i64) 3 wc w.heap.size (fun k_ => zO k_ ((.slice Ao34 t228.length co34)) ∧ zO k_ ((.slice Ao35 t231.length co35)) ∧ zO k_ ((.slice Ao36 t234.length co36)) ∧ zO k_ ((.slice Ao37 t237.length co37))) (.slice Ao40 t241.length co40) t241) ∧ Aside0 (Kd.R Kd.bool 4 wc w.heap.size (fun k_ => zO k_ (v224)) v245 t244) ∧ Aside0 (Kd.R (Kd.int .i64) 3 wc w.heap.size (fun k_ => zO k_ ((.slice Ao40 t241.length co40)) ∧ zO k_ ((.slice Ao35 t231.length co35)) ∧ zO k_ ((.slice Ao36 t234.length co36)) ∧ zO k_ ((.slice Ao37 t237.length co37))) (.slice Ao34 t228.length co34) t228) ∧ Aside0 (Kd.R (Kd.int .i64) 3 wc w.heap.size (fun k_ => zO k_ ((.slice Ao40 t241.length co40)) ∧ zO k_ ((.slice Ao34 t228.length co34)) ∧ zO k_ ((.slice Ao36 t234.length co36)) ∧ zO k_ ((.slice Ao37 t237.length co37))) (.slice Ao35 t231.length co35) t231) ∧ Aside0 (Kd.R (Kd.int .i64) 3 wc w.heap.size (fun k_ => zO k_ ((.slice Ao40 t241.length co40)) ∧ zO k_ ((.slice Ao34 t228.length co34)) ∧ zO k_ ((.slice Ao35 t231.length co35)) ∧ zO k_ ((.slice Ao37 t237.length co37))) (.slice Ao36 t234.length co36) t234) ∧ Aside0 (Kd.R (Kd.int .i64) 3 wc w.heap.size (fun k_ => zO k_ ((.slice Ao40 t241.length co40)) ∧ zO k_ ((.slice Ao34 t228.length co34)) ∧ zO k_ ((.slice Ao35 t231.length co35)) ∧ zO k_ ((.slice Ao36 t234.length co36))) (.slice Ao37 t237.length co37) t237) ∧ Aside0 (wc.heap[gb205]? = some (.cells #[.int .i64 a0_0, (.slice A0_1 l0_1.length c0_1), (.slice A0_2 l0_2.length c0_2), (.slice A0_3 l0_3.length c0_3), (.slice A0_4 l0_4.length c0_4)] 24 (0, 0))) ∧ Aside0 (wc.heap[gb240]? = some (.cells #[.int .i64 t227, (.slice Ao34 t228.length co34), (.slice Ao35 t231.length co35), (.slice Ao36 t234.length co36), (.slice Ao37 t237.length co37)] 26 (0, 0))) ∧ Aside0 (Below w.heap.size w wc))
   case first =>
    have H := HC16.out
    clear HC16
    replace H := Option.bind_eq_some_iff.mp H
    obtain ⟨t248, A420, H⟩ := H
    replace H : (if t248 = true then (laws_FnExactReach.j0 k l1 t223 t226 t241 t244 t247 (t247 != t226) a0_0 l0_1 l0_2 l0_3 l0_4 t227 t228 t231 t234 t237) else (laws_FnExactReach.j0 k l1 t223 t226 t241 t244 t247 true a0_0 l0_1 l0_2 l0_3 l0_4 t227 t228 t231 t234 t237)) = some r := H
    have A42 := zA A420
    clear A420
    by_cases c43 : t248 = true
    ·subst c43
     have H1 : (laws_FnExactReach.j0 k l1 t223 t226 t241 t244 t247 (t247 != t226) a0_0 l0_1 l0_2 l0_3 l0_4 t227 t228 t231 t234 t237) = some r := by rw [if_pos rfl] at H; exact H
     clear H
     have H := H1
     clear H1
     have H' := zA H
     clear H
     obtain ⟨Ao44, co44, eo44⟩ := Kd.R_slice HO246.out
     subst eo44
     obtain ⟨Ao45, co45, eo45⟩ := Kd.R_slice HO225.out
     subst eo45
     go_wp2_with (first | ((with_reducible refine gate_callee (f := 17) rfl ?_); refine goesL_ (some 45) rfl rfl Try.func17 (by kernel_rfl) rfl #[.slice Ao44 t244.length co44, .slice Ao45 t223.length co45] rfl za ?_; (with_reducible refine (laws_eqBoolS.calls k _ _ t244 _ _ t223 true _ ?side1 ?side2 ?side3 ?side4 A42.out).mono ?_); (case side1 => exact zc ((Kd.R_reads' HO246.out).2.2)); (case side2 => exact (Kd.R_reads' HO246.out).2.1); (case side3 => exact zc ((Kd.R_reads' HO225.out).2.2)); (case side4 => exact (Kd.R_reads' HO225.out).2.1); rintro e w' ⟨rfl, ⟨nd, rfl⟩⟩; refine ⟨_, rfl, ?_⟩))
     go_meet
     case rel => exact ⟨_, ((t247 != t226)), zr, H', ⟨by first | omega | exact Nat.le_refl _⟩, ⟨zo HO225.out (fun _ hk => hk.2)⟩, ⟨zo HO243.out zy⟩, ⟨zo HO246.out (fun _ hk => hk.2)⟩, ⟨zo HO230.out zy⟩, ⟨zo HO233.out zy⟩, ⟨zo HO236.out zy⟩, ⟨zo HO239.out zy⟩, ⟨zb BK205.out⟩, ⟨zb BK240.out⟩, ⟨(zs2 GE205.out GE240.out)⟩⟩
    ·replace c43 := Bool.eq_false_iff.mpr c43
     subst c43
     have H1 : (laws_FnExactReach.j0 k l1 t223 t226 t241 t244 t247 true a0_0 l0_1 l0_2 l0_3 l0_4 t227 t228 t231 t234 t237) = some r := by rw [if_neg (show ¬ (false = true) by decide)] at H; exact H
     clear H
     have H := H1
     clear H1
     have H' := zA H
     clear H
     obtain ⟨Ao46, co46, eo46⟩ := Kd.R_slice HO246.out
     subst eo46
     obtain ⟨Ao47, co47, eo47⟩ := Kd.R_slice HO225.out
     subst eo47
     go_wp2_with (first | ((with_reducible refine gate_callee (f := 17) rfl ?_); refine goesL_ (some 45) rfl rfl Try.func17 (by kernel_rfl) rfl #[.slice Ao46 t244.length co46, .slice Ao47 t223.length co47] rfl za ?_; (with_reducible refine (laws_eqBoolS.calls k _ _ t244 _ _ t223 false _ ?side1 ?side2 ?side3 ?side4 A42.out).mono ?_); (case side1 => exact zc ((Kd.R_reads' HO246.out).2.2)); (case side2 => exact (Kd.R_reads' HO246.out).2.1); (case side3 => exact zc ((Kd.R_reads' HO225.out).2.2)); (case side4 => exact (Kd.R_reads' HO225.out).2.1); rintro e w' ⟨rfl, ⟨nd, rfl⟩⟩; refine ⟨_, rfl, ?_⟩))
     go_meet
     case rel => exact ⟨_, (true), zr, H', ⟨by first | omega | exact Nat.le_refl _⟩, ⟨zo HO225.out (fun _ hk => hk.2)⟩, ⟨zo HO243.out zy⟩, ⟨zo HO246.out (fun _ hk => hk.2)⟩, ⟨zo HO230.out zy⟩, ⟨zo HO233.out zy⟩, ⟨zo HO236.out zy⟩, ⟨zo HO239.out zy⟩, ⟨zb BK205.out⟩, ⟨zb BK240.out⟩, ⟨(zs2 GE205.out GE240.out)⟩⟩
   case rest =>
    clear HC16
    (try clear c1); (try clear p2); (try clear c3); (try clear c3b0); (try clear c3b1); (try clear c4); (try clear c6); (try clear c6b0); (try clear c7); (try clear c9); (try clear c14); (try clear c15); (try clear c16); (try clear c17); (try clear c32); (try clear c43); (try clear hcz18_0 hcz18_1 hcz18_2 hcz18_3 hcz18_4); (try clear hcz20_0 hcz20_1 hcz20_2 hcz20_3 hcz20_4); (try clear hcz29_0 hcz29_1 hcz29_2 hcz29_3 hcz29_4); (try clear hcz33_0 hcz33_1 hcz33_2 hcz33_3 hcz33_4); (try clear hcz39_0 hcz39_1 hcz39_2 hcz39_3 hcz39_4); (try clear hcz8_0 hcz8_1 hcz8_2 hcz8_3 hcz8_4); (try clear hfz18_0 hfz18_1 hfz18_2 hfz18_3 hfz18_4); (try clear hfz20_0 hfz20_1 hfz20_2 hfz20_3 hfz20_4); (try clear hfz29_0 hfz29_1 hfz29_2 hfz29_3 hfz29_4); (try clear hfz33_0 hfz33_1 hfz33_2 hfz33_3 hfz33_4); (try clear hfz39_0 hfz39_1 hfz39_2 hfz39_3 hfz39_4); (try clear hfz8_0 hfz8_1 hfz8_2 hfz8_3 hfz8_4)
    obtain ⟨kq, x51_15, rfl, HA, HJ15, HO_6, HO_9, HO_10, HO_241001, HO_241002, HO_241003, HO_241004, BK205, BK240, HB⟩ := hcut
    cases kq with
    | zero => exact absurd HA.out (by simp [laws_FnExactReach.j0])
    | succ kj15 =>
     have H := HA.out
     clear HA
     simp only [laws_FnExactReach.j0] at H
     by_cases c48 : x51_15 = true
     ·subst c48
      have H1 : (some false) = some r := by rw [if_pos rfl] at H; exact H
      clear H
      have H := H1
      clear H1
      obtain rfl := Option.some.inj H
      go_wp2
      go_ret
      exact ⟨ze, (zs2 GE205.out GE240.out)⟩
     ·replace c48 := Bool.eq_false_iff.mpr c48
      subst c48
      have H1 : ((laws_toGraph.f kj15 a0_0 l0_1 l0_2 l0_3 l0_4).bind fun bt249 => ((laws_eqGraph.f kj15 t227 t228 t231 t234 t237 bt249.1 bt249.2.1 bt249.2.2.1 bt249.2.2.2.1 bt249.2.2.2.2).bind fun t262 => (if t262 = true then ((laws_toIntS.f kj15 l1).bind fun t263 => ((laws_eqIntS.f kj15 t241 t263).bind fun t266 => (if t266 = true then ((laws_markGraph.f kj15 t227 t228 t231 t234 t237 1).bind fun bt267 => ((laws_markIntS.f kj15 t241 bt267.1).bind fun bt272 => (if bt272.1 < 0 then (laws_FnExactReach.j1 kj15 l1 t223 t226 t244 true a0_0 l0_1 l0_2 l0_3 l0_4) else ((laws_eqBoolS.f kj15 t244 t223).bind fun t274 => (if t274 = true then (laws_FnExactReach.j1 kj15 l1 t223 t226 t244 (t247 != t226) a0_0 l0_1 l0_2 l0_3 l0_4) else (laws_FnExactReach.j1 kj15 l1 t223 t226 t244 true a0_0 l0_1 l0_2 l0_3 l0_4)))))) else (some false)))) else (some false)))) = some r := by rw [if_neg (show ¬ (false = true) by decide)] at H; exact H
      clear H
      have H := H1
      clear H1
      replace H := Option.bind_eq_some_iff.mp H
      obtain ⟨⟨t249, t250, t253, t256, t259⟩, A490, H⟩ := H
      replace H : ((laws_eqGraph.f kj15 t227 t228 t231 t234 t237 t249 t250 t253 t256 t259).bind fun t262 => (if t262 = true then ((laws_toIntS.f kj15 l1).bind fun t263 => ((laws_eqIntS.f kj15 t241 t263).bind fun t266 => (if t266 = true then ((laws_markGraph.f kj15 t227 t228 t231 t234 t237 1).bind fun bt267 => ((laws_markIntS.f kj15 t241 bt267.1).bind fun bt272 => (if bt272.1 < 0 then (laws_FnExactReach.j1 kj15 l1 t223 t226 t244 true a0_0 l0_1 l0_2 l0_3 l0_4) else ((laws_eqBoolS.f kj15 t244 t223).bind fun t274 => (if t274 = true then (laws_FnExactReach.j1 kj15 l1 t223 t226 t244 (t247 != t226) a0_0 l0_1 l0_2 l0_3 l0_4) else (laws_FnExactReach.j1 kj15 l1 t223 t226 t244 true a0_0 l0_1 l0_2 l0_3 l0_4)))))) else (some false)))) else (some false))) = some r := H
      have A49 := zA A490
      clear A490
      replace H := Option.bind_eq_some_iff.mp H
      obtain ⟨t262, A500, H⟩ := H
      replace H : (if t262 = true then ((laws_toIntS.f kj15 l1).bind fun t263 => ((laws_eqIntS.f kj15 t241 t263).bind fun t266 => (if t266 = true then ((laws_markGraph.f kj15 t227 t228 t231 t234 t237 1).bind fun bt267 => ((laws_markIntS.f kj15 t241 bt267.1).bind fun bt272 => (if bt272.1 < 0 then (laws_FnExactReach.j1 kj15 l1 t223 t226 t244 true a0_0 l0_1 l0_2 l0_3 l0_4) else ((laws_eqBoolS.f kj15 t244 t223).bind fun t274 => (if t274 = true then (laws_FnExactReach.j1 kj15 l1 t223 t226 t244 (t247 != t226) a0_0 l0_1 l0_2 l0_3 l0_4) else (laws_FnExactReach.j1 kj15 l1 t223 t226 t244 true a0_0 l0_1 l0_2 l0_3 l0_4)))))) else (some false)))) else (some false)) = some r := H
      have A50 := zA A500
      clear A500
      by_cases c51 : t262 = true
      ·subst c51
       have H1 : ((laws_toIntS.f kj15 l1).bind fun t263 => ((laws_eqIntS.f kj15 t241 t263).bind fun t266 => (if t266 = true then ((laws_markGraph.f kj15 t227 t228 t231 t234 t237 1).bind fun bt267 => ((laws_markIntS.f kj15 t241 bt267.1).bind fun bt272 => (if bt272.1 < 0 then (laws_FnExactReach.j1 kj15 l1 t223 t226 t244 true a0_0 l0_1 l0_2 l0_3 l0_4) else ((laws_eqBoolS.f kj15 t244 t223).bind fun t274 => (if t274 = true then (laws_FnExactReach.j1 kj15 l1 t223 t226 t244 (t247 != t226) a0_0 l0_1 l0_2 l0_3 l0_4) else (laws_FnExactReach.j1 kj15 l1 t223 t226 t244 true a0_0 l0_1 l0_2 l0_3 l0_4)))))) else (some false)))) = some r := by rw [if_pos rfl] at H; exact H
       clear H
       have H := H1
       clear H1
       replace H := Option.bind_eq_some_iff.mp H
       obtain ⟨t263, A520, H⟩ := H
       replace H : ((laws_eqIntS.f kj15 t241 t263).bind fun t266 => (if t266 = true then ((laws_markGraph.f kj15 t227 t228 t231 t234 t237 1).bind fun bt267 => ((laws_markIntS.f kj15 t241 bt267.1).bind fun bt272 => (if bt272.1 < 0 then (laws_FnExactReach.j1 kj15 l1 t223 t226 t244 true a0_0 l0_1 l0_2 l0_3 l0_4) else ((laws_eqBoolS.f kj15 t244 t223).bind fun t274 => (if t274 = true then (laws_FnExactReach.j1 kj15 l1 t223 t226 t244 (t247 != t226) a0_0 l0_1 l0_2 l0_3 l0_4) else (laws_FnExactReach.j1 kj15 l1 t223 t226 t244 true a0_0 l0_1 l0_2 l0_3 l0_4)))))) else (some false))) = some r := H
       have A52 := zA A520
       clear A520
       replace H := Option.bind_eq_some_iff.mp H
       obtain ⟨t266, A530, H⟩ := H
       replace H : (if t266 = true then ((laws_markGraph.f kj15 t227 t228 t231 t234 t237 1).bind fun bt267 => ((laws_markIntS.f kj15 t241 bt267.1).bind fun bt272 => (if bt272.1 < 0 then (laws_FnExactReach.j1 kj15 l1 t223 t226 t244 true a0_0 l0_1 l0_2 l0_3 l0_4) else ((laws_eqBoolS.f kj15 t244 t223).bind fun t274 => (if t274 = true then (laws_FnExactReach.j1 kj15 l1 t223 t226 t244 (t247 != t226) a0_0 l0_1 l0_2 l0_3 l0_4) else (laws_FnExactReach.j1 kj15 l1 t223 t226 t244 true a0_0 l0_1 l0_2 l0_3 l0_4)))))) else (some false)) = some r := H
       have A53 := zA A530
       clear A530
       by_cases c54 : t266 = true
       ·subst c54
        have H1 : ((laws_markGraph.f kj15 t227 t228 t231 t234 t237 1).bind fun bt267 => ((laws_markIntS.f kj15 t241 bt267.1).bind fun bt272 => (if bt272.1 < 0 then (laws_FnExactReach.j1 kj15 l1 t223 t226 t244 true a0_0 l0_1 l0_2 l0_3 l0_4) else ((laws_eqBoolS.f kj15 t244 t223).bind fun t274 => (if t274 = true then (laws_FnExactReach.j1 kj15 l1 t223 t226 t244 (t247 != t226) a0_0 l0_1 l0_2 l0_3 l0_4) else (laws_FnExactReach.j1 kj15 l1 t223 t226 t244 true a0_0 l0_1 l0_2 l0_3 l0_4)))))) = some r := by rw [if_pos rfl] at H; exact H
        clear H
        have H := H1
        clear H1
        replace H := Option.bind_eq_some_iff.mp H
        obtain ⟨⟨t267, t268, t269, t270, t271⟩, A550, H⟩ := H
        replace H : ((laws_markIntS.f kj15 t241 t267).bind fun bt272 => (if bt272.1 < 0 then (laws_FnExactReach.j1 kj15 l1 t223 t226 t244 true a0_0 l0_1 l0_2 l0_3 l0_4) else ((laws_eqBoolS.f kj15 t244 t223).bind fun t274 => (if t274 = true then (laws_FnExactReach.j1 kj15 l1 t223 t226 t244 (t247 != t226) a0_0 l0_1 l0_2 l0_3 l0_4) else (laws_FnExactReach.j1 kj15 l1 t223 t226 t244 true a0_0 l0_1 l0_2 l0_3 l0_4))))) = some r := H
        have A55 := zA A550
        clear A550
        replace H := Option.bind_eq_some_iff.mp H
        obtain ⟨⟨t272, t273⟩, A560, H⟩ := H
        replace H : (if t272 < 0 then (laws_FnExactReach.j1 kj15 l1 t223 t226 t244 true a0_0 l0_1 l0_2 l0_3 l0_4) else ((laws_eqBoolS.f kj15 t244 t223).bind fun t274 => (if t274 = true then (laws_FnExactReach.j1 kj15 l1 t223 t226 t244 (t247 != t226) a0_0 l0_1 l0_2 l0_3 l0_4) else (laws_FnExactReach.j1 kj15 l1 t223 t226 t244 true a0_0 l0_1 l0_2 l0_3 l0_4)))) = some r := H
        have A56 := zA A560
        clear A560
        have HC57 := zA H
        clear H
        try go_wp2
        have n0_ := zA (Kd.R_drew HO_6.out)
        have n1_ := zA (Kd.R_drew HO_9.out)
        have n2_ := zA (Kd.R_drew HO_10.out)
        have n3_ := zA (Kd.R_drew HO_241001.out)
        have n4_ := zA (Kd.R_drew HO_241002.out)
        have n5_ := zA (Kd.R_drew HO_241003.out)
        have n6_ := zA (Kd.R_drew HO_241004.out)
        have n7_ := zA (blk_drew BK205.out)
        have n8_ := zA (blk_drew BK240.out)
        have n9_ := zA (below_drew1 HB.out)
        clear HO_6
        clear HO_9
        clear HO_10
        clear HO_241001
        clear HO_241002
        clear HO_241003
        clear HO_241004
        clear BK205
        clear BK240
        clear HB
        have HO_6 := n0_
        have HO_9 := n1_
        have HO_10 := n2_
        have HO_241001 := n3_
        have HO_241002 := n4_
        have HO_241003 := n5_
        have HO_241004 := n6_
        have BK205 := n7_
        have BK240 := n8_
        have HB := n9_
        clear n0_ n1_ n2_ n3_ n4_ n5_ n6_ n7_ n8_ n9_
        refine start_ (n := 5) (S := fun w' => w'.cell? ⟨gb240, 0, none⟩ = some (.int .i64 t227) ∧ w'.cell? ⟨gb240, 1, none⟩ = some (.slice Ao34 t228.length co34) ∧ w'.cell? ⟨gb240, 2, none⟩ = some (.slice Ao35 t231.length co35) ∧ w'.cell? ⟨gb240, 3, none⟩ = some (.slice Ao36 t234.length co36) ∧ w'.cell? ⟨gb240, 4, none⟩ = some (.slice Ao37 t237.length co37) ∧ w'.cell? ⟨gb205, 0, none⟩ = some (.int .i64 a0_0) ∧ w'.cell? ⟨gb205, 1, none⟩ = some (.slice A0_1 l0_1.length c0_1) ∧ w'.cell? ⟨gb205, 2, none⟩ = some (.slice A0_2 l0_2.length c0_2) ∧ w'.cell? ⟨gb205, 3, none⟩ = some (.slice A0_3 l0_3.length c0_3) ∧ w'.cell? ⟨gb205, 4, none⟩ = some (.slice A0_4 l0_4.length c0_4)) (ds := []) #[false, false, false, false, false] (by kernel_rfl) rfl rfl ⟨(blk_cell BK240.out 0).trans rfl, (blk_cell BK240.out 1).trans rfl, (blk_cell BK240.out 2).trans rfl, (blk_cell BK240.out 3).trans rfl, (blk_cell BK240.out 4).trans rfl, (blk_cell BK205.out 0).trans rfl, (blk_cell BK205.out 1).trans rfl, (blk_cell BK205.out 2).trans rfl, (blk_cell BK205.out 3).trans rfl, (blk_cell BK205.out 4).trans rfl⟩ (fun hHeld => ?_)
        generalize wc.drew = w58 at HO_6 HO_9 HO_10 HO_241001 HO_241002 HO_241003 HO_241004 BK205 BK240 HB hHeld ⊢
        refine take_ (i := 0) (N := some 52) (v := ?_) (a' := ?_) #[true, false, false, false, false] rfl rfl (by kernel_rfl) (fun _ _ _ h => h) (Or.inl ⟨by rfl, ?_⟩) hHeld ?_ ?_
        rotate_left
        ·rintro w' ⟨s0, s1, s2, s3, s4, s5, s6, s7, s8, s9⟩
         go_simp
         with_reducible rfl
        rotate_left
        ·simp only [Act.put, List.setIfInBounds_toArray, List.set_cons_zero, List.set_cons_succ, i64_w, i32_w]
         rfl
        refine take_ (i := 1) (N := some 53) (v := ?_) (a' := ?_) #[true, true, false, false, false] rfl rfl (by kernel_rfl) (fun _ _ _ h => h) (Or.inl ⟨by rfl, ?_⟩) hHeld ?_ ?_
        rotate_left
        ·rintro w' ⟨s0, s1, s2, s3, s4, s5, s6, s7, s8, s9⟩
         go_simp
         with_reducible rfl
        rotate_left
        ·simp only [Act.put, List.setIfInBounds_toArray, List.set_cons_zero, List.set_cons_succ, i64_w, i32_w]
         rfl
        refine one_ (i := 2) (N := some 54) #[true, true, true, false, false] rfl rfl (by kernel_rfl) (by decide) (fun K hK => ?_)
        refine goes_ Try.func9 (by kernel_rfl) rfl #[.agg #[.int .i64 a0_0, .slice A0_1 l0_1.length c0_1, .slice A0_2 l0_2.length c0_2, .slice A0_3 l0_3.length c0_3, .slice A0_4 l0_4.length c0_4]] (by rfl) rfl rfl za ?_
        with_reducible refine (laws_toGraph.calls kj15 a0_0 _ _ l0_1 _ _ l0_2 _ _ l0_3 _ _ l0_4 t249 t250 t253 t256 t259 _ ?side1 ?side2 ?side3 ?side4 ?side5 ?side6 ?side7 ?side8 A49.out).mono ?_
        (case side1 => exact zc (Kd.C_below HR0_1.out HB.out))
        (case side2 => exact HC0_1.out)
        (case side3 => exact zc (Kd.C_below HR0_2.out HB.out))
        (case side4 => exact HC0_2.out)
        (case side5 => exact zc (Kd.C_below HR0_3.out HB.out))
        (case side6 => exact HC0_3.out)
        (case side7 => exact zc (Kd.C_below HR0_4.out HB.out))
        (case side8 => exact HC0_4.out)
        rintro e w59 ⟨v251, v254, v257, v260, rfl, ho0, ho1, ho2, ho3, hb⟩
        refine ⟨_, rfl, ?_⟩
        have n0_ := zA (Kd.R_below (zR HO_6.out) hb)
        have n1_ := zA (Kd.R_mono (Kd.R_told (Kd.R_told (Kd.R_told (Kd.R_told (Kd.R_old (zR HO_9.out) hb) (Kd.R_base ho0)) (Kd.R_base ho1)) (Kd.R_base ho2)) (Kd.R_base ho3)) (fun _ h_ => h_.1))
        have n2_ := zA (Kd.R_below (zR HO_10.out) hb)
        have n3_ := zA (Kd.R_mono (Kd.R_told (Kd.R_told (Kd.R_told (Kd.R_told (Kd.R_old (zR HO_241001.out) hb) (Kd.R_base ho0)) (Kd.R_base ho1)) (Kd.R_base ho2)) (Kd.R_base ho3)) (fun _ h_ => h_.1))
        have n4_ := zA (Kd.R_mono (Kd.R_told (Kd.R_told (Kd.R_told (Kd.R_told (Kd.R_old (zR HO_241002.out) hb) (Kd.R_base ho0)) (Kd.R_base ho1)) (Kd.R_base ho2)) (Kd.R_base ho3)) (fun _ h_ => h_.1))
        have n5_ := zA (Kd.R_mono (Kd.R_told (Kd.R_told (Kd.R_told (Kd.R_told (Kd.R_old (zR HO_241003.out) hb) (Kd.R_base ho0)) (Kd.R_base ho1)) (Kd.R_base ho2)) (Kd.R_base ho3)) (fun _ h_ => h_.1))
        have n6_ := zA (Kd.R_mono (Kd.R_told (Kd.R_told (Kd.R_told (Kd.R_told (Kd.R_old (zR HO_241004.out) hb) (Kd.R_base ho0)) (Kd.R_base ho1)) (Kd.R_base ho2)) (Kd.R_base ho3)) (fun _ h_ => h_.1))
        have n7_ := zA (Kd.R_lower (Kd.R_new' (Kd.R_new' (Kd.R_new' (Kd.R_new' (Kd.R_new' ho0 (zl HO_9.out)) (zl HO_241001.out)) (zl HO_241002.out)) (zl HO_241003.out)) (zl HO_241004.out)) (below_size (zs2 GE205.out GE240.out)))
        have n8_ := zA (Kd.R_lower (Kd.R_new' (Kd.R_new' (Kd.R_new' (Kd.R_new' (Kd.R_new' ho1 (zl HO_9.out)) (zl HO_241001.out)) (zl HO_241002.out)) (zl HO_241003.out)) (zl HO_241004.out)) (below_size (zs2 GE205.out GE240.out)))
        have n9_ := zA (Kd.R_lower (Kd.R_new' (Kd.R_new' (Kd.R_new' (Kd.R_new' (Kd.R_new' ho2 (zl HO_9.out)) (zl HO_241001.out)) (zl HO_241002.out)) (zl HO_241003.out)) (zl HO_241004.out)) (below_size (zs2 GE205.out GE240.out)))
        have n10_ := zA (Kd.R_lower (Kd.R_new' (Kd.R_new' (Kd.R_new' (Kd.R_new' (Kd.R_new' ho3 (zl HO_9.out)) (zl HO_241001.out)) (zl HO_241002.out)) (zl HO_241003.out)) (zl HO_241004.out)) (below_size (zs2 GE205.out GE240.out)))
        have n11_ := zA (zB BK205.out hb)
        have n12_ := zA (zB BK240.out hb)
        have n13_ := zA (below_step (zs2 GE205.out GE240.out) hb)
        clear HO_6
        clear HO_9
        clear HO_10
        clear HO_241001
        clear HO_241002
        clear HO_241003
        clear HO_241004
        clear BK205
        clear BK240
        clear HB
        have HO_6 := n0_
        have HO_9 := n1_
        have HO_10 := n2_
        have HO_241001 := n3_
        have HO_241002 := n4_
        have HO_241003 := n5_
        have HO_241004 := n6_
        have HO252 := n7_
        have HO255 := n8_
        have HO258 := n9_
        have HO261 := n10_
        have BK205 := n11_
        have BK240 := n12_
        have HB := n13_
        clear n0_ n1_ n2_ n3_ n4_ n5_ n6_ n7_ n8_ n9_ n10_ n11_ n12_ n13_
        (try clear hb)
        (try clear hb2)
        (try clear hk)
        (try clear hi)
        (try clear ho0)
        (try clear ho1)
        (try clear ho2)
        (try clear ho3)
        obtain ⟨Ao60, co60, eo60⟩ := Kd.R_slice HO252.out
        (first | subst eo60 | (injection eo60 with f1_ f2_ f3_; have f4_ := f1_.symm; have f5_ := f3_.symm; clear f1_ f2_ f3_; subst f4_; subst f5_))
        obtain ⟨Ao61, co61, eo61⟩ := Kd.R_slice HO255.out
        (first | subst eo61 | (injection eo61 with f1_ f2_ f3_; have f4_ := f1_.symm; have f5_ := f3_.symm; clear f1_ f2_ f3_; subst f4_; subst f5_))
        obtain ⟨Ao62, co62, eo62⟩ := Kd.R_slice HO258.out
        (first | subst eo62 | (injection eo62 with f1_ f2_ f3_; have f4_ := f1_.symm; have f5_ := f3_.symm; clear f1_ f2_ f3_; subst f4_; subst f5_))
        obtain ⟨Ao63, co63, eo63⟩ := Kd.R_slice HO261.out
        (first | subst eo63 | (injection eo63 with f1_ f2_ f3_; have f4_ := f1_.symm; have f5_ := f3_.symm; clear f1_ f2_ f3_; subst f4_; subst f5_))
        refine hK.out _ _ ⟨(blk_cell BK240.out 0).trans rfl, (blk_cell BK240.out 1).trans rfl, (blk_cell BK240.out 2).trans rfl, (blk_cell BK240.out 3).trans rfl, (blk_cell BK240.out 4).trans rfl, (blk_cell BK205.out 0).trans rfl, (blk_cell BK205.out 1).trans rfl, (blk_cell BK205.out 2).trans rfl, (blk_cell BK205.out 3).trans rfl, (blk_cell BK205.out 4).trans rfl⟩ (fun hHeld => ?_)
        clear hK K
        refine norm_ (a' := ?_) ?_ ?_
        rotate_left
        ·show Act.put _ (some 54) _ = _
         simp only [Act.put, List.setIfInBounds_toArray, List.set_cons_zero, List.set_cons_succ, i64_w, i32_w]
         rfl
        refine one_ (i := 3) (N := some 55) #[true, true, true, true, false] rfl rfl (by kernel_rfl) (by decide) (fun K hK => ?_)
        refine goes_ Try.func11 (by kernel_rfl) rfl #[.agg #[.int .i64 t227, .slice Ao34 t228.length co34, .slice Ao35 t231.length co35, .slice Ao36 t234.length co36, .slice Ao37 t237.length co37], .agg #[.int .i64 t249, .slice Ao60 t250.length co60, .slice Ao61 t253.length co61, .slice Ao62 t256.length co62, .slice Ao63 t259.length co63]] (by rfl) rfl rfl za ?_
        with_reducible refine (laws_eqGraph.calls kj15 t227 _ _ t228 _ _ t231 _ _ t234 _ _ t237 t249 _ _ t250 _ _ t253 _ _ t256 _ _ t259 true _ ?side1 ?side2 ?side3 ?side4 ?side5 ?side6 ?side7 ?side8 ?side9 ?side10 ?side11 ?side12 ?side13 ?side14 ?side15 ?side16 A50.out).mono ?_
        (case side1 => exact zc ((Kd.R_reads' HO_241001.out).2.2))
        (case side2 => exact (Kd.R_reads' HO_241001.out).2.1)
        (case side3 => exact zc ((Kd.R_reads' HO_241002.out).2.2))
        (case side4 => exact (Kd.R_reads' HO_241002.out).2.1)
        (case side5 => exact zc ((Kd.R_reads' HO_241003.out).2.2))
        (case side6 => exact (Kd.R_reads' HO_241003.out).2.1)
        (case side7 => exact zc ((Kd.R_reads' HO_241004.out).2.2))
        (case side8 => exact (Kd.R_reads' HO_241004.out).2.1)
        (case side9 => exact zc ((Kd.R_reads' HO252.out).2.2))
        (case side10 => exact (Kd.R_reads' HO252.out).2.1)
        (case side11 => exact zc ((Kd.R_reads' HO255.out).2.2))
        (case side12 => exact (Kd.R_reads' HO255.out).2.1)
        (case side13 => exact zc ((Kd.R_reads' HO258.out).2.2))
        (case side14 => exact (Kd.R_reads' HO258.out).2.1)
        (case side15 => exact zc ((Kd.R_reads' HO261.out).2.2))
        (case side16 => exact (Kd.R_reads' HO261.out).2.1)
        rintro e w64 ⟨rfl, hb⟩
        refine ⟨_, rfl, ?_⟩
        have n0_ := zA (Kd.R_below (zR HO_6.out) hb)
        have n1_ := zA (Kd.R_below (zR HO_9.out) hb)
        have n2_ := zA (Kd.R_below (zR HO_10.out) hb)
        have n3_ := zA (Kd.R_below (zR HO_241001.out) hb)
        have n4_ := zA (Kd.R_below (zR HO_241002.out) hb)
        have n5_ := zA (Kd.R_below (zR HO_241003.out) hb)
        have n6_ := zA (Kd.R_below (zR HO_241004.out) hb)
        have n7_ := zA (Kd.R_below (zR HO252.out) hb)
        have n8_ := zA (Kd.R_below (zR HO255.out) hb)
        have n9_ := zA (Kd.R_below (zR HO258.out) hb)
        have n10_ := zA (Kd.R_below (zR HO261.out) hb)
        have n11_ := zA (zB BK205.out hb)
        have n12_ := zA (zB BK240.out hb)
        have n13_ := zA (below_step (zs2 GE205.out GE240.out) hb)
        clear HO_6
        clear HO_9
        clear HO_10
        clear HO_241001
        clear HO_241002
        clear HO_241003
        clear HO_241004
        clear HO252
        clear HO255
        clear HO258
        clear HO261
        clear BK205
        clear BK240
        clear HB
        have HO_6 := n0_
        have HO_9 := n1_
        have HO_10 := n2_
        have HO_241001 := n3_
        have HO_241002 := n4_
        have HO_241003 := n5_
        have HO_241004 := n6_
        have HO252 := n7_
        have HO255 := n8_
        have HO258 := n9_
        have HO261 := n10_
        have BK205 := n11_
        have BK240 := n12_
        have HB := n13_
        clear n0_ n1_ n2_ n3_ n4_ n5_ n6_ n7_ n8_ n9_ n10_ n11_ n12_ n13_
        (try clear hb)
        (try clear hb2)
        (try clear hk)
        (try clear hi)
        refine hK.out _ _ ⟨(blk_cell BK240.out 0).trans rfl, (blk_cell BK240.out 1).trans rfl, (blk_cell BK240.out 2).trans rfl, (blk_cell BK240.out 3).trans rfl, (blk_cell BK240.out 4).trans rfl, (blk_cell BK205.out 0).trans rfl, (blk_cell BK205.out 1).trans rfl, (blk_cell BK205.out 2).trans rfl, (blk_cell BK205.out 3).trans rfl, (blk_cell BK205.out 4).trans rfl⟩ (fun hHeld => ?_)
        clear hK K
        refine norm_ (a' := ?_) ?_ ?_
        rotate_left
        ·show Act.put _ (some 55) _ = _
         simp only [Act.put, List.setIfInBounds_toArray, List.set_cons_zero, List.set_cons_succ, i64_w, i32_w]
         rfl
        refine pure_ (i := 4) (N := some 56) (v := ?_) (a' := ?_) #[true, true, true, true, true] rfl rfl (by kernel_rfl) (fun _ _ _ h => h) (Or.inl ⟨by rfl, ?_⟩) ?_ ?_
        rotate_left
        ·intro w'
         go_simp
         with_reducible rfl
        rotate_left
        ·simp only [Act.put, List.setIfInBounds_toArray, List.set_cons_zero, List.set_cons_succ, i64_w, i32_w]
         rfl
        refine done_ (by kernel_rfl) ?_
        go_upto_region 20 with (first | ((with_reducible refine gate_callee (f := 15) rfl ?_); refine goesL_ (some 59) rfl rfl Try.func15 (by kernel_rfl) rfl #[.slice A1 l1.length c1] rfl za ?_; (with_reducible refine (laws_toIntS.calls kj15 _ _ l1 t263 _ ?side1 ?side2 A52.out).mono ?_); (case side1 => exact zc (Kd.C_below HR1.out HB.out)); (case side2 => exact HC1.out); rintro e w65 ⟨v264, rfl, ho0, hb⟩; refine ⟨_, rfl, ?_⟩; have n0_ := zA (Kd.R_below (zR HO_6.out) hb); have n1_ := zA (Kd.R_elder' (zR HO_9.out) (Kd.R_base ho0) hb); have n2_ := zA (Kd.R_below (zR HO_10.out) hb); have n3_ := zA (Kd.R_elder' (zR HO_241001.out) (Kd.R_base ho0) hb); have n4_ := zA (Kd.R_elder' (zR HO_241002.out) (Kd.R_base ho0) hb); have n5_ := zA (Kd.R_elder' (zR HO_241003.out) (Kd.R_base ho0) hb); have n6_ := zA (Kd.R_elder' (zR HO_241004.out) (Kd.R_base ho0) hb); have n7_ := zA (Kd.R_elder' (zR HO252.out) (Kd.R_base ho0) hb); have n8_ := zA (Kd.R_elder' (zR HO255.out) (Kd.R_base ho0) hb); have n9_ := zA (Kd.R_elder' (zR HO258.out) (Kd.R_base ho0) hb); have n10_ := zA (Kd.R_elder' (zR HO261.out) (Kd.R_base ho0) hb); have n11_ := zA (Kd.R_lower (Kd.R_new' (Kd.R_new' (Kd.R_new' (Kd.R_new' (Kd.R_new' (Kd.R_new' (Kd.R_new' (Kd.R_new' (Kd.R_new' ho0 (zl HO_9.out)) (zl HO_241001.out)) (zl HO_241002.out)) (zl HO_241003.out)) (zl HO_241004.out)) (zl HO252.out)) (zl HO255.out)) (zl HO258.out)) (zl HO261.out)) (below_size (zs2 GE205.out GE240.out))); have n12_ := zA (zB BK205.out hb); have n13_ := zA (zB BK240.out hb); have n14_ := zA (below_step (zs2 GE205.out GE240.out) hb); clear HO_6 HO_9 HO_10 HO_241001 HO_241002 HO_241003 HO_241004 HO252 HO255 HO258 HO261 BK205 BK240 HB; have HO_6 := n0_; have HO_9 := n1_; have HO_10 := n2_; have HO_241001 := n3_; have HO_241002 := n4_; have HO_241003 := n5_; have HO_241004 := n6_; have HO252 := n7_; have HO255 := n8_; have HO258 := n9_; have HO261 := n10_; have HO265 := n11_; have BK205 := n12_; have BK240 := n13_; have HB := n14_; clear n0_ n1_ n2_ n3_ n4_ n5_ n6_ n7_ n8_ n9_ n10_ n11_ n12_ n13_ n14_; (try clear hb); (try clear hb2); (try clear hk); (try clear hi); (try clear ho0); obtain ⟨Ao66, co66, eo66⟩ := Kd.R_slice HO265.out; subst eo66) | ((with_reducible refine gate_callee (f := 18) rfl ?_); refine goesL_ (some 60) rfl rfl Try.func18 (by kernel_rfl) rfl #[.slice Ao40 t241.length co40, .slice Ao66 t263.length co66] rfl za ?_; (with_reducible refine (laws_eqIntS.calls kj15 _ _ t241 _ _ t263 true _ ?side1 ?side2 ?side3 ?side4 A53.out).mono ?_); (case side1 => exact zc ((Kd.R_reads' HO_9.out).2.2)); (case side2 => exact (Kd.R_reads' HO_9.out).2.1); (case side3 => exact zc ((Kd.R_reads' HO265.out).2.2)); (case side4 => exact (Kd.R_reads' HO265.out).2.1); rintro e w' ⟨rfl, ⟨nd, rfl⟩⟩; refine ⟨_, rfl, ?_⟩; have hnb67 := NB240_205.out; have hnc67 := NB205_240.out; obtain ⟨hcz68_0, hcz68_1, hcz68_2, hcz68_3, hcz68_4, hfz68_0, hfz68_1, hfz68_2, hfz68_3, hfz68_4⟩ := zh5 BK240.out) | ((with_reducible refine gate_callee (f := 12) rfl ?_); refine goesL_ (some 64) rfl rfl Try.func12 (by kernel_rfl) rfl #[.agg #[.int .i64 t227, .slice Ao34 t228.length co34, .slice Ao35 t231.length co35, .slice Ao36 t234.length co36, .slice Ao37 t237.length co37], .int .i64 1] rfl za ?_; (with_reducible refine (laws_markGraph.calls kj15 t227 (fun k_ => some k_ = (.slice Ao34 t228.length co34 : Value).ownBlock) (.slice Ao34 t228.length co34) t228 (fun k_ => some k_ = (.slice Ao35 t231.length co35 : Value).ownBlock) (.slice Ao35 t231.length co35) t231 (fun k_ => some k_ = (.slice Ao36 t234.length co36 : Value).ownBlock) (.slice Ao36 t234.length co36) t234 (fun k_ => some k_ = (.slice Ao37 t237.length co37 : Value).ownBlock) (.slice Ao37 t237.length co37) t237 1 t267 t268 t269 t270 t271 w _ ?side1 ?side2 ?side3 ?side4 ?side5 ?side6 ?side7 ?side8 ?side9 ?side10 ?side11 ?side12 ?side13 ?side14 ?side15 ?side16 ?side17 A55.out).mono ?_); (case side1 => repeat (first | (with_reducible first | exact HB.out | apply below_alloc | apply pw_below_drewN | apply below_drew1 | refine below_set ?_ GE205.out | refine below_set ?_ GE240.out) | exact HB.out)); (case side2 => exact Kd.R_tight rfl HO_241001.out); (case side3 => exact fun k_ e_ => (HO_241001.out.1 k_ e_.symm).1.1.1.1.1.2.1); (case side4 => exact fun k_ e_ => (HO_241001.out.1 k_ e_.symm).1.1.1.1.1.2.2.1); (case side5 => exact fun k_ e_ => (HO_241001.out.1 k_ e_.symm).1.1.1.1.1.2.2.2); (case side6 => exact Kd.R_tight rfl HO_241002.out); (case side7 => exact fun k_ e_ => (HO_241002.out.1 k_ e_.symm).1.1.1.1.1.2.1); (case side8 => exact fun k_ e_ => (HO_241002.out.1 k_ e_.symm).1.1.1.1.1.2.2.1); (case side9 => exact fun k_ e_ => (HO_241002.out.1 k_ e_.symm).1.1.1.1.1.2.2.2); (case side10 => exact Kd.R_tight rfl HO_241003.out); (case side11 => exact fun k_ e_ => (HO_241003.out.1 k_ e_.symm).1.1.1.1.1.2.1); (case side12 => exact fun k_ e_ => (HO_241003.out.1 k_ e_.symm).1.1.1.1.1.2.2.1); (case side13 => exact fun k_ e_ => (HO_241003.out.1 k_ e_.symm).1.1.1.1.1.2.2.2); (case side14 => exact Kd.R_tight rfl HO_241004.out); (case side15 => exact fun k_ e_ => (HO_241004.out.1 k_ e_.symm).1.1.1.1.1.2.1); (case side16 => exact fun k_ e_ => (HO_241004.out.1 k_ e_.symm).1.1.1.1.1.2.2.1); (case side17 => exact fun k_ e_ => (HO_241004.out.1 k_ e_.symm).1.1.1.1.1.2.2.2); rintro e w69 ⟨rfl, hy0, hy1, hy2, hy3, hb, hkp⟩; refine ⟨_, rfl, ?_⟩; have n0_ := zA (Kd.R_mono (ok' := fun k_ => zO k_ (v245)) (Kd.R_keptB ((Kd.R_apart' (Kd.R_apart' (Kd.R_apart' (Kd.R_apart' HO_6.out (Kd.R_typed HO_241001.out) (by decide)) (Kd.R_typed HO_241002.out) (by decide)) (Kd.R_typed HO_241003.out) (by decide)) (Kd.R_typed HO_241004.out) (by decide))) hkp (fun k_ hk_ hs_ => Or.elim hs_ (fun e_ => (hk_.1.1.1.2) e_) (fun e_ => Or.elim e_ (fun e_ => (hk_.1.1.2) e_) (fun e_ => Or.elim e_ (fun e_ => (hk_.1.2) e_) (fun e_ => (hk_.2) e_))))) (fun k_ hk_ => hk_.1.1.1.1.1)); have n1_ := zA (Kd.R_mono (ok' := fun k_ => zO k_ (.slice Ao34 t228.length co34) ∧ zO k_ (.slice Ao35 t231.length co35) ∧ zO k_ (.slice Ao36 t234.length co36) ∧ zO k_ (.slice Ao37 t237.length co37) ∧ zO k_ (.slice Ao60 t250.length co60) ∧ zO k_ (.slice Ao61 t253.length co61) ∧ zO k_ (.slice Ao62 t256.length co62) ∧ zO k_ (.slice Ao63 t259.length co63) ∧ zO k_ (.slice Ao66 t263.length co66)) (Kd.R_keptB (HO_9.out) hkp (fun k_ hk_ hs_ => Or.elim hs_ (fun e_ => (hk_.1.1.1.1.1.1) e_) (fun e_ => Or.elim e_ (fun e_ => (hk_.1.1.1.1.1.2.1) e_) (fun e_ => Or.elim e_ (fun e_ => (hk_.1.1.1.1.1.2.2.1) e_) (fun e_ => (hk_.1.1.1.1.1.2.2.2) e_))))) (fun k_ hk_ => ⟨hk_.1.1.1.1.1.1.1, hk_.1.1.1.1.1.1.2.1, hk_.1.1.1.1.1.1.2.2.1, hk_.1.1.1.1.1.1.2.2.2, hk_.1.1.1.1.1.2, hk_.1.1.1.1.2, hk_.1.1.1.2, hk_.1.1.2, hk_.1.2⟩)); have n2_ := zA (Kd.R_mono (ok' := fun k_ => zO k_ (v224)) (Kd.R_keptB ((Kd.R_apart' (Kd.R_apart' (Kd.R_apart' (Kd.R_apart' HO_10.out (Kd.R_typed HO_241001.out) (by decide)) (Kd.R_typed HO_241002.out) (by decide)) (Kd.R_typed HO_241003.out) (by decide)) (Kd.R_typed HO_241004.out) (by decide))) hkp (fun k_ hk_ hs_ => Or.elim hs_ (fun e_ => (hk_.1.1.1.2) e_) (fun e_ => Or.elim e_ (fun e_ => (hk_.1.1.2) e_) (fun e_ => Or.elim e_ (fun e_ => (hk_.1.2) e_) (fun e_ => (hk_.2) e_))))) (fun k_ hk_ => hk_.1.1.1.1.1)); have n3_ := zA (Kd.R_reok rfl hy0 (fun k_ e_ => HO_241001.out.1 k_ e_)); have n4_ := zA (Kd.R_reok rfl hy1 (fun k_ e_ => HO_241002.out.1 k_ e_)); have n5_ := zA (Kd.R_reok rfl hy2 (fun k_ e_ => HO_241003.out.1 k_ e_)); have n6_ := zA (Kd.R_reok rfl hy3 (fun k_ e_ => HO_241004.out.1 k_ e_)); have n7_ := zA (zkb BK205.out hkp (fun hs_ => Or.elim hs_ (fun e_ => (fun e_ => (Kd.R_ne HO_241001.out BK205.out (by decide)) e_) e_) (fun e_ => Or.elim e_ (fun e_ => (fun e_ => (Kd.R_ne HO_241002.out BK205.out (by decide)) e_) e_) (fun e_ => Or.elim e_ (fun e_ => (fun e_ => (Kd.R_ne HO_241003.out BK205.out (by decide)) e_) e_) (fun e_ => (fun e_ => (Kd.R_ne HO_241004.out BK205.out (by decide)) e_) e_))))); have n8_ := zA (zkb BK240.out hkp (fun hs_ => Or.elim hs_ (fun e_ => (fun e_ => (Kd.R_ne HO_241001.out BK240.out (by decide)) e_) e_) (fun e_ => Or.elim e_ (fun e_ => (fun e_ => (Kd.R_ne HO_241002.out BK240.out (by decide)) e_) e_) (fun e_ => Or.elim e_ (fun e_ => (fun e_ => (Kd.R_ne HO_241003.out BK240.out (by decide)) e_) e_) (fun e_ => (fun e_ => (Kd.R_ne HO_241004.out BK240.out (by decide)) e_) e_))))); have n9_ := zA (Kd.R_mono (ok' := fun k_ => zO k_ (.slice Ao40 t241.length co40) ∧ zO k_ (.slice Ao34 t228.length co34) ∧ zO k_ (.slice Ao35 t231.length co35) ∧ zO k_ (.slice Ao36 t234.length co36) ∧ zO k_ (.slice Ao37 t237.length co37) ∧ zO k_ (.slice Ao61 t253.length co61) ∧ zO k_ (.slice Ao62 t256.length co62) ∧ zO k_ (.slice Ao63 t259.length co63) ∧ zO k_ (.slice Ao66 t263.length co66)) (Kd.R_keptB (HO252.out) hkp (fun k_ hk_ hs_ => Or.elim hs_ (fun e_ => (hk_.1.1.1.1.2) e_) (fun e_ => Or.elim e_ (fun e_ => (hk_.1.1.1.2) e_) (fun e_ => Or.elim e_ (fun e_ => (hk_.1.1.2) e_) (fun e_ => (hk_.1.2) e_))))) (fun k_ hk_ => ⟨hk_.1.1.1.1.1.1.2, hk_.1.1.1.1.1.2, hk_.1.1.1.1.2, hk_.1.1.1.2, hk_.1.1.2, hk_.1.1.1.1.1.1.1.1, hk_.1.1.1.1.1.1.1.2.1, hk_.1.1.1.1.1.1.1.2.2, hk_.1.2⟩)); have n10_ := zA (Kd.R_mono (ok' := fun k_ => zO k_ (.slice Ao40 t241.length co40) ∧ zO k_ (.slice Ao34 t228.length co34) ∧ zO k_ (.slice Ao35 t231.length co35) ∧ zO k_ (.slice Ao36 t234.length co36) ∧ zO k_ (.slice Ao37 t237.length co37) ∧ zO k_ (.slice Ao60 t250.length co60) ∧ zO k_ (.slice Ao62 t256.length co62) ∧ zO k_ (.slice Ao63 t259.length co63) ∧ zO k_ (.slice Ao66 t263.length co66)) (Kd.R_keptB (HO255.out) hkp (fun k_ hk_ hs_ => Or.elim hs_ (fun e_ => (hk_.1.1.1.1.2) e_) (fun e_ => Or.elim e_ (fun e_ => (hk_.1.1.1.2) e_) (fun e_ => Or.elim e_ (fun e_ => (hk_.1.1.2) e_) (fun e_ => (hk_.1.2) e_))))) (fun k_ hk_ => ⟨hk_.1.1.1.1.1.1.2, hk_.1.1.1.1.1.2, hk_.1.1.1.1.2, hk_.1.1.1.2, hk_.1.1.2, hk_.1.1.1.1.1.1.1.1, hk_.1.1.1.1.1.1.1.2.1, hk_.1.1.1.1.1.1.1.2.2, hk_.1.2⟩)); have n11_ := zA (Kd.R_mono (ok' := fun k_ => zO k_ (.slice Ao40 t241.length co40) ∧ zO k_ (.slice Ao34 t228.length co34) ∧ zO k_ (.slice Ao35 t231.length co35) ∧ zO k_ (.slice Ao36 t234.length co36) ∧ zO k_ (.slice Ao37 t237.length co37) ∧ zO k_ (.slice Ao60 t250.length co60) ∧ zO k_ (.slice Ao61 t253.length co61) ∧ zO k_ (.slice Ao63 t259.length co63) ∧ zO k_ (.slice Ao66 t263.length co66)) (Kd.R_keptB (HO258.out) hkp (fun k_ hk_ hs_ => Or.elim hs_ (fun e_ => (hk_.1.1.1.1.2) e_) (fun e_ => Or.elim e_ (fun e_ => (hk_.1.1.1.2) e_) (fun e_ => Or.elim e_ (fun e_ => (hk_.1.1.2) e_) (fun e_ => (hk_.1.2) e_))))) (fun k_ hk_ => ⟨hk_.1.1.1.1.1.1.2, hk_.1.1.1.1.1.2, hk_.1.1.1.1.2, hk_.1.1.1.2, hk_.1.1.2, hk_.1.1.1.1.1.1.1.1, hk_.1.1.1.1.1.1.1.2.1, hk_.1.1.1.1.1.1.1.2.2, hk_.1.2⟩)); have n12_ := zA (Kd.R_mono (ok' := fun k_ => zO k_ (.slice Ao40 t241.length co40) ∧ zO k_ (.slice Ao34 t228.length co34) ∧ zO k_ (.slice Ao35 t231.length co35) ∧ zO k_ (.slice Ao36 t234.length co36) ∧ zO k_ (.slice Ao37 t237.length co37) ∧ zO k_ (.slice Ao60 t250.length co60) ∧ zO k_ (.slice Ao61 t253.length co61) ∧ zO k_ (.slice Ao62 t256.length co62) ∧ zO k_ (.slice Ao66 t263.length co66)) (Kd.R_keptB (HO261.out) hkp (fun k_ hk_ hs_ => Or.elim hs_ (fun e_ => (hk_.1.1.1.1.2) e_) (fun e_ => Or.elim e_ (fun e_ => (hk_.1.1.1.2) e_) (fun e_ => Or.elim e_ (fun e_ => (hk_.1.1.2) e_) (fun e_ => (hk_.1.2) e_))))) (fun k_ hk_ => ⟨hk_.1.1.1.1.1.1.2, hk_.1.1.1.1.1.2, hk_.1.1.1.1.2, hk_.1.1.1.2, hk_.1.1.2, hk_.1.1.1.1.1.1.1.1, hk_.1.1.1.1.1.1.1.2.1, hk_.1.1.1.1.1.1.1.2.2, hk_.1.2⟩)); have n13_ := zA (Kd.R_mono (ok' := fun k_ => zO k_ (.slice Ao40 t241.length co40) ∧ zO k_ (.slice Ao34 t228.length co34) ∧ zO k_ (.slice Ao35 t231.length co35) ∧ zO k_ (.slice Ao36 t234.length co36) ∧ zO k_ (.slice Ao37 t237.length co37) ∧ zO k_ (.slice Ao60 t250.length co60) ∧ zO k_ (.slice Ao61 t253.length co61) ∧ zO k_ (.slice Ao62 t256.length co62) ∧ zO k_ (.slice Ao63 t259.length co63)) (Kd.R_keptB (HO265.out) hkp (fun k_ hk_ hs_ => Or.elim hs_ (fun e_ => (hk_.1.1.1.1.1.1.1.2) e_) (fun e_ => Or.elim e_ (fun e_ => (hk_.1.1.1.1.1.1.2) e_) (fun e_ => Or.elim e_ (fun e_ => (hk_.1.1.1.1.1.2) e_) (fun e_ => (hk_.1.1.1.1.2) e_))))) (fun k_ hk_ => ⟨hk_.1.1.1.1.1.1.1.1.1.2, hk_.1.1.1.1.1.1.1.1.2, hk_.1.1.1.1.1.1.1.2, hk_.1.1.1.1.1.1.2, hk_.1.1.1.1.1.2, hk_.1.1.1.1.2, hk_.1.1.1.2, hk_.1.1.2, hk_.1.2⟩)); have n14_ := zA (hb); clear HO_6 HO_9 HO_10 HO_241001 HO_241002 HO_241003 HO_241004 BK205 BK240 HO252 HO255 HO258 HO261 HO265 HB; have HO_6 := n0_; have HO_9 := n1_; have HO_10 := n2_; have HO_241001 := n3_; have HO_241002 := n4_; have HO_241003 := n5_; have HO_241004 := n6_; have BK205 := n7_; have BK240 := n8_; have HO252 := n9_; have HO255 := n10_; have HO258 := n11_; have HO261 := n12_; have HO265 := n13_; have HB := n14_; clear n0_ n1_ n2_ n3_ n4_ n5_ n6_ n7_ n8_ n9_ n10_ n11_ n12_ n13_ n14_; (try clear hb); (try clear hkp); (try clear hy0); (try clear hy1); (try clear hy2); (try clear hy3)) | ((with_reducible refine gate_callee (f := 19) rfl ?_); refine goesL_ (some 67) rfl rfl Try.func19 (by kernel_rfl) rfl #[.slice Ao40 t241.length co40, .int .i64 t267] rfl za ?_; (with_reducible refine (laws_markIntS.calls kj15 (fun k_ => some k_ = (.slice Ao40 t241.length co40 : Value).ownBlock) (.slice Ao40 t241.length co40) t241 t267 t272 t273 w _ ?side1 ?side2 A56.out).mono ?_); (case side1 => repeat (first | (with_reducible first | exact HB.out | apply below_alloc | apply pw_below_drewN | apply below_drew1 | refine below_set ?_ GE205.out | refine below_set ?_ GE240.out) | exact HB.out)); (case side2 => exact Kd.R_tight rfl HO_9.out); rintro e w70 ⟨rfl, hy0, hb, hkp⟩; refine ⟨_, rfl, ?_⟩; have n0_ := zA (Kd.R_mono (ok' := fun k_ => zO k_ (v245)) (Kd.R_keptB ((Kd.R_apart' HO_6.out (Kd.R_typed HO_9.out) (by decide))) hkp (fun k_ hk_ hs_ => (hk_.2) hs_)) (fun k_ hk_ => hk_.1.1)); have n1_ := zA (Kd.R_reok rfl hy0 (fun k_ e_ => HO_9.out.1 k_ e_)); have n2_ := zA (Kd.R_mono (ok' := fun k_ => zO k_ (v224)) (Kd.R_keptB ((Kd.R_apart' HO_10.out (Kd.R_typed HO_9.out) (by decide))) hkp (fun k_ hk_ hs_ => (hk_.2) hs_)) (fun k_ hk_ => hk_.1.1)); have n3_ := zA (Kd.R_mono (ok' := fun k_ => zO k_ (.slice Ao40 t241.length co40) ∧ zO k_ (.slice Ao35 t231.length co35) ∧ zO k_ (.slice Ao36 t234.length co36) ∧ zO k_ (.slice Ao37 t237.length co37) ∧ zO k_ (.slice Ao60 t250.length co60) ∧ zO k_ (.slice Ao61 t253.length co61) ∧ zO k_ (.slice Ao62 t256.length co62) ∧ zO k_ (.slice Ao63 t259.length co63) ∧ zO k_ (.slice Ao66 t263.length co66)) (Kd.R_keptB (HO_241001.out) hkp (fun k_ hk_ hs_ => (hk_.1.1.1.1.1.1) hs_)) (fun k_ hk_ => ⟨hk_.1.1.1.1.1.1.1, hk_.1.1.1.1.1.1.2.1, hk_.1.1.1.1.1.1.2.2.1, hk_.1.1.1.1.1.1.2.2.2, hk_.1.1.1.1.1.2, hk_.1.1.1.1.2, hk_.1.1.1.2, hk_.1.1.2, hk_.1.2⟩)); have n4_ := zA (Kd.R_mono (ok' := fun k_ => zO k_ (.slice Ao40 t241.length co40) ∧ zO k_ (.slice Ao34 t228.length co34) ∧ zO k_ (.slice Ao36 t234.length co36) ∧ zO k_ (.slice Ao37 t237.length co37) ∧ zO k_ (.slice Ao60 t250.length co60) ∧ zO k_ (.slice Ao61 t253.length co61) ∧ zO k_ (.slice Ao62 t256.length co62) ∧ zO k_ (.slice Ao63 t259.length co63) ∧ zO k_ (.slice Ao66 t263.length co66)) (Kd.R_keptB (HO_241002.out) hkp (fun k_ hk_ hs_ => (hk_.1.1.1.1.1.1) hs_)) (fun k_ hk_ => ⟨hk_.1.1.1.1.1.1.1, hk_.1.1.1.1.1.1.2.1, hk_.1.1.1.1.1.1.2.2.1, hk_.1.1.1.1.1.1.2.2.2, hk_.1.1.1.1.1.2, hk_.1.1.1.1.2, hk_.1.1.1.2, hk_.1.1.2, hk_.1.2⟩)); have n5_ := zA (Kd.R_mono (ok' := fun k_ => zO k_ (.slice Ao40 t241.length co40) ∧ zO k_ (.slice Ao34 t228.length co34) ∧ zO k_ (.slice Ao35 t231.length co35) ∧ zO k_ (.slice Ao37 t237.length co37) ∧ zO k_ (.slice Ao60 t250.length co60) ∧ zO k_ (.slice Ao61 t253.length co61) ∧ zO k_ (.slice Ao62 t256.length co62) ∧ zO k_ (.slice Ao63 t259.length co63) ∧ zO k_ (.slice Ao66 t263.length co66)) (Kd.R_keptB (HO_241003.out) hkp (fun k_ hk_ hs_ => (hk_.1.1.1.1.1.1) hs_)) (fun k_ hk_ => ⟨hk_.1.1.1.1.1.1.1, hk_.1.1.1.1.1.1.2.1, hk_.1.1.1.1.1.1.2.2.1, hk_.1.1.1.1.1.1.2.2.2, hk_.1.1.1.1.1.2, hk_.1.1.1.1.2, hk_.1.1.1.2, hk_.1.1.2, hk_.1.2⟩)); have n6_ := zA (Kd.R_mono (ok' := fun k_ => zO k_ (.slice Ao40 t241.length co40) ∧ zO k_ (.slice Ao34 t228.length co34) ∧ zO k_ (.slice Ao35 t231.length co35) ∧ zO k_ (.slice Ao36 t234.length co36) ∧ zO k_ (.slice Ao60 t250.length co60) ∧ zO k_ (.slice Ao61 t253.length co61) ∧ zO k_ (.slice Ao62 t256.length co62) ∧ zO k_ (.slice Ao63 t259.length co63) ∧ zO k_ (.slice Ao66 t263.length co66)) (Kd.R_keptB (HO_241004.out) hkp (fun k_ hk_ hs_ => (hk_.1.1.1.1.1.1) hs_)) (fun k_ hk_ => ⟨hk_.1.1.1.1.1.1.1, hk_.1.1.1.1.1.1.2.1, hk_.1.1.1.1.1.1.2.2.1, hk_.1.1.1.1.1.1.2.2.2, hk_.1.1.1.1.1.2, hk_.1.1.1.1.2, hk_.1.1.1.2, hk_.1.1.2, hk_.1.2⟩)); have n7_ := zA (zkb BK205.out hkp (fun hs_ => (fun e_ => (Kd.R_ne HO_9.out BK205.out (by decide)) e_) hs_)); have n8_ := zA (zkb BK240.out hkp (fun hs_ => (fun e_ => (Kd.R_ne HO_9.out BK240.out (by decide)) e_) hs_)); have n9_ := zA (Kd.R_mono (ok' := fun k_ => zO k_ (.slice Ao40 t241.length co40) ∧ zO k_ (.slice Ao34 t228.length co34) ∧ zO k_ (.slice Ao35 t231.length co35) ∧ zO k_ (.slice Ao36 t234.length co36) ∧ zO k_ (.slice Ao37 t237.length co37) ∧ zO k_ (.slice Ao61 t253.length co61) ∧ zO k_ (.slice Ao62 t256.length co62) ∧ zO k_ (.slice Ao63 t259.length co63) ∧ zO k_ (.slice Ao66 t263.length co66)) (Kd.R_keptB (HO252.out) hkp (fun k_ hk_ hs_ => (hk_.1) hs_)) (fun k_ hk_ => ⟨hk_.1.1, hk_.1.2.1, hk_.1.2.2.1, hk_.1.2.2.2.1, hk_.1.2.2.2.2.1, hk_.1.2.2.2.2.2.1, hk_.1.2.2.2.2.2.2.1, hk_.1.2.2.2.2.2.2.2.1, hk_.1.2.2.2.2.2.2.2.2⟩)); have n10_ := zA (Kd.R_mono (ok' := fun k_ => zO k_ (.slice Ao40 t241.length co40) ∧ zO k_ (.slice Ao34 t228.length co34) ∧ zO k_ (.slice Ao35 t231.length co35) ∧ zO k_ (.slice Ao36 t234.length co36) ∧ zO k_ (.slice Ao37 t237.length co37) ∧ zO k_ (.slice Ao60 t250.length co60) ∧ zO k_ (.slice Ao62 t256.length co62) ∧ zO k_ (.slice Ao63 t259.length co63) ∧ zO k_ (.slice Ao66 t263.length co66)) (Kd.R_keptB (HO255.out) hkp (fun k_ hk_ hs_ => (hk_.1) hs_)) (fun k_ hk_ => ⟨hk_.1.1, hk_.1.2.1, hk_.1.2.2.1, hk_.1.2.2.2.1, hk_.1.2.2.2.2.1, hk_.1.2.2.2.2.2.1, hk_.1.2.2.2.2.2.2.1, hk_.1.2.2.2.2.2.2.2.1, hk_.1.2.2.2.2.2.2.2.2⟩)); have n11_ := zA (Kd.R_mono (ok' := fun k_ => zO k_ (.slice Ao40 t241.length co40) ∧ zO k_ (.slice Ao34 t228.length co34) ∧ zO k_ (.slice Ao35 t231.length co35) ∧ zO k_ (.slice Ao36 t234.length co36) ∧ zO k_ (.slice Ao37 t237.length co37) ∧ zO k_ (.slice Ao60 t250.length co60) ∧ zO k_ (.slice Ao61 t253.length co61) ∧ zO k_ (.slice Ao63 t259.length co63) ∧ zO k_ (.slice Ao66 t263.length co66)) (Kd.R_keptB (HO258.out) hkp (fun k_ hk_ hs_ => (hk_.1) hs_)) (fun k_ hk_ => ⟨hk_.1.1, hk_.1.2.1, hk_.1.2.2.1, hk_.1.2.2.2.1, hk_.1.2.2.2.2.1, hk_.1.2.2.2.2.2.1, hk_.1.2.2.2.2.2.2.1, hk_.1.2.2.2.2.2.2.2.1, hk_.1.2.2.2.2.2.2.2.2⟩)); have n12_ := zA (Kd.R_mono (ok' := fun k_ => zO k_ (.slice Ao40 t241.length co40) ∧ zO k_ (.slice Ao34 t228.length co34) ∧ zO k_ (.slice Ao35 t231.length co35) ∧ zO k_ (.slice Ao36 t234.length co36) ∧ zO k_ (.slice Ao37 t237.length co37) ∧ zO k_ (.slice Ao60 t250.length co60) ∧ zO k_ (.slice Ao61 t253.length co61) ∧ zO k_ (.slice Ao62 t256.length co62) ∧ zO k_ (.slice Ao66 t263.length co66)) (Kd.R_keptB (HO261.out) hkp (fun k_ hk_ hs_ => (hk_.1) hs_)) (fun k_ hk_ => ⟨hk_.1.1, hk_.1.2.1, hk_.1.2.2.1, hk_.1.2.2.2.1, hk_.1.2.2.2.2.1, hk_.1.2.2.2.2.2.1, hk_.1.2.2.2.2.2.2.1, hk_.1.2.2.2.2.2.2.2.1, hk_.1.2.2.2.2.2.2.2.2⟩)); have n13_ := zA (Kd.R_mono (ok' := fun k_ => zO k_ (.slice Ao40 t241.length co40) ∧ zO k_ (.slice Ao34 t228.length co34) ∧ zO k_ (.slice Ao35 t231.length co35) ∧ zO k_ (.slice Ao36 t234.length co36) ∧ zO k_ (.slice Ao37 t237.length co37) ∧ zO k_ (.slice Ao60 t250.length co60) ∧ zO k_ (.slice Ao61 t253.length co61) ∧ zO k_ (.slice Ao62 t256.length co62) ∧ zO k_ (.slice Ao63 t259.length co63)) (Kd.R_keptB (HO265.out) hkp (fun k_ hk_ hs_ => (hk_.1) hs_)) (fun k_ hk_ => ⟨hk_.1.1, hk_.1.2.1, hk_.1.2.2.1, hk_.1.2.2.2.1, hk_.1.2.2.2.2.1, hk_.1.2.2.2.2.2.1, hk_.1.2.2.2.2.2.2.1, hk_.1.2.2.2.2.2.2.2.1, hk_.1.2.2.2.2.2.2.2.2⟩)); have n14_ := zA (hb); clear HO_6 HO_9 HO_10 HO_241001 HO_241002 HO_241003 HO_241004 BK205 BK240 HO252 HO255 HO258 HO261 HO265 HB; have HO_6 := n0_; have HO_9 := n1_; have HO_10 := n2_; have HO_241001 := n3_; have HO_241002 := n4_; have HO_241003 := n5_; have HO_241004 := n6_; have BK205 := n7_; have BK240 := n8_; have HO252 := n9_; have HO255 := n10_; have HO258 := n11_; have HO261 := n12_; have HO265 := n13_; have HB := n14_; clear n0_ n1_ n2_ n3_ n4_ n5_ n6_ n7_ n8_ n9_ n10_ n11_ n12_ n13_ n14_; (try clear hb); (try clear hkp); (try clear hy0)))
        (try simp only [Act.put, List.setIfInBounds_toArray, List.set_cons_zero, List.set_cons_succ])
        go_cut [80] (fun v80 wc => ∃ (kq : Nat) (x80_56 : Bool), v80 = .bool x80_56 ∧ Aside0 (laws_FnExactReach.j1 kq l1 t223 t226 t244 x80_56 a0_0 l0_1 l0_2 l0_3 l0_4 = some r) ∧ Aside0 (kq ≤ kj15) ∧ Aside0 (Kd.R Kd.bool 4 wc w.heap.size (fun k_ => zO k_ (v245)) v224 t223) ∧ Aside0 (Kd.R Kd.bool 4 wc w.heap.size (fun k_ => zO k_ (v224)) v245 t244) ∧ Aside0 (Kd.R (Kd.int .i64) 3 wc w.heap.size (fun k_ => zO k_ ((.slice Ao35 t231.length co35)) ∧ zO k_ ((.slice Ao36 t234.length co36)) ∧ zO k_ ((.slice Ao37 t237.length co37))) (.slice Ao34 t228.length co34) t268) ∧ Aside0 (Kd.R (Kd.int .i64) 3 wc w.heap.size (fun k_ => zO k_ ((.slice Ao34 t228.length co34)) ∧ zO k_ ((.slice Ao36 t234.length co36)) ∧ zO k_ ((.slice Ao37 t237.length co37))) (.slice Ao35 t231.length co35) t269) ∧ Aside0 (Kd.R (Kd.int .i64) 3 wc w.heap.size (fun k_ => zO k_ ((.slice Ao34 t228.length co34)) ∧ zO k_ ((.slice Ao35 t231.length co35)) ∧ zO k_ ((.slice Ao37 t237.length co37))) (.slice Ao36 t234.length co36) t270) ∧ Aside0 (Kd.R (Kd.int .i64) 3 wc w.heap.size (fun k_ => zO k_ ((.slice Ao34 t228.length co34)) ∧ zO k_ ((.slice Ao35 t231.length co35)) ∧ zO k_ ((.slice Ao36 t234.length co36))) (.slice Ao37 t237.length co37) t271) ∧ Aside0 (wc.heap[gb205]? = some (.cells #[.int .i64 a0_0, (.slice A0_1 l0_1.length c0_1), (.slice A0_2 l0_2.length c0_2), (.slice A0_3 l0_3.length c0_3), (.slice A0_4 l0_4.length c0_4)] 24 (0, 0))) ∧ Aside0 (wc.heap[gb240]? = some (.cells #[.int .i64 t227, (.slice Ao34 t228.length co34), (.slice Ao35 t231.length co35), (.slice Ao36 t234.length co36), (.slice Ao37 t237.length co37)] 26 (0, 0))) ∧ Aside0 (Below w.heap.size w wc))
        case first =>
         have H := HC57.out
         clear HC57
         by_cases c71 : t272 < 0
         ·rw [if_pos c71] at H
          have c71b0 : decide (t272 < 0) = true := decide_eq_true c71
          clear c71
          (first | rw [c71b0] | (simp only [i64_w, i32_w]; rw [c71b0]) | skip)
          have H' := zA H
          clear H
          go_wp2
          go_meet
          case rel => exact ⟨_, (true), zr, H', ⟨by have := HJ15.out; first | omega | exact Nat.le_refl _⟩, ⟨zR HO_6.out⟩, ⟨zR HO_10.out⟩, ⟨zo HO_241001.out zy⟩, ⟨zo HO_241002.out zy⟩, ⟨zo HO_241003.out zy⟩, ⟨zo HO_241004.out zy⟩, ⟨zb BK205.out⟩, ⟨zb BK240.out⟩, ⟨(zs2 GE205.out GE240.out)⟩⟩
         ·rw [if_neg c71] at H
          have c71b0 : decide (t272 < 0) = false := decide_eq_false c71
          clear c71
          (first | rw [c71b0] | (simp only [i64_w, i32_w]; rw [c71b0]) | skip)
          replace H := Option.bind_eq_some_iff.mp H
          obtain ⟨t274, A720, H⟩ := H
          replace H : (if t274 = true then (laws_FnExactReach.j1 kj15 l1 t223 t226 t244 (t247 != t226) a0_0 l0_1 l0_2 l0_3 l0_4) else (laws_FnExactReach.j1 kj15 l1 t223 t226 t244 true a0_0 l0_1 l0_2 l0_3 l0_4)) = some r := H
          have A72 := zA A720
          clear A720
          by_cases c73 : t274 = true
          ·subst c73
           have H1 : (laws_FnExactReach.j1 kj15 l1 t223 t226 t244 (t247 != t226) a0_0 l0_1 l0_2 l0_3 l0_4) = some r := by rw [if_pos rfl] at H; exact H
           clear H
           have H := H1
           clear H1
           have H' := zA H
           clear H
           obtain ⟨Ao74, co74, eo74⟩ := Kd.R_slice HO_10.out
           subst eo74
           obtain ⟨Ao75, co75, eo75⟩ := Kd.R_slice HO_6.out
           subst eo75
           go_wp2_with (first | (go_at_call 17; (with_reducible refine (laws_eqBoolS.calls kj15 _ _ t244 _ _ t223 true _ ?side1 ?side2 ?side3 ?side4 A72.out).mono ?_); (case side1 => exact zc ((Kd.R_reads' HO_10.out).2.2)); (case side2 => exact (Kd.R_reads' HO_10.out).2.1); (case side3 => exact zc ((Kd.R_reads' HO_6.out).2.2)); (case side4 => exact (Kd.R_reads' HO_6.out).2.1); rintro e w' ⟨rfl, ⟨nd, rfl⟩⟩))
           go_meet
           case rel => exact ⟨_, ((t247 != t226)), zr, H', ⟨by have := HJ15.out; first | omega | exact Nat.le_refl _⟩, ⟨zR HO_6.out⟩, ⟨zR HO_10.out⟩, ⟨zo HO_241001.out zy⟩, ⟨zo HO_241002.out zy⟩, ⟨zo HO_241003.out zy⟩, ⟨zo HO_241004.out zy⟩, ⟨zb BK205.out⟩, ⟨zb BK240.out⟩, ⟨(zs2 GE205.out GE240.out)⟩⟩
          ·replace c73 := Bool.eq_false_iff.mpr c73
           subst c73
           have H1 : (laws_FnExactReach.j1 kj15 l1 t223 t226 t244 true a0_0 l0_1 l0_2 l0_3 l0_4) = some r := by rw [if_neg (show ¬ (false = true) by decide)] at H; exact H
           clear H
           have H := H1
           clear H1
           have H' := zA H
           clear H
           obtain ⟨Ao76, co76, eo76⟩ := Kd.R_slice HO_10.out
           subst eo76
           obtain ⟨Ao77, co77, eo77⟩ := Kd.R_slice HO_6.out
           subst eo77
           go_wp2_with (first | (go_at_call 17; (with_reducible refine (laws_eqBoolS.calls kj15 _ _ t244 _ _ t223 false _ ?side1 ?side2 ?side3 ?side4 A72.out).mono ?_); (case side1 => exact zc ((Kd.R_reads' HO_10.out).2.2)); (case side2 => exact (Kd.R_reads' HO_10.out).2.1); (case side3 => exact zc ((Kd.R_reads' HO_6.out).2.2)); (case side4 => exact (Kd.R_reads' HO_6.out).2.1); rintro e w' ⟨rfl, ⟨nd, rfl⟩⟩))
           go_meet
           case rel => exact ⟨_, (true), zr, H', ⟨by have := HJ15.out; first | omega | exact Nat.le_refl _⟩, ⟨zR HO_6.out⟩, ⟨zR HO_10.out⟩, ⟨zo HO_241001.out zy⟩, ⟨zo HO_241002.out zy⟩, ⟨zo HO_241003.out zy⟩, ⟨zo HO_241004.out zy⟩, ⟨zb BK205.out⟩, ⟨zb BK240.out⟩, ⟨(zs2 GE205.out GE240.out)⟩⟩
        case rest =>
         clear HC57
         (try clear c1); (try clear p2); (try clear c3); (try clear c3b0); (try clear c3b1); (try clear c4); (try clear c5); (try clear c6); (try clear c6b0); (try clear c7); (try clear c9); (try clear c11); (try clear c12); (try clear c14); (try clear c15); (try clear c16); (try clear c17); (try clear c18); (try clear c19); (try clear c32); (try clear c43); (try clear c48); (try clear c51); (try clear c54); (try clear c67); (try clear c71); (try clear c71b0); (try clear c73); (try clear hcz18_0 hcz18_1 hcz18_2 hcz18_3 hcz18_4); (try clear hcz20_0 hcz20_1 hcz20_2 hcz20_3 hcz20_4); (try clear hcz29_0 hcz29_1 hcz29_2 hcz29_3 hcz29_4); (try clear hcz33_0 hcz33_1 hcz33_2 hcz33_3 hcz33_4); (try clear hcz39_0 hcz39_1 hcz39_2 hcz39_3 hcz39_4); (try clear hcz68_0 hcz68_1 hcz68_2 hcz68_3 hcz68_4); (try clear hcz8_0 hcz8_1 hcz8_2 hcz8_3 hcz8_4); (try clear hfz18_0 hfz18_1 hfz18_2 hfz18_3 hfz18_4); (try clear hfz20_0 hfz20_1 hfz20_2 hfz20_3 hfz20_4); (try clear hfz29_0 hfz29_1 hfz29_2 hfz29_3 hfz29_4); (try clear hfz33_0 hfz33_1 hfz33_2 hfz33_3 hfz33_4); (try clear hfz39_0 hfz39_1 hfz39_2 hfz39_3 hfz39_4); (try clear hfz68_0 hfz68_1 hfz68_2 hfz68_3 hfz68_4); (try clear hfz8_0 hfz8_1 hfz8_2 hfz8_3 hfz8_4); (try clear p2)
         obtain ⟨kq, x80_56, rfl, HA, HJ56, HO_6, HO_10, HO_241001, HO_241002, HO_241003, HO_241004, BK205, BK240, HB⟩ := hcut
         have hl241001_56 := (Kd.R_reads' HO_241001.out).1
         rw [hl241001_56] at HO_241001
         (try simp only [hl241001_56])
         (try simp only [hl241001_56] at BK205)
         (try simp only [hl241001_56] at BK240)
         (try simp only [hl241001_56] at HO_6)
         (try simp only [hl241001_56] at HO_10)
         (try simp only [hl241001_56] at HO_241002)
         (try simp only [hl241001_56] at HO_241003)
         (try simp only [hl241001_56] at HO_241004)
         have hl241002_56 := (Kd.R_reads' HO_241002.out).1
         rw [hl241002_56] at HO_241002
         (try simp only [hl241002_56])
         (try simp only [hl241002_56] at BK205)
         (try simp only [hl241002_56] at BK240)
         (try simp only [hl241002_56] at HO_6)
         (try simp only [hl241002_56] at HO_10)
         (try simp only [hl241002_56] at HO_241001)
         (try simp only [hl241002_56] at HO_241003)
         (try simp only [hl241002_56] at HO_241004)
         have hl241003_56 := (Kd.R_reads' HO_241003.out).1
         rw [hl241003_56] at HO_241003
         (try simp only [hl241003_56])
         (try simp only [hl241003_56] at BK205)
         (try simp only [hl241003_56] at BK240)
         (try simp only [hl241003_56] at HO_6)
         (try simp only [hl241003_56] at HO_10)
         (try simp only [hl241003_56] at HO_241001)
         (try simp only [hl241003_56] at HO_241002)
         (try simp only [hl241003_56] at HO_241004)
         have hl241004_56 := (Kd.R_reads' HO_241004.out).1
         rw [hl241004_56] at HO_241004
         (try simp only [hl241004_56])
         (try simp only [hl241004_56] at BK205)
         (try simp only [hl241004_56] at BK240)
         (try simp only [hl241004_56] at HO_6)
         (try simp only [hl241004_56] at HO_10)
         (try simp only [hl241004_56] at HO_241001)
         (try simp only [hl241004_56] at HO_241002)
         (try simp only [hl241004_56] at HO_241003)
         cases kq with
         | zero => exact absurd HA.out (by simp [laws_FnExactReach.j1])
         | succ kj56 =>
          have H := HA.out
          clear HA
          simp only [laws_FnExactReach.j1] at H
          by_cases c78 : x80_56 = true
          ·subst c78
           have H1 : (some false) = some r := by rw [if_pos rfl] at H; exact H
           clear H
           have H := H1
           clear H1
           obtain rfl := Option.some.inj H
           go_wp2
           go_ret
           exact ⟨ze, (zs2 GE205.out GE240.out)⟩
          ·replace c78 := Bool.eq_false_iff.mpr c78
           subst c78
           have H1 : ((laws_markBoolS.f kj56 t244 1).bind fun bt275 => ((laws_heldBoolS.f kj56 bt275.2 1).bind fun t277 => (if t277 < 0 then (some false) else (if t277 = bt275.1 then ((laws_toGraph.f kj56 a0_0 l0_1 l0_2 l0_3 l0_4).bind fun bt278 => ((laws_toIntS.f kj56 l1).bind fun t291 => ((impl_Reach.f kj56 bt278.1 bt278.2.1 bt278.2.2.1 bt278.2.2.2.1 bt278.2.2.2.2 t291).bind fun bt294 => ((laws_eqBoolS.f kj56 bt294.1 t223).bind fun t298 => (if t298 = true then (laws_FnExactReach.j2 kj56 bt275.2 bt275.1 (bt294.2 != t226)) else (laws_FnExactReach.j2 kj56 bt275.2 bt275.1 true)))))) else (some false))))) = some r := by rw [if_neg (show ¬ (false = true) by decide)] at H; exact H
           clear H
           have H := H1
           clear H1
           replace H := Option.bind_eq_some_iff.mp H
           obtain ⟨⟨t275, t276⟩, A790, H⟩ := H
           replace H : ((laws_heldBoolS.f kj56 t276 1).bind fun t277 => (if t277 < 0 then (some false) else (if t277 = t275 then ((laws_toGraph.f kj56 a0_0 l0_1 l0_2 l0_3 l0_4).bind fun bt278 => ((laws_toIntS.f kj56 l1).bind fun t291 => ((impl_Reach.f kj56 bt278.1 bt278.2.1 bt278.2.2.1 bt278.2.2.2.1 bt278.2.2.2.2 t291).bind fun bt294 => ((laws_eqBoolS.f kj56 bt294.1 t223).bind fun t298 => (if t298 = true then (laws_FnExactReach.j2 kj56 t276 t275 (bt294.2 != t226)) else (laws_FnExactReach.j2 kj56 t276 t275 true)))))) else (some false)))) = some r := H
           have A79 := zA A790
           clear A790
           replace H := Option.bind_eq_some_iff.mp H
           obtain ⟨t277, A800, H⟩ := H
           replace H : (if t277 < 0 then (some false) else (if t277 = t275 then ((laws_toGraph.f kj56 a0_0 l0_1 l0_2 l0_3 l0_4).bind fun bt278 => ((laws_toIntS.f kj56 l1).bind fun t291 => ((impl_Reach.f kj56 bt278.1 bt278.2.1 bt278.2.2.1 bt278.2.2.2.1 bt278.2.2.2.2 t291).bind fun bt294 => ((laws_eqBoolS.f kj56 bt294.1 t223).bind fun t298 => (if t298 = true then (laws_FnExactReach.j2 kj56 t276 t275 (bt294.2 != t226)) else (laws_FnExactReach.j2 kj56 t276 t275 true)))))) else (some false))) = some r := H
           have A80 := zA A800
           clear A800
           by_cases c81 : t277 < 0
           ·rw [if_pos c81] at H
            have c81b0 : decide (t277 < 0) = true := decide_eq_true c81
            clear c81
            obtain rfl := Option.some.inj H
            obtain ⟨Ao82, co82, eo82⟩ := Kd.R_slice HO_10.out
            subst eo82
            go_wp2_with (first | ((with_reducible refine gate_callee (f := 20) rfl ?_); refine goesL_ (some 83) rfl rfl Try.func20 (by kernel_rfl) rfl #[.slice Ao82 t244.length co82, .int .i64 1] rfl za ?_; (with_reducible refine (laws_markBoolS.calls kj56 (fun k_ => some k_ = (.slice Ao82 t244.length co82 : Value).ownBlock) (.slice Ao82 t244.length co82) t244 1 t275 t276 w _ ?side1 ?side2 A79.out).mono ?_); (case side1 => repeat (first | (with_reducible first | exact HB.out | apply below_alloc | apply pw_below_drewN | apply below_drew1 | refine below_set ?_ GE205.out | refine below_set ?_ GE240.out) | exact HB.out)); (case side2 => exact Kd.R_tight rfl HO_10.out); rintro e w83 ⟨rfl, hy0, hb, hkp⟩; refine ⟨_, rfl, ?_⟩; have n0_ := zA (Kd.R_mono (ok' := fun k_ => zO k_ (.slice Ao82 t244.length co82)) (Kd.R_keptB (HO_6.out) hkp (fun k_ hk_ hs_ => (hk_) hs_)) (fun k_ hk_ => hk_.1)); have n1_ := zA (Kd.R_reok rfl hy0 (fun k_ e_ => HO_10.out.1 k_ e_)); have n2_ := zA (Kd.R_mono (ok' := fun k_ => zO k_ (.slice Ao35 t269.length co35) ∧ zO k_ (.slice Ao36 t270.length co36) ∧ zO k_ (.slice Ao37 t271.length co37)) (Kd.R_keptB ((Kd.R_apart' HO_241001.out (Kd.R_typed HO_10.out) (by decide))) hkp (fun k_ hk_ hs_ => (hk_.2) hs_)) (fun k_ hk_ => ⟨hk_.1.1.1, hk_.1.1.2.1, hk_.1.1.2.2⟩)); have n3_ := zA (Kd.R_mono (ok' := fun k_ => zO k_ (.slice Ao34 t268.length co34) ∧ zO k_ (.slice Ao36 t270.length co36) ∧ zO k_ (.slice Ao37 t271.length co37)) (Kd.R_keptB ((Kd.R_apart' HO_241002.out (Kd.R_typed HO_10.out) (by decide))) hkp (fun k_ hk_ hs_ => (hk_.2) hs_)) (fun k_ hk_ => ⟨hk_.1.1.1, hk_.1.1.2.1, hk_.1.1.2.2⟩)); have n4_ := zA (Kd.R_mono (ok' := fun k_ => zO k_ (.slice Ao34 t268.length co34) ∧ zO k_ (.slice Ao35 t269.length co35) ∧ zO k_ (.slice Ao37 t271.length co37)) (Kd.R_keptB ((Kd.R_apart' HO_241003.out (Kd.R_typed HO_10.out) (by decide))) hkp (fun k_ hk_ hs_ => (hk_.2) hs_)) (fun k_ hk_ => ⟨hk_.1.1.1, hk_.1.1.2.1, hk_.1.1.2.2⟩)); have n5_ := zA (Kd.R_mono (ok' := fun k_ => zO k_ (.slice Ao34 t268.length co34) ∧ zO k_ (.slice Ao35 t269.length co35) ∧ zO k_ (.slice Ao36 t270.length co36)) (Kd.R_keptB ((Kd.R_apart' HO_241004.out (Kd.R_typed HO_10.out) (by decide))) hkp (fun k_ hk_ hs_ => (hk_.2) hs_)) (fun k_ hk_ => ⟨hk_.1.1.1, hk_.1.1.2.1, hk_.1.1.2.2⟩)); have n6_ := zA (zkb BK205.out hkp (fun hs_ => (fun e_ => (Kd.R_ne HO_10.out BK205.out (by decide)) e_) hs_)); have n7_ := zA (zkb BK240.out hkp (fun hs_ => (fun e_ => (Kd.R_ne HO_10.out BK240.out (by decide)) e_) hs_)); have n8_ := zA (hb); clear HO_6 HO_10 HO_241001 HO_241002 HO_241003 HO_241004 BK205 BK240 HB; have HO_6 := n0_; have HO_10 := n1_; have HO_241001 := n2_; have HO_241002 := n3_; have HO_241003 := n4_; have HO_241004 := n5_; have BK205 := n6_; have BK240 := n7_; have HB := n8_; clear n0_ n1_ n2_ n3_ n4_ n5_ n6_ n7_ n8_; (try clear hb); (try clear hkp); (try clear hy0)) | ((with_reducible refine gate_callee (f := 21) rfl ?_); refine goesL_ (some 86) rfl rfl Try.func21 (by kernel_rfl) rfl #[.slice Ao82 t276.length co82, .int .i64 1] rfl (by (try simp only [List.map_toArray, List.map_cons, List.map_nil]); first | done | (rw [show t276.length = t244.length from (Kd.R_reads' HO_10.out).1.symm] <;> rfl) | rfl | (simp only [List.length_drop, List.length_take]; rfl)) ?_; (with_reducible refine (laws_heldBoolS.calls kj56 _ _ t276 1 t277 _ ?side1 ?side2 A80.out).mono ?_); (case side1 => exact zc ((Kd.R_reads' HO_10.out).2.2)); (case side2 => rw [show t276.length = t244.length from (Kd.R_reads' HO_10.out).1.symm]; exact (Kd.R_reads' HO_10.out).2.1); rintro e w' ⟨rfl, ⟨nd, rfl⟩⟩; refine ⟨_, rfl, ?_⟩))
            go_ret
            exact ⟨ze, (zs2 GE205.out GE240.out)⟩
           ·rw [if_neg c81] at H
            have c81b0 : decide (t277 < 0) = false := decide_eq_false c81
            clear c81
            by_cases c84 : t277 = t275
            ·rw [if_pos c84] at H
             have c84b0 : (t277 == t275) = true := beq_iff_eq.mpr c84
             have c84b1 : (t277 != t275) = false := bne_eq_false_iff_eq.mpr c84
             clear c84
             replace H := Option.bind_eq_some_iff.mp H
             obtain ⟨⟨t278, t279, t282, t285, t288⟩, A850, H⟩ := H
             replace H : ((laws_toIntS.f kj56 l1).bind fun t291 => ((impl_Reach.f kj56 t278 t279 t282 t285 t288 t291).bind fun bt294 => ((laws_eqBoolS.f kj56 bt294.1 t223).bind fun t298 => (if t298 = true then (laws_FnExactReach.j2 kj56 t276 t275 (bt294.2 != t226)) else (laws_FnExactReach.j2 kj56 t276 t275 true))))) = some r := H
             have A85 := zA A850
             clear A850
             replace H := Option.bind_eq_some_iff.mp H
             obtain ⟨t291, A860, H⟩ := H
             replace H : ((impl_Reach.f kj56 t278 t279 t282 t285 t288 t291).bind fun bt294 => ((laws_eqBoolS.f kj56 bt294.1 t223).bind fun t298 => (if t298 = true then (laws_FnExactReach.j2 kj56 t276 t275 (bt294.2 != t226)) else (laws_FnExactReach.j2 kj56 t276 t275 true)))) = some r := H
             have A86 := zA A860
             clear A860
             replace H := Option.bind_eq_some_iff.mp H
             obtain ⟨⟨t294, t297⟩, A870, H⟩ := H
             replace H : ((laws_eqBoolS.f kj56 t294 t223).bind fun t298 => (if t298 = true then (laws_FnExactReach.j2 kj56 t276 t275 (t297 != t226)) else (laws_FnExactReach.j2 kj56 t276 t275 true))) = some r := H
             have A87 := zA A870
             clear A870
             have HC88 := zA H
             clear H
             obtain ⟨Ao89, co89, eo89⟩ := Kd.R_slice HO_10.out
             subst eo89
             go_upto_region 31 with (first | ((with_reducible refine gate_callee (f := 20) rfl ?_); refine goesL_ (some 83) rfl rfl Try.func20 (by kernel_rfl) rfl #[.slice Ao89 t244.length co89, .int .i64 1] rfl za ?_; (with_reducible refine (laws_markBoolS.calls kj56 (fun k_ => some k_ = (.slice Ao89 t244.length co89 : Value).ownBlock) (.slice Ao89 t244.length co89) t244 1 t275 t276 w _ ?side1 ?side2 A79.out).mono ?_); (case side1 => repeat (first | (with_reducible first | exact HB.out | apply below_alloc | apply pw_below_drewN | apply below_drew1 | refine below_set ?_ GE205.out | refine below_set ?_ GE240.out) | exact HB.out)); (case side2 => exact Kd.R_tight rfl HO_10.out); rintro e w90 ⟨rfl, hy0, hb, hkp⟩; refine ⟨_, rfl, ?_⟩; have n0_ := zA (Kd.R_mono (ok' := fun k_ => zO k_ (.slice Ao89 t244.length co89)) (Kd.R_keptB (HO_6.out) hkp (fun k_ hk_ hs_ => (hk_) hs_)) (fun k_ hk_ => hk_.1)); have n1_ := zA (Kd.R_reok rfl hy0 (fun k_ e_ => HO_10.out.1 k_ e_)); have n2_ := zA (Kd.R_mono (ok' := fun k_ => zO k_ (.slice Ao35 t269.length co35) ∧ zO k_ (.slice Ao36 t270.length co36) ∧ zO k_ (.slice Ao37 t271.length co37)) (Kd.R_keptB ((Kd.R_apart' HO_241001.out (Kd.R_typed HO_10.out) (by decide))) hkp (fun k_ hk_ hs_ => (hk_.2) hs_)) (fun k_ hk_ => ⟨hk_.1.1.1, hk_.1.1.2.1, hk_.1.1.2.2⟩)); have n3_ := zA (Kd.R_mono (ok' := fun k_ => zO k_ (.slice Ao34 t268.length co34) ∧ zO k_ (.slice Ao36 t270.length co36) ∧ zO k_ (.slice Ao37 t271.length co37)) (Kd.R_keptB ((Kd.R_apart' HO_241002.out (Kd.R_typed HO_10.out) (by decide))) hkp (fun k_ hk_ hs_ => (hk_.2) hs_)) (fun k_ hk_ => ⟨hk_.1.1.1, hk_.1.1.2.1, hk_.1.1.2.2⟩)); have n4_ := zA (Kd.R_mono (ok' := fun k_ => zO k_ (.slice Ao34 t268.length co34) ∧ zO k_ (.slice Ao35 t269.length co35) ∧ zO k_ (.slice Ao37 t271.length co37)) (Kd.R_keptB ((Kd.R_apart' HO_241003.out (Kd.R_typed HO_10.out) (by decide))) hkp (fun k_ hk_ hs_ => (hk_.2) hs_)) (fun k_ hk_ => ⟨hk_.1.1.1, hk_.1.1.2.1, hk_.1.1.2.2⟩)); have n5_ := zA (Kd.R_mono (ok' := fun k_ => zO k_ (.slice Ao34 t268.length co34) ∧ zO k_ (.slice Ao35 t269.length co35) ∧ zO k_ (.slice Ao36 t270.length co36)) (Kd.R_keptB ((Kd.R_apart' HO_241004.out (Kd.R_typed HO_10.out) (by decide))) hkp (fun k_ hk_ hs_ => (hk_.2) hs_)) (fun k_ hk_ => ⟨hk_.1.1.1, hk_.1.1.2.1, hk_.1.1.2.2⟩)); have n6_ := zA (zkb BK205.out hkp (fun hs_ => (fun e_ => (Kd.R_ne HO_10.out BK205.out (by decide)) e_) hs_)); have n7_ := zA (zkb BK240.out hkp (fun hs_ => (fun e_ => (Kd.R_ne HO_10.out BK240.out (by decide)) e_) hs_)); have n8_ := zA (hb); clear HO_6 HO_10 HO_241001 HO_241002 HO_241003 HO_241004 BK205 BK240 HB; have HO_6 := n0_; have HO_10 := n1_; have HO_241001 := n2_; have HO_241002 := n3_; have HO_241003 := n4_; have HO_241004 := n5_; have BK205 := n6_; have BK240 := n7_; have HB := n8_; clear n0_ n1_ n2_ n3_ n4_ n5_ n6_ n7_ n8_; (try clear hb); (try clear hkp); (try clear hy0)) | ((with_reducible refine gate_callee (f := 21) rfl ?_); refine goesL_ (some 86) rfl rfl Try.func21 (by kernel_rfl) rfl #[.slice Ao89 t276.length co89, .int .i64 1] rfl (by (try simp only [List.map_toArray, List.map_cons, List.map_nil]); first | done | (rw [show t276.length = t244.length from (Kd.R_reads' HO_10.out).1.symm] <;> rfl) | rfl | (simp only [List.length_drop, List.length_take]; rfl)) ?_; (with_reducible refine (laws_heldBoolS.calls kj56 _ _ t276 1 t277 _ ?side1 ?side2 A80.out).mono ?_); (case side1 => exact zc ((Kd.R_reads' HO_10.out).2.2)); (case side2 => rw [show t276.length = t244.length from (Kd.R_reads' HO_10.out).1.symm]; exact (Kd.R_reads' HO_10.out).2.1); rintro e w' ⟨rfl, ⟨nd, rfl⟩⟩; refine ⟨_, rfl, ?_⟩; have hnb91 := NB205_240.out; have hnc91 := NB240_205.out; obtain ⟨hcz92_0, hcz92_1, hcz92_2, hcz92_3, hcz92_4, hfz92_0, hfz92_1, hfz92_2, hfz92_3, hfz92_4⟩ := zh5 BK205.out) | ((with_reducible refine gate_callee (f := 9) rfl ?_); refine goesL_ (some 94) rfl rfl Try.func9 (by kernel_rfl) rfl #[.agg #[.int .i64 a0_0, .slice A0_1 l0_1.length c0_1, .slice A0_2 l0_2.length c0_2, .slice A0_3 l0_3.length c0_3, .slice A0_4 l0_4.length c0_4]] rfl za ?_; (with_reducible refine (laws_toGraph.calls kj56 a0_0 _ _ l0_1 _ _ l0_2 _ _ l0_3 _ _ l0_4 t278 t279 t282 t285 t288 _ ?side1 ?side2 ?side3 ?side4 ?side5 ?side6 ?side7 ?side8 A85.out).mono ?_); (case side1 => repeat (first | exact (Kd.C_below HR0_1.out (zs2 GE205.out GE240.out)) | (with_reducible refine Kd.C_alloc ?_ _) | (with_reducible refine Kd.C_drewN ?_ _) | (with_reducible refine Kd.C_drew ?_))); (case side2 => exact HC0_1.out); (case side3 => repeat (first | exact (Kd.C_below HR0_2.out (zs2 GE205.out GE240.out)) | (with_reducible refine Kd.C_alloc ?_ _) | (with_reducible refine Kd.C_drewN ?_ _) | (with_reducible refine Kd.C_drew ?_))); (case side4 => exact HC0_2.out); (case side5 => repeat (first | exact (Kd.C_below HR0_3.out (zs2 GE205.out GE240.out)) | (with_reducible refine Kd.C_alloc ?_ _) | (with_reducible refine Kd.C_drewN ?_ _) | (with_reducible refine Kd.C_drew ?_))); (case side6 => exact HC0_3.out); (case side7 => repeat (first | exact (Kd.C_below HR0_4.out (zs2 GE205.out GE240.out)) | (with_reducible refine Kd.C_alloc ?_ _) | (with_reducible refine Kd.C_drewN ?_ _) | (with_reducible refine Kd.C_drew ?_))); (case side8 => exact HC0_4.out); rintro e w93 ⟨v280, v283, v286, v289, rfl, ho0, ho1, ho2, ho3, hb⟩; refine ⟨_, rfl, ?_⟩; have n0_ := zA (Kd.R_below (zR HO_6.out) hb); have n1_ := zA (Kd.R_below (zR HO_10.out) hb); have n2_ := zA (Kd.R_mono (Kd.R_told (Kd.R_told (Kd.R_told (Kd.R_told (Kd.R_old (zR HO_241001.out) hb) (Kd.R_base ho0)) (Kd.R_base ho1)) (Kd.R_base ho2)) (Kd.R_base ho3)) (fun _ h_ => h_.1)); have n3_ := zA (Kd.R_mono (Kd.R_told (Kd.R_told (Kd.R_told (Kd.R_told (Kd.R_old (zR HO_241002.out) hb) (Kd.R_base ho0)) (Kd.R_base ho1)) (Kd.R_base ho2)) (Kd.R_base ho3)) (fun _ h_ => h_.1)); have n4_ := zA (Kd.R_mono (Kd.R_told (Kd.R_told (Kd.R_told (Kd.R_told (Kd.R_old (zR HO_241003.out) hb) (Kd.R_base ho0)) (Kd.R_base ho1)) (Kd.R_base ho2)) (Kd.R_base ho3)) (fun _ h_ => h_.1)); have n5_ := zA (Kd.R_mono (Kd.R_told (Kd.R_told (Kd.R_told (Kd.R_told (Kd.R_old (zR HO_241004.out) hb) (Kd.R_base ho0)) (Kd.R_base ho1)) (Kd.R_base ho2)) (Kd.R_base ho3)) (fun _ h_ => h_.1)); have n6_ := zA (Kd.R_lower (Kd.R_new' (Kd.R_new' (Kd.R_new' (Kd.R_new' ho0 (zl HO_241001.out)) (zl HO_241002.out)) (zl HO_241003.out)) (zl HO_241004.out)) (below_size (zs2 GE205.out GE240.out))); have n7_ := zA (Kd.R_lower (Kd.R_new' (Kd.R_new' (Kd.R_new' (Kd.R_new' ho1 (zl HO_241001.out)) (zl HO_241002.out)) (zl HO_241003.out)) (zl HO_241004.out)) (below_size (zs2 GE205.out GE240.out))); have n8_ := zA (Kd.R_lower (Kd.R_new' (Kd.R_new' (Kd.R_new' (Kd.R_new' ho2 (zl HO_241001.out)) (zl HO_241002.out)) (zl HO_241003.out)) (zl HO_241004.out)) (below_size (zs2 GE205.out GE240.out))); have n9_ := zA (Kd.R_lower (Kd.R_new' (Kd.R_new' (Kd.R_new' (Kd.R_new' ho3 (zl HO_241001.out)) (zl HO_241002.out)) (zl HO_241003.out)) (zl HO_241004.out)) (below_size (zs2 GE205.out GE240.out))); have n10_ := zA (zB BK205.out hb); have n11_ := zA (zB BK240.out hb); have n12_ := zA (below_step (zs2 GE205.out GE240.out) hb); clear HO_6 HO_10 HO_241001 HO_241002 HO_241003 HO_241004 BK205 BK240 HB; have HO_6 := n0_; have HO_10 := n1_; have HO_241001 := n2_; have HO_241002 := n3_; have HO_241003 := n4_; have HO_241004 := n5_; have HO281 := n6_; have HO284 := n7_; have HO287 := n8_; have HO290 := n9_; have BK205 := n10_; have BK240 := n11_; have HB := n12_; clear n0_ n1_ n2_ n3_ n4_ n5_ n6_ n7_ n8_ n9_ n10_ n11_ n12_; (try clear hb); (try clear hb2); (try clear hk); (try clear hi); (try clear ho0); (try clear ho1); (try clear ho2); (try clear ho3)) | ((with_reducible refine gate_callee (f := 15) rfl ?_); refine goesL_ (some 96) rfl rfl Try.func15 (by kernel_rfl) rfl #[.slice A1 l1.length c1] rfl za ?_; (with_reducible refine (laws_toIntS.calls kj56 _ _ l1 t291 _ ?side1 ?side2 A86.out).mono ?_); (case side1 => exact zc (Kd.C_below HR1.out HB.out)); (case side2 => exact HC1.out); rintro e w94 ⟨v292, rfl, ho0, hb⟩; refine ⟨_, rfl, ?_⟩; have n0_ := zA (Kd.R_below (zR HO_6.out) hb); have n1_ := zA (Kd.R_below (zR HO_10.out) hb); have n2_ := zA (Kd.R_elder' (zR HO_241001.out) (Kd.R_base ho0) hb); have n3_ := zA (Kd.R_elder' (zR HO_241002.out) (Kd.R_base ho0) hb); have n4_ := zA (Kd.R_elder' (zR HO_241003.out) (Kd.R_base ho0) hb); have n5_ := zA (Kd.R_elder' (zR HO_241004.out) (Kd.R_base ho0) hb); have n6_ := zA (Kd.R_elder' (zR HO281.out) (Kd.R_base ho0) hb); have n7_ := zA (Kd.R_elder' (zR HO284.out) (Kd.R_base ho0) hb); have n8_ := zA (Kd.R_elder' (zR HO287.out) (Kd.R_base ho0) hb); have n9_ := zA (Kd.R_elder' (zR HO290.out) (Kd.R_base ho0) hb); have n10_ := zA (Kd.R_lower (Kd.R_new' (Kd.R_new' (Kd.R_new' (Kd.R_new' (Kd.R_new' (Kd.R_new' (Kd.R_new' (Kd.R_new' ho0 (zl HO_241001.out)) (zl HO_241002.out)) (zl HO_241003.out)) (zl HO_241004.out)) (zl HO281.out)) (zl HO284.out)) (zl HO287.out)) (zl HO290.out)) (below_size (zs2 GE205.out GE240.out))); have n11_ := zA (zB BK205.out hb); have n12_ := zA (zB BK240.out hb); have n13_ := zA (below_step (zs2 GE205.out GE240.out) hb); clear HO_6 HO_10 HO_241001 HO_241002 HO_241003 HO_241004 HO281 HO284 HO287 HO290 BK205 BK240 HB; have HO_6 := n0_; have HO_10 := n1_; have HO_241001 := n2_; have HO_241002 := n3_; have HO_241003 := n4_; have HO_241004 := n5_; have HO281 := n6_; have HO284 := n7_; have HO287 := n8_; have HO290 := n9_; have HO293 := n10_; have BK205 := n11_; have BK240 := n12_; have HB := n13_; clear n0_ n1_ n2_ n3_ n4_ n5_ n6_ n7_ n8_ n9_ n10_ n11_ n12_ n13_; (try clear hb); (try clear hb2); (try clear hk); (try clear hi); (try clear ho0); obtain ⟨Ao95, co95, eo95⟩ := Kd.R_slice HO281.out; subst eo95; obtain ⟨Ao96, co96, eo96⟩ := Kd.R_slice HO284.out; subst eo96; obtain ⟨Ao97, co97, eo97⟩ := Kd.R_slice HO287.out; subst eo97; obtain ⟨Ao98, co98, eo98⟩ := Kd.R_slice HO290.out; subst eo98; obtain ⟨Ao99, co99, eo99⟩ := Kd.R_slice HO293.out; subst eo99) | ((with_reducible refine gate_callee (f := 16) rfl ?_); refine goesL_ (some 97) rfl rfl Try.func16 (by kernel_rfl) rfl #[.agg #[.int .i64 t278, .slice Ao95 t279.length co95, .slice Ao96 t282.length co96, .slice Ao97 t285.length co97, .slice Ao98 t288.length co98], .slice Ao99 t291.length co99] rfl za ?_; (with_reducible refine (impl_Reach.calls kj56 t278 _ _ t279 _ _ t282 _ _ t285 _ _ t288 _ _ t291 t294 t297 _ ?side1 ?side2 ?side3 ?side4 ?side5 ?side6 ?side7 ?side8 ?side9 ?side10 A87.out).mono ?_); (case side1 => exact zc ((Kd.R_reads' HO281.out).2.2)); (case side2 => exact (Kd.R_reads' HO281.out).2.1); (case side3 => exact zc ((Kd.R_reads' HO284.out).2.2)); (case side4 => exact (Kd.R_reads' HO284.out).2.1); (case side5 => exact zc ((Kd.R_reads' HO287.out).2.2)); (case side6 => exact (Kd.R_reads' HO287.out).2.1); (case side7 => exact zc ((Kd.R_reads' HO290.out).2.2)); (case side8 => exact (Kd.R_reads' HO290.out).2.1); (case side9 => exact zc ((Kd.R_reads' HO293.out).2.2)); (case side10 => exact (Kd.R_reads' HO293.out).2.1); rintro e w100 ⟨v295, rfl, ho0, hb⟩; refine ⟨_, rfl, ?_⟩; have n0_ := zA (Kd.R_elder' (zR HO_6.out) (Kd.R_base ho0) hb); have n1_ := zA (Kd.R_elder' (zR HO_10.out) (Kd.R_base ho0) hb); have n2_ := zA (Kd.R_below (zR HO_241001.out) hb); have n3_ := zA (Kd.R_below (zR HO_241002.out) hb); have n4_ := zA (Kd.R_below (zR HO_241003.out) hb); have n5_ := zA (Kd.R_below (zR HO_241004.out) hb); have n6_ := zA (Kd.R_below (zR HO281.out) hb); have n7_ := zA (Kd.R_below (zR HO284.out) hb); have n8_ := zA (Kd.R_below (zR HO287.out) hb); have n9_ := zA (Kd.R_below (zR HO290.out) hb); have n10_ := zA (Kd.R_below (zR HO293.out) hb); have n11_ := zA (Kd.R_lower (Kd.R_new' (Kd.R_new' ho0 (zl HO_6.out)) (zl HO_10.out)) (below_size (zs2 GE205.out GE240.out))); have n12_ := zA (zB BK205.out hb); have n13_ := zA (zB BK240.out hb); have n14_ := zA (below_step (zs2 GE205.out GE240.out) hb); clear HO_6 HO_10 HO_241001 HO_241002 HO_241003 HO_241004 HO281 HO284 HO287 HO290 HO293 BK205 BK240 HB; have HO_6 := n0_; have HO_10 := n1_; have HO_241001 := n2_; have HO_241002 := n3_; have HO_241003 := n4_; have HO_241004 := n5_; have HO281 := n6_; have HO284 := n7_; have HO287 := n8_; have HO290 := n9_; have HO293 := n10_; have HO296 := n11_; have BK205 := n12_; have BK240 := n13_; have HB := n14_; clear n0_ n1_ n2_ n3_ n4_ n5_ n6_ n7_ n8_ n9_ n10_ n11_ n12_ n13_ n14_; (try clear hb); (try clear hb2); (try clear hk); (try clear hi); (try clear ho0)))
             (try simp only [Act.put, List.setIfInBounds_toArray, List.set_cons_zero, List.set_cons_succ])
             go_cut [108] (fun v108 wc => ∃ (kq : Nat) (x108_87 : Bool), v108 = .bool x108_87 ∧ Aside0 (laws_FnExactReach.j2 kq t276 t275 x108_87 = some r) ∧ Aside0 (kq ≤ kj56) ∧ Aside0 (Kd.R Kd.bool 4 wc w.heap.size (fun _ => True) (.slice Ao89 t244.length co89) t276) ∧ Aside0 (Kd.R (Kd.int .i64) 3 wc w.heap.size (fun k_ => zO k_ ((.slice Ao35 t269.length co35)) ∧ zO k_ ((.slice Ao36 t270.length co36)) ∧ zO k_ ((.slice Ao37 t271.length co37))) (.slice Ao34 t268.length co34) t268) ∧ Aside0 (Kd.R (Kd.int .i64) 3 wc w.heap.size (fun k_ => zO k_ ((.slice Ao34 t268.length co34)) ∧ zO k_ ((.slice Ao36 t270.length co36)) ∧ zO k_ ((.slice Ao37 t271.length co37))) (.slice Ao35 t269.length co35) t269) ∧ Aside0 (Kd.R (Kd.int .i64) 3 wc w.heap.size (fun k_ => zO k_ ((.slice Ao34 t268.length co34)) ∧ zO k_ ((.slice Ao35 t269.length co35)) ∧ zO k_ ((.slice Ao37 t271.length co37))) (.slice Ao36 t270.length co36) t270) ∧ Aside0 (Kd.R (Kd.int .i64) 3 wc w.heap.size (fun k_ => zO k_ ((.slice Ao34 t268.length co34)) ∧ zO k_ ((.slice Ao35 t269.length co35)) ∧ zO k_ ((.slice Ao36 t270.length co36))) (.slice Ao37 t271.length co37) t271) ∧ Aside0 (wc.heap[gb205]? = some (.cells #[.int .i64 a0_0, (.slice A0_1 l0_1.length c0_1), (.slice A0_2 l0_2.length c0_2), (.slice A0_3 l0_3.length c0_3), (.slice A0_4 l0_4.length c0_4)] 24 (0, 0))) ∧ Aside0 (wc.heap[gb240]? = some (.cells #[.int .i64 t227, (.slice Ao34 t268.length co34), (.slice Ao35 t269.length co35), (.slice Ao36 t270.length co36), (.slice Ao37 t271.length co37)] 26 (0, 0))) ∧ Aside0 (Below w.heap.size w wc))
             case first =>
              have H := HC88.out
              clear HC88
              replace H := Option.bind_eq_some_iff.mp H
              obtain ⟨t298, A1010, H⟩ := H
              replace H : (if t298 = true then (laws_FnExactReach.j2 kj56 t276 t275 (t297 != t226)) else (laws_FnExactReach.j2 kj56 t276 t275 true)) = some r := H
              have A101 := zA A1010
              clear A1010
              by_cases c102 : t298 = true
              ·subst c102
               have H1 : (laws_FnExactReach.j2 kj56 t276 t275 (t297 != t226)) = some r := by rw [if_pos rfl] at H; exact H
               clear H
               have H := H1
               clear H1
               have H' := zA H
               clear H
               obtain ⟨Ao103, co103, eo103⟩ := Kd.R_slice HO296.out
               subst eo103
               obtain ⟨Ao104, co104, eo104⟩ := Kd.R_slice HO_6.out
               subst eo104
               go_wp2_with (first | ((with_reducible refine gate_callee (f := 17) rfl ?_); refine goesL_ (some 102) rfl rfl Try.func17 (by kernel_rfl) rfl #[.slice Ao103 t294.length co103, .slice Ao104 t223.length co104] rfl za ?_; (with_reducible refine (laws_eqBoolS.calls kj56 _ _ t294 _ _ t223 true _ ?side1 ?side2 ?side3 ?side4 A101.out).mono ?_); (case side1 => exact zc ((Kd.R_reads' HO296.out).2.2)); (case side2 => exact (Kd.R_reads' HO296.out).2.1); (case side3 => exact zc ((Kd.R_reads' HO_6.out).2.2)); (case side4 => exact (Kd.R_reads' HO_6.out).2.1); rintro e w' ⟨rfl, ⟨nd, rfl⟩⟩; refine ⟨_, rfl, ?_⟩))
               go_meet
               case rel => exact ⟨_, ((t297 != t226)), zr, H', ⟨by have := HJ15.out; have := HJ56.out; first | omega | exact Nat.le_refl _⟩, ⟨by (try simp only [hl241001_56]); (try simp only [hl241002_56]); (try simp only [hl241003_56]); (try simp only [hl241004_56]); (with_reducible repeat (first | apply Kd.R_alloc | apply Kd.R_drewN | apply Kd.R_drew)); exact Kd.R_mono HO_10.out (fun _ hk => trivial)⟩, ⟨by (try simp only [hl241001_56]); (try simp only [hl241002_56]); (try simp only [hl241003_56]); (try simp only [hl241004_56]); (with_reducible repeat (first | apply Kd.R_alloc | apply Kd.R_drewN | apply Kd.R_drew)); exact Kd.R_mono HO_241001.out zy⟩, ⟨by (try simp only [hl241001_56]); (try simp only [hl241002_56]); (try simp only [hl241003_56]); (try simp only [hl241004_56]); (with_reducible repeat (first | apply Kd.R_alloc | apply Kd.R_drewN | apply Kd.R_drew)); exact Kd.R_mono HO_241002.out zy⟩, ⟨by (try simp only [hl241001_56]); (try simp only [hl241002_56]); (try simp only [hl241003_56]); (try simp only [hl241004_56]); (with_reducible repeat (first | apply Kd.R_alloc | apply Kd.R_drewN | apply Kd.R_drew)); exact Kd.R_mono HO_241003.out zy⟩, ⟨by (try simp only [hl241001_56]); (try simp only [hl241002_56]); (try simp only [hl241003_56]); (try simp only [hl241004_56]); (with_reducible repeat (first | apply Kd.R_alloc | apply Kd.R_drewN | apply Kd.R_drew)); exact Kd.R_mono HO_241004.out zy⟩, ⟨by (try simp only [hl241001_56]); (try simp only [hl241002_56]); (try simp only [hl241003_56]); (try simp only [hl241004_56]); (with_reducible repeat (first | refine blk_drewN ?_ _ | refine blk_drew ?_ | refine blk_alloc ?_ _)); exact BK205.out⟩, ⟨by (try simp only [hl241001_56]); (try simp only [hl241002_56]); (try simp only [hl241003_56]); (try simp only [hl241004_56]); (with_reducible repeat (first | refine blk_drewN ?_ _ | refine blk_drew ?_ | refine blk_alloc ?_ _)); exact BK240.out⟩, ⟨(zs2 GE205.out GE240.out)⟩⟩
              ·replace c102 := Bool.eq_false_iff.mpr c102
               subst c102
               have H1 : (laws_FnExactReach.j2 kj56 t276 t275 true) = some r := by rw [if_neg (show ¬ (false = true) by decide)] at H; exact H
               clear H
               have H := H1
               clear H1
               have H' := zA H
               clear H
               obtain ⟨Ao105, co105, eo105⟩ := Kd.R_slice HO296.out
               subst eo105
               obtain ⟨Ao106, co106, eo106⟩ := Kd.R_slice HO_6.out
               subst eo106
               go_wp2_with (first | ((with_reducible refine gate_callee (f := 17) rfl ?_); refine goesL_ (some 102) rfl rfl Try.func17 (by kernel_rfl) rfl #[.slice Ao105 t294.length co105, .slice Ao106 t223.length co106] rfl za ?_; (with_reducible refine (laws_eqBoolS.calls kj56 _ _ t294 _ _ t223 false _ ?side1 ?side2 ?side3 ?side4 A101.out).mono ?_); (case side1 => exact zc ((Kd.R_reads' HO296.out).2.2)); (case side2 => exact (Kd.R_reads' HO296.out).2.1); (case side3 => exact zc ((Kd.R_reads' HO_6.out).2.2)); (case side4 => exact (Kd.R_reads' HO_6.out).2.1); rintro e w' ⟨rfl, ⟨nd, rfl⟩⟩; refine ⟨_, rfl, ?_⟩))
               go_meet
               case rel => exact ⟨_, (true), zr, H', ⟨by have := HJ15.out; have := HJ56.out; first | omega | exact Nat.le_refl _⟩, ⟨by (try simp only [hl241001_56]); (try simp only [hl241002_56]); (try simp only [hl241003_56]); (try simp only [hl241004_56]); (with_reducible repeat (first | apply Kd.R_alloc | apply Kd.R_drewN | apply Kd.R_drew)); exact Kd.R_mono HO_10.out (fun _ hk => trivial)⟩, ⟨by (try simp only [hl241001_56]); (try simp only [hl241002_56]); (try simp only [hl241003_56]); (try simp only [hl241004_56]); (with_reducible repeat (first | apply Kd.R_alloc | apply Kd.R_drewN | apply Kd.R_drew)); exact Kd.R_mono HO_241001.out zy⟩, ⟨by (try simp only [hl241001_56]); (try simp only [hl241002_56]); (try simp only [hl241003_56]); (try simp only [hl241004_56]); (with_reducible repeat (first | apply Kd.R_alloc | apply Kd.R_drewN | apply Kd.R_drew)); exact Kd.R_mono HO_241002.out zy⟩, ⟨by (try simp only [hl241001_56]); (try simp only [hl241002_56]); (try simp only [hl241003_56]); (try simp only [hl241004_56]); (with_reducible repeat (first | apply Kd.R_alloc | apply Kd.R_drewN | apply Kd.R_drew)); exact Kd.R_mono HO_241003.out zy⟩, ⟨by (try simp only [hl241001_56]); (try simp only [hl241002_56]); (try simp only [hl241003_56]); (try simp only [hl241004_56]); (with_reducible repeat (first | apply Kd.R_alloc | apply Kd.R_drewN | apply Kd.R_drew)); exact Kd.R_mono HO_241004.out zy⟩, ⟨by (try simp only [hl241001_56]); (try simp only [hl241002_56]); (try simp only [hl241003_56]); (try simp only [hl241004_56]); (with_reducible repeat (first | refine blk_drewN ?_ _ | refine blk_drew ?_ | refine blk_alloc ?_ _)); exact BK205.out⟩, ⟨by (try simp only [hl241001_56]); (try simp only [hl241002_56]); (try simp only [hl241003_56]); (try simp only [hl241004_56]); (with_reducible repeat (first | refine blk_drewN ?_ _ | refine blk_drew ?_ | refine blk_alloc ?_ _)); exact BK240.out⟩, ⟨(zs2 GE205.out GE240.out)⟩⟩
             case rest =>
              clear HC88
              (try clear c1); (try clear c2); (try clear p2); (try clear c3); (try clear c3b0); (try clear c3b1); (try clear c4); (try clear c5); (try clear c6); (try clear c6b0); (try clear c7); (try clear c8); (try clear c9); (try clear c10); (try clear c11); (try clear c12); (try clear c14); (try clear c15); (try clear c16); (try clear c17); (try clear c18); (try clear c19); (try clear c20); (try clear c21); (try clear c32); (try clear c43); (try clear c48); (try clear c51); (try clear c54); (try clear c67); (try clear c71); (try clear c71b0); (try clear c73); (try clear c78); (try clear c81); (try clear c81b0); (try clear c84); (try clear c84b0); (try clear c84b1); (try clear c91); (try clear c102); (try clear hcz18_0 hcz18_1 hcz18_2 hcz18_3 hcz18_4); (try clear hcz20_0 hcz20_1 hcz20_2 hcz20_3 hcz20_4); (try clear hcz29_0 hcz29_1 hcz29_2 hcz29_3 hcz29_4); (try clear hcz33_0 hcz33_1 hcz33_2 hcz33_3 hcz33_4); (try clear hcz39_0 hcz39_1 hcz39_2 hcz39_3 hcz39_4); (try clear hcz68_0 hcz68_1 hcz68_2 hcz68_3 hcz68_4); (try clear hcz8_0 hcz8_1 hcz8_2 hcz8_3 hcz8_4); (try clear hcz92_0 hcz92_1 hcz92_2 hcz92_3 hcz92_4); (try clear hfz18_0 hfz18_1 hfz18_2 hfz18_3 hfz18_4); (try clear hfz20_0 hfz20_1 hfz20_2 hfz20_3 hfz20_4); (try clear hfz29_0 hfz29_1 hfz29_2 hfz29_3 hfz29_4); (try clear hfz33_0 hfz33_1 hfz33_2 hfz33_3 hfz33_4); (try clear hfz39_0 hfz39_1 hfz39_2 hfz39_3 hfz39_4); (try clear hfz68_0 hfz68_1 hfz68_2 hfz68_3 hfz68_4); (try clear hfz8_0 hfz8_1 hfz8_2 hfz8_3 hfz8_4); (try clear hfz92_0 hfz92_1 hfz92_2 hfz92_3 hfz92_4); (try clear p2)
              obtain ⟨kq, x108_87, rfl, HA, HJ87, HO_10, HO_241001, HO_241002, HO_241003, HO_241004, BK205, BK240, HB⟩ := hcut
              have hl10_87 := (Kd.R_reads' HO_10.out).1
              rw [hl10_87] at HO_10
              (try simp only [hl10_87])
              (try simp only [hl10_87] at BK205)
              (try simp only [hl10_87] at BK240)
              (try simp only [hl10_87] at HO_241001)
              (try simp only [hl10_87] at HO_241002)
              (try simp only [hl10_87] at HO_241003)
              (try simp only [hl10_87] at HO_241004)
              cases kq with
              | zero => exact absurd HA.out (by simp [laws_FnExactReach.j2])
              | succ kj87 =>
               have H := HA.out
               clear HA
               simp only [laws_FnExactReach.j2] at H
               by_cases c107 : x108_87 = true
               ·subst c107
                have H1 : (some false) = some r := by rw [if_pos rfl] at H; exact H
                clear H
                have H := H1
                clear H1
                obtain rfl := Option.some.inj H
                go_wp2
                go_ret
                exact ⟨ze, (zs2 GE205.out GE240.out)⟩
               ·replace c107 := Bool.eq_false_iff.mpr c107
                subst c107
                have H1 : ((laws_heldBoolS.f kj87 t276 1).bind fun t299 => (if t299 < 0 then (some false) else (if t299 = t275 then (some true) else (some false)))) = some r := by rw [if_neg (show ¬ (false = true) by decide)] at H; exact H
                clear H
                have H := H1
                clear H1
                replace H := Option.bind_eq_some_iff.mp H
                obtain ⟨t299, A1080, H⟩ := H
                replace H : (if t299 < 0 then (some false) else (if t299 = t275 then (some true) else (some false))) = some r := H
                have A108 := zA A1080
                clear A1080
                by_cases c109 : t299 < 0
                ·rw [if_pos c109] at H
                 have c109b0 : decide (t299 < 0) = true := decide_eq_true c109
                 clear c109
                 obtain rfl := Option.some.inj H
                 go_wp2_with (first | ((with_reducible refine gate_callee (f := 21) rfl ?_); refine goesL_ (some 111) rfl rfl Try.func21 (by kernel_rfl) rfl #[.slice Ao89 t276.length co89, .int .i64 1] rfl za ?_; (with_reducible refine (laws_heldBoolS.calls kj87 _ _ t276 1 t299 _ ?side1 ?side2 A108.out).mono ?_); (case side1 => exact zc ((Kd.R_reads' HO_10.out).2.2)); (case side2 => exact (Kd.R_reads' HO_10.out).2.1); rintro e w' ⟨rfl, ⟨nd, rfl⟩⟩; refine ⟨_, rfl, ?_⟩))
                 go_ret
                 exact ⟨ze, (zs2 GE205.out GE240.out)⟩
                ·rw [if_neg c109] at H
                 have c109b0 : decide (t299 < 0) = false := decide_eq_false c109
                 clear c109
                 by_cases c110 : t299 = t275
                 ·rw [if_pos c110] at H
                  have c110b0 : (t299 == t275) = true := beq_iff_eq.mpr c110
                  have c110b1 : (t299 != t275) = false := bne_eq_false_iff_eq.mpr c110
                  clear c110
                  obtain rfl := Option.some.inj H
                  go_wp2_with (first | ((with_reducible refine gate_callee (f := 21) rfl ?_); refine goesL_ (some 111) rfl rfl Try.func21 (by kernel_rfl) rfl #[.slice Ao89 t276.length co89, .int .i64 1] rfl za ?_; (with_reducible refine (laws_heldBoolS.calls kj87 _ _ t276 1 t299 _ ?side1 ?side2 A108.out).mono ?_); (case side1 => exact zc ((Kd.R_reads' HO_10.out).2.2)); (case side2 => exact (Kd.R_reads' HO_10.out).2.1); rintro e w' ⟨rfl, ⟨nd, rfl⟩⟩; refine ⟨_, rfl, ?_⟩))
                  go_ret
                  exact ⟨ze, (zs2 GE205.out GE240.out)⟩
                 ·rw [if_neg c110] at H
                  have c110b0 : (t299 == t275) = false := beq_eq_false_iff_ne.mpr c110
                  have c110b1 : (t299 != t275) = true := bne_iff_ne.mpr c110
                  obtain rfl := Option.some.inj H
                  go_wp2_with (first | ((with_reducible refine gate_callee (f := 21) rfl ?_); refine goesL_ (some 111) rfl rfl Try.func21 (by kernel_rfl) rfl #[.slice Ao89 t276.length co89, .int .i64 1] rfl za ?_; (with_reducible refine (laws_heldBoolS.calls kj87 _ _ t276 1 t299 _ ?side1 ?side2 A108.out).mono ?_); (case side1 => exact zc ((Kd.R_reads' HO_10.out).2.2)); (case side2 => exact (Kd.R_reads' HO_10.out).2.1); rintro e w' ⟨rfl, ⟨nd, rfl⟩⟩; refine ⟨_, rfl, ?_⟩))
                  go_ret
                  exact ⟨ze, (zs2 GE205.out GE240.out)⟩
            ·rw [if_neg c84] at H
             have c84b0 : (t277 == t275) = false := beq_eq_false_iff_ne.mpr c84
             have c84b1 : (t277 != t275) = true := bne_iff_ne.mpr c84
             obtain rfl := Option.some.inj H
             obtain ⟨Ao111, co111, eo111⟩ := Kd.R_slice HO_10.out
             subst eo111
             go_wp2_with (first | ((with_reducible refine gate_callee (f := 20) rfl ?_); refine goesL_ (some 83) rfl rfl Try.func20 (by kernel_rfl) rfl #[.slice Ao111 t244.length co111, .int .i64 1] rfl za ?_; (with_reducible refine (laws_markBoolS.calls kj56 (fun k_ => some k_ = (.slice Ao111 t244.length co111 : Value).ownBlock) (.slice Ao111 t244.length co111) t244 1 t275 t276 w _ ?side1 ?side2 A79.out).mono ?_); (case side1 => repeat (first | (with_reducible first | exact HB.out | apply below_alloc | apply pw_below_drewN | apply below_drew1 | refine below_set ?_ GE205.out | refine below_set ?_ GE240.out) | exact HB.out)); (case side2 => exact Kd.R_tight rfl HO_10.out); rintro e w112 ⟨rfl, hy0, hb, hkp⟩; refine ⟨_, rfl, ?_⟩; have n0_ := zA (Kd.R_mono (ok' := fun k_ => zO k_ (.slice Ao111 t244.length co111)) (Kd.R_keptB (HO_6.out) hkp (fun k_ hk_ hs_ => (hk_) hs_)) (fun k_ hk_ => hk_.1)); have n1_ := zA (Kd.R_reok rfl hy0 (fun k_ e_ => HO_10.out.1 k_ e_)); have n2_ := zA (Kd.R_mono (ok' := fun k_ => zO k_ (.slice Ao35 t269.length co35) ∧ zO k_ (.slice Ao36 t270.length co36) ∧ zO k_ (.slice Ao37 t271.length co37)) (Kd.R_keptB ((Kd.R_apart' HO_241001.out (Kd.R_typed HO_10.out) (by decide))) hkp (fun k_ hk_ hs_ => (hk_.2) hs_)) (fun k_ hk_ => ⟨hk_.1.1.1, hk_.1.1.2.1, hk_.1.1.2.2⟩)); have n3_ := zA (Kd.R_mono (ok' := fun k_ => zO k_ (.slice Ao34 t268.length co34) ∧ zO k_ (.slice Ao36 t270.length co36) ∧ zO k_ (.slice Ao37 t271.length co37)) (Kd.R_keptB ((Kd.R_apart' HO_241002.out (Kd.R_typed HO_10.out) (by decide))) hkp (fun k_ hk_ hs_ => (hk_.2) hs_)) (fun k_ hk_ => ⟨hk_.1.1.1, hk_.1.1.2.1, hk_.1.1.2.2⟩)); have n4_ := zA (Kd.R_mono (ok' := fun k_ => zO k_ (.slice Ao34 t268.length co34) ∧ zO k_ (.slice Ao35 t269.length co35) ∧ zO k_ (.slice Ao37 t271.length co37)) (Kd.R_keptB ((Kd.R_apart' HO_241003.out (Kd.R_typed HO_10.out) (by decide))) hkp (fun k_ hk_ hs_ => (hk_.2) hs_)) (fun k_ hk_ => ⟨hk_.1.1.1, hk_.1.1.2.1, hk_.1.1.2.2⟩)); have n5_ := zA (Kd.R_mono (ok' := fun k_ => zO k_ (.slice Ao34 t268.length co34) ∧ zO k_ (.slice Ao35 t269.length co35) ∧ zO k_ (.slice Ao36 t270.length co36)) (Kd.R_keptB ((Kd.R_apart' HO_241004.out (Kd.R_typed HO_10.out) (by decide))) hkp (fun k_ hk_ hs_ => (hk_.2) hs_)) (fun k_ hk_ => ⟨hk_.1.1.1, hk_.1.1.2.1, hk_.1.1.2.2⟩)); have n6_ := zA (zkb BK205.out hkp (fun hs_ => (fun e_ => (Kd.R_ne HO_10.out BK205.out (by decide)) e_) hs_)); have n7_ := zA (zkb BK240.out hkp (fun hs_ => (fun e_ => (Kd.R_ne HO_10.out BK240.out (by decide)) e_) hs_)); have n8_ := zA (hb); clear HO_6 HO_10 HO_241001 HO_241002 HO_241003 HO_241004 BK205 BK240 HB; have HO_6 := n0_; have HO_10 := n1_; have HO_241001 := n2_; have HO_241002 := n3_; have HO_241003 := n4_; have HO_241004 := n5_; have BK205 := n6_; have BK240 := n7_; have HB := n8_; clear n0_ n1_ n2_ n3_ n4_ n5_ n6_ n7_ n8_; (try clear hb); (try clear hkp); (try clear hy0)) | ((with_reducible refine gate_callee (f := 21) rfl ?_); refine goesL_ (some 86) rfl rfl Try.func21 (by kernel_rfl) rfl #[.slice Ao111 t276.length co111, .int .i64 1] rfl (by (try simp only [List.map_toArray, List.map_cons, List.map_nil]); first | done | (rw [show t276.length = t244.length from (Kd.R_reads' HO_10.out).1.symm] <;> rfl) | rfl | (simp only [List.length_drop, List.length_take]; rfl)) ?_; (with_reducible refine (laws_heldBoolS.calls kj56 _ _ t276 1 t277 _ ?side1 ?side2 A80.out).mono ?_); (case side1 => exact zc ((Kd.R_reads' HO_10.out).2.2)); (case side2 => rw [show t276.length = t244.length from (Kd.R_reads' HO_10.out).1.symm]; exact (Kd.R_reads' HO_10.out).2.1); rintro e w' ⟨rfl, ⟨nd, rfl⟩⟩; refine ⟨_, rfl, ?_⟩))
             go_ret
             exact ⟨ze, (zs2 GE205.out GE240.out)⟩
       ·replace c54 := Bool.eq_false_iff.mpr c54
        subst c54
        have H1 : (some false) = some r := by rw [if_neg (show ¬ (false = true) by decide)] at H; exact H
        clear H
        have H := H1
        clear H1
        obtain rfl := Option.some.inj H
        try go_wp2
        have n0_ := zA (Kd.R_drew HO_6.out)
        have n1_ := zA (Kd.R_drew HO_9.out)
        have n2_ := zA (Kd.R_drew HO_10.out)
        have n3_ := zA (Kd.R_drew HO_241001.out)
        have n4_ := zA (Kd.R_drew HO_241002.out)
        have n5_ := zA (Kd.R_drew HO_241003.out)
        have n6_ := zA (Kd.R_drew HO_241004.out)
        have n7_ := zA (blk_drew BK205.out)
        have n8_ := zA (blk_drew BK240.out)
        have n9_ := zA (below_drew1 HB.out)
        clear HO_6
        clear HO_9
        clear HO_10
        clear HO_241001
        clear HO_241002
        clear HO_241003
        clear HO_241004
        clear BK205
        clear BK240
        clear HB
        have HO_6 := n0_
        have HO_9 := n1_
        have HO_10 := n2_
        have HO_241001 := n3_
        have HO_241002 := n4_
        have HO_241003 := n5_
        have HO_241004 := n6_
        have BK205 := n7_
        have BK240 := n8_
        have HB := n9_
        clear n0_ n1_ n2_ n3_ n4_ n5_ n6_ n7_ n8_ n9_
        refine start_ (n := 5) (S := fun w' => w'.cell? ⟨gb240, 0, none⟩ = some (.int .i64 t227) ∧ w'.cell? ⟨gb240, 1, none⟩ = some (.slice Ao34 t228.length co34) ∧ w'.cell? ⟨gb240, 2, none⟩ = some (.slice Ao35 t231.length co35) ∧ w'.cell? ⟨gb240, 3, none⟩ = some (.slice Ao36 t234.length co36) ∧ w'.cell? ⟨gb240, 4, none⟩ = some (.slice Ao37 t237.length co37) ∧ w'.cell? ⟨gb205, 0, none⟩ = some (.int .i64 a0_0) ∧ w'.cell? ⟨gb205, 1, none⟩ = some (.slice A0_1 l0_1.length c0_1) ∧ w'.cell? ⟨gb205, 2, none⟩ = some (.slice A0_2 l0_2.length c0_2) ∧ w'.cell? ⟨gb205, 3, none⟩ = some (.slice A0_3 l0_3.length c0_3) ∧ w'.cell? ⟨gb205, 4, none⟩ = some (.slice A0_4 l0_4.length c0_4)) (ds := []) #[false, false, false, false, false] (by kernel_rfl) rfl rfl ⟨(blk_cell BK240.out 0).trans rfl, (blk_cell BK240.out 1).trans rfl, (blk_cell BK240.out 2).trans rfl, (blk_cell BK240.out 3).trans rfl, (blk_cell BK240.out 4).trans rfl, (blk_cell BK205.out 0).trans rfl, (blk_cell BK205.out 1).trans rfl, (blk_cell BK205.out 2).trans rfl, (blk_cell BK205.out 3).trans rfl, (blk_cell BK205.out 4).trans rfl⟩ (fun hHeld => ?_)
        generalize wc.drew = w113 at HO_6 HO_9 HO_10 HO_241001 HO_241002 HO_241003 HO_241004 BK205 BK240 HB hHeld ⊢
        refine take_ (i := 0) (N := some 52) (v := ?_) (a' := ?_) #[true, false, false, false, false] rfl rfl (by kernel_rfl) (fun _ _ _ h => h) (Or.inl ⟨by rfl, ?_⟩) hHeld ?_ ?_
        rotate_left
        ·rintro w' ⟨s0, s1, s2, s3, s4, s5, s6, s7, s8, s9⟩
         go_simp
         with_reducible rfl
        rotate_left
        ·simp only [Act.put, List.setIfInBounds_toArray, List.set_cons_zero, List.set_cons_succ, i64_w, i32_w]
         rfl
        refine take_ (i := 1) (N := some 53) (v := ?_) (a' := ?_) #[true, true, false, false, false] rfl rfl (by kernel_rfl) (fun _ _ _ h => h) (Or.inl ⟨by rfl, ?_⟩) hHeld ?_ ?_
        rotate_left
        ·rintro w' ⟨s0, s1, s2, s3, s4, s5, s6, s7, s8, s9⟩
         go_simp
         with_reducible rfl
        rotate_left
        ·simp only [Act.put, List.setIfInBounds_toArray, List.set_cons_zero, List.set_cons_succ, i64_w, i32_w]
         rfl
        refine one_ (i := 2) (N := some 54) #[true, true, true, false, false] rfl rfl (by kernel_rfl) (by decide) (fun K hK => ?_)
        refine goes_ Try.func9 (by kernel_rfl) rfl #[.agg #[.int .i64 a0_0, .slice A0_1 l0_1.length c0_1, .slice A0_2 l0_2.length c0_2, .slice A0_3 l0_3.length c0_3, .slice A0_4 l0_4.length c0_4]] (by rfl) rfl rfl za ?_
        with_reducible refine (laws_toGraph.calls kj15 a0_0 _ _ l0_1 _ _ l0_2 _ _ l0_3 _ _ l0_4 t249 t250 t253 t256 t259 _ ?side1 ?side2 ?side3 ?side4 ?side5 ?side6 ?side7 ?side8 A49.out).mono ?_
        (case side1 => exact zc (Kd.C_below HR0_1.out HB.out))
        (case side2 => exact HC0_1.out)
        (case side3 => exact zc (Kd.C_below HR0_2.out HB.out))
        (case side4 => exact HC0_2.out)
        (case side5 => exact zc (Kd.C_below HR0_3.out HB.out))
        (case side6 => exact HC0_3.out)
        (case side7 => exact zc (Kd.C_below HR0_4.out HB.out))
        (case side8 => exact HC0_4.out)
        rintro e w114 ⟨v251, v254, v257, v260, rfl, ho0, ho1, ho2, ho3, hb⟩
        refine ⟨_, rfl, ?_⟩
        have n0_ := zA (Kd.R_below (zR HO_6.out) hb)
        have n1_ := zA (Kd.R_mono (Kd.R_told (Kd.R_told (Kd.R_told (Kd.R_told (Kd.R_old (zR HO_9.out) hb) (Kd.R_base ho0)) (Kd.R_base ho1)) (Kd.R_base ho2)) (Kd.R_base ho3)) (fun _ h_ => h_.1))
        have n2_ := zA (Kd.R_below (zR HO_10.out) hb)
        have n3_ := zA (Kd.R_mono (Kd.R_told (Kd.R_told (Kd.R_told (Kd.R_told (Kd.R_old (zR HO_241001.out) hb) (Kd.R_base ho0)) (Kd.R_base ho1)) (Kd.R_base ho2)) (Kd.R_base ho3)) (fun _ h_ => h_.1))
        have n4_ := zA (Kd.R_mono (Kd.R_told (Kd.R_told (Kd.R_told (Kd.R_told (Kd.R_old (zR HO_241002.out) hb) (Kd.R_base ho0)) (Kd.R_base ho1)) (Kd.R_base ho2)) (Kd.R_base ho3)) (fun _ h_ => h_.1))
        have n5_ := zA (Kd.R_mono (Kd.R_told (Kd.R_told (Kd.R_told (Kd.R_told (Kd.R_old (zR HO_241003.out) hb) (Kd.R_base ho0)) (Kd.R_base ho1)) (Kd.R_base ho2)) (Kd.R_base ho3)) (fun _ h_ => h_.1))
        have n6_ := zA (Kd.R_mono (Kd.R_told (Kd.R_told (Kd.R_told (Kd.R_told (Kd.R_old (zR HO_241004.out) hb) (Kd.R_base ho0)) (Kd.R_base ho1)) (Kd.R_base ho2)) (Kd.R_base ho3)) (fun _ h_ => h_.1))
        have n7_ := zA (Kd.R_lower (Kd.R_new' (Kd.R_new' (Kd.R_new' (Kd.R_new' (Kd.R_new' ho0 (zl HO_9.out)) (zl HO_241001.out)) (zl HO_241002.out)) (zl HO_241003.out)) (zl HO_241004.out)) (below_size (zs2 GE205.out GE240.out)))
        have n8_ := zA (Kd.R_lower (Kd.R_new' (Kd.R_new' (Kd.R_new' (Kd.R_new' (Kd.R_new' ho1 (zl HO_9.out)) (zl HO_241001.out)) (zl HO_241002.out)) (zl HO_241003.out)) (zl HO_241004.out)) (below_size (zs2 GE205.out GE240.out)))
        have n9_ := zA (Kd.R_lower (Kd.R_new' (Kd.R_new' (Kd.R_new' (Kd.R_new' (Kd.R_new' ho2 (zl HO_9.out)) (zl HO_241001.out)) (zl HO_241002.out)) (zl HO_241003.out)) (zl HO_241004.out)) (below_size (zs2 GE205.out GE240.out)))
        have n10_ := zA (Kd.R_lower (Kd.R_new' (Kd.R_new' (Kd.R_new' (Kd.R_new' (Kd.R_new' ho3 (zl HO_9.out)) (zl HO_241001.out)) (zl HO_241002.out)) (zl HO_241003.out)) (zl HO_241004.out)) (below_size (zs2 GE205.out GE240.out)))
        have n11_ := zA (zB BK205.out hb)
        have n12_ := zA (zB BK240.out hb)
        have n13_ := zA (below_step (zs2 GE205.out GE240.out) hb)
        clear HO_6
        clear HO_9
        clear HO_10
        clear HO_241001
        clear HO_241002
        clear HO_241003
        clear HO_241004
        clear BK205
        clear BK240
        clear HB
        have HO_6 := n0_
        have HO_9 := n1_
        have HO_10 := n2_
        have HO_241001 := n3_
        have HO_241002 := n4_
        have HO_241003 := n5_
        have HO_241004 := n6_
        have HO252 := n7_
        have HO255 := n8_
        have HO258 := n9_
        have HO261 := n10_
        have BK205 := n11_
        have BK240 := n12_
        have HB := n13_
        clear n0_ n1_ n2_ n3_ n4_ n5_ n6_ n7_ n8_ n9_ n10_ n11_ n12_ n13_
        (try clear hb)
        (try clear hb2)
        (try clear hk)
        (try clear hi)
        (try clear ho0)
        (try clear ho1)
        (try clear ho2)
        (try clear ho3)
        obtain ⟨Ao115, co115, eo115⟩ := Kd.R_slice HO252.out
        (first | subst eo115 | (injection eo115 with f1_ f2_ f3_; have f4_ := f1_.symm; have f5_ := f3_.symm; clear f1_ f2_ f3_; subst f4_; subst f5_))
        obtain ⟨Ao116, co116, eo116⟩ := Kd.R_slice HO255.out
        (first | subst eo116 | (injection eo116 with f1_ f2_ f3_; have f4_ := f1_.symm; have f5_ := f3_.symm; clear f1_ f2_ f3_; subst f4_; subst f5_))
        obtain ⟨Ao117, co117, eo117⟩ := Kd.R_slice HO258.out
        (first | subst eo117 | (injection eo117 with f1_ f2_ f3_; have f4_ := f1_.symm; have f5_ := f3_.symm; clear f1_ f2_ f3_; subst f4_; subst f5_))
        obtain ⟨Ao118, co118, eo118⟩ := Kd.R_slice HO261.out
        (first | subst eo118 | (injection eo118 with f1_ f2_ f3_; have f4_ := f1_.symm; have f5_ := f3_.symm; clear f1_ f2_ f3_; subst f4_; subst f5_))
        refine hK.out _ _ ⟨(blk_cell BK240.out 0).trans rfl, (blk_cell BK240.out 1).trans rfl, (blk_cell BK240.out 2).trans rfl, (blk_cell BK240.out 3).trans rfl, (blk_cell BK240.out 4).trans rfl, (blk_cell BK205.out 0).trans rfl, (blk_cell BK205.out 1).trans rfl, (blk_cell BK205.out 2).trans rfl, (blk_cell BK205.out 3).trans rfl, (blk_cell BK205.out 4).trans rfl⟩ (fun hHeld => ?_)
        clear hK K
        refine norm_ (a' := ?_) ?_ ?_
        rotate_left
        ·show Act.put _ (some 54) _ = _
         simp only [Act.put, List.setIfInBounds_toArray, List.set_cons_zero, List.set_cons_succ, i64_w, i32_w]
         rfl
        refine one_ (i := 3) (N := some 55) #[true, true, true, true, false] rfl rfl (by kernel_rfl) (by decide) (fun K hK => ?_)
        refine goes_ Try.func11 (by kernel_rfl) rfl #[.agg #[.int .i64 t227, .slice Ao34 t228.length co34, .slice Ao35 t231.length co35, .slice Ao36 t234.length co36, .slice Ao37 t237.length co37], .agg #[.int .i64 t249, .slice Ao115 t250.length co115, .slice Ao116 t253.length co116, .slice Ao117 t256.length co117, .slice Ao118 t259.length co118]] (by rfl) rfl rfl za ?_
        with_reducible refine (laws_eqGraph.calls kj15 t227 _ _ t228 _ _ t231 _ _ t234 _ _ t237 t249 _ _ t250 _ _ t253 _ _ t256 _ _ t259 true _ ?side1 ?side2 ?side3 ?side4 ?side5 ?side6 ?side7 ?side8 ?side9 ?side10 ?side11 ?side12 ?side13 ?side14 ?side15 ?side16 A50.out).mono ?_
        (case side1 => exact zc ((Kd.R_reads' HO_241001.out).2.2))
        (case side2 => exact (Kd.R_reads' HO_241001.out).2.1)
        (case side3 => exact zc ((Kd.R_reads' HO_241002.out).2.2))
        (case side4 => exact (Kd.R_reads' HO_241002.out).2.1)
        (case side5 => exact zc ((Kd.R_reads' HO_241003.out).2.2))
        (case side6 => exact (Kd.R_reads' HO_241003.out).2.1)
        (case side7 => exact zc ((Kd.R_reads' HO_241004.out).2.2))
        (case side8 => exact (Kd.R_reads' HO_241004.out).2.1)
        (case side9 => exact zc ((Kd.R_reads' HO252.out).2.2))
        (case side10 => exact (Kd.R_reads' HO252.out).2.1)
        (case side11 => exact zc ((Kd.R_reads' HO255.out).2.2))
        (case side12 => exact (Kd.R_reads' HO255.out).2.1)
        (case side13 => exact zc ((Kd.R_reads' HO258.out).2.2))
        (case side14 => exact (Kd.R_reads' HO258.out).2.1)
        (case side15 => exact zc ((Kd.R_reads' HO261.out).2.2))
        (case side16 => exact (Kd.R_reads' HO261.out).2.1)
        rintro e w119 ⟨rfl, hb⟩
        refine ⟨_, rfl, ?_⟩
        have n0_ := zA (Kd.R_below (zR HO_6.out) hb)
        have n1_ := zA (Kd.R_below (zR HO_9.out) hb)
        have n2_ := zA (Kd.R_below (zR HO_10.out) hb)
        have n3_ := zA (Kd.R_below (zR HO_241001.out) hb)
        have n4_ := zA (Kd.R_below (zR HO_241002.out) hb)
        have n5_ := zA (Kd.R_below (zR HO_241003.out) hb)
        have n6_ := zA (Kd.R_below (zR HO_241004.out) hb)
        have n7_ := zA (Kd.R_below (zR HO252.out) hb)
        have n8_ := zA (Kd.R_below (zR HO255.out) hb)
        have n9_ := zA (Kd.R_below (zR HO258.out) hb)
        have n10_ := zA (Kd.R_below (zR HO261.out) hb)
        have n11_ := zA (zB BK205.out hb)
        have n12_ := zA (zB BK240.out hb)
        have n13_ := zA (below_step (zs2 GE205.out GE240.out) hb)
        clear HO_6
        clear HO_9
        clear HO_10
        clear HO_241001
        clear HO_241002
        clear HO_241003
        clear HO_241004
        clear HO252
        clear HO255
        clear HO258
        clear HO261
        clear BK205
        clear BK240
        clear HB
        have HO_6 := n0_
        have HO_9 := n1_
        have HO_10 := n2_
        have HO_241001 := n3_
        have HO_241002 := n4_
        have HO_241003 := n5_
        have HO_241004 := n6_
        have HO252 := n7_
        have HO255 := n8_
        have HO258 := n9_
        have HO261 := n10_
        have BK205 := n11_
        have BK240 := n12_
        have HB := n13_
        clear n0_ n1_ n2_ n3_ n4_ n5_ n6_ n7_ n8_ n9_ n10_ n11_ n12_ n13_
        (try clear hb)
        (try clear hb2)
        (try clear hk)
        (try clear hi)
        refine hK.out _ _ ⟨(blk_cell BK240.out 0).trans rfl, (blk_cell BK240.out 1).trans rfl, (blk_cell BK240.out 2).trans rfl, (blk_cell BK240.out 3).trans rfl, (blk_cell BK240.out 4).trans rfl, (blk_cell BK205.out 0).trans rfl, (blk_cell BK205.out 1).trans rfl, (blk_cell BK205.out 2).trans rfl, (blk_cell BK205.out 3).trans rfl, (blk_cell BK205.out 4).trans rfl⟩ (fun hHeld => ?_)
        clear hK K
        refine norm_ (a' := ?_) ?_ ?_
        rotate_left
        ·show Act.put _ (some 55) _ = _
         simp only [Act.put, List.setIfInBounds_toArray, List.set_cons_zero, List.set_cons_succ, i64_w, i32_w]
         rfl
        refine pure_ (i := 4) (N := some 56) (v := ?_) (a' := ?_) #[true, true, true, true, true] rfl rfl (by kernel_rfl) (fun _ _ _ h => h) (Or.inl ⟨by rfl, ?_⟩) ?_ ?_
        rotate_left
        ·intro w'
         go_simp
         with_reducible rfl
        rotate_left
        ·simp only [Act.put, List.setIfInBounds_toArray, List.set_cons_zero, List.set_cons_succ, i64_w, i32_w]
         rfl
        refine done_ (by kernel_rfl) ?_
        try go_wp2_with (first | ((with_reducible refine gate_callee (f := 15) rfl ?_); refine goesL_ (some 59) rfl rfl Try.func15 (by kernel_rfl) rfl #[.slice A1 l1.length c1] rfl za ?_; (with_reducible refine (laws_toIntS.calls kj15 _ _ l1 t263 _ ?side1 ?side2 A52.out).mono ?_); (case side1 => exact zc (Kd.C_below HR1.out HB.out)); (case side2 => exact HC1.out); rintro e w120 ⟨v264, rfl, ho0, hb⟩; refine ⟨_, rfl, ?_⟩; have n0_ := zA (Kd.R_below (zR HO_6.out) hb); have n1_ := zA (Kd.R_elder' (zR HO_9.out) (Kd.R_base ho0) hb); have n2_ := zA (Kd.R_below (zR HO_10.out) hb); have n3_ := zA (Kd.R_elder' (zR HO_241001.out) (Kd.R_base ho0) hb); have n4_ := zA (Kd.R_elder' (zR HO_241002.out) (Kd.R_base ho0) hb); have n5_ := zA (Kd.R_elder' (zR HO_241003.out) (Kd.R_base ho0) hb); have n6_ := zA (Kd.R_elder' (zR HO_241004.out) (Kd.R_base ho0) hb); have n7_ := zA (Kd.R_elder' (zR HO252.out) (Kd.R_base ho0) hb); have n8_ := zA (Kd.R_elder' (zR HO255.out) (Kd.R_base ho0) hb); have n9_ := zA (Kd.R_elder' (zR HO258.out) (Kd.R_base ho0) hb); have n10_ := zA (Kd.R_elder' (zR HO261.out) (Kd.R_base ho0) hb); have n11_ := zA (Kd.R_lower (Kd.R_new' (Kd.R_new' (Kd.R_new' (Kd.R_new' (Kd.R_new' (Kd.R_new' (Kd.R_new' (Kd.R_new' (Kd.R_new' ho0 (zl HO_9.out)) (zl HO_241001.out)) (zl HO_241002.out)) (zl HO_241003.out)) (zl HO_241004.out)) (zl HO252.out)) (zl HO255.out)) (zl HO258.out)) (zl HO261.out)) (below_size (zs2 GE205.out GE240.out))); have n12_ := zA (zB BK205.out hb); have n13_ := zA (zB BK240.out hb); have n14_ := zA (below_step (zs2 GE205.out GE240.out) hb); clear HO_6 HO_9 HO_10 HO_241001 HO_241002 HO_241003 HO_241004 HO252 HO255 HO258 HO261 BK205 BK240 HB; have HO_6 := n0_; have HO_9 := n1_; have HO_10 := n2_; have HO_241001 := n3_; have HO_241002 := n4_; have HO_241003 := n5_; have HO_241004 := n6_; have HO252 := n7_; have HO255 := n8_; have HO258 := n9_; have HO261 := n10_; have HO265 := n11_; have BK205 := n12_; have BK240 := n13_; have HB := n14_; clear n0_ n1_ n2_ n3_ n4_ n5_ n6_ n7_ n8_ n9_ n10_ n11_ n12_ n13_ n14_; (try clear hb); (try clear hb2); (try clear hk); (try clear hi); (try clear ho0); obtain ⟨Ao121, co121, eo121⟩ := Kd.R_slice HO265.out; subst eo121) | ((with_reducible refine gate_callee (f := 18) rfl ?_); refine goesL_ (some 60) rfl rfl Try.func18 (by kernel_rfl) rfl #[.slice Ao40 t241.length co40, .slice Ao121 t263.length co121] rfl za ?_; (with_reducible refine (laws_eqIntS.calls kj15 _ _ t241 _ _ t263 false _ ?side1 ?side2 ?side3 ?side4 A53.out).mono ?_); (case side1 => exact zc ((Kd.R_reads' HO_9.out).2.2)); (case side2 => exact (Kd.R_reads' HO_9.out).2.1); (case side3 => exact zc ((Kd.R_reads' HO265.out).2.2)); (case side4 => exact (Kd.R_reads' HO265.out).2.1); rintro e w' ⟨rfl, ⟨nd, rfl⟩⟩; refine ⟨_, rfl, ?_⟩))
        go_ret
        exact ⟨ze, (zs2 GE205.out GE240.out)⟩
      ·replace c51 := Bool.eq_false_iff.mpr c51
       subst c51
       have H1 : (some false) = some r := by rw [if_neg (show ¬ (false = true) by decide)] at H; exact H
       clear H
       have H := H1
       clear H1
       obtain rfl := Option.some.inj H
       try go_wp2
       have n0_ := zA (Kd.R_drew HO_6.out)
       have n1_ := zA (Kd.R_drew HO_9.out)
       have n2_ := zA (Kd.R_drew HO_10.out)
       have n3_ := zA (Kd.R_drew HO_241001.out)
       have n4_ := zA (Kd.R_drew HO_241002.out)
       have n5_ := zA (Kd.R_drew HO_241003.out)
       have n6_ := zA (Kd.R_drew HO_241004.out)
       have n7_ := zA (blk_drew BK205.out)
       have n8_ := zA (blk_drew BK240.out)
       have n9_ := zA (below_drew1 HB.out)
       clear HO_6
       clear HO_9
       clear HO_10
       clear HO_241001
       clear HO_241002
       clear HO_241003
       clear HO_241004
       clear BK205
       clear BK240
       clear HB
       have HO_6 := n0_
       have HO_9 := n1_
       have HO_10 := n2_
       have HO_241001 := n3_
       have HO_241002 := n4_
       have HO_241003 := n5_
       have HO_241004 := n6_
       have BK205 := n7_
       have BK240 := n8_
       have HB := n9_
       clear n0_ n1_ n2_ n3_ n4_ n5_ n6_ n7_ n8_ n9_
       refine start_ (n := 5) (S := fun w' => w'.cell? ⟨gb240, 0, none⟩ = some (.int .i64 t227) ∧ w'.cell? ⟨gb240, 1, none⟩ = some (.slice Ao34 t228.length co34) ∧ w'.cell? ⟨gb240, 2, none⟩ = some (.slice Ao35 t231.length co35) ∧ w'.cell? ⟨gb240, 3, none⟩ = some (.slice Ao36 t234.length co36) ∧ w'.cell? ⟨gb240, 4, none⟩ = some (.slice Ao37 t237.length co37) ∧ w'.cell? ⟨gb205, 0, none⟩ = some (.int .i64 a0_0) ∧ w'.cell? ⟨gb205, 1, none⟩ = some (.slice A0_1 l0_1.length c0_1) ∧ w'.cell? ⟨gb205, 2, none⟩ = some (.slice A0_2 l0_2.length c0_2) ∧ w'.cell? ⟨gb205, 3, none⟩ = some (.slice A0_3 l0_3.length c0_3) ∧ w'.cell? ⟨gb205, 4, none⟩ = some (.slice A0_4 l0_4.length c0_4)) (ds := []) #[false, false, false, false, false] (by kernel_rfl) rfl rfl ⟨(blk_cell BK240.out 0).trans rfl, (blk_cell BK240.out 1).trans rfl, (blk_cell BK240.out 2).trans rfl, (blk_cell BK240.out 3).trans rfl, (blk_cell BK240.out 4).trans rfl, (blk_cell BK205.out 0).trans rfl, (blk_cell BK205.out 1).trans rfl, (blk_cell BK205.out 2).trans rfl, (blk_cell BK205.out 3).trans rfl, (blk_cell BK205.out 4).trans rfl⟩ (fun hHeld => ?_)
       generalize wc.drew = w122 at HO_6 HO_9 HO_10 HO_241001 HO_241002 HO_241003 HO_241004 BK205 BK240 HB hHeld ⊢
       refine take_ (i := 0) (N := some 52) (v := ?_) (a' := ?_) #[true, false, false, false, false] rfl rfl (by kernel_rfl) (fun _ _ _ h => h) (Or.inl ⟨by rfl, ?_⟩) hHeld ?_ ?_
       rotate_left
       ·rintro w' ⟨s0, s1, s2, s3, s4, s5, s6, s7, s8, s9⟩
        go_simp
        with_reducible rfl
       rotate_left
       ·simp only [Act.put, List.setIfInBounds_toArray, List.set_cons_zero, List.set_cons_succ, i64_w, i32_w]
        rfl
       refine take_ (i := 1) (N := some 53) (v := ?_) (a' := ?_) #[true, true, false, false, false] rfl rfl (by kernel_rfl) (fun _ _ _ h => h) (Or.inl ⟨by rfl, ?_⟩) hHeld ?_ ?_
       rotate_left
       ·rintro w' ⟨s0, s1, s2, s3, s4, s5, s6, s7, s8, s9⟩
        go_simp
        with_reducible rfl
       rotate_left
       ·simp only [Act.put, List.setIfInBounds_toArray, List.set_cons_zero, List.set_cons_succ, i64_w, i32_w]
        rfl
       refine one_ (i := 2) (N := some 54) #[true, true, true, false, false] rfl rfl (by kernel_rfl) (by decide) (fun K hK => ?_)
       refine goes_ Try.func9 (by kernel_rfl) rfl #[.agg #[.int .i64 a0_0, .slice A0_1 l0_1.length c0_1, .slice A0_2 l0_2.length c0_2, .slice A0_3 l0_3.length c0_3, .slice A0_4 l0_4.length c0_4]] (by rfl) rfl rfl za ?_
       with_reducible refine (laws_toGraph.calls kj15 a0_0 _ _ l0_1 _ _ l0_2 _ _ l0_3 _ _ l0_4 t249 t250 t253 t256 t259 _ ?side1 ?side2 ?side3 ?side4 ?side5 ?side6 ?side7 ?side8 A49.out).mono ?_
       (case side1 => exact zc (Kd.C_below HR0_1.out HB.out))
       (case side2 => exact HC0_1.out)
       (case side3 => exact zc (Kd.C_below HR0_2.out HB.out))
       (case side4 => exact HC0_2.out)
       (case side5 => exact zc (Kd.C_below HR0_3.out HB.out))
       (case side6 => exact HC0_3.out)
       (case side7 => exact zc (Kd.C_below HR0_4.out HB.out))
       (case side8 => exact HC0_4.out)
       rintro e w123 ⟨v251, v254, v257, v260, rfl, ho0, ho1, ho2, ho3, hb⟩
       refine ⟨_, rfl, ?_⟩
       have n0_ := zA (Kd.R_below (zR HO_6.out) hb)
       have n1_ := zA (Kd.R_mono (Kd.R_told (Kd.R_told (Kd.R_told (Kd.R_told (Kd.R_old (zR HO_9.out) hb) (Kd.R_base ho0)) (Kd.R_base ho1)) (Kd.R_base ho2)) (Kd.R_base ho3)) (fun _ h_ => h_.1))
       have n2_ := zA (Kd.R_below (zR HO_10.out) hb)
       have n3_ := zA (Kd.R_mono (Kd.R_told (Kd.R_told (Kd.R_told (Kd.R_told (Kd.R_old (zR HO_241001.out) hb) (Kd.R_base ho0)) (Kd.R_base ho1)) (Kd.R_base ho2)) (Kd.R_base ho3)) (fun _ h_ => h_.1))
       have n4_ := zA (Kd.R_mono (Kd.R_told (Kd.R_told (Kd.R_told (Kd.R_told (Kd.R_old (zR HO_241002.out) hb) (Kd.R_base ho0)) (Kd.R_base ho1)) (Kd.R_base ho2)) (Kd.R_base ho3)) (fun _ h_ => h_.1))
       have n5_ := zA (Kd.R_mono (Kd.R_told (Kd.R_told (Kd.R_told (Kd.R_told (Kd.R_old (zR HO_241003.out) hb) (Kd.R_base ho0)) (Kd.R_base ho1)) (Kd.R_base ho2)) (Kd.R_base ho3)) (fun _ h_ => h_.1))
       have n6_ := zA (Kd.R_mono (Kd.R_told (Kd.R_told (Kd.R_told (Kd.R_told (Kd.R_old (zR HO_241004.out) hb) (Kd.R_base ho0)) (Kd.R_base ho1)) (Kd.R_base ho2)) (Kd.R_base ho3)) (fun _ h_ => h_.1))
       have n7_ := zA (Kd.R_lower (Kd.R_new' (Kd.R_new' (Kd.R_new' (Kd.R_new' (Kd.R_new' ho0 (zl HO_9.out)) (zl HO_241001.out)) (zl HO_241002.out)) (zl HO_241003.out)) (zl HO_241004.out)) (below_size (zs2 GE205.out GE240.out)))
       have n8_ := zA (Kd.R_lower (Kd.R_new' (Kd.R_new' (Kd.R_new' (Kd.R_new' (Kd.R_new' ho1 (zl HO_9.out)) (zl HO_241001.out)) (zl HO_241002.out)) (zl HO_241003.out)) (zl HO_241004.out)) (below_size (zs2 GE205.out GE240.out)))
       have n9_ := zA (Kd.R_lower (Kd.R_new' (Kd.R_new' (Kd.R_new' (Kd.R_new' (Kd.R_new' ho2 (zl HO_9.out)) (zl HO_241001.out)) (zl HO_241002.out)) (zl HO_241003.out)) (zl HO_241004.out)) (below_size (zs2 GE205.out GE240.out)))
       have n10_ := zA (Kd.R_lower (Kd.R_new' (Kd.R_new' (Kd.R_new' (Kd.R_new' (Kd.R_new' ho3 (zl HO_9.out)) (zl HO_241001.out)) (zl HO_241002.out)) (zl HO_241003.out)) (zl HO_241004.out)) (below_size (zs2 GE205.out GE240.out)))
       have n11_ := zA (zB BK205.out hb)
       have n12_ := zA (zB BK240.out hb)
       have n13_ := zA (below_step (zs2 GE205.out GE240.out) hb)
       clear HO_6
       clear HO_9
       clear HO_10
       clear HO_241001
       clear HO_241002
       clear HO_241003
       clear HO_241004
       clear BK205
       clear BK240
       clear HB
       have HO_6 := n0_
       have HO_9 := n1_
       have HO_10 := n2_
       have HO_241001 := n3_
       have HO_241002 := n4_
       have HO_241003 := n5_
       have HO_241004 := n6_
       have HO252 := n7_
       have HO255 := n8_
       have HO258 := n9_
       have HO261 := n10_
       have BK205 := n11_
       have BK240 := n12_
       have HB := n13_
       clear n0_ n1_ n2_ n3_ n4_ n5_ n6_ n7_ n8_ n9_ n10_ n11_ n12_ n13_
       (try clear hb)
       (try clear hb2)
       (try clear hk)
       (try clear hi)
       (try clear ho0)
       (try clear ho1)
       (try clear ho2)
       (try clear ho3)
       obtain ⟨Ao124, co124, eo124⟩ := Kd.R_slice HO252.out
       (first | subst eo124 | (injection eo124 with f1_ f2_ f3_; have f4_ := f1_.symm; have f5_ := f3_.symm; clear f1_ f2_ f3_; subst f4_; subst f5_))
       obtain ⟨Ao125, co125, eo125⟩ := Kd.R_slice HO255.out
       (first | subst eo125 | (injection eo125 with f1_ f2_ f3_; have f4_ := f1_.symm; have f5_ := f3_.symm; clear f1_ f2_ f3_; subst f4_; subst f5_))
       obtain ⟨Ao126, co126, eo126⟩ := Kd.R_slice HO258.out
       (first | subst eo126 | (injection eo126 with f1_ f2_ f3_; have f4_ := f1_.symm; have f5_ := f3_.symm; clear f1_ f2_ f3_; subst f4_; subst f5_))
       obtain ⟨Ao127, co127, eo127⟩ := Kd.R_slice HO261.out
       (first | subst eo127 | (injection eo127 with f1_ f2_ f3_; have f4_ := f1_.symm; have f5_ := f3_.symm; clear f1_ f2_ f3_; subst f4_; subst f5_))
       refine hK.out _ _ ⟨(blk_cell BK240.out 0).trans rfl, (blk_cell BK240.out 1).trans rfl, (blk_cell BK240.out 2).trans rfl, (blk_cell BK240.out 3).trans rfl, (blk_cell BK240.out 4).trans rfl, (blk_cell BK205.out 0).trans rfl, (blk_cell BK205.out 1).trans rfl, (blk_cell BK205.out 2).trans rfl, (blk_cell BK205.out 3).trans rfl, (blk_cell BK205.out 4).trans rfl⟩ (fun hHeld => ?_)
       clear hK K
       refine norm_ (a' := ?_) ?_ ?_
       rotate_left
       ·show Act.put _ (some 54) _ = _
        simp only [Act.put, List.setIfInBounds_toArray, List.set_cons_zero, List.set_cons_succ, i64_w, i32_w]
        rfl
       refine one_ (i := 3) (N := some 55) #[true, true, true, true, false] rfl rfl (by kernel_rfl) (by decide) (fun K hK => ?_)
       refine goes_ Try.func11 (by kernel_rfl) rfl #[.agg #[.int .i64 t227, .slice Ao34 t228.length co34, .slice Ao35 t231.length co35, .slice Ao36 t234.length co36, .slice Ao37 t237.length co37], .agg #[.int .i64 t249, .slice Ao124 t250.length co124, .slice Ao125 t253.length co125, .slice Ao126 t256.length co126, .slice Ao127 t259.length co127]] (by rfl) rfl rfl za ?_
       with_reducible refine (laws_eqGraph.calls kj15 t227 _ _ t228 _ _ t231 _ _ t234 _ _ t237 t249 _ _ t250 _ _ t253 _ _ t256 _ _ t259 false _ ?side1 ?side2 ?side3 ?side4 ?side5 ?side6 ?side7 ?side8 ?side9 ?side10 ?side11 ?side12 ?side13 ?side14 ?side15 ?side16 A50.out).mono ?_
       (case side1 => exact zc ((Kd.R_reads' HO_241001.out).2.2))
       (case side2 => exact (Kd.R_reads' HO_241001.out).2.1)
       (case side3 => exact zc ((Kd.R_reads' HO_241002.out).2.2))
       (case side4 => exact (Kd.R_reads' HO_241002.out).2.1)
       (case side5 => exact zc ((Kd.R_reads' HO_241003.out).2.2))
       (case side6 => exact (Kd.R_reads' HO_241003.out).2.1)
       (case side7 => exact zc ((Kd.R_reads' HO_241004.out).2.2))
       (case side8 => exact (Kd.R_reads' HO_241004.out).2.1)
       (case side9 => exact zc ((Kd.R_reads' HO252.out).2.2))
       (case side10 => exact (Kd.R_reads' HO252.out).2.1)
       (case side11 => exact zc ((Kd.R_reads' HO255.out).2.2))
       (case side12 => exact (Kd.R_reads' HO255.out).2.1)
       (case side13 => exact zc ((Kd.R_reads' HO258.out).2.2))
       (case side14 => exact (Kd.R_reads' HO258.out).2.1)
       (case side15 => exact zc ((Kd.R_reads' HO261.out).2.2))
       (case side16 => exact (Kd.R_reads' HO261.out).2.1)
       rintro e w128 ⟨rfl, hb⟩
       refine ⟨_, rfl, ?_⟩
       have n0_ := zA (Kd.R_below (zR HO_6.out) hb)
       have n1_ := zA (Kd.R_below (zR HO_9.out) hb)
       have n2_ := zA (Kd.R_below (zR HO_10.out) hb)
       have n3_ := zA (Kd.R_below (zR HO_241001.out) hb)
       have n4_ := zA (Kd.R_below (zR HO_241002.out) hb)
       have n5_ := zA (Kd.R_below (zR HO_241003.out) hb)
       have n6_ := zA (Kd.R_below (zR HO_241004.out) hb)
       have n7_ := zA (Kd.R_below (zR HO252.out) hb)
       have n8_ := zA (Kd.R_below (zR HO255.out) hb)
       have n9_ := zA (Kd.R_below (zR HO258.out) hb)
       have n10_ := zA (Kd.R_below (zR HO261.out) hb)
       have n11_ := zA (zB BK205.out hb)
       have n12_ := zA (zB BK240.out hb)
       have n13_ := zA (below_step (zs2 GE205.out GE240.out) hb)
       clear HO_6
       clear HO_9
       clear HO_10
       clear HO_241001
       clear HO_241002
       clear HO_241003
       clear HO_241004
       clear HO252
       clear HO255
       clear HO258
       clear HO261
       clear BK205
       clear BK240
       clear HB
       have HO_6 := n0_
       have HO_9 := n1_
       have HO_10 := n2_
       have HO_241001 := n3_
       have HO_241002 := n4_
       have HO_241003 := n5_
       have HO_241004 := n6_
       have HO252 := n7_
       have HO255 := n8_
       have HO258 := n9_
       have HO261 := n10_
       have BK205 := n11_
       have BK240 := n12_
       have HB := n13_
       clear n0_ n1_ n2_ n3_ n4_ n5_ n6_ n7_ n8_ n9_ n10_ n11_ n12_ n13_
       (try clear hb)
       (try clear hb2)
       (try clear hk)
       (try clear hi)
       refine hK.out _ _ ⟨(blk_cell BK240.out 0).trans rfl, (blk_cell BK240.out 1).trans rfl, (blk_cell BK240.out 2).trans rfl, (blk_cell BK240.out 3).trans rfl, (blk_cell BK240.out 4).trans rfl, (blk_cell BK205.out 0).trans rfl, (blk_cell BK205.out 1).trans rfl, (blk_cell BK205.out 2).trans rfl, (blk_cell BK205.out 3).trans rfl, (blk_cell BK205.out 4).trans rfl⟩ (fun hHeld => ?_)
       clear hK K
       refine norm_ (a' := ?_) ?_ ?_
       rotate_left
       ·show Act.put _ (some 55) _ = _
        simp only [Act.put, List.setIfInBounds_toArray, List.set_cons_zero, List.set_cons_succ, i64_w, i32_w]
        rfl
       refine pure_ (i := 4) (N := some 56) (v := ?_) (a' := ?_) #[true, true, true, true, true] rfl rfl (by kernel_rfl) (fun _ _ _ h => h) (Or.inl ⟨by rfl, ?_⟩) ?_ ?_
       rotate_left
       ·intro w'
        go_simp
        with_reducible rfl
       rotate_left
       ·simp only [Act.put, List.setIfInBounds_toArray, List.set_cons_zero, List.set_cons_succ, i64_w, i32_w]
        rfl
       refine done_ (by kernel_rfl) ?_
       try go_wp2
       go_ret
       exact ⟨ze, (zs2 GE205.out GE240.out)⟩

end Go.Proofs.Ytiboccbaaphbhaa.PFnExactReach
