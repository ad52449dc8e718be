-- made by wip/tools/myprint.py (this session's own program, over the kit's printer)
import Derived.Test.YthbeplmihjhoeaaDoorPFnExactTickFleetx0
import Derived.Test.YthbeplmihjhoeaaDoorPFnExactTickFleetx10
import Derived.Test.YthbeplmihjhoeaaDoorPFnExactTickFleetx12
namespace Go.Proofs.YthbeplmihjhoeaaDoor.PFnExactTickFleet
open Go.RowKit Go.Proofs.YthbeplmihjhoeaaDoorW.PrintWords Go.Proofs.YthbeplmihjhoeaaDoorW.PrintLast Go.Proofs.YthbeplmihjhoeaaDoorW.PrintMore
attribute [local go_sem] max2_int min2_int max_two min_two max_three min_three max_four min_four   -- for this text's walks alone
set_option linter.unusedVariables false
set_option linter.unusedSimpArgs false

/-! ### spec_TickFleet: function 42 -/
def spec_TickFleet.f (k : Nat) (a0_0 : Int) (a0_1 : Int) (l0_2 : List (S120)) (l0_3 : List (List Int)) (l0_4 : List (List Int)) (l1 : List (S134)) : Option ((List (S134)) × Bool × Int) := (spec_ValidFleet.f k a0_0 a0_1 l0_2 l0_3 l0_4 l1).bind fun t261 => (if t261 = true then ((spec_l8tick.f k a0_0 a0_1 l0_2 l0_3 l0_4 l1).bind fun bt262 => (some (bt262.1, bt262.2, 0))) else (some (([] : List (S134)), false, 1)))
theorem spec_TickFleet.mono : ∀ a0 a1 a2 a3 a4 a5 k, LeO (spec_TickFleet.f k a0 a1 a2 a3 a4 a5) (spec_TickFleet.f (k + 1) a0 a1 a2 a3 a4 a5) := by
 intro a0 a1 a2 a3 a4 a5 k; unfold spec_TickFleet.f; have m1 := @spec_ValidFleet.mono; have m2 := @spec_l8tick.mono; exact zm
set_option maxHeartbeats 8000000 in
set_option maxRecDepth 100000 in
theorem spec_TickFleet.calls (k : Nat) (a0_0 : Int) (a0_1 : Int) (A0_2 : Option Addr) (c0_2 : Nat) (l0_2 : List (S120)) (A0_3 : Option Addr) (c0_3 : Nat) (l0_3 : List (List Int)) (A0_4 : Option Addr) (c0_4 : Nat) (l0_4 : List (List Int)) (A1 : Option Addr) (c1 : Nat) (l1 : List (S134)) (r1 : List (S134)) (r2 : Bool) (r3 : Int) (w : World) (hr0_2 : Kd.C k120 w A0_2 l0_2.length l0_2) (hc0_2 : l0_2.length ≤ c0_2) (hr0_3 : Kd.C (Kd.slice 3 (Kd.int .i64)) w A0_3 l0_3.length l0_3) (hc0_3 : l0_3.length ≤ c0_3) (hr0_4 : Kd.C (Kd.slice 3 (Kd.int .i64)) w A0_4 l0_4.length l0_4) (hc0_4 : l0_4.length ≤ c0_4) (hr1 : Kd.C k134 w A1 l1.length l1) (hc1 : l1.length ≤ c1) (h : spec_TickFleet.f k a0_0 a0_1 l0_2 l0_3 l0_4 l1 = some (r1, r2, r3)) :
  Calls Tryd.prog 42 #[.agg #[.int .i64 a0_0, .int .i64 a0_1, .slice A0_2 l0_2.length c0_2, .slice A0_3 l0_3.length c0_3, .slice A0_4 l0_4.length c0_4], .slice A1 l1.length c1] w fun e w' => ∃ v0_ : Value, e = .returned (.tuple #[v0_, .bool r2, .int .i64 r3]) ∧ Kd.R k134 134 w' w.heap.size (fun _ => True) v0_ r1 ∧ Below w.heap.size w w' := by
 have hu47 := Tryd.underlying47; have HR0_2 := zA hr0_2; have HC0_2 := zA hc0_2; clear hr0_2 hc0_2; have HR0_3 := zA hr0_3; have HC0_3 := zA hc0_3; clear hr0_3 hc0_3; have HR0_4 := zA hr0_4; have HC0_4 := zA hc0_4; clear hr0_4 hc0_4; have HR1 := zA hr1; have HC1 := zA hc1; clear hr1 hc1; have HB := zA (Below.refl w.heap.size w); have H : ((spec_ValidFleet.f k a0_0 a0_1 l0_2 l0_3 l0_4 l1).bind fun t261 => (if t261 = true then ((spec_l8tick.f k a0_0 a0_1 l0_2 l0_3 l0_4 l1).bind fun bt262 => (some (bt262.1, bt262.2, 0))) else (some (([] : List (S134)), false, 1)))) = some (r1, r2, r3) := h; clear h; replace H := Option.bind_eq_some_iff.mp H; obtain ⟨t261, A30, H⟩ := H; replace H : (if t261 = true then ((spec_l8tick.f k a0_0 a0_1 l0_2 l0_3 l0_4 l1).bind fun bt262 => (some (bt262.1, bt262.2, 0))) else (some (([] : List (S134)), false, 1))) = some (r1, r2, r3) := H; have A3 := zA A30; clear A30
 by_cases c4 : t261 = true
 ·subst c4; have H1 : ((spec_l8tick.f k a0_0 a0_1 l0_2 l0_3 l0_4 l1).bind fun bt262 => (some (bt262.1, bt262.2, 0))) = some (r1, r2, r3) := by rw [if_pos rfl] at H; exact H
  clear H; have H := H1; clear H1; replace H := Option.bind_eq_some_iff.mp H; obtain ⟨⟨t262, t265⟩, A50, H⟩ := H; replace H : (some (t262, t265, 0)) = some (r1, r2, r3) := H; have A5 := zA A50; clear A50; simp only [Option.some.injEq, Prod.mk.injEq] at H; obtain ⟨rfl, rfl, rfl⟩ := H; go_enter Tryd.func42, Tryd.ntmps42; go_wp2_with (first | ((with_reducible refine gate_dst (N := 2) rfl ?_); refine zbx (N := 2) (cs := #[.int .i64 a0_0, .int .i64 a0_1, .slice A0_2 l0_2.length c0_2, .slice A0_3 l0_3.length c0_3, .slice A0_4 l0_4.length c0_4]) (t := 47) ?_; intro gb260 hg w6 hbox hb; have BK260 := zA (hbox); have GW260 := zA (zg hg : w.heap.size ≤ gb260); have GE260 := zA (zg hg : w.heap.size ≤ gb260); replace HB := zA (below_step z_ hb); clear hb hbox hg; obtain ⟨hcz7_0, hcz7_1, hcz7_2, hcz7_3, hcz7_4, hfz7_0, hfz7_1, hfz7_2, hfz7_3, hfz7_4⟩ := zh5 BK260.out) | ((with_reducible refine gate_callee (f := 98) rfl ?_); refine goesL_ (some 11) rfl rfl Tryd.func98 (by kernel_rfl) rfl #[.agg #[.int .i64 a0_0, .int .i64 a0_1, .slice A0_2 l0_2.length c0_2, .slice A0_3 l0_3.length c0_3, .slice A0_4 l0_4.length c0_4], .slice A1 l1.length c1] rfl za ?_; (with_reducible refine (spec_ValidFleet.calls k a0_0 a0_1 _ _ l0_2 _ _ l0_3 _ _ l0_4 _ _ l1 true _ ?side1 ?side2 ?side3 ?side4 ?side5 ?side6 ?side7 ?side8 A3.out).mono ?_); (case side1 => exact zC HR0_2.out); (case side2 => exact HC0_2.out); (case side3 => exact zC HR0_3.out); (case side4 => exact HC0_3.out); (case side5 => exact zC HR0_4.out); (case side6 => exact HC0_4.out); (case side7 => exact zC HR1.out); (case side8 => exact HC1.out); rintro e w8 ⟨rfl, hb⟩; refine ⟨_, rfl, ?_⟩; replace BK260 := zA (zB BK260.out hb); replace HB := zA (below_step (zs GE260.out) hb); (try clear hb); (try clear hb2); (try clear hk); (try clear hi); obtain ⟨hcz9_0, hcz9_1, hcz9_2, hcz9_3, hcz9_4, hfz9_0, hfz9_1, hfz9_2, hfz9_3, hfz9_4⟩ := zh5 BK260.out) | ((with_reducible refine gate_callee (f := 99) rfl ?_); refine goesL_ (some 16) rfl rfl Tryd.func99 (by kernel_rfl) rfl #[.agg #[.int .i64 a0_0, .int .i64 a0_1, .slice A0_2 l0_2.length c0_2, .slice A0_3 l0_3.length c0_3, .slice A0_4 l0_4.length c0_4], .slice A1 l1.length c1] rfl za ?_; (with_reducible refine (spec_l8tick.calls k a0_0 a0_1 _ _ l0_2 _ _ l0_3 _ _ l0_4 _ _ l1 t262 t265 _ ?side1 ?side2 ?side3 ?side4 ?side5 ?side6 ?side7 ?side8 A5.out).mono ?_); (case side1 => exact zC HR0_2.out); (case side2 => exact HC0_2.out); (case side3 => exact zC HR0_3.out); (case side4 => exact HC0_3.out); (case side5 => exact zC HR0_4.out); (case side6 => exact HC0_4.out); (case side7 => exact zC HR1.out); (case side8 => exact HC1.out); rintro e w10 ⟨v263, rfl, ho0, hb⟩; refine ⟨_, rfl, ?_⟩; have HO264 := zA (Kd.R_lower ho0 (below_size (zs GE260.out))); replace BK260 := zA (zB BK260.out hb); replace HB := zA (below_step (zs GE260.out) hb); (try clear hb); (try clear hb2); (try clear hk); (try clear hi); (try clear ho0)))
  go_ret3; exact ⟨_, ze, by (with_reducible repeat (first | apply Kd.R_alloc | apply Kd.R_drewN | apply Kd.R_drew)); exact HO264.out, (zs GE260.out)⟩
 ·replace c4 := Bool.eq_false_iff.mpr c4; subst c4; have H1 : (some (([] : List (S134)), false, 1)) = some (r1, r2, r3) := by rw [if_neg (show ¬ (false = true) by decide)] at H; exact H
  clear H; have H := H1; clear H1; simp only [Option.some.injEq, Prod.mk.injEq] at H; obtain ⟨rfl, rfl, rfl⟩ := H; go_enter Tryd.func42, Tryd.ntmps42; go_wp2_with (first | ((with_reducible refine gate_dst (N := 2) rfl ?_); refine zbx (N := 2) (cs := #[.int .i64 a0_0, .int .i64 a0_1, .slice A0_2 l0_2.length c0_2, .slice A0_3 l0_3.length c0_3, .slice A0_4 l0_4.length c0_4]) (t := 47) ?_; intro gb260 hg w11 hbox hb; have BK260 := zA (hbox); have GW260 := zA (zg hg : w.heap.size ≤ gb260); have GE260 := zA (zg hg : w.heap.size ≤ gb260); replace HB := zA (below_step z_ hb); clear hb hbox hg; obtain ⟨hcz12_0, hcz12_1, hcz12_2, hcz12_3, hcz12_4, hfz12_0, hfz12_1, hfz12_2, hfz12_3, hfz12_4⟩ := zh5 BK260.out) | ((with_reducible refine gate_callee (f := 98) rfl ?_); refine goesL_ (some 11) rfl rfl Tryd.func98 (by kernel_rfl) rfl #[.agg #[.int .i64 a0_0, .int .i64 a0_1, .slice A0_2 l0_2.length c0_2, .slice A0_3 l0_3.length c0_3, .slice A0_4 l0_4.length c0_4], .slice A1 l1.length c1] rfl za ?_; (with_reducible refine (spec_ValidFleet.calls k a0_0 a0_1 _ _ l0_2 _ _ l0_3 _ _ l0_4 _ _ l1 false _ ?side1 ?side2 ?side3 ?side4 ?side5 ?side6 ?side7 ?side8 A3.out).mono ?_); (case side1 => exact zC HR0_2.out); (case side2 => exact HC0_2.out); (case side3 => exact zC HR0_3.out); (case side4 => exact HC0_3.out); (case side5 => exact zC HR0_4.out); (case side6 => exact HC0_4.out); (case side7 => exact zC HR1.out); (case side8 => exact HC1.out); rintro e w13 ⟨rfl, hb⟩; refine ⟨_, rfl, ?_⟩; replace BK260 := zA (zB BK260.out hb); replace HB := zA (below_step (zs GE260.out) hb); (try clear hb); (try clear hb2); (try clear hk); (try clear hi)))
  go_ret3; exact ⟨_, ze, by first | exact Kd.R_nil _ _ _ _ _ | exact Kd.N_nil _ _ _ _ _ | exact Kd.V_nil _ _ _ _ _ | exact Kd.Q_nil _ _ _ _ _ | exact Kd.S_nil _ _ _ _ _, (zs GE260.out)⟩

/-! ### laws_toRobot: function 100 -/
def laws_toRobot.f (a0_0 : Int) (a0_1 : Int) (a0_2 : Int) (a0_3 : Int) (a0_4 : Bool) : Option (Int × Int × Int × Int × Bool) := some (a0_0, a0_1, a0_2, a0_3, a0_4)
set_option maxHeartbeats 8000000 in
set_option maxRecDepth 100000 in
theorem laws_toRobot.calls (a0_0 : Int) (a0_1 : Int) (a0_2 : Int) (a0_3 : Int) (a0_4 : Bool) (r1 : Int) (r2 : Int) (r3 : Int) (r4 : Int) (r5 : Bool) (w : World) (h : laws_toRobot.f a0_0 a0_1 a0_2 a0_3 a0_4 = some (r1, r2, r3, r4, r5)) :
  Calls Tryd.prog 100 #[.agg #[.int .i64 a0_0, .int .i64 a0_1, .int .i64 a0_2, .int .i64 a0_3, .bool a0_4]] w fun e w' => e = .returned (.agg #[.int .i64 r1, .int .i64 r2, .int .i64 r3, .int .i64 r4, .bool r5]) ∧ Below w.heap.size w w' := by
 have hu136 := Tryd.underlying136; have hu134 := Tryd.underlying134; have HB := zA (Below.refl w.heap.size w); have H : (some (a0_0, a0_1, a0_2, a0_3, a0_4)) = some (r1, r2, r3, r4, r5) := h; clear h; simp only [Option.some.injEq, Prod.mk.injEq] at H; obtain ⟨rfl, rfl, rfl, rfl, rfl⟩ := H; go_enter Tryd.func100, Tryd.ntmps100; go_wp2_with (first | ((with_reducible refine gate_dst (N := 1) rfl ?_); refine zbx (N := 1) (cs := #[.int .i64 a0_0, .int .i64 a0_1, .int .i64 a0_2, .int .i64 a0_3, .bool a0_4]) (t := 136) ?_; intro gb266 hg w2 hbox hb; have BK266 := zA (hbox); have GW266 := zA (zg hg : w.heap.size ≤ gb266); have GE266 := zA (zg hg : w.heap.size ≤ gb266); replace HB := zA (below_step z_ hb); clear hb hbox hg) | ((with_reducible refine gate_dst (N := 2) rfl ?_); refine zbx (N := 2) (cs := #[.int .i64 0, .int .i64 0, .int .i64 0, .int .i64 0, .bool false]) (t := 134) ?_; intro gb267 hg w3 hbox hb; have BK267 := zA (hbox); have GW267 := zA ((by rw [hg]; exact (below_size (zs GE266.out)) : w.heap.size ≤ gb267)); have GE267 := zA ((by rw [hg]; exact (below_size (zs GE266.out)) : w.heap.size ≤ gb267)); replace HB := zA (below_step (zs GE266.out) hb); have NB266_267 := zA ((by rw [hg]; exact Nat.ne_of_lt (zw BK266.out) : gb266 ≠ gb267)); have NB267_266 := zA ((by rw [hg]; exact Nat.ne_of_gt (zw BK266.out) : gb267 ≠ gb266)); replace BK266 := zA (zB BK266.out hb); clear hb hbox hg) | ((with_reducible refine gate_dst (N := 3) rfl ?_); refine zbx (N := 3) (cs := #[.int .i64 0, .int .i64 0, .int .i64 0, .int .i64 0, .bool false]) (t := 134) ?_; intro gb268 hg w4 hbox hb; have BK268 := zA (hbox); have GW268 := zA ((by rw [hg]; exact (below_size (zs2 GE266.out GE267.out)) : w.heap.size ≤ gb268)); have GE268 := zA ((by rw [hg]; exact (below_size (zs2 GE266.out GE267.out)) : w.heap.size ≤ gb268)); replace HB := zA (below_step (zs2 GE266.out GE267.out) hb); have NB266_268 := zA ((by rw [hg]; exact Nat.ne_of_lt (zw BK266.out) : gb266 ≠ gb268)); have NB268_266 := zA ((by rw [hg]; exact Nat.ne_of_gt (zw BK266.out) : gb268 ≠ gb266)); replace BK266 := zA (zB BK266.out hb); have NB267_268 := zA ((by rw [hg]; exact Nat.ne_of_lt (zw BK267.out) : gb267 ≠ gb268)); have NB268_267 := zA ((by rw [hg]; exact Nat.ne_of_gt (zw BK267.out) : gb268 ≠ gb267)); replace BK267 := zA (zB BK267.out hb); clear hb hbox hg; have hnb5 := NB266_267.out; have hnc5 := NB267_266.out; have hnb6 := NB266_268.out; have hnc6 := NB268_266.out; obtain ⟨hcz7_0, hcz7_1, hcz7_2, hcz7_3, hcz7_4, hfz7_0, hfz7_1, hfz7_2, hfz7_3, hfz7_4⟩ := zh5 BK266.out; have hnb8 := NB268_267.out; have hnc8 := NB267_268.out; obtain ⟨hcz9_0, hcz9_1, hcz9_2, hcz9_3, hcz9_4, hfz9_0, hfz9_1, hfz9_2, hfz9_3, hfz9_4⟩ := zh5 BK268.out; obtain ⟨hcz10_0, hcz10_1, hcz10_2, hcz10_3, hcz10_4, hfz10_0, hfz10_1, hfz10_2, hfz10_3, hfz10_4⟩ := zh5 BK267.out))
 refine bodyPost_ret (results_cell_row rfl _ _ gb267 134 #[.int .i64 a0_0, .int .i64 a0_1, .int .i64 a0_2, .int .i64 a0_3, .bool a0_4] (0, 0) _ rfl (by (with_reducible repeat (first | refine blk_drewN ?_ _ | refine blk_drew ?_ | refine blk_alloc ?_ _)); refine blk_put (cs := #[.int .i64 a0_0, .int .i64 a0_1, .int .i64 a0_2, .int .i64 a0_3, .bool false]) ?_ 4 _ rfl; (with_reducible repeat (first | refine blk_drewN ?_ _ | refine blk_drew ?_ | refine blk_alloc ?_ _)); refine blk_put (cs := #[.int .i64 a0_0, .int .i64 a0_1, .int .i64 a0_2, .int .i64 0, .bool false]) ?_ 3 _ rfl; (with_reducible repeat (first | refine blk_drewN ?_ _ | refine blk_drew ?_ | refine blk_alloc ?_ _)); refine blk_put (cs := #[.int .i64 a0_0, .int .i64 a0_1, .int .i64 0, .int .i64 0, .bool false]) ?_ 2 _ rfl; (with_reducible repeat (first | refine blk_drewN ?_ _ | refine blk_drew ?_ | refine blk_alloc ?_ _)); refine blk_put (cs := #[.int .i64 a0_0, .int .i64 0, .int .i64 0, .int .i64 0, .bool false]) ?_ 1 _ rfl; (with_reducible repeat (first | refine blk_drewN ?_ _ | refine blk_drew ?_ | refine blk_alloc ?_ _)); refine blk_put (cs := #[.int .i64 0, .int .i64 0, .int .i64 0, .int .i64 0, .bool false]) ?_ 0 _ rfl; (with_reducible repeat (first | refine blk_drewN ?_ _ | refine blk_drew ?_ | refine blk_alloc ?_ _)); refine blk_far ?_ NB267_268.out _; (with_reducible repeat (first | refine blk_drewN ?_ _ | refine blk_drew ?_ | refine blk_alloc ?_ _)); refine blk_far ?_ NB267_268.out _; (with_reducible repeat (first | refine blk_drewN ?_ _ | refine blk_drew ?_ | refine blk_alloc ?_ _)); refine blk_far ?_ NB267_268.out _; (with_reducible repeat (first | refine blk_drewN ?_ _ | refine blk_drew ?_ | refine blk_alloc ?_ _)); refine blk_far ?_ NB267_268.out _; (with_reducible repeat (first | refine blk_drewN ?_ _ | refine blk_drew ?_ | refine blk_alloc ?_ _)); refine blk_far ?_ NB267_268.out _; (with_reducible repeat (first | refine blk_drewN ?_ _ | refine blk_drew ?_ | refine blk_alloc ?_ _)); exact BK267.out) Tryd.underlying134 rfl (by kernel_rfl)) rfl ?_
 exact ⟨ze, (zs3 GE266.out GE267.out GE268.out)⟩

/-! ### laws_toRobotS: function 43 -/
def laws_toRobotS.l0 : Nat → List (S136) → List (S134) → Int → Option ((List (S134)))
 | 0, _, _, _ => none
 | k + 1, x0, x3, x4 => if x4 < (x0.length : Int) then (if 0 ≤ x4 then ((laws_toRobot.f ((rd_T136 x0 x4).f0) ((rd_T136 x0 x4).f1) ((rd_T136 x0 x4).f2) ((rd_T136 x0 x4).f3) ((rd_T136 x0 x4).f4)).bind fun bt273 => (if x4 < (x3.length : Int) then (laws_toRobotS.l0 k x0 (x3.set (x4 : Int).toNat (⟨bt273.1, bt273.2.1, bt273.2.2.1, bt273.2.2.2.1, bt273.2.2.2.2⟩ : S134)) (wrap64 (x4 + 1))) else (none))) else (none)) else (some x3)
def laws_toRobotS.f (k : Nat) (l0 : List (S136)) : Option ((List (S134))) := if 0 ≤ (l0.length : Int) then (if ((l0.length : Int) : Int).toNat ≤ 7036874417766 then (laws_toRobotS.l0 k l0 (List.replicate ((l0.length : Int) : Int).toNat z134) 0) else (none)) else (none)
theorem laws_toRobotS.mono_l : ∀ k, (∀ y0 y1 y2, LeO (laws_toRobotS.l0 k y0 y1 y2) (laws_toRobotS.l0 (k + 1) y0 y1 y2))
 | 0 => fun _ _ _ r h => by simp [laws_toRobotS.l0] at h
 | k + 1 => by
  have ih0 := laws_toRobotS.mono_l k
  ·intro y0 y1 y2; unfold laws_toRobotS.l0; exact zm
theorem laws_toRobotS.mono : ∀ a0 k, LeO (laws_toRobotS.f k a0) (laws_toRobotS.f (k + 1) a0) := by
 intro a0 k; have ih0 := laws_toRobotS.mono_l k; unfold laws_toRobotS.f; exact zm
set_option maxHeartbeats 8000000 in
set_option maxRecDepth 100000 in
theorem laws_toRobotS.calls (k : Nat) (A0 : Option Addr) (c0 : Nat) (l0 : List (S136)) (r : List (S134)) (w : World) (hr0 : Kd.C k136 w A0 l0.length l0) (hc0 : l0.length ≤ c0) (h : laws_toRobotS.f k l0 = some r) :
  Calls Tryd.prog 43 #[.slice A0 l0.length c0] w fun e w' => ∃ v0_ : Value, e = .returned (v0_) ∧ Kd.R k134 134 w' w.heap.size (fun _ => True) v0_ r ∧ Below w.heap.size w w' := by
 have hu136 := Tryd.underlying136; have hu134 := Tryd.underlying134; have HR0 := zA hr0; have HC0 := zA hc0; clear hr0 hc0; have HB := zA (Below.refl w.heap.size w); have H : (if 0 ≤ (l0.length : Int) then (if ((l0.length : Int) : Int).toNat ≤ 7036874417766 then (laws_toRobotS.l0 k l0 (List.replicate ((l0.length : Int) : Int).toNat z134) 0) else (none)) else (none)) = some r := h; clear h
 by_cases c2 : 0 ≤ (l0.length : Int)
 ·rw [if_pos c2] at H; have c2b0 := eq_true c2; have c2b1 : decide (0 ≤ (l0.length : Int)) = true := decide_eq_true c2; clear c2
  by_cases c3 : ((l0.length : Int) : Int).toNat ≤ 7036874417766
  ·rw [if_pos c3] at H; have c3b0 := eq_true c3; have c3b1 : decide (((l0.length : Int) : Int).toNat ≤ 7036874417766) = true := decide_eq_true c3; clear c3; obtain ⟨y269, hy269⟩ : ∃ y_ : List (S134), y_ = (List.replicate ((l0.length : Int) : Int).toNat z134) := ⟨_, rfl⟩; replace H : (laws_toRobotS.l0 k l0 y269 0) = some r := zh hy269; have Ny269 := zA hy269; clear hy269; have H' := zA H; clear H; go_enter Tryd.func43, Tryd.ntmps43; go_wp2_with (first | ((with_reducible refine gate_dst (N := 7) rfl ?_); refine Kd.R_make k134 _ 134 rfl (N := 7) rfl 65 _ _ rfl (l0.length : Int) rfl rfl Tryd.underlying65 (.agg #[(.int .i64 0), (.int .i64 0), (.int .i64 0), (.int .i64 0), (.bool false)]) 40 info134 rfl (by decide) (by omega) z134 (ok := fun _ => True) (okp := fun _ => True) (k134_mkM _ _ _ z134 ) (fun _ hk => hk) trivial (zd) (Nat.le_trans (Nat.mul_le_mul_right _ (zd : (l0.length : Int).toNat ≤ 7036874417766)) (by omega)) (Below.refl _ _) (Nat.le_refl _) ?_; intro v270 w4 ho5 hb hg_ hnew_; clear hg_ hnew_; (first | rw [← Ny269.out] at ho5 | (simp only [Int.reduceToNat] at ho5; rw [← Ny269.out] at ho5)); have HO271 := zA (Kd.R_lower ho5 (below_size z_)); replace HB := zA (below_step z_ hb); clear hb ho5))
   go_loopg [4] k (fun kq v4 w' => ∃ (x3_1 : List (S134)) (x4_1 : Int), v4 = .int .i64 x4_1 ∧ Aside0 (laws_toRobotS.l0 kq l0 x3_1 x4_1 = some r) ∧ Aside0 (kq ≤ k) ∧ Aside0 (Kd.R k134 134 w' w.heap.size (fun _ => True) v270 x3_1) ∧ Aside0 (Below w.heap.size w w'))
   case atStart => exact ⟨(y269), (0), zr, H', ⟨Nat.le_refl _⟩, ⟨zR HO271.out⟩, ⟨z_⟩⟩
   case round =>
    clear H'; (try clear c2); (try clear c2b0); (try clear c2b1); (try clear p2); (try clear c3); (try clear c3b0); (try clear c3b1); (try clear c4); obtain ⟨x3_1, x4_1, rfl, HA, HK1, HO_3, HB⟩ := hrel; cases gk with
    | zero => exact absurd HA.out (by simp [laws_toRobotS.l0])
    | succ k1 =>
     have H := HA.out; clear HA; simp only [laws_toRobotS.l0] at H
     by_cases c6 : x4_1 < (l0.length : Int)
     ·rw [if_pos c6] at H; have c6b0 : decide (x4_1 < (l0.length : Int)) = true := decide_eq_true c6; clear c6
      by_cases c7 : 0 ≤ x4_1
      ·rw [if_pos c7] at H; have c7b0 : decide (0 ≤ x4_1) = true := decide_eq_true c7; clear c7; replace H := Option.bind_eq_some_iff.mp H; obtain ⟨⟨t273, t274, t275, t276, t277⟩, A80, H⟩ := H; replace H : (if x4_1 < (x3_1.length : Int) then (laws_toRobotS.l0 k1 l0 (x3_1.set (x4_1 : Int).toNat (⟨t273, t274, t275, t276, t277⟩ : S134)) (wrap64 (x4_1 + 1))) else (none)) = some r := H; have A8 := zA A80; clear A80
       by_cases c9 : x4_1 < (x3_1.length : Int)
       ·rw [if_pos c9] at H; have c9b0 : decide (x4_1 < (x3_1.length : Int)) = true := decide_eq_true c9; clear c9; obtain ⟨y278, hy278⟩ : ∃ y_ : List (S134), y_ = (x3_1.set (x4_1 : Int).toNat (⟨t273, t274, t275, t276, t277⟩ : S134)) := ⟨_, rfl⟩; replace H : (laws_toRobotS.l0 k1 l0 y278 (wrap64 (x4_1 + 1))) = some r := zh hy278; have Ny278 := zA hy278; clear hy278; have H' := zA H; clear H; have p272 : 0 ≤ (x4_1 : Int) := zd; have q272 : x4_1 < (l0.length : Int) := zd; obtain ⟨ad272, e272, hx272_0, hx272_1, hx272_2, hx272_3, hx272_4⟩ := at_T136 HR0.out x4_1 p272 q272; cases e272; replace hx272_0 := zx HB.out hx272_0; replace hx272_1 := zx HB.out hx272_1; replace hx272_2 := zx HB.out hx272_2; replace hx272_3 := zx HB.out hx272_3; replace hx272_4 := zx HB.out hx272_4; replace p272 := eq_true p272; replace q272 := eq_true q272; go_wp2_with (first | ((with_reducible refine gate_callee (f := 100) rfl ?_); refine goesL_ (some 20) rfl rfl Tryd.func100 (by kernel_rfl) rfl #[.agg #[.int .i64 ((rd_T136 l0 x4_1).f0), .int .i64 ((rd_T136 l0 x4_1).f1), .int .i64 ((rd_T136 l0 x4_1).f2), .int .i64 ((rd_T136 l0 x4_1).f3), .bool ((rd_T136 l0 x4_1).f4)]] rfl za ?_; (with_reducible refine (laws_toRobot.calls ((rd_T136 l0 x4_1).f0) ((rd_T136 l0 x4_1).f1) ((rd_T136 l0 x4_1).f2) ((rd_T136 l0 x4_1).f3) ((rd_T136 l0 x4_1).f4) t273 t274 t275 t276 t277 _ A8.out).mono ?_); rintro e w11 ⟨rfl, hb⟩; refine ⟨_, rfl, ?_⟩; replace HO_3 := zA (Kd.R_below (zR HO_3.out) hb); replace HB := zA (below_step z_ hb); (try clear hb); (try clear hb2); (try clear hk); (try clear hi); have p10 : 0 ≤ (x4_1 : Int) := zd; have q10 : (x4_1 : Int) < ((x3_1.length : Int) : Int) := zd; obtain ⟨go10, co10, eo10, gb10, gl10, cl10, HG10⟩ := Kd.R_form HO_3.out (by omega); (first | cases eo10 | (injection eo10 with ea_ en_ ec_; (first | subst ea_ | (injection ea_ with ea_; subst ea_)); subst ec_; clear en_)); have GB10 := zA gb10; have GG10 := zA HG10; clear gb10 gl10 HG10; obtain ⟨ce10, hcl10, hM10, hcc10, hfr10⟩ := Kd.R_elem HO_3.out z134 (x4_1 : Int) p10 q10; obtain rfl := k134_openM hM10; have hx10_0 : w11.cell? ⟨go10, (x4_1 : Int).toNat * 5, none⟩ = some (.int .i64 ((rd_T134 x3_1 x4_1).f0)) := hcc10 0 _ rfl; have hx10_1 : w11.cell? ⟨go10, (x4_1 : Int).toNat * 5 + 1, none⟩ = some (.int .i64 ((rd_T134 x3_1 x4_1).f1)) := hcc10 1 _ rfl; have hx10_2 : w11.cell? ⟨go10, (x4_1 : Int).toNat * 5 + 2, none⟩ = some (.int .i64 ((rd_T134 x3_1 x4_1).f2)) := hcc10 2 _ rfl; have hx10_3 : w11.cell? ⟨go10, (x4_1 : Int).toNat * 5 + 3, none⟩ = some (.int .i64 ((rd_T134 x3_1 x4_1).f3)) := hcc10 3 _ rfl; have hx10_4 : w11.cell? ⟨go10, (x4_1 : Int).toNat * 5 + 4, none⟩ = some (.bool ((rd_T134 x3_1 x4_1).f4)) := hcc10 4 _ rfl; have hf10_0 : w11.frozen? ⟨go10, (x4_1 : Int).toNat * 5, none⟩ = false := hfr10 0; have hf10_1 : w11.frozen? ⟨go10, (x4_1 : Int).toNat * 5 + 1, none⟩ = false := hfr10 1; have hf10_2 : w11.frozen? ⟨go10, (x4_1 : Int).toNat * 5 + 2, none⟩ = false := hfr10 2; have hf10_3 : w11.frozen? ⟨go10, (x4_1 : Int).toNat * 5 + 3, none⟩ = false := hfr10 3; have hf10_4 : w11.frozen? ⟨go10, (x4_1 : Int).toNat * 5 + 4, none⟩ = false := hfr10 4; (try clear hcl10); (try clear hcc10); (try clear hfr10); (try clear hM10); replace p10 := eq_true p10; replace q10 := eq_true q10; have HX12 := zA (show Kd.R k134 134 w11 w.heap.size (fun _ => True) (.slice (some ⟨go10, 0, none⟩) x3_1.length co10) x3_1 from (zR HO_3.out)); obtain ⟨ce12, hcl12, hM12, hcc12, hfr12⟩ := Kd.R_elem HX12.out z134 (x4_1 : Int) (zd) (by have h_ : (x4_1 : Int) < ((x3_1.length : Int) : Int) := zd; first | exact h_ | (have e_ := (Kd.R_reads' HO_3.out).1; omega) | simpa using h_); obtain rfl := k134_openM hM12; have HP12 := Kd.R_seg HX12.out (x4_1 : Int) (zd) (by have h_ : (x4_1 : Int) < ((x3_1.length : Int) : Int) := zd; first | exact h_ | (have e_ := (Kd.R_reads' HO_3.out).1; omega) | simpa using h_) (seg := [.int .i64 t273, .int .i64 t274, .int .i64 t275, .int .i64 t276, .bool t277]) (j := 0) hcl12 hcc12 (show 5 ≤ 5 from by decide) (x' := (⟨t273, t274, t275, t276, t277⟩ : S134)) (k134_mkM _ _ _ (⟨t273, t274, t275, t276, t277⟩ : S134) ) (fun _ hk => hk); have hx12_0 := hcc12 0 _ rfl; (try simp only [show (k134).sz = 5 from rfl, Nat.mul_one, Nat.add_zero] at hx12_0); have hf12_0 := hfr12 0; (try simp only [show (k134).sz = 5 from rfl, Nat.mul_one, Nat.add_zero] at hf12_0); have hx12_1 := hcc12 1 _ rfl; (try simp only [show (k134).sz = 5 from rfl, Nat.mul_one, Nat.add_zero] at hx12_1); have hf12_1 := hfr12 1; (try simp only [show (k134).sz = 5 from rfl, Nat.mul_one, Nat.add_zero] at hf12_1); have hx12_2 := hcc12 2 _ rfl; (try simp only [show (k134).sz = 5 from rfl, Nat.mul_one, Nat.add_zero] at hx12_2); have hf12_2 := hfr12 2; (try simp only [show (k134).sz = 5 from rfl, Nat.mul_one, Nat.add_zero] at hf12_2); have hx12_3 := hcc12 3 _ rfl; (try simp only [show (k134).sz = 5 from rfl, Nat.mul_one, Nat.add_zero] at hx12_3); have hf12_3 := hfr12 3; (try simp only [show (k134).sz = 5 from rfl, Nat.mul_one, Nat.add_zero] at hf12_3); have hx12_4 := hcc12 4 _ rfl; (try simp only [show (k134).sz = 5 from rfl, Nat.mul_one, Nat.add_zero] at hx12_4); have hf12_4 := hfr12 4; (try simp only [show (k134).sz = 5 from rfl, Nat.mul_one, Nat.add_zero] at hf12_4); (try clear hcl12); (try clear hcc12); (try clear hfr12); (try clear hM12)) | ((with_reducible refine gate_store (t := 134) (p := 21) rfl ?_); refine store_event (t := 134) (p := 21) (v := ?vo_w13) (w1 := (((((w11.setCell ⟨go10, (x4_1 : Int).toNat * 5, none⟩ (.int .i64 t273)).setCell ⟨go10, (x4_1 : Int).toNat * 5 + 1, none⟩ (.int .i64 t274)).setCell ⟨go10, (x4_1 : Int).toNat * 5 + 2, none⟩ (.int .i64 t275)).setCell ⟨go10, (x4_1 : Int).toNat * 5 + 3, none⟩ (.int .i64 t276)).setCell ⟨go10, (x4_1 : Int).toNat * 5 + 4, none⟩ (.bool t277))) ?hg ?ho ?hn ?hr ?_; (case ho => rfl); (case hg => rfl); (case hn => rfl); (case hr => first | (go_simp; done) | (go_simp; rfl)); intro w13 hw; have hg : w11.grownBy w13 (some go10) := (by rw [hw]; exact HP12.2); have hp_ : Kd.R k134 134 w13 w.heap.size (fun _ => True) (.slice (some ⟨go10, 0, none⟩) x3_1.length co10) y278 := (by rw [hw, Ny278.out]; exact HP12.1); clear HP12; replace HO_3 := zA (hp_); replace HB := zA ((by rw [hw]; exact below_set (below_set (below_set (below_set (below_set (HB.out) GB10.out) GB10.out) GB10.out) GB10.out) GB10.out : Below w.heap.size w w13)); clear hg hw hp_))
        go_roundg k1
        case measure => have := HK1.out; omega
        case rel => exact ⟨(y278), (wrap64 (x4_1 + 1)), zr, H', ⟨by have := HK1.out; omega⟩, ⟨zR HO_3.out⟩, ⟨z_⟩⟩
       ·rw [if_neg c9] at H; exact absurd H (by simp)
      ·rw [if_neg c7] at H; exact absurd H (by simp)
     ·rw [if_neg c6] at H; have c6b0 : decide (x4_1 < (l0.length : Int)) = false := decide_eq_false c6; clear c6; obtain rfl := Option.some.inj H; go_wp2; go_ret; exact ⟨_, ze, by (with_reducible repeat (first | apply Kd.R_alloc | apply Kd.R_drewN | apply Kd.R_drew)); exact HO_3.out, z_⟩
  ·rw [if_neg c3] at H; exact absurd H (by simp)
 ·rw [if_neg c2] at H; exact absurd H (by simp)

/-! ### impl_sideOk: function 138 -/
def impl_sideOk.f (a0 : Int) : Option (Bool) := if a0 ≥ 1 then (some (decide (a0 ≤ 40))) else (some false)
set_option maxHeartbeats 8000000 in
set_option maxRecDepth 100000 in
theorem impl_sideOk.calls (a0 : Int) (r : Bool) (w : World) (h : impl_sideOk.f a0 = some r) :
  Calls Tryd.prog 138 #[.int .i64 a0] w fun e w' => e = .returned (.bool r) ∧ Drawn0 w w' := by
 have H : (if a0 ≥ 1 then (some (decide (a0 ≤ 40))) else (some false)) = some r := h; clear h
 by_cases c2 : a0 ≥ 1
 ·rw [if_pos c2] at H; have c2b0 : decide (1 ≤ a0) = true := decide_eq_true c2; clear c2; obtain rfl := Option.some.inj H; go_enter Tryd.func138, Tryd.ntmps138; go_wp2; go_ret; exact ⟨by first | rfl | (simp; done) | (simp [*]; done), by repeat (first | exact Drawn0.refl _ | apply Drawn0.step)⟩
 ·rw [if_neg c2] at H; have c2b0 : decide (1 ≤ a0) = false := decide_eq_false c2; clear c2; obtain rfl := Option.some.inj H; go_enter Tryd.func138, Tryd.ntmps138; go_wp2; go_ret; exact ⟨by first | rfl | (simp; done) | (simp [*]; done), by repeat (first | exact Drawn0.refl _ | apply Drawn0.step)⟩

-- NOT PRINTED: function 210 (utf8_decodeRuneSlow)

/-! ### utf8_DecodeRune: function 191 -/
def decI (l : List Int) : Int × Int :=
 if l.length = 0 then (65533, 0) else
  (((Lib.decodeN l.length (rd l 0).toNat (rd l 1).toNat (rd l 2).toNat (rd l 3).toNat).1 : Nat), ((Lib.decodeN l.length (rd l 0).toNat (rd l 1).toNat (rd l 2).toNat (rd l 3).toNat).2 : Nat))
def bytesB (l : List Int) : Bool := l.all fun x => decide (0 ≤ x) && decide (x ≤ 255)
def utf8_DecodeRune.f (l0 : List Int) : Option (Int × Int) := if l0.length = 0 then none else if bytesB l0 = true then some (decI l0) else none
theorem bytesB_at {l : List Int} (h : bytesB l = true) (j : Nat) : 0 ≤ rd l (j : Int) ∧ rd l (j : Int) ≤ 255 := by
 unfold bytesB at h; rw [List.all_eq_true] at h; unfold rd
 by_cases hj : j < l.length
 ·have := h _ (List.getElem_mem hj); simp only [Bool.and_eq_true, decide_eq_true_eq] at this; simp only [Int.toNat_natCast, List.getD_eq_getElem?_getD, List.getElem?_eq_getElem hj, Option.getD_some]; exact this
 ·simp only [Int.toNat_natCast, List.getD_eq_getElem?_getD, List.getElem?_eq_none (Nat.le_of_not_lt hj), Option.getD_none]
  omega
theorem decI_bys {l : List Int} (h : bytesB l = true) : decI l = (((Lib.decodeGo (bys l)).1 : Int), ((Lib.decodeGo (bys l)).2 : Int)) := by
 unfold decI Lib.decodeGo; rw [bys_size]
 by_cases h0 : l.length = 0
 ·rw [if_pos h0, if_pos h0]; rfl
 ·rw [if_neg h0, if_neg h0, Lib.decode_at, bys_size]; have b0 := bytesB_at h 0; have b1 := bytesB_at h 1; have b2 := bytesB_at h 2; have b3 := bytesB_at h 3; rw [bys_get, bys_get, bys_get, bys_get]; simp only [Nat.zero_add, Nat.sub_zero]; rw [Nat.mod_eq_of_lt (by omega), Nat.mod_eq_of_lt (by omega), Nat.mod_eq_of_lt (by omega), Nat.mod_eq_of_lt (by omega)]
  rfl
theorem utf8_DecodeRune.calls (A0 : Option Addr) (c0 : Nat) (l0 : List Int) (r1 : Int) (r2 : Int) (w : World) (hr0 : Kd.C (Kd.int .u8) w A0 l0.length l0) (hc0 : l0.length ≤ c0) (hL : LaidW w) (h : utf8_DecodeRune.f l0 = some (r1, r2)) :
  Calls Tryd.prog 191 #[.slice A0 l0.length c0] w fun e w' => e = .returned (.tuple #[.int .i32 r1, .int .i64 r2]) ∧ Below w.heap.size w w' := by
 unfold utf8_DecodeRune.f at h
 by_cases h0 : l0.length = 0
 ·rw [if_pos h0] at h; cases h
 rw [if_neg h0] at h
 by_cases hb : bytesB l0 = true
 ·rw [if_pos hb] at h; injection h with h; rw [decI_bys hb] at h; injection h with h1 h2; subst h1 h2; obtain ⟨ad, rfl, hx⟩ := Kd.at_int hr0 0 (by omega) (by omega); obtain ⟨b, off, sp⟩ := ad; obtain rfl : sp = none := by
   have e : (Addr.add ⟨b, off, sp⟩ (0 : Int).toNat) = ⟨b, off, sp⟩ := by simp [Addr.add]
   rw [e] at hx; exact cell_spot hx
  have hp : ∀ j, j < (bys l0).size → w.cell? ⟨b, off + j, none⟩ = some (.int .u8 ((bys l0).get! j).toNat) := by
   intro j hj; rw [bys_size] at hj; obtain ⟨ad, e, hx⟩ := Kd.at_int hr0 (j : Int) (by omega) (by omega); injection e with e; subst e; rw [Addr.add_lit] at hx; have hr := bytesB_at hb j; rw [bys_get, Nat.mod_eq_of_lt (by omega), Int.toNat_of_nonneg hr.1]; exact hx
  have := Any7.utf8_DecodeRune Tryd.lays7_32 (bys l0) b off c0 w hL hp; rw [bys_size] at this; exact this
 ·rw [if_neg hb] at h; cases h

/-! ### impl_CheckText: function 157 -/
def impl_CheckText.l0 : Nat → List Int → Int → Option (Int × Int)
 | 0, _, _ => none
 | k + 1, x0, x4 => if x4 < (x0.length : Int) then (if 0 ≤ x4 then (if x4 ≤ (x0.length : Int) then ((utf8_DecodeRune.f (x0.drop (x4 : Int).toNat)).bind fun bt280 => (if bt280.1 = 65533 then (if bt280.2 ≤ 1 then (some (2, x4)) else (impl_CheckText.l0 k x0 (wrap64 (x4 + bt280.2)))) else (impl_CheckText.l0 k x0 (wrap64 (x4 + bt280.2))))) else (none)) else (none)) else (some (0, 0))
def impl_CheckText.f (k : Nat) (l0 : List Int) : Option (Int × Int) := impl_CheckText.l0 k l0 0
theorem impl_CheckText.mono_l : ∀ k, (∀ y0 y1, LeO (impl_CheckText.l0 k y0 y1) (impl_CheckText.l0 (k + 1) y0 y1))
 | 0 => fun _ _ r h => by simp [impl_CheckText.l0] at h
 | k + 1 => by
  have ih0 := impl_CheckText.mono_l k
  ·intro y0 y1; unfold impl_CheckText.l0; exact zm
theorem impl_CheckText.mono : ∀ a0 k, LeO (impl_CheckText.f k a0) (impl_CheckText.f (k + 1) a0) := by
 intro a0 k; have ih0 := impl_CheckText.mono_l k; unfold impl_CheckText.f; exact zm
set_option maxHeartbeats 8000000 in
set_option maxRecDepth 100000 in
theorem impl_CheckText.calls (k : Nat) (A0 : Option Addr) (c0 : Nat) (l0 : List Int) (r1 : Int) (r2 : Int) (w : World) (hr0 : Kd.C (Kd.int .u8) w A0 l0.length l0) (hc0 : l0.length ≤ c0) (hL : LaidW w) (h : impl_CheckText.f k l0 = some (r1, r2)) :
  Calls Tryd.prog 157 #[.slice A0 l0.length c0] w fun e w' => e = .returned (.tuple #[.int .i64 r1, .int .i64 r2]) ∧ Below w.heap.size w w' := by
 have HR0 := zA hr0; have HC0 := zA hc0; clear hr0 hc0; have HLD := zA hL; clear hL; have HB := zA (Below.refl w.heap.size w); have H : (impl_CheckText.l0 k l0 0) = some (r1, r2) := h; clear h; have H' := zA H; clear H; go_enter Tryd.func157, Tryd.ntmps157; go_wp2
 go_loopg [4] k (fun kq v4 w' => ∃ (x4_1 : Int), v4 = .int .i64 x4_1 ∧ Aside0 (impl_CheckText.l0 kq l0 x4_1 = some (r1, r2)) ∧ Aside0 (kq ≤ k) ∧ Aside0 (Below w.heap.size w w'))
 case atStart => exact ⟨(0), zr, H', ⟨Nat.le_refl _⟩, ⟨z_⟩⟩
 case round =>
  clear H'; (try clear c1); obtain ⟨x4_1, rfl, HA, HK1, HB⟩ := hrel; cases gk with
  | zero => exact absurd HA.out (by simp [impl_CheckText.l0])
  | succ k1 =>
   have H := HA.out; clear HA; simp only [impl_CheckText.l0] at H
   by_cases c2 : x4_1 < (l0.length : Int)
   ·rw [if_pos c2] at H; have c2b0 : decide (x4_1 < (l0.length : Int)) = true := decide_eq_true c2; clear c2
    by_cases c3 : 0 ≤ x4_1
    ·rw [if_pos c3] at H; have c3b0 := eq_true c3; have c3b1 : decide (0 ≤ x4_1) = true := decide_eq_true c3; clear c3
     by_cases c4 : x4_1 ≤ (l0.length : Int)
     ·rw [if_pos c4] at H; have c4b0 := eq_true c4; have c4b1 : decide (x4_1 ≤ (l0.length : Int)) = true := decide_eq_true c4; clear c4; replace H := Option.bind_eq_some_iff.mp H; obtain ⟨⟨t280, t281⟩, A50, H⟩ := H; replace H : (if t280 = 65533 then (if t281 ≤ 1 then (some (2, x4_1)) else (impl_CheckText.l0 k1 l0 (wrap64 (x4_1 + t281)))) else (impl_CheckText.l0 k1 l0 (wrap64 (x4_1 + t281)))) = some (r1, r2) := H; have A5 := zA A50; clear A50
      by_cases c6 : t280 = 65533
      ·rw [if_pos c6] at H; have c6b0 : (t280 == 65533) = true := beq_iff_eq.mpr c6; have c6b1 : (t280 != 65533) = false := bne_eq_false_iff_eq.mpr c6; clear c6
       by_cases c7 : t281 ≤ 1
       ·rw [if_pos c7] at H; have c7b0 : decide (t281 ≤ 1) = true := decide_eq_true c7; clear c7; simp only [Option.some.injEq, Prod.mk.injEq] at H; obtain ⟨rfl, rfl⟩ := H; obtain ⟨i08, hi08, _, hsz8, _⟩ := info_parts info5; obtain ⟨A8, hcut8, hA8, hC8⟩ := print_drop_of (P := Tryd.prog) (Value.int .u8) 0 54 5 .i64 Tryd.underlying54 hi08 hsz8 A0 c0 l0 x4_1 (zd) (zd) HC0.out; have HR279 := zA (Kd.C_of_reads (h1 := fun _ => rfl) (hA8 _ (Kd.reads_of_C HR0.out))); have HC279 := zA hC8; clear hA8 hC8 hi08 hsz8; go_wp2_with (first | ((with_reducible refine gate_callee (f := 191) rfl ?_); refine goesL_ (some 15) rfl rfl Tryd.func191 (by kernel_rfl) rfl #[.slice A8 (l0.drop (x4_1 : Int).toNat).length (c0 - x4_1.toNat)] rfl (by (try simp only [List.map_toArray, List.map_cons, List.map_nil]); first | done | (rw [show (l0.drop (x4_1 : Int).toNat).length = (l0.length - x4_1.toNat) from List.length_drop] <;> rfl) | rfl | (simp only [List.length_drop, List.length_take]; rfl)) ?_; (with_reducible refine (utf8_DecodeRune.calls _ _ (l0.drop (x4_1 : Int).toNat) t280 t281 _ ?side1 ?side2 ?side3 A5.out).mono ?_); (case side1 => exact zC HR279.out); (case side2 => exact HC279.out); (case side3 => exact LaidW.below HLD.out z_); rintro e w9 ⟨rfl, hb⟩; refine ⟨_, rfl, ?_⟩; replace HB := zA (below_step z_ hb); (try clear hb); (try clear hb2); (try clear hk); (try clear hi))); go_ret2; exact ⟨ze, z_⟩
       ·rw [if_neg c7] at H; have c7b0 : decide (t281 ≤ 1) = false := decide_eq_false c7; clear c7; have H' := zA H; clear H; obtain ⟨i010, hi010, _, hsz10, _⟩ := info_parts info5; obtain ⟨A10, hcut10, hA10, hC10⟩ := print_drop_of (P := Tryd.prog) (Value.int .u8) 0 54 5 .i64 Tryd.underlying54 hi010 hsz10 A0 c0 l0 x4_1 (zd) (zd) HC0.out; have HR279 := zA (Kd.C_of_reads (h1 := fun _ => rfl) (hA10 _ (Kd.reads_of_C HR0.out))); have HC279 := zA hC10; clear hA10 hC10 hi010 hsz10; go_wp2_with (first | ((with_reducible refine gate_callee (f := 191) rfl ?_); refine goesL_ (some 15) rfl rfl Tryd.func191 (by kernel_rfl) rfl #[.slice A10 (l0.drop (x4_1 : Int).toNat).length (c0 - x4_1.toNat)] rfl (by (try simp only [List.map_toArray, List.map_cons, List.map_nil]); first | done | (rw [show (l0.drop (x4_1 : Int).toNat).length = (l0.length - x4_1.toNat) from List.length_drop] <;> rfl) | rfl | (simp only [List.length_drop, List.length_take]; rfl)) ?_; (with_reducible refine (utf8_DecodeRune.calls _ _ (l0.drop (x4_1 : Int).toNat) t280 t281 _ ?side1 ?side2 ?side3 A5.out).mono ?_); (case side1 => exact zC HR279.out); (case side2 => exact HC279.out); (case side3 => exact LaidW.below HLD.out z_); rintro e w11 ⟨rfl, hb⟩; refine ⟨_, rfl, ?_⟩; replace HB := zA (below_step z_ hb); (try clear hb); (try clear hb2); (try clear hk); (try clear hi))); go_roundg k1
        case measure => have := HK1.out; omega
        case rel => exact ⟨(wrap64 (x4_1 + t281)), zr, H', ⟨by have := HK1.out; omega⟩, ⟨z_⟩⟩
      ·rw [if_neg c6] at H; have c6b0 : (t280 == 65533) = false := beq_eq_false_iff_ne.mpr c6; have c6b1 : (t280 != 65533) = true := bne_iff_ne.mpr c6; have H' := zA H; clear H; obtain ⟨i012, hi012, _, hsz12, _⟩ := info_parts info5; obtain ⟨A12, hcut12, hA12, hC12⟩ := print_drop_of (P := Tryd.prog) (Value.int .u8) 0 54 5 .i64 Tryd.underlying54 hi012 hsz12 A0 c0 l0 x4_1 (zd) (zd) HC0.out; have HR279 := zA (Kd.C_of_reads (h1 := fun _ => rfl) (hA12 _ (Kd.reads_of_C HR0.out))); have HC279 := zA hC12; clear hA12 hC12 hi012 hsz12; go_wp2_with (first | ((with_reducible refine gate_callee (f := 191) rfl ?_); refine goesL_ (some 15) rfl rfl Tryd.func191 (by kernel_rfl) rfl #[.slice A12 (l0.drop (x4_1 : Int).toNat).length (c0 - x4_1.toNat)] rfl (by (try simp only [List.map_toArray, List.map_cons, List.map_nil]); first | done | (rw [show (l0.drop (x4_1 : Int).toNat).length = (l0.length - x4_1.toNat) from List.length_drop] <;> rfl) | rfl | (simp only [List.length_drop, List.length_take]; rfl)) ?_; (with_reducible refine (utf8_DecodeRune.calls _ _ (l0.drop (x4_1 : Int).toNat) t280 t281 _ ?side1 ?side2 ?side3 A5.out).mono ?_); (case side1 => exact zC HR279.out); (case side2 => exact HC279.out); (case side3 => exact LaidW.below HLD.out z_); rintro e w13 ⟨rfl, hb⟩; refine ⟨_, rfl, ?_⟩; replace HB := zA (below_step z_ hb); (try clear hb); (try clear hb2); (try clear hk); (try clear hi))); go_roundg k1
       case measure => have := HK1.out; omega
       case rel => exact ⟨(wrap64 (x4_1 + t281)), zr, H', ⟨by have := HK1.out; omega⟩, ⟨z_⟩⟩
     ·rw [if_neg c4] at H; exact absurd H (by simp)
    ·rw [if_neg c3] at H; exact absurd H (by simp)
   ·rw [if_neg c2] at H; have c2b0 : decide (x4_1 < (l0.length : Int)) = false := decide_eq_false c2; clear c2; simp only [Option.some.injEq, Prod.mk.injEq] at H; obtain ⟨rfl, rfl⟩ := H; go_wp2; go_ret2; exact ⟨ze, z_⟩

/-! ### impl_wellFormed: function 108 -/
def impl_wellFormed.f (k : Nat) (l0 : List Int) : Option (Bool) := (impl_CheckText.f k l0).bind fun bt282 => (some (bt282.1 == 0))
theorem impl_wellFormed.mono : ∀ a0 k, LeO (impl_wellFormed.f k a0) (impl_wellFormed.f (k + 1) a0) := by
 intro a0 k; unfold impl_wellFormed.f; have m1 := @impl_CheckText.mono; exact zm
set_option maxHeartbeats 8000000 in
set_option maxRecDepth 100000 in
theorem impl_wellFormed.calls (k : Nat) (A0 : Option Addr) (c0 : Nat) (l0 : List Int) (r : Bool) (w : World) (hr0 : Kd.C (Kd.int .u8) w A0 l0.length l0) (hc0 : l0.length ≤ c0) (hL : LaidW w) (h : impl_wellFormed.f k l0 = some r) :
  Calls Tryd.prog 108 #[.slice A0 l0.length c0] w fun e w' => e = .returned (.bool r) ∧ Below w.heap.size w w' := by
 have HR0 := zA hr0; have HC0 := zA hc0; clear hr0 hc0; have HLD := zA hL; clear hL; have HB := zA (Below.refl w.heap.size w); have H : ((impl_CheckText.f k l0).bind fun bt282 => (some (bt282.1 == 0))) = some r := h; clear h; replace H := Option.bind_eq_some_iff.mp H; obtain ⟨⟨t282, t283⟩, A20, H⟩ := H; replace H : (some (t282 == 0)) = some r := H; have A2 := zA A20; clear A20; obtain rfl := Option.some.inj H; go_enter Tryd.func108, Tryd.ntmps108; go_wp2_with (first | ((with_reducible refine gate_callee (f := 157) rfl ?_); refine goesL_ (some 7) rfl rfl Tryd.func157 (by kernel_rfl) rfl #[.slice A0 l0.length c0] rfl za ?_; (with_reducible refine (impl_CheckText.calls k _ _ l0 t282 t283 _ ?side1 ?side2 ?side3 A2.out).mono ?_); (case side1 => exact zc (HR0.out)); (case side2 => exact HC0.out); (case side3 => exact LaidW.below HLD.out z_); rintro e w3 ⟨rfl, hb⟩; refine ⟨_, rfl, ?_⟩; replace HB := zA (below_step z_ hb); (try clear hb); (try clear hb2); (try clear hk); (try clear hi))); go_ret; exact ⟨ze, z_⟩

-- NOT PRINTED: function 205 (bytealg_Compare)

/-! ### bytes_Compare: function 180 -/
theorem run_bytesOfC {w : World} {A : Option Addr} {l : List Int} {c : Nat} (hr : Kd.C (Kd.int .u8) w A l.length l) :
  (Extern.Bytes.bytesOf (.slice A l.length c)).run Tryd.prog w = .ok ⟨(Lib.bytesOf l).toArray⟩ w := by
 cases A with
 | none =>
  have : l = [] := by
   cases l with
   | nil => rfl
   | cons x t => obtain ⟨ad, e, _⟩ := Kd.at_int hr 0 (by omega) (by simp); cases e
  subst this
  rfl
 | some ad =>
  have := Lib.run_loadBytesX (P := Tryd.prog) w l ad .empty (fun j x hj => by
   have hjl : j < l.length := (List.getElem?_eq_some_iff.1 hj).1; obtain ⟨ad', e, hx⟩ := Kd.at_int hr (j : Int) (by omega) (by omega); injection e with e; subst e; rw [rd, Int.toNat_natCast, List.getD_eq_getElem?_getD, hj] at hx
   exact hx)
  simpa [Extern.Bytes.bytesOf] using this
theorem cmp_eq_lists (xs ys : List UInt8) : Extern.BytealgCompare.cmp ⟨xs.toArray⟩ ⟨ys.toArray⟩ = Lib.compareBytes xs ys := by
 rw [← Lib.cmpL_eq]; unfold Extern.BytealgCompare.cmp Lib.cmpL; simp only [Lib.get!_eq]
 rfl
def bytes_Compare.f (l0 : List Int) (l1 : List Int) : Option (Int) := some (Lib.compareBytes (Lib.bytesOf l0) (Lib.bytesOf l1))
set_option maxHeartbeats 1000000 in
set_option maxRecDepth 100000 in
theorem bytes_Compare.calls (A0 : Option Addr) (c0 : Nat) (l0 : List Int) (A1 : Option Addr) (c1 : Nat) (l1 : List Int) (r : Int) (w : World) (hr0 : Kd.C (Kd.int .u8) w A0 l0.length l0) (hc0 : l0.length ≤ c0) (hr1 : Kd.C (Kd.int .u8) w A1 l1.length l1) (hc1 : l1.length ≤ c1) (h : bytes_Compare.f l0 l1 = some r) :
  Calls Tryd.prog 180 #[.slice A0 l0.length c0, .slice A1 l1.length c1] w fun e w' => e = .returned (.int .i64 r) ∧ Drawn0 w w' := by
 unfold bytes_Compare.f at h; injection h with h; have e : (Extern.BytealgCompare.compare #[.slice A0 l0.length c0, .slice A1 l1.length c1]).run Tryd.prog w = .ok (.int .i64 r) w := by
  show Sem.run Tryd.prog (do pure (goInt (Extern.BytealgCompare.cmp (← Extern.Bytes.bytesOf (.slice A0 l0.length c0)) (← Extern.Bytes.bytesOf (.slice A1 l1.length c1))))) w = _; simp only [Sem.run_bind, run_bytesOfC hr0, run_bytesOfC hr1, Result.andThen_ok, Sem.run_pure, cmp_eq_lists, h]
  rfl
 have E := zA e; clear e h hr0 hr1; go_enter Tryd.func180, Tryd.ntmps180; go_wp2; rw [run_callFunc_extern Tryd.func205 (by kernel_rfl) (by kernel_rfl) (by kernel_rfl) (e := Extern.BytealgCompare.compare) (by kernel_rfl), E.out]; simp only [Result.andThen]; rw [Oper.upon_value]; go_wp2; go_ret; exact ⟨rfl, ⟨⟨0, rfl⟩⟩⟩

/-! ### impl_targetsOk: function 139 -/
def impl_targetsOk.bad (k : Nat) (a1 : Int) (x0 : List Int) (x1 : Int) (x2 : Int) : Option Bool :=
 if (x0.length : Int) < 1 then some true else if (x0.length : Int) > 60 then some true else (impl_wellFormed.f k x0).bind fun t => some (!t || (!decide (x1 = 0) && !decide (x1 = 1)) || decide (x2 < 0) || decide (x2 ≥ a1))
def impl_targetsOk.low (l0 : List (S120)) (i : Int) (x0 : List Int) : Bool := decide (i > 0) && decide (Lib.compareBytes (Lib.bytesOf (rd_T120 l0 (i - 1)).f0) (Lib.bytesOf x0) ≥ 0)
def impl_targetsOk.l : Nat → List (S120) → Int → Int → List (Int × Int) → Option Bool
 | 0, _, _, _, _ => none
 | k + 1, l0, a1, i, m => if i < (l0.length : Int) then (impl_targetsOk.bad k a1 (rd_T120 l0 i).f0 (rd_T120 l0 i).f1 (rd_T120 l0 i).f2).bind fun b => if b = true then some false else if impl_targetsOk.low l0 i (rd_T120 l0 i).f0 = true then some false else if (mget m (rd_T120 l0 i).f2).isSome = true then some false else impl_targetsOk.l k l0 a1 (i + 1) (((rd_T120 l0 i).f2, i) :: m) else some true
def impl_targetsOk.f (k : Nat) (l0 : List (S120)) (a1 : Int) : Option Bool := if (l0.length : Int) > 30 then some false else if a1 ≤ 4611686018427387904 then impl_targetsOk.l k l0 a1 0 [] else none
theorem impl_targetsOk.bad_mono (a1 : Int) (x0 : List Int) (x1 x2 : Int) (k : Nat) : LeO (impl_targetsOk.bad k a1 x0 x1 x2) (impl_targetsOk.bad (k + 1) a1 x0 x1 x2) := by
 unfold impl_targetsOk.bad; refine LeO.ite (LeO.refl _) (LeO.ite (LeO.refl _) (LeO.bind (impl_wellFormed.mono _ _) fun _ => LeO.refl _))
theorem impl_targetsOk.bad_cell {k : Nat} {a1 : Int} {x0 : List Int} {x1 x2 : Int} (h : impl_targetsOk.bad k a1 x0 x1 x2 = some false) : 0 ≤ x2 ∧ x2 < a1 := by
 unfold impl_targetsOk.bad at h
 split at h
 ·cases h
 ·split at h
  ·cases h
  ·obtain ⟨t, _, h⟩ := Option.bind_eq_some_iff.mp h; have h := Option.some.inj h; simp only [Bool.or_eq_false_iff, decide_eq_false_iff_not] at h
   omega
theorem impl_targetsOk.wf {c : Int} (h0 : 0 ≤ c) (h1 : c ≤ 4611686018427387904) : (Lit.int .i64 c).wf = true := by
 have e0 : IntKind.min .i64 = -9223372036854775808 := by rfl
 have e1 : IntKind.max .i64 = 9223372036854775807 := by rfl
 simp only [Lit.wf, e0, e1, Bool.and_eq_true, decide_eq_true_eq]
 omega
theorem impl_targetsOk.mono_l : ∀ k l0 a1 i m, LeO (impl_targetsOk.l k l0 a1 i m) (impl_targetsOk.l (k + 1) l0 a1 i m)
 | 0, _, _, _, _ => fun r h => by simp [impl_targetsOk.l] at h
 | k + 1, l0, a1, i, m => by
  rw [impl_targetsOk.l, impl_targetsOk.l]; exact LeO.ite (LeO.bind (impl_targetsOk.bad_mono _ _ _ _ _) fun _ => LeO.ite (LeO.refl _) (LeO.ite (LeO.refl _) (LeO.ite (LeO.refl _) (impl_targetsOk.mono_l k _ _ _ _)))) (LeO.refl _)
theorem impl_targetsOk.mono : ∀ a0 a1 k, LeO (impl_targetsOk.f k a0 a1) (impl_targetsOk.f (k + 1) a0 a1) := by
 intro a0 a1 k; unfold impl_targetsOk.f; exact LeO.ite (LeO.refl _) (LeO.ite (impl_targetsOk.mono_l k _ _ _ _) (LeO.refl _))
set_option maxHeartbeats 4000000 in
set_option maxRecDepth 100000 in
theorem impl_targetsOk.calls (k : Nat) (A0 : Option Addr) (c0 : Nat) (l0 : List (S120)) (a1 : Int) (r : Bool) (w : World) (hr0 : Kd.C k120 w A0 l0.length l0) (hc0 : l0.length ≤ c0) (hL : LaidW w) (h : impl_targetsOk.f k l0 a1 = some r) :
  Calls Tryd.prog 139 #[.slice A0 l0.length c0, .int .i64 a1] w fun e w' => e = .returned (.bool r) ∧ Below w.heap.size w w' := by
 have hu74 := Tryd.underlying120; have HR0 := zA hr0; have HC0 := zA hc0; clear hr0 hc0; have HLD := zA hL; clear hL; have HB := zA (Below.refl w.heap.size w); have H : (if (l0.length : Int) > 30 then some false else if a1 ≤ 4611686018427387904 then impl_targetsOk.l k l0 a1 0 [] else none) = some r := h; clear h
 by_cases c3 : (l0.length : Int) > 30
 ·rw [if_pos c3] at H; have c3b0 : decide (30 < (l0.length : Int)) = true := decide_eq_true c3; obtain rfl := Option.some.inj H; go_enter Tryd.func139, Tryd.ntmps139; go_wp2; go_ret; exact ⟨rfl, HB.out⟩
 ·rw [if_neg c3] at H
  by_cases ca : a1 ≤ 4611686018427387904
  case neg => rw [if_neg ca] at H; cases H
  rw [if_pos ca] at H; have HCA := zA ca; clear ca; have c3b0 : decide (30 < (l0.length : Int)) = false := decide_eq_false c3; have H' := zA H; clear H; have L30 : (l0.length : Int) ≤ 30 := by omega
  clear c3; have HL30 := zA L30; clear L30; have hmm := @run_makeMap Tryd.prog; go_enter Tryd.func139, Tryd.ntmps139; go_wp2; clear hmm
  go_loopg [16] k (fun kq v16 w' => ∃ (i : Int) (m : List (Int × Int)), v16 = .int .i64 i ∧ Aside0 (impl_targetsOk.l kq l0 a1 i m = some r) ∧ Aside0 (kq ≤ k) ∧ Aside0 (0 ≤ i ∧ i ≤ (l0.length : Int)) ∧ Aside0 (IntMap Tryd.prog 3 3 w' w.heap.size i.toNat m) ∧ Aside0 (Below w.heap.size w w'))
  case atStart => exact ⟨0, [], rfl, H', ⟨Nat.le_refl _⟩, ⟨by omega⟩, ⟨IntMap.made _ _ _ _⟩, ⟨below_alloc HB.out _⟩⟩
  case round =>
   clear H' HB; obtain ⟨i, m, rfl, HA, HK1, HI, HM, HB⟩ := hrel; cases gk with
   | zero => exact absurd HA.out (by simp [impl_targetsOk.l])
   | succ k1 =>
    have H := HA.out; clear HA; simp only [impl_targetsOk.l] at H
    by_cases c4 : i < (l0.length : Int)
    ·rw [if_pos c4] at H; have c4b0 : decide (i < (l0.length : Int)) = true := decide_eq_true c4; replace H := Option.bind_eq_some_iff.mp H; obtain ⟨b, A130, H⟩ := H; have A13 := zA A130; clear A130; have H' := zA H; clear H; have p133 : 0 ≤ (i : Int) := HI.out.1; have q133 : i < (l0.length : Int) := c4; clear c4; obtain ⟨ad, An, cn, e133, hx0, hx1, hx2, hl133, hi133⟩ := at_T120 HR0.out i p133 q133; cases e133; replace hx0 := zx HB.out hx0; replace hx1 := zx HB.out hx1; replace hx2 := zx HB.out hx2; have HRn := zA hi133; have HCn := zA hl133; clear hi133 hl133; obtain ⟨x1, ex1⟩ : ∃ x, x = (rd_T120 l0 i).f1 := ⟨_, rfl⟩; rw [← ex1] at hx1 A13; clear ex1; replace p133 := eq_true p133; replace q133 := eq_true q133
     go_upto_region 7 with (fail)
     have HB2 := zA (below_alloc HB.out (.cells #[.slice An (rd_T120 l0 i).f0.length cn, .int .i64 x1, .int .i64 (rd_T120 l0 i).f2] 120 (0, 0))); have BK := zA (blk_new wr (.cells #[.slice An (rd_T120 l0 i).f0.length cn, .int .i64 x1, .int .i64 (rd_T120 l0 i).f2] 120 (0, 0))); have HM2 := zA (HM.out.alloc (.cells #[.slice An (rd_T120 l0 i).f0.length cn, .int .i64 x1, .int .i64 (rd_T120 l0 i).f2] 120 (0, 0)))
     go_cut [57] from 21 (fun v57 wc => v57 = .bool b ∧ Aside0 (wc.heap[wr.heap.size]? = some (.cells #[.slice An (rd_T120 l0 i).f0.length cn, .int .i64 x1, .int .i64 (rd_T120 l0 i).f2] 120 (0, 0))) ∧ Aside0 (IntMap Tryd.prog 3 3 wc w.heap.size i.toNat m) ∧ Aside0 (Below w.heap.size w wc))
     case first =>
      clear H'; have A := A13.out; clear A13; unfold impl_targetsOk.bad at A
      by_cases c1 : ((rd_T120 l0 i).f0.length : Int) < 1
      ·rw [if_pos c1] at A; obtain rfl := Option.some.inj A; have c1b := decide_eq_true c1; clear c1; go_wp2; go_meet
       case rel => exact ⟨rfl, BK, HM2, HB2⟩
      ·rw [if_neg c1] at A; have c1b := decide_eq_false c1; clear c1
       by_cases c2 : ((rd_T120 l0 i).f0.length : Int) > 60
       ·rw [if_pos c2] at A; obtain rfl := Option.some.inj A; have c2b : decide (60 < ((rd_T120 l0 i).f0.length : Int)) = true := decide_eq_true c2; clear c2; go_wp2; go_meet
        case rel => exact ⟨rfl, BK, HM2, HB2⟩
       ·rw [if_neg c2] at A; have c2b : decide (60 < ((rd_T120 l0 i).f0.length : Int)) = false := decide_eq_false c2; clear c2; obtain ⟨t, A0, A1⟩ := Option.bind_eq_some_iff.mp A; have A0_ := zA A0; have E := zA (Option.some.inj A1); clear A A0 A1; cases t with
        | false =>
         go_wp2_with (go_at_call 108; (refine (impl_wellFormed.calls k1 _ _ (rd_T120 l0 i).f0 _ _ ?side1 ?side2 ?side3 A0_.out).mono ?_; (case side1 => exact Kd.C_below HRn.out HB2.out); (case side2 => exact HCn.out); (case side3 => exact LaidW.below HLD.out HB2.out); rintro e w17 ⟨rfl, hb⟩; replace BK := zA (blk_below BK.out hb); replace HM2 := zA (IntMap.below HM2.out hb); replace HB2 := zA (below_step HB2.out hb); clear hb; have hc0 : w17.cell? ⟨wr.heap.size, 0, none⟩ = some (.slice An (rd_T120 l0 i).f0.length cn) := (blk_cell BK.out 0).trans rfl; have hc1 : w17.cell? ⟨wr.heap.size, 1, none⟩ = some (.int .i64 x1) := (blk_cell BK.out 1).trans rfl; have hc2 : w17.cell? ⟨wr.heap.size, 2, none⟩ = some (.int .i64 (rd_T120 l0 i).f2) := (blk_cell BK.out 2).trans rfl)); go_meet
         case rel => exact ⟨by rw [← E.out]; simp, BK, HM2, HB2⟩
        | true =>
         have FIN : (!true || (!decide (x1 = 0) && !decide (x1 = 1)) || decide ((rd_T120 l0 i).f2 < 0) || decide ((rd_T120 l0 i).f2 ≥ a1)) = b := E.out
         by_cases e0 : x1 = 0
         ·subst e0
          by_cases e2 : (rd_T120 l0 i).f2 < 0
          ·have e2b := decide_eq_true e2; have EE := zA e2; clear e2; go_wp2_with (go_at_call 108; (refine (impl_wellFormed.calls k1 _ _ (rd_T120 l0 i).f0 _ _ ?side1 ?side2 ?side3 A0_.out).mono ?_; (case side1 => exact Kd.C_below HRn.out HB2.out); (case side2 => exact HCn.out); (case side3 => exact LaidW.below HLD.out HB2.out); rintro e w17 ⟨rfl, hb⟩; replace BK := zA (blk_below BK.out hb); replace HM2 := zA (IntMap.below HM2.out hb); replace HB2 := zA (below_step HB2.out hb); clear hb; have hc0 : w17.cell? ⟨wr.heap.size, 0, none⟩ = some (.slice An (rd_T120 l0 i).f0.length cn) := (blk_cell BK.out 0).trans rfl; have hc1 : w17.cell? ⟨wr.heap.size, 1, none⟩ = some (.int .i64 0) := (blk_cell BK.out 1).trans rfl; have hc2 : w17.cell? ⟨wr.heap.size, 2, none⟩ = some (.int .i64 (rd_T120 l0 i).f2) := (blk_cell BK.out 2).trans rfl)); go_meet
           case rel => exact ⟨by first | (rw [← FIN]; simp [EE.out]; done) | (rw [← FIN]; simp; have := EE.out; intro; omega), BK, HM2, HB2⟩
          ·have e2b := decide_eq_false e2; have EE := zA e2; clear e2; go_wp2_with (go_at_call 108; (refine (impl_wellFormed.calls k1 _ _ (rd_T120 l0 i).f0 _ _ ?side1 ?side2 ?side3 A0_.out).mono ?_; (case side1 => exact Kd.C_below HRn.out HB2.out); (case side2 => exact HCn.out); (case side3 => exact LaidW.below HLD.out HB2.out); rintro e w17 ⟨rfl, hb⟩; replace BK := zA (blk_below BK.out hb); replace HM2 := zA (IntMap.below HM2.out hb); replace HB2 := zA (below_step HB2.out hb); clear hb; have hc0 : w17.cell? ⟨wr.heap.size, 0, none⟩ = some (.slice An (rd_T120 l0 i).f0.length cn) := (blk_cell BK.out 0).trans rfl; have hc1 : w17.cell? ⟨wr.heap.size, 1, none⟩ = some (.int .i64 0) := (blk_cell BK.out 1).trans rfl; have hc2 : w17.cell? ⟨wr.heap.size, 2, none⟩ = some (.int .i64 (rd_T120 l0 i).f2) := (blk_cell BK.out 2).trans rfl)); go_meet
           case rel => exact ⟨by first | (rw [← FIN]; simp [EE.out]; done) | (rw [← FIN]; simp; have := EE.out; intro; omega), BK, HM2, HB2⟩
         ·by_cases e1 : x1 = 1
          ·subst e1
           by_cases e2 : (rd_T120 l0 i).f2 < 0
           ·have e2b := decide_eq_true e2; have EE := zA e2; clear e2 e0; go_wp2_with (go_at_call 108; (refine (impl_wellFormed.calls k1 _ _ (rd_T120 l0 i).f0 _ _ ?side1 ?side2 ?side3 A0_.out).mono ?_; (case side1 => exact Kd.C_below HRn.out HB2.out); (case side2 => exact HCn.out); (case side3 => exact LaidW.below HLD.out HB2.out); rintro e w17 ⟨rfl, hb⟩; replace BK := zA (blk_below BK.out hb); replace HM2 := zA (IntMap.below HM2.out hb); replace HB2 := zA (below_step HB2.out hb); clear hb; have hc0 : w17.cell? ⟨wr.heap.size, 0, none⟩ = some (.slice An (rd_T120 l0 i).f0.length cn) := (blk_cell BK.out 0).trans rfl; have hc1 : w17.cell? ⟨wr.heap.size, 1, none⟩ = some (.int .i64 1) := (blk_cell BK.out 1).trans rfl; have hc2 : w17.cell? ⟨wr.heap.size, 2, none⟩ = some (.int .i64 (rd_T120 l0 i).f2) := (blk_cell BK.out 2).trans rfl)); go_meet
            case rel => exact ⟨by first | (rw [← FIN]; simp [EE.out]; done) | (rw [← FIN]; simp; have := EE.out; intro; omega), BK, HM2, HB2⟩
           ·have e2b := decide_eq_false e2; have EE := zA e2; clear e2 e0; go_wp2_with (go_at_call 108; (refine (impl_wellFormed.calls k1 _ _ (rd_T120 l0 i).f0 _ _ ?side1 ?side2 ?side3 A0_.out).mono ?_; (case side1 => exact Kd.C_below HRn.out HB2.out); (case side2 => exact HCn.out); (case side3 => exact LaidW.below HLD.out HB2.out); rintro e w17 ⟨rfl, hb⟩; replace BK := zA (blk_below BK.out hb); replace HM2 := zA (IntMap.below HM2.out hb); replace HB2 := zA (below_step HB2.out hb); clear hb; have hc0 : w17.cell? ⟨wr.heap.size, 0, none⟩ = some (.slice An (rd_T120 l0 i).f0.length cn) := (blk_cell BK.out 0).trans rfl; have hc1 : w17.cell? ⟨wr.heap.size, 1, none⟩ = some (.int .i64 1) := (blk_cell BK.out 1).trans rfl; have hc2 : w17.cell? ⟨wr.heap.size, 2, none⟩ = some (.int .i64 (rd_T120 l0 i).f2) := (blk_cell BK.out 2).trans rfl)); go_meet
            case rel => exact ⟨by first | (rw [← FIN]; simp [EE.out]; done) | (rw [← FIN]; simp; have := EE.out; intro; omega), BK, HM2, HB2⟩
          ·have f0 : (x1 == 0) = false := by simpa using e0
           have f1 : (x1 == 1) = false := by simpa using e1
           have EE := zA (show _ ∧ _ from ⟨e0, e1⟩); have g0 : decide (x1 = 0) = false := decide_eq_false e0; have g1 : decide (x1 = 1) = false := decide_eq_false e1; go_wp2_with (go_at_call 108; (refine (impl_wellFormed.calls k1 _ _ (rd_T120 l0 i).f0 _ _ ?side1 ?side2 ?side3 A0_.out).mono ?_; (case side1 => exact Kd.C_below HRn.out HB2.out); (case side2 => exact HCn.out); (case side3 => exact LaidW.below HLD.out HB2.out); rintro e w17 ⟨rfl, hb⟩; replace BK := zA (blk_below BK.out hb); replace HM2 := zA (IntMap.below HM2.out hb); replace HB2 := zA (below_step HB2.out hb); clear hb; have hc0 : w17.cell? ⟨wr.heap.size, 0, none⟩ = some (.slice An (rd_T120 l0 i).f0.length cn) := (blk_cell BK.out 0).trans rfl; have hc1 : w17.cell? ⟨wr.heap.size, 1, none⟩ = some (.int .i64 x1) := (blk_cell BK.out 1).trans rfl; have hc2 : w17.cell? ⟨wr.heap.size, 2, none⟩ = some (.int .i64 (rd_T120 l0 i).f2) := (blk_cell BK.out 2).trans rfl)); go_meet
           case rel => exact ⟨by first | (rw [← FIN]; simp [EE.out]; done) | (rw [← FIN]; simp; have := EE.out; intro; omega), BK, HM2, HB2⟩
     case rest =>
      clear HB BK HM HM2 HB2; obtain ⟨rfl, BK, HM, HB⟩ := hcut; have H := H'.out; clear H'; have hc0 : wc.cell? ⟨wr.heap.size, 0, none⟩ = some (.slice An (rd_T120 l0 i).f0.length cn) := (blk_cell BK.out 0).trans rfl; have hc1 : wc.cell? ⟨wr.heap.size, 1, none⟩ = some (.int .i64 x1) := (blk_cell BK.out 1).trans rfl; have hc2 : wc.cell? ⟨wr.heap.size, 2, none⟩ = some (.int .i64 (rd_T120 l0 i).f2) := (blk_cell BK.out 2).trans rfl; cases b with
      | true =>
       clear A13; rw [if_pos rfl] at H; obtain rfl := Option.some.inj H; go_wp2; go_ret; exact ⟨rfl, HB.out⟩
      | false =>
       rw [if_neg (by decide)] at H; have HC := zA (impl_targetsOk.bad_cell A13.out); clear A13; have H' := zA H; clear H
       go_upto_region 9 with (fail)
       go_cut [71] from 58 (fun v71 wd => v71 = .bool (impl_targetsOk.low l0 i (rd_T120 l0 i).f0) ∧ Aside0 (wd.heap[wr.heap.size]? = some (.cells #[.slice An (rd_T120 l0 i).f0.length cn, .int .i64 x1, .int .i64 (rd_T120 l0 i).f2] 120 (0, 0))) ∧ Aside0 (IntMap Tryd.prog 3 3 wd w.heap.size i.toNat m) ∧ Aside0 (Below w.heap.size w wd))
       case first =>
        clear H'
        by_cases i0 : 0 < i
        ·have i0b := decide_eq_true i0; obtain ⟨j, hj⟩ : ∃ j, j = i - 1 := ⟨_, rfl⟩; have hjw : IntKind.i64.wrap (i - 1) = j := by rw [hj]; have := HI.out; have := HL30.out; simp only [IntKind.wrap_i64]; omega
         have hjw2 : wrap64 (i - 1) = j := by rw [hj]; have := HI.out; have := HL30.out; unfold wrap64; omega
         have hlow : impl_targetsOk.low l0 i (rd_T120 l0 i).f0 = decide (0 ≤ Lib.compareBytes (Lib.bytesOf (rd_T120 l0 j).f0) (Lib.bytesOf (rd_T120 l0 i).f0)) := by
          unfold impl_targetsOk.low; rw [← hj, decide_eq_true (show i > 0 from i0)]
          rfl
         have HLOW := zA hlow; clear hlow; have pj : 0 ≤ (j : Int) := by omega
         have qj : j < (l0.length : Int) := by have := HI.out; omega
         clear hj i0; obtain ⟨ad', Aj, cj, ej, hxj0, hxj1, hxj2, hlj, hij⟩ := at_T120 HR0.out j pj qj; cases ej; replace hxj0 := zx HB.out hxj0; have HRj := zA hij; have HCj := zA hlj; clear hij hlj hxj1 hxj2; replace pj := eq_true pj; replace qj := eq_true qj; go_quiet ((go_at_call 180; exact Calls.quiet_of ((bytes_Compare.calls _ _ (rd_T120 l0 j).f0 _ _ (rd_T120 l0 i).f0 _ _ (Kd.C_drewN (Kd.C_below HRj.out HB.out) _) HCj.out (Kd.C_drewN (Kd.C_below HRn.out HB.out) _) HCn.out rfl).mono fun e w' h => ⟨h.1, h.2.out⟩))); go_wp2; go_meet
         case rel => exact ⟨by rw [HLOW.out], BK, ⟨IntMap.drewN HM.out _⟩, ⟨pw_below_drewN HB.out _⟩⟩
        ·have i0b := decide_eq_false i0; have hlow : impl_targetsOk.low l0 i (rd_T120 l0 i).f0 = false := by
          unfold impl_targetsOk.low; rw [decide_eq_false (show ¬ i > 0 from i0)]
          rfl
         have HLOW := zA hlow; clear hlow i0; go_quiet (fail); go_wp2; go_meet
         case rel => exact ⟨by rw [HLOW.out], BK, ⟨IntMap.drewN HM.out _⟩, ⟨pw_below_drewN HB.out _⟩⟩
       case rest =>
        clear hc0 hc1 hc2 BK HM HB; obtain ⟨rfl, BK, HM, HB⟩ := hcut; have H := H'.out; clear H'; have hc0 : wc.cell? ⟨wr.heap.size, 0, none⟩ = some (.slice An (rd_T120 l0 i).f0.length cn) := (blk_cell BK.out 0).trans rfl; have hc1 : wc.cell? ⟨wr.heap.size, 1, none⟩ = some (.int .i64 x1) := (blk_cell BK.out 1).trans rfl; have hc2 : wc.cell? ⟨wr.heap.size, 2, none⟩ = some (.int .i64 (rd_T120 l0 i).f2) := (blk_cell BK.out 2).trans rfl; generalize impl_targetsOk.low l0 i (rd_T120 l0 i).f0 = bl at H ⊢; cases bl with
        | true =>
         rw [if_pos rfl] at H; obtain rfl := Option.some.inj H; go_wp2; go_ret; exact ⟨rfl, HB.out⟩
        | false =>
         rw [if_neg (by decide)] at H; have W2 := zA (impl_targetsOk.wf (c := (rd_T120 l0 i).f2) (by have := HC.out; omega) (by have := HC.out; have := HCA.out; omega)); have zero3 : (zeroValue 3).run Tryd.prog wc = .ok (.int .i64 0) wc := by kernel_rfl
         have Z3 := zA zero3; clear zero3
         by_cases ct : (mget m (rd_T120 l0 i).f2).isSome = true
         ·rw [if_pos ct] at H; obtain rfl := Option.some.inj H; go_wp2_with (refine wpList_imap_look rfl (.tmp 73) (.tmp 75) rfl Tryd.underlying140 Tryd.underlying3 Tryd.underlying3 Z3.out HM.out rfl (rd_T120 l0 i).f2 rfl W2.out ?_); go_ret; exact ⟨rfl, HB.out⟩
         ·rw [if_neg ct] at H; have ct' : (mget m (rd_T120 l0 i).f2).isSome = false := by simpa using ct
          clear ct; have H' := zA H; clear H; go_wp2_with (first | (refine wpList_imap_look rfl (.tmp 73) (.tmp 75) rfl Tryd.underlying140 Tryd.underlying3 Tryd.underlying3 Z3.out HM.out rfl (rd_T120 l0 i).f2 rfl W2.out ?_) | (refine wpList_imap_put rfl (.tmp 80) (.tmp 82) (.tmp 83) rfl Tryd.underlying140 Tryd.underlying3 Tryd.underlying3 HM.out (by have := HI.out; have := HL30.out; simp only [maxLen]; omega) rfl (rd_T120 l0 i).f2 i rfl rfl W2.out (impl_targetsOk.wf HI.out.1 (by have := HI.out; have := HL30.out; omega)) ?_; intro w20 HM2 hg; have HM3 := zA HM2; have HB3 := zA (Below.grown HB.out hg HB.out.size (fun k hk => by injection hk with hk; omega)); clear HM HB HM2 hg BK)); go_roundg k1
          case measure => have := HK1.out; omega
          case rel => exact ⟨i + 1, _, by have := HI.out; have := HL30.out; rw [show wrap64 (i + 1) = i + 1 by unfold wrap64; omega], H', ⟨by have := HK1.out; omega⟩, ⟨by have := HI.out; have := of_eq_true q133; omega⟩, ⟨by have := HI.out; rw [show (i + 1).toNat = i.toNat + 1 by omega]; exact HM3.out⟩, HB3⟩
    ·rw [if_neg c4] at H; have c4b0 : decide (i < (l0.length : Int)) = false := decide_eq_false c4; clear c4; obtain rfl := Option.some.inj H; go_wp2; go_ret; exact ⟨rfl, HB.out⟩

end Go.Proofs.YthbeplmihjhoeaaDoor.PFnExactTickFleet
