-- made by wip/tools/myprint.py (this session's own program, over the kit's printer)
import Derived.Test.YthbeplmihjhoeaaDoorPFnExactRunFleetx0
namespace Go.Proofs.YthbeplmihjhoeaaDoor.PFnExactRunFleet
open Go.RowKit Go.Proofs.YthbeplmihjhoeaaDoorW.PrintWords Go.Proofs.YthbeplmihjhoeaaDoorW.PrintLast Go.Proofs.YthbeplmihjhoeaaDoorW.PrintMore
attribute [local go_sem] max2_int min2_int max_two min_two max_three min_three max_four min_four   -- for this text's walks alone
set_option linter.unusedVariables false
set_option linter.unusedSimpArgs false

/-! ### spec_l4to: function 70 -/
def spec_l4to.f (a0 : Int) (a1 : Int) (a2 : Int) (a3 : Int) : Option (Int) := if a0 = 0 then (none) else (if a3 = 0 then (if (Int.tmod a2 a0) < 0 then (some (-1)) else (if (Int.tmod a2 a0) ≥ a0 then (some (-1)) else (if (wrap64 ((wrap64 (Int.tdiv a2 a0)) - 1)) < 0 then (some (-1)) else (if (wrap64 ((wrap64 (Int.tdiv a2 a0)) - 1)) ≥ a1 then (some (-1)) else (some (wrap64 ((wrap64 ((wrap64 ((wrap64 (Int.tdiv a2 a0)) - 1)) * a0)) + (Int.tmod a2 a0)))))))) else (if a3 = 1 then (if (wrap64 ((Int.tmod a2 a0) + 1)) < 0 then (some (-1)) else (if (wrap64 ((Int.tmod a2 a0) + 1)) ≥ a0 then (some (-1)) else (if (wrap64 (Int.tdiv a2 a0)) < 0 then (some (-1)) else (if (wrap64 (Int.tdiv a2 a0)) ≥ a1 then (some (-1)) else (some (wrap64 ((wrap64 ((wrap64 (Int.tdiv a2 a0)) * a0)) + (wrap64 ((Int.tmod a2 a0) + 1))))))))) else (if a3 = 2 then (if (Int.tmod a2 a0) < 0 then (some (-1)) else (if (Int.tmod a2 a0) ≥ a0 then (some (-1)) else (if (wrap64 ((wrap64 (Int.tdiv a2 a0)) + 1)) < 0 then (some (-1)) else (if (wrap64 ((wrap64 (Int.tdiv a2 a0)) + 1)) ≥ a1 then (some (-1)) else (some (wrap64 ((wrap64 ((wrap64 ((wrap64 (Int.tdiv a2 a0)) + 1)) * a0)) + (Int.tmod a2 a0)))))))) else (if (wrap64 ((Int.tmod a2 a0) - 1)) < 0 then (some (-1)) else (if (wrap64 ((Int.tmod a2 a0) - 1)) ≥ a0 then (some (-1)) else (if (wrap64 (Int.tdiv a2 a0)) < 0 then (some (-1)) else (if (wrap64 (Int.tdiv a2 a0)) ≥ a1 then (some (-1)) else (some (wrap64 ((wrap64 ((wrap64 (Int.tdiv a2 a0)) * a0)) + (wrap64 ((Int.tmod a2 a0) - 1))))))))))))
set_option maxHeartbeats 8000000 in
set_option maxRecDepth 100000 in
theorem spec_l4to.calls (a0 : Int) (a1 : Int) (a2 : Int) (a3 : Int) (r : Int) (w : World) (h : spec_l4to.f a0 a1 a2 a3 = some r) :
  Calls Tryd.prog 70 #[.int .i64 a0, .int .i64 a1, .int .i64 a2, .int .i64 a3] w fun e w' => e = .returned (.int .i64 r) ∧ Drawn0 w w' := by
 have H : (if a0 = 0 then (none) else (if a3 = 0 then (if (Int.tmod a2 a0) < 0 then (some (-1)) else (if (Int.tmod a2 a0) ≥ a0 then (some (-1)) else (if (wrap64 ((wrap64 (Int.tdiv a2 a0)) - 1)) < 0 then (some (-1)) else (if (wrap64 ((wrap64 (Int.tdiv a2 a0)) - 1)) ≥ a1 then (some (-1)) else (some (wrap64 ((wrap64 ((wrap64 ((wrap64 (Int.tdiv a2 a0)) - 1)) * a0)) + (Int.tmod a2 a0)))))))) else (if a3 = 1 then (if (wrap64 ((Int.tmod a2 a0) + 1)) < 0 then (some (-1)) else (if (wrap64 ((Int.tmod a2 a0) + 1)) ≥ a0 then (some (-1)) else (if (wrap64 (Int.tdiv a2 a0)) < 0 then (some (-1)) else (if (wrap64 (Int.tdiv a2 a0)) ≥ a1 then (some (-1)) else (some (wrap64 ((wrap64 ((wrap64 (Int.tdiv a2 a0)) * a0)) + (wrap64 ((Int.tmod a2 a0) + 1))))))))) else (if a3 = 2 then (if (Int.tmod a2 a0) < 0 then (some (-1)) else (if (Int.tmod a2 a0) ≥ a0 then (some (-1)) else (if (wrap64 ((wrap64 (Int.tdiv a2 a0)) + 1)) < 0 then (some (-1)) else (if (wrap64 ((wrap64 (Int.tdiv a2 a0)) + 1)) ≥ a1 then (some (-1)) else (some (wrap64 ((wrap64 ((wrap64 ((wrap64 (Int.tdiv a2 a0)) + 1)) * a0)) + (Int.tmod a2 a0)))))))) else (if (wrap64 ((Int.tmod a2 a0) - 1)) < 0 then (some (-1)) else (if (wrap64 ((Int.tmod a2 a0) - 1)) ≥ a0 then (some (-1)) else (if (wrap64 (Int.tdiv a2 a0)) < 0 then (some (-1)) else (if (wrap64 (Int.tdiv a2 a0)) ≥ a1 then (some (-1)) else (some (wrap64 ((wrap64 ((wrap64 (Int.tdiv a2 a0)) * a0)) + (wrap64 ((Int.tmod a2 a0) - 1))))))))))))) = some r := h; clear h
 by_cases c5 : a0 = 0
 ·rw [if_pos c5] at H; exact absurd H (by simp)
 ·rw [if_neg c5] at H; have c5b0 := beq_eq_false_iff_ne.mpr c5; have c5b1 := bne_iff_ne.mpr c5
  by_cases c6 : a3 = 0
  ·rw [if_pos c6] at H; have c6b0 := beq_iff_eq.mpr c6; have c6b1 := bne_eq_false_iff_eq.mpr c6; clear c6
   by_cases c7 : (Int.tmod a2 a0) < 0
   ·rw [if_pos c7] at H; have c7b0 := decide_eq_true c7; clear c7; obtain rfl := Option.some.inj H; go_enter Tryd.func70, Tryd.ntmps70; go_wp2; go_ret; exact ⟨by first | rfl | (simp; done) | (simp [*]; done), by repeat (first | exact Drawn0.refl _ | apply Drawn0.step)⟩
   ·rw [if_neg c7] at H; have c7b0 := decide_eq_false c7; clear c7
    by_cases c8 : (Int.tmod a2 a0) ≥ a0
    ·rw [if_pos c8] at H; have c8b0 : decide (a0 ≤ (Int.tmod a2 a0)) = true := decide_eq_true c8; clear c8; obtain rfl := Option.some.inj H; go_enter Tryd.func70, Tryd.ntmps70; go_wp2; go_ret; exact ⟨by first | rfl | (simp; done) | (simp [*]; done), by repeat (first | exact Drawn0.refl _ | apply Drawn0.step)⟩
    ·rw [if_neg c8] at H; have c8b0 : decide (a0 ≤ (Int.tmod a2 a0)) = false := decide_eq_false c8; clear c8
     by_cases c9 : (wrap64 ((wrap64 (Int.tdiv a2 a0)) - 1)) < 0
     ·rw [if_pos c9] at H; have c9b0 := decide_eq_true c9; clear c9; obtain rfl := Option.some.inj H; go_enter Tryd.func70, Tryd.ntmps70; go_wp2; go_ret; exact ⟨by first | rfl | (simp; done) | (simp [*]; done), by repeat (first | exact Drawn0.refl _ | apply Drawn0.step)⟩
     ·rw [if_neg c9] at H; have c9b0 := decide_eq_false c9; clear c9
      by_cases c10 : (wrap64 ((wrap64 (Int.tdiv a2 a0)) - 1)) ≥ a1
      ·rw [if_pos c10] at H; have c10b0 : decide (a1 ≤ (wrap64 ((wrap64 (Int.tdiv a2 a0)) - 1))) = true := decide_eq_true c10; clear c10; obtain rfl := Option.some.inj H; go_enter Tryd.func70, Tryd.ntmps70; go_wp2; go_ret; exact ⟨by first | rfl | (simp; done) | (simp [*]; done), by repeat (first | exact Drawn0.refl _ | apply Drawn0.step)⟩
      ·rw [if_neg c10] at H; have c10b0 : decide (a1 ≤ (wrap64 ((wrap64 (Int.tdiv a2 a0)) - 1))) = false := decide_eq_false c10; clear c10; obtain rfl := Option.some.inj H; go_enter Tryd.func70, Tryd.ntmps70; go_wp2; go_ret; exact ⟨by first | rfl | (simp; done) | (simp [*]; done), by repeat (first | exact Drawn0.refl _ | apply Drawn0.step)⟩
  ·rw [if_neg c6] at H; have c6b0 := beq_eq_false_iff_ne.mpr c6; have c6b1 := bne_iff_ne.mpr c6
   by_cases c11 : a3 = 1
   ·rw [if_pos c11] at H; have c11b0 := beq_iff_eq.mpr c11; have c11b1 := bne_eq_false_iff_eq.mpr c11; clear c11
    by_cases c12 : (wrap64 ((Int.tmod a2 a0) + 1)) < 0
    ·rw [if_pos c12] at H; have c12b0 := decide_eq_true c12; clear c12; obtain rfl := Option.some.inj H; go_enter Tryd.func70, Tryd.ntmps70; go_wp2; go_ret; exact ⟨by first | rfl | (simp; done) | (simp [*]; done), by repeat (first | exact Drawn0.refl _ | apply Drawn0.step)⟩
    ·rw [if_neg c12] at H; have c12b0 := decide_eq_false c12; clear c12
     by_cases c13 : (wrap64 ((Int.tmod a2 a0) + 1)) ≥ a0
     ·rw [if_pos c13] at H; have c13b0 : decide (a0 ≤ (wrap64 ((Int.tmod a2 a0) + 1))) = true := decide_eq_true c13; clear c13; obtain rfl := Option.some.inj H; go_enter Tryd.func70, Tryd.ntmps70; go_wp2; go_ret; exact ⟨by first | rfl | (simp; done) | (simp [*]; done), by repeat (first | exact Drawn0.refl _ | apply Drawn0.step)⟩
     ·rw [if_neg c13] at H; have c13b0 : decide (a0 ≤ (wrap64 ((Int.tmod a2 a0) + 1))) = false := decide_eq_false c13; clear c13
      by_cases c14 : (wrap64 (Int.tdiv a2 a0)) < 0
      ·rw [if_pos c14] at H; have c14b0 := decide_eq_true c14; clear c14; obtain rfl := Option.some.inj H; go_enter Tryd.func70, Tryd.ntmps70; go_wp2; go_ret; exact ⟨by first | rfl | (simp; done) | (simp [*]; done), by repeat (first | exact Drawn0.refl _ | apply Drawn0.step)⟩
      ·rw [if_neg c14] at H; have c14b0 := decide_eq_false c14; clear c14
       by_cases c15 : (wrap64 (Int.tdiv a2 a0)) ≥ a1
       ·rw [if_pos c15] at H; have c15b0 : decide (a1 ≤ (wrap64 (Int.tdiv a2 a0))) = true := decide_eq_true c15; clear c15; obtain rfl := Option.some.inj H; go_enter Tryd.func70, Tryd.ntmps70; go_wp2; go_ret; exact ⟨by first | rfl | (simp; done) | (simp [*]; done), by repeat (first | exact Drawn0.refl _ | apply Drawn0.step)⟩
       ·rw [if_neg c15] at H; have c15b0 : decide (a1 ≤ (wrap64 (Int.tdiv a2 a0))) = false := decide_eq_false c15; clear c15; obtain rfl := Option.some.inj H; go_enter Tryd.func70, Tryd.ntmps70; go_wp2; go_ret; exact ⟨by first | rfl | (simp; done) | (simp [*]; done), by repeat (first | exact Drawn0.refl _ | apply Drawn0.step)⟩
   ·rw [if_neg c11] at H; have c11b0 := beq_eq_false_iff_ne.mpr c11; have c11b1 := bne_iff_ne.mpr c11
    by_cases c16 : a3 = 2
    ·rw [if_pos c16] at H; have c16b0 := beq_iff_eq.mpr c16; have c16b1 := bne_eq_false_iff_eq.mpr c16; clear c16
     by_cases c17 : (Int.tmod a2 a0) < 0
     ·rw [if_pos c17] at H; have c17b0 := decide_eq_true c17; clear c17; obtain rfl := Option.some.inj H; go_enter Tryd.func70, Tryd.ntmps70; go_wp2; go_ret; exact ⟨by first | rfl | (simp; done) | (simp [*]; done), by repeat (first | exact Drawn0.refl _ | apply Drawn0.step)⟩
     ·rw [if_neg c17] at H; have c17b0 := decide_eq_false c17; clear c17
      by_cases c18 : (Int.tmod a2 a0) ≥ a0
      ·rw [if_pos c18] at H; have c18b0 : decide (a0 ≤ (Int.tmod a2 a0)) = true := decide_eq_true c18; clear c18; obtain rfl := Option.some.inj H; go_enter Tryd.func70, Tryd.ntmps70; go_wp2; go_ret; exact ⟨by first | rfl | (simp; done) | (simp [*]; done), by repeat (first | exact Drawn0.refl _ | apply Drawn0.step)⟩
      ·rw [if_neg c18] at H; have c18b0 : decide (a0 ≤ (Int.tmod a2 a0)) = false := decide_eq_false c18; clear c18
       by_cases c19 : (wrap64 ((wrap64 (Int.tdiv a2 a0)) + 1)) < 0
       ·rw [if_pos c19] at H; have c19b0 := decide_eq_true c19; clear c19; obtain rfl := Option.some.inj H; go_enter Tryd.func70, Tryd.ntmps70; go_wp2; go_ret; exact ⟨by first | rfl | (simp; done) | (simp [*]; done), by repeat (first | exact Drawn0.refl _ | apply Drawn0.step)⟩
       ·rw [if_neg c19] at H; have c19b0 := decide_eq_false c19; clear c19
        by_cases c20 : (wrap64 ((wrap64 (Int.tdiv a2 a0)) + 1)) ≥ a1
        ·rw [if_pos c20] at H; have c20b0 : decide (a1 ≤ (wrap64 ((wrap64 (Int.tdiv a2 a0)) + 1))) = true := decide_eq_true c20; clear c20; obtain rfl := Option.some.inj H; go_enter Tryd.func70, Tryd.ntmps70; go_wp2; go_ret; exact ⟨by first | rfl | (simp; done) | (simp [*]; done), by repeat (first | exact Drawn0.refl _ | apply Drawn0.step)⟩
        ·rw [if_neg c20] at H; have c20b0 : decide (a1 ≤ (wrap64 ((wrap64 (Int.tdiv a2 a0)) + 1))) = false := decide_eq_false c20; clear c20; obtain rfl := Option.some.inj H; go_enter Tryd.func70, Tryd.ntmps70; go_wp2; go_ret; exact ⟨by first | rfl | (simp; done) | (simp [*]; done), by repeat (first | exact Drawn0.refl _ | apply Drawn0.step)⟩
    ·rw [if_neg c16] at H; have c16b0 := beq_eq_false_iff_ne.mpr c16; have c16b1 := bne_iff_ne.mpr c16
     by_cases c21 : (wrap64 ((Int.tmod a2 a0) - 1)) < 0
     ·rw [if_pos c21] at H; have c21b0 := decide_eq_true c21; clear c21; obtain rfl := Option.some.inj H; go_enter Tryd.func70, Tryd.ntmps70; go_wp2; go_ret; exact ⟨by first | rfl | (simp; done) | (simp [*]; done), by repeat (first | exact Drawn0.refl _ | apply Drawn0.step)⟩
     ·rw [if_neg c21] at H; have c21b0 := decide_eq_false c21; clear c21
      by_cases c22 : (wrap64 ((Int.tmod a2 a0) - 1)) ≥ a0
      ·rw [if_pos c22] at H; have c22b0 : decide (a0 ≤ (wrap64 ((Int.tmod a2 a0) - 1))) = true := decide_eq_true c22; clear c22; obtain rfl := Option.some.inj H; go_enter Tryd.func70, Tryd.ntmps70; go_wp2; go_ret; exact ⟨by first | rfl | (simp; done) | (simp [*]; done), by repeat (first | exact Drawn0.refl _ | apply Drawn0.step)⟩
      ·rw [if_neg c22] at H; have c22b0 : decide (a0 ≤ (wrap64 ((Int.tmod a2 a0) - 1))) = false := decide_eq_false c22; clear c22
       by_cases c23 : (wrap64 (Int.tdiv a2 a0)) < 0
       ·rw [if_pos c23] at H; have c23b0 := decide_eq_true c23; clear c23; obtain rfl := Option.some.inj H; go_enter Tryd.func70, Tryd.ntmps70; go_wp2; go_ret; exact ⟨by first | rfl | (simp; done) | (simp [*]; done), by repeat (first | exact Drawn0.refl _ | apply Drawn0.step)⟩
       ·rw [if_neg c23] at H; have c23b0 := decide_eq_false c23; clear c23
        by_cases c24 : (wrap64 (Int.tdiv a2 a0)) ≥ a1
        ·rw [if_pos c24] at H; have c24b0 : decide (a1 ≤ (wrap64 (Int.tdiv a2 a0))) = true := decide_eq_true c24; clear c24; obtain rfl := Option.some.inj H; go_enter Tryd.func70, Tryd.ntmps70; go_wp2; go_ret; exact ⟨by first | rfl | (simp; done) | (simp [*]; done), by repeat (first | exact Drawn0.refl _ | apply Drawn0.step)⟩
        ·rw [if_neg c24] at H; have c24b0 : decide (a1 ≤ (wrap64 (Int.tdiv a2 a0))) = false := decide_eq_false c24; clear c24; obtain rfl := Option.some.inj H; go_enter Tryd.func70, Tryd.ntmps70; go_wp2; go_ret; exact ⟨by first | rfl | (simp; done) | (simp [*]; done), by repeat (first | exact Drawn0.refl _ | apply Drawn0.step)⟩

end Go.Proofs.YthbeplmihjhoeaaDoor.PFnExactRunFleet
