-- made by wip/tools/myprint.py (this session's own program, over the kit's printer)
import Derived.Test.YtiboccbaaphbhaaDoorPFnExactValidLayoutx0
namespace Go.Proofs.YtiboccbaaphbhaaDoor.PFnExactValidLayout
open Go.RowKit Go.Proofs.YtiboccbaaphbhaaDoorW.PrintWords Go.Proofs.YtiboccbaaphbhaaDoorW.PrintLast Go.Proofs.YtiboccbaaphbhaaDoorW.PrintMore
attribute [local go_sem] max2_int min2_int max_two min_two max_three min_three max_four min_four   -- for this text's walks alone
set_option linter.unusedVariables false
set_option linter.unusedSimpArgs false

/-! ### spec_l4bits: function 47 -/
def spec_l4bits.l0 : Nat → Int → List Bool → Int → Option (List Bool)
 | 0, _, _, _ => none
 | k + 1, x0, x3, x4 => if x4 < 4 then (if x3.length < 140737488355328 then (spec_l4bits.l0 k (wrap64 (Int.tdiv x0 2)) (x3 ++ [((Int.tmod x0 2) == 1)]) (wrap64 (x4 + 1))) else (none)) else (some x3)
def spec_l4bits.f (k : Nat) (a0 : Int) : Option (List Bool) := spec_l4bits.l0 k a0 ([] : List Bool) 0
theorem spec_l4bits.mono_l : ∀ k, (∀ y0 y1 y2, LeO (spec_l4bits.l0 k y0 y1 y2) (spec_l4bits.l0 (k + 1) y0 y1 y2))
 | 0 => fun _ _ _ r h => by simp [spec_l4bits.l0] at h
 | k + 1 => by
  have ih0 := spec_l4bits.mono_l k
  ·intro y0 y1 y2
   unfold spec_l4bits.l0
   repeat' first
   | (with_reducible exact ih0 _ _ _)
   | (with_reducible exact LeO.refl _)
   | (with_reducible exact LeO.none _)
   | (with_reducible refine LeO.ite ?_ ?_)
   | (with_reducible refine LeO.bind ?_ (fun _ => ?_))
   | exact LeO.none _
   | refine LeO.ite ?_ ?_
   | refine LeO.bind ?_ (fun _ => ?_)
theorem spec_l4bits.mono : ∀ a0 k, LeO (spec_l4bits.f k a0) (spec_l4bits.f (k + 1) a0) := by
 intro a0 k
 have ih0 := spec_l4bits.mono_l k
 unfold spec_l4bits.f
 repeat' first
   | (with_reducible exact ih0 _ _ _)
   | (with_reducible exact LeO.refl _)
   | (with_reducible exact LeO.none _)
   | (with_reducible refine LeO.ite ?_ ?_)
   | (with_reducible refine LeO.bind ?_ (fun _ => ?_))
   | exact LeO.none _
   | refine LeO.ite ?_ ?_
   | refine LeO.bind ?_ (fun _ => ?_)
set_option maxHeartbeats 8000000 in
set_option maxRecDepth 100000 in
theorem spec_l4bits.calls (k : Nat) (a0 : Int) (r : List Bool) (w : World) (h : spec_l4bits.f k a0 = some r) :
  Calls Tryd.prog 47 #[.int .i64 a0] w fun e w' => ∃ v0_ : Value, e = .returned (v0_) ∧ Kd.R Kd.bool 4 w' w.heap.size (fun _ => True) v0_ r ∧ Below w.heap.size w w' := by
 have HB := Aside0.mk (Below.refl w.heap.size w)
 have H : (spec_l4bits.l0 k a0 ([] : List Bool) 0) = some r := h
 clear h
 have H' := Aside0.mk H
 clear H
 go_enter Tryd.func47, Tryd.ntmps47
 go_wp2
 go_loopg [0, 3, 4] k (fun kq v0 v3 v4 w' => ∃ (x0_1 : Int) (x3_1 : List Bool) (x4_1 : Int), v0 = .int .i64 x0_1 ∧ v4 = .int .i64 x4_1 ∧ Aside0 (spec_l4bits.l0 kq x0_1 x3_1 x4_1 = some r) ∧ Aside0 (kq ≤ k) ∧ Aside0 (Kd.R Kd.bool 4 w' w.heap.size (fun _ => True) v3 x3_1) ∧ Aside0 (Below w.heap.size w w'))
 case atStart => exact ⟨(a0), (([] : List Bool)), (0), zr, zr, H', ⟨Nat.le_refl _⟩, ⟨by first | exact Kd.R_nil _ _ _ _ _ | exact Kd.N_nil _ _ _ _ _ | exact Kd.V_nil _ _ _ _ _ | exact Kd.Q_nil _ _ _ _ _ | exact Kd.S_nil _ _ _ _ _⟩, ⟨z_⟩⟩
 case round =>
  clear H'
  obtain ⟨x0_1, x3_1, x4_1, rfl, rfl, HA, HK1, HO_3, HB⟩ := hrel
  cases gk with
  | zero => exact absurd HA.out (by simp [spec_l4bits.l0])
  | succ k1 =>
   have H := HA.out
   clear HA
   simp only [spec_l4bits.l0] at H
   by_cases c2 : x4_1 < 4
   ·rw [if_pos c2] at H
    have c2b0 : decide (x4_1 < 4) = true := decide_eq_true c2
    clear c2
    by_cases c3 : x3_1.length < 140737488355328
    ·rw [if_pos c3] at H
     have LMc3 := Aside0.mk c3
     clear c3
     obtain ⟨y136, hy136⟩ : ∃ y_ : List Bool, y_ = (x3_1 ++ [((Int.tmod x0_1 2) == 1)]) := ⟨_, rfl⟩
     replace H : (spec_l4bits.l0 k1 (wrap64 (Int.tdiv x0_1 2)) y136 (wrap64 (x4_1 + 1))) = some r := zh hy136
     have Ny136 := Aside0.mk hy136
     clear hy136
     have H' := Aside0.mk H
     clear H
     go_wp2_with (first | ((with_reducible refine gate_builtin (b := .append) (xs := #[.tmp 9, .tmp 13]) rfl ?_); at_builtin; refine Kd.R_append Kd.bool (w0 := w) w.heap.size rfl (.tmp 9) (.tmp 13) 70 4 (.bool false) 1 rfl Tryd.underlying70 info4 rfl (by decide) (by omega) u3 x3_1 ((Int.tmod x0_1 2) == 1) [.bool ((Int.tmod x0_1 2) == 1)] (fun _ => True) (fun _ => False) rfl rfl ?aP (fun _ hk => hk.elim) ?aF ?aO ?aB ?aS ?aL ?_; (case aP => exact rfl); (case aB => exact z_); (case aF => exact (fun _ _ => trivial)); (case aO => exact (by (with_reducible repeat (first | apply Kd.R_alloc | apply Kd.R_drewN | apply Kd.R_drew)); exact HO_3.out)); (case aS => exact (below_size z_)); (case aL => have := LMc3.out; omega); intro v137 w4 ho hb hg hat; rw [← Ny136.out] at ho; have n0_ := Aside0.mk (hb); have n1_ := Aside0.mk (ho); clear HB; clear HO_3; have HB := n0_; have HO138 := n1_; clear n0_ n1_; clear ho hb hg hat))
     go_roundg k1
     case measure => have := HK1.out; omega
     case rel => exact ⟨(wrap64 (Int.tdiv x0_1 2)), (y136), (wrap64 (x4_1 + 1)), zr, zr, H', ⟨by have := HK1.out; omega⟩, ⟨by (with_reducible repeat (first | apply Kd.R_alloc | apply Kd.R_drewN | apply Kd.R_drew)); exact HO138.out⟩, ⟨z_⟩⟩
    ·rw [if_neg c3] at H
     exact absurd H (by simp)
   ·rw [if_neg c2] at H
    have c2b0 : decide (x4_1 < 4) = false := decide_eq_false c2
    clear c2
    obtain rfl := Option.some.inj H
    go_wp2
    go_ret
    exact ⟨_, ze, by (with_reducible repeat (first | apply Kd.R_alloc | apply Kd.R_drewN | apply Kd.R_drew)); exact HO_3.out, by repeat (first | (with_reducible first | exact HB.out | apply below_alloc | apply pw_below_drewN | apply below_drew1) | exact HB.out)⟩

/-! ### spec_l4to: function 48 -/
def spec_l4to.f (a0 : Int) (a1 : Int) (a2 : Int) (a3 : Int) : Option (Int) := if a0 = 0 then (none) else (if a3 = 0 then (if (Int.tmod a2 a0) < 0 then (some (-1)) else (if (Int.tmod a2 a0) ≥ a0 then (some (-1)) else (if (wrap64 ((wrap64 (Int.tdiv a2 a0)) - 1)) < 0 then (some (-1)) else (if (wrap64 ((wrap64 (Int.tdiv a2 a0)) - 1)) ≥ a1 then (some (-1)) else (some (wrap64 ((wrap64 ((wrap64 ((wrap64 (Int.tdiv a2 a0)) - 1)) * a0)) + (Int.tmod a2 a0)))))))) else (if a3 = 1 then (if (wrap64 ((Int.tmod a2 a0) + 1)) < 0 then (some (-1)) else (if (wrap64 ((Int.tmod a2 a0) + 1)) ≥ a0 then (some (-1)) else (if (wrap64 (Int.tdiv a2 a0)) < 0 then (some (-1)) else (if (wrap64 (Int.tdiv a2 a0)) ≥ a1 then (some (-1)) else (some (wrap64 ((wrap64 ((wrap64 (Int.tdiv a2 a0)) * a0)) + (wrap64 ((Int.tmod a2 a0) + 1))))))))) else (if a3 = 2 then (if (Int.tmod a2 a0) < 0 then (some (-1)) else (if (Int.tmod a2 a0) ≥ a0 then (some (-1)) else (if (wrap64 ((wrap64 (Int.tdiv a2 a0)) + 1)) < 0 then (some (-1)) else (if (wrap64 ((wrap64 (Int.tdiv a2 a0)) + 1)) ≥ a1 then (some (-1)) else (some (wrap64 ((wrap64 ((wrap64 ((wrap64 (Int.tdiv a2 a0)) + 1)) * a0)) + (Int.tmod a2 a0)))))))) else (if (wrap64 ((Int.tmod a2 a0) - 1)) < 0 then (some (-1)) else (if (wrap64 ((Int.tmod a2 a0) - 1)) ≥ a0 then (some (-1)) else (if (wrap64 (Int.tdiv a2 a0)) < 0 then (some (-1)) else (if (wrap64 (Int.tdiv a2 a0)) ≥ a1 then (some (-1)) else (some (wrap64 ((wrap64 ((wrap64 (Int.tdiv a2 a0)) * a0)) + (wrap64 ((Int.tmod a2 a0) - 1))))))))))))
set_option maxHeartbeats 8000000 in
set_option maxRecDepth 100000 in
theorem spec_l4to.calls (a0 : Int) (a1 : Int) (a2 : Int) (a3 : Int) (r : Int) (w : World) (h : spec_l4to.f a0 a1 a2 a3 = some r) :
  Calls Tryd.prog 48 #[.int .i64 a0, .int .i64 a1, .int .i64 a2, .int .i64 a3] w fun e w' => e = .returned (.int .i64 r) ∧ Drawn0 w w' := by
 have H : (if a0 = 0 then (none) else (if a3 = 0 then (if (Int.tmod a2 a0) < 0 then (some (-1)) else (if (Int.tmod a2 a0) ≥ a0 then (some (-1)) else (if (wrap64 ((wrap64 (Int.tdiv a2 a0)) - 1)) < 0 then (some (-1)) else (if (wrap64 ((wrap64 (Int.tdiv a2 a0)) - 1)) ≥ a1 then (some (-1)) else (some (wrap64 ((wrap64 ((wrap64 ((wrap64 (Int.tdiv a2 a0)) - 1)) * a0)) + (Int.tmod a2 a0)))))))) else (if a3 = 1 then (if (wrap64 ((Int.tmod a2 a0) + 1)) < 0 then (some (-1)) else (if (wrap64 ((Int.tmod a2 a0) + 1)) ≥ a0 then (some (-1)) else (if (wrap64 (Int.tdiv a2 a0)) < 0 then (some (-1)) else (if (wrap64 (Int.tdiv a2 a0)) ≥ a1 then (some (-1)) else (some (wrap64 ((wrap64 ((wrap64 (Int.tdiv a2 a0)) * a0)) + (wrap64 ((Int.tmod a2 a0) + 1))))))))) else (if a3 = 2 then (if (Int.tmod a2 a0) < 0 then (some (-1)) else (if (Int.tmod a2 a0) ≥ a0 then (some (-1)) else (if (wrap64 ((wrap64 (Int.tdiv a2 a0)) + 1)) < 0 then (some (-1)) else (if (wrap64 ((wrap64 (Int.tdiv a2 a0)) + 1)) ≥ a1 then (some (-1)) else (some (wrap64 ((wrap64 ((wrap64 ((wrap64 (Int.tdiv a2 a0)) + 1)) * a0)) + (Int.tmod a2 a0)))))))) else (if (wrap64 ((Int.tmod a2 a0) - 1)) < 0 then (some (-1)) else (if (wrap64 ((Int.tmod a2 a0) - 1)) ≥ a0 then (some (-1)) else (if (wrap64 (Int.tdiv a2 a0)) < 0 then (some (-1)) else (if (wrap64 (Int.tdiv a2 a0)) ≥ a1 then (some (-1)) else (some (wrap64 ((wrap64 ((wrap64 (Int.tdiv a2 a0)) * a0)) + (wrap64 ((Int.tmod a2 a0) - 1))))))))))))) = some r := h
 clear h
 by_cases c5 : a0 = 0
 ·rw [if_pos c5] at H
  exact absurd H (by simp)
 ·rw [if_neg c5] at H
  have c5b0 : (a0 == 0) = false := beq_eq_false_iff_ne.mpr c5
  have c5b1 : (a0 != 0) = true := bne_iff_ne.mpr c5
  by_cases c6 : a3 = 0
  ·rw [if_pos c6] at H
   have c6b0 : (a3 == 0) = true := beq_iff_eq.mpr c6
   have c6b1 : (a3 != 0) = false := bne_eq_false_iff_eq.mpr c6
   clear c6
   by_cases c7 : (Int.tmod a2 a0) < 0
   ·rw [if_pos c7] at H
    have c7b0 : decide ((Int.tmod a2 a0) < 0) = true := decide_eq_true c7
    clear c7
    obtain rfl := Option.some.inj H
    go_enter Tryd.func48, Tryd.ntmps48
    go_wp2
    go_ret
    exact ⟨by first | rfl | (simp; done) | (simp [*]; done), by repeat (first | exact Drawn0.refl _ | apply Drawn0.step)⟩
   ·rw [if_neg c7] at H
    have c7b0 : decide ((Int.tmod a2 a0) < 0) = false := decide_eq_false c7
    clear c7
    by_cases c8 : (Int.tmod a2 a0) ≥ a0
    ·rw [if_pos c8] at H
     have c8b0 : decide (a0 ≤ (Int.tmod a2 a0)) = true := decide_eq_true c8
     clear c8
     obtain rfl := Option.some.inj H
     go_enter Tryd.func48, Tryd.ntmps48
     go_wp2
     go_ret
     exact ⟨by first | rfl | (simp; done) | (simp [*]; done), by repeat (first | exact Drawn0.refl _ | apply Drawn0.step)⟩
    ·rw [if_neg c8] at H
     have c8b0 : decide (a0 ≤ (Int.tmod a2 a0)) = false := decide_eq_false c8
     clear c8
     by_cases c9 : (wrap64 ((wrap64 (Int.tdiv a2 a0)) - 1)) < 0
     ·rw [if_pos c9] at H
      have c9b0 : decide ((wrap64 ((wrap64 (Int.tdiv a2 a0)) - 1)) < 0) = true := decide_eq_true c9
      clear c9
      obtain rfl := Option.some.inj H
      go_enter Tryd.func48, Tryd.ntmps48
      go_wp2
      go_ret
      exact ⟨by first | rfl | (simp; done) | (simp [*]; done), by repeat (first | exact Drawn0.refl _ | apply Drawn0.step)⟩
     ·rw [if_neg c9] at H
      have c9b0 : decide ((wrap64 ((wrap64 (Int.tdiv a2 a0)) - 1)) < 0) = false := decide_eq_false c9
      clear c9
      by_cases c10 : (wrap64 ((wrap64 (Int.tdiv a2 a0)) - 1)) ≥ a1
      ·rw [if_pos c10] at H
       have c10b0 : decide (a1 ≤ (wrap64 ((wrap64 (Int.tdiv a2 a0)) - 1))) = true := decide_eq_true c10
       clear c10
       obtain rfl := Option.some.inj H
       go_enter Tryd.func48, Tryd.ntmps48
       go_wp2
       go_ret
       exact ⟨by first | rfl | (simp; done) | (simp [*]; done), by repeat (first | exact Drawn0.refl _ | apply Drawn0.step)⟩
      ·rw [if_neg c10] at H
       have c10b0 : decide (a1 ≤ (wrap64 ((wrap64 (Int.tdiv a2 a0)) - 1))) = false := decide_eq_false c10
       clear c10
       obtain rfl := Option.some.inj H
       go_enter Tryd.func48, Tryd.ntmps48
       go_wp2
       go_ret
       exact ⟨by first | rfl | (simp; done) | (simp [*]; done), by repeat (first | exact Drawn0.refl _ | apply Drawn0.step)⟩
  ·rw [if_neg c6] at H
   have c6b0 : (a3 == 0) = false := beq_eq_false_iff_ne.mpr c6
   have c6b1 : (a3 != 0) = true := bne_iff_ne.mpr c6
   by_cases c11 : a3 = 1
   ·rw [if_pos c11] at H
    have c11b0 : (a3 == 1) = true := beq_iff_eq.mpr c11
    have c11b1 : (a3 != 1) = false := bne_eq_false_iff_eq.mpr c11
    clear c11
    by_cases c12 : (wrap64 ((Int.tmod a2 a0) + 1)) < 0
    ·rw [if_pos c12] at H
     have c12b0 : decide ((wrap64 ((Int.tmod a2 a0) + 1)) < 0) = true := decide_eq_true c12
     clear c12
     obtain rfl := Option.some.inj H
     go_enter Tryd.func48, Tryd.ntmps48
     go_wp2
     go_ret
     exact ⟨by first | rfl | (simp; done) | (simp [*]; done), by repeat (first | exact Drawn0.refl _ | apply Drawn0.step)⟩
    ·rw [if_neg c12] at H
     have c12b0 : decide ((wrap64 ((Int.tmod a2 a0) + 1)) < 0) = false := decide_eq_false c12
     clear c12
     by_cases c13 : (wrap64 ((Int.tmod a2 a0) + 1)) ≥ a0
     ·rw [if_pos c13] at H
      have c13b0 : decide (a0 ≤ (wrap64 ((Int.tmod a2 a0) + 1))) = true := decide_eq_true c13
      clear c13
      obtain rfl := Option.some.inj H
      go_enter Tryd.func48, Tryd.ntmps48
      go_wp2
      go_ret
      exact ⟨by first | rfl | (simp; done) | (simp [*]; done), by repeat (first | exact Drawn0.refl _ | apply Drawn0.step)⟩
     ·rw [if_neg c13] at H
      have c13b0 : decide (a0 ≤ (wrap64 ((Int.tmod a2 a0) + 1))) = false := decide_eq_false c13
      clear c13
      by_cases c14 : (wrap64 (Int.tdiv a2 a0)) < 0
      ·rw [if_pos c14] at H
       have c14b0 : decide ((wrap64 (Int.tdiv a2 a0)) < 0) = true := decide_eq_true c14
       clear c14
       obtain rfl := Option.some.inj H
       go_enter Tryd.func48, Tryd.ntmps48
       go_wp2
       go_ret
       exact ⟨by first | rfl | (simp; done) | (simp [*]; done), by repeat (first | exact Drawn0.refl _ | apply Drawn0.step)⟩
      ·rw [if_neg c14] at H
       have c14b0 : decide ((wrap64 (Int.tdiv a2 a0)) < 0) = false := decide_eq_false c14
       clear c14
       by_cases c15 : (wrap64 (Int.tdiv a2 a0)) ≥ a1
       ·rw [if_pos c15] at H
        have c15b0 : decide (a1 ≤ (wrap64 (Int.tdiv a2 a0))) = true := decide_eq_true c15
        clear c15
        obtain rfl := Option.some.inj H
        go_enter Tryd.func48, Tryd.ntmps48
        go_wp2
        go_ret
        exact ⟨by first | rfl | (simp; done) | (simp [*]; done), by repeat (first | exact Drawn0.refl _ | apply Drawn0.step)⟩
       ·rw [if_neg c15] at H
        have c15b0 : decide (a1 ≤ (wrap64 (Int.tdiv a2 a0))) = false := decide_eq_false c15
        clear c15
        obtain rfl := Option.some.inj H
        go_enter Tryd.func48, Tryd.ntmps48
        go_wp2
        go_ret
        exact ⟨by first | rfl | (simp; done) | (simp [*]; done), by repeat (first | exact Drawn0.refl _ | apply Drawn0.step)⟩
   ·rw [if_neg c11] at H
    have c11b0 : (a3 == 1) = false := beq_eq_false_iff_ne.mpr c11
    have c11b1 : (a3 != 1) = true := bne_iff_ne.mpr c11
    by_cases c16 : a3 = 2
    ·rw [if_pos c16] at H
     have c16b0 : (a3 == 2) = true := beq_iff_eq.mpr c16
     have c16b1 : (a3 != 2) = false := bne_eq_false_iff_eq.mpr c16
     clear c16
     by_cases c17 : (Int.tmod a2 a0) < 0
     ·rw [if_pos c17] at H
      have c17b0 : decide ((Int.tmod a2 a0) < 0) = true := decide_eq_true c17
      clear c17
      obtain rfl := Option.some.inj H
      go_enter Tryd.func48, Tryd.ntmps48
      go_wp2
      go_ret
      exact ⟨by first | rfl | (simp; done) | (simp [*]; done), by repeat (first | exact Drawn0.refl _ | apply Drawn0.step)⟩
     ·rw [if_neg c17] at H
      have c17b0 : decide ((Int.tmod a2 a0) < 0) = false := decide_eq_false c17
      clear c17
      by_cases c18 : (Int.tmod a2 a0) ≥ a0
      ·rw [if_pos c18] at H
       have c18b0 : decide (a0 ≤ (Int.tmod a2 a0)) = true := decide_eq_true c18
       clear c18
       obtain rfl := Option.some.inj H
       go_enter Tryd.func48, Tryd.ntmps48
       go_wp2
       go_ret
       exact ⟨by first | rfl | (simp; done) | (simp [*]; done), by repeat (first | exact Drawn0.refl _ | apply Drawn0.step)⟩
      ·rw [if_neg c18] at H
       have c18b0 : decide (a0 ≤ (Int.tmod a2 a0)) = false := decide_eq_false c18
       clear c18
       by_cases c19 : (wrap64 ((wrap64 (Int.tdiv a2 a0)) + 1)) < 0
       ·rw [if_pos c19] at H
        have c19b0 : decide ((wrap64 ((wrap64 (Int.tdiv a2 a0)) + 1)) < 0) = true := decide_eq_true c19
        clear c19
        obtain rfl := Option.some.inj H
        go_enter Tryd.func48, Tryd.ntmps48
        go_wp2
        go_ret
        exact ⟨by first | rfl | (simp; done) | (simp [*]; done), by repeat (first | exact Drawn0.refl _ | apply Drawn0.step)⟩
       ·rw [if_neg c19] at H
        have c19b0 : decide ((wrap64 ((wrap64 (Int.tdiv a2 a0)) + 1)) < 0) = false := decide_eq_false c19
        clear c19
        by_cases c20 : (wrap64 ((wrap64 (Int.tdiv a2 a0)) + 1)) ≥ a1
        ·rw [if_pos c20] at H
         have c20b0 : decide (a1 ≤ (wrap64 ((wrap64 (Int.tdiv a2 a0)) + 1))) = true := decide_eq_true c20
         clear c20
         obtain rfl := Option.some.inj H
         go_enter Tryd.func48, Tryd.ntmps48
         go_wp2
         go_ret
         exact ⟨by first | rfl | (simp; done) | (simp [*]; done), by repeat (first | exact Drawn0.refl _ | apply Drawn0.step)⟩
        ·rw [if_neg c20] at H
         have c20b0 : decide (a1 ≤ (wrap64 ((wrap64 (Int.tdiv a2 a0)) + 1))) = false := decide_eq_false c20
         clear c20
         obtain rfl := Option.some.inj H
         go_enter Tryd.func48, Tryd.ntmps48
         go_wp2
         go_ret
         exact ⟨by first | rfl | (simp; done) | (simp [*]; done), by repeat (first | exact Drawn0.refl _ | apply Drawn0.step)⟩
    ·rw [if_neg c16] at H
     have c16b0 : (a3 == 2) = false := beq_eq_false_iff_ne.mpr c16
     have c16b1 : (a3 != 2) = true := bne_iff_ne.mpr c16
     by_cases c21 : (wrap64 ((Int.tmod a2 a0) - 1)) < 0
     ·rw [if_pos c21] at H
      have c21b0 : decide ((wrap64 ((Int.tmod a2 a0) - 1)) < 0) = true := decide_eq_true c21
      clear c21
      obtain rfl := Option.some.inj H
      go_enter Tryd.func48, Tryd.ntmps48
      go_wp2
      go_ret
      exact ⟨by first | rfl | (simp; done) | (simp [*]; done), by repeat (first | exact Drawn0.refl _ | apply Drawn0.step)⟩
     ·rw [if_neg c21] at H
      have c21b0 : decide ((wrap64 ((Int.tmod a2 a0) - 1)) < 0) = false := decide_eq_false c21
      clear c21
      by_cases c22 : (wrap64 ((Int.tmod a2 a0) - 1)) ≥ a0
      ·rw [if_pos c22] at H
       have c22b0 : decide (a0 ≤ (wrap64 ((Int.tmod a2 a0) - 1))) = true := decide_eq_true c22
       clear c22
       obtain rfl := Option.some.inj H
       go_enter Tryd.func48, Tryd.ntmps48
       go_wp2
       go_ret
       exact ⟨by first | rfl | (simp; done) | (simp [*]; done), by repeat (first | exact Drawn0.refl _ | apply Drawn0.step)⟩
      ·rw [if_neg c22] at H
       have c22b0 : decide (a0 ≤ (wrap64 ((Int.tmod a2 a0) - 1))) = false := decide_eq_false c22
       clear c22
       by_cases c23 : (wrap64 (Int.tdiv a2 a0)) < 0
       ·rw [if_pos c23] at H
        have c23b0 : decide ((wrap64 (Int.tdiv a2 a0)) < 0) = true := decide_eq_true c23
        clear c23
        obtain rfl := Option.some.inj H
        go_enter Tryd.func48, Tryd.ntmps48
        go_wp2
        go_ret
        exact ⟨by first | rfl | (simp; done) | (simp [*]; done), by repeat (first | exact Drawn0.refl _ | apply Drawn0.step)⟩
       ·rw [if_neg c23] at H
        have c23b0 : decide ((wrap64 (Int.tdiv a2 a0)) < 0) = false := decide_eq_false c23
        clear c23
        by_cases c24 : (wrap64 (Int.tdiv a2 a0)) ≥ a1
        ·rw [if_pos c24] at H
         have c24b0 : decide (a1 ≤ (wrap64 (Int.tdiv a2 a0))) = true := decide_eq_true c24
         clear c24
         obtain rfl := Option.some.inj H
         go_enter Tryd.func48, Tryd.ntmps48
         go_wp2
         go_ret
         exact ⟨by first | rfl | (simp; done) | (simp [*]; done), by repeat (first | exact Drawn0.refl _ | apply Drawn0.step)⟩
        ·rw [if_neg c24] at H
         have c24b0 : decide (a1 ≤ (wrap64 (Int.tdiv a2 a0))) = false := decide_eq_false c24
         clear c24
         obtain rfl := Option.some.inj H
         go_enter Tryd.func48, Tryd.ntmps48
         go_wp2
         go_ret
         exact ⟨by first | rfl | (simp; done) | (simp [*]; done), by repeat (first | exact Drawn0.refl _ | apply Drawn0.step)⟩

end Go.Proofs.YtiboccbaaphbhaaDoor.PFnExactValidLayout
