-- made by wip/tools/myprint.py (this session's own program, over the kit's printer)
import Derived.Test.YthbeplmihjhoeaaDoorPFnExactTickFleetx0
namespace Go.Proofs.YthbeplmihjhoeaaDoor.PFnExactTickFleet
open Go.RowKit Go.Proofs.YthbeplmihjhoeaaDoorW.PrintWords Go.Proofs.YthbeplmihjhoeaaDoorW.PrintLast Go.Proofs.YthbeplmihjhoeaaDoorW.PrintMore
attribute [local go_sem] max2_int min2_int max_two min_two max_three min_three max_four min_four   -- for this text's walks alone
set_option linter.unusedVariables false
set_option linter.unusedSimpArgs false

/-! ### impl_side: function 75 -/
def dxz (d : Int) : Int := if d = 1 then 1 else if d = 3 then -1 else 0
def dyz (d : Int) : Int := if d = 0 then -1 else if d = 2 then 1 else 0
def sideL (w h c d : Int) : Int := if c % w + dxz d < 0 ∨ w ≤ c % w + dxz d ∨ c / w + dyz d < 0 ∨ h ≤ c / w + dyz d then -1 else (c / w + dyz d) * w + (c % w + dxz d)
def sideIn (w h c d : Int) : Prop := 1 ≤ w ∧ w ≤ 40 ∧ 1 ≤ h ∧ h ≤ 40 ∧ 0 ≤ c ∧ c ≤ 1600 ∧ 0 ≤ d ∧ d ≤ 3
instance (w h c d : Int) : Decidable (sideIn w h c d) := by unfold sideIn; infer_instance
def impl_side.f (a0 : Int) (a1 : Int) (a2 : Int) (a3 : Int) : Option (Int) := if sideIn a0 a1 a2 a3 then some (sideL a0 a1 a2 a3) else none
set_option maxHeartbeats 4000000 in
theorem impl_side.calls (a0 : Int) (a1 : Int) (a2 : Int) (a3 : Int) (r : Int) (w : World) (h : impl_side.f a0 a1 a2 a3 = some r) :
  Calls Tryd.prog 75 #[.int .i64 a0, .int .i64 a1, .int .i64 a2, .int .i64 a3] w fun e w' => e = .returned (.int .i64 r) ∧ Drawn0 w w' := by
 unfold impl_side.f at h
 by_cases hs : sideIn a0 a1 a2 a3
 ·rw [if_pos hs] at h; injection h with h; have Hr := zA h; clear h; obtain ⟨w1, w2, h1, h2, c0, c1, d0, d1⟩ := hs; have m0 : 0 ≤ a2 % a0 := Int.emod_nonneg _ (by omega); have m1 : a2 % a0 < a0 := Int.emod_lt_of_pos _ (by omega); have q0 : 0 ≤ a2 / a0 := Int.ediv_nonneg c0 (by omega); have q1 : a2 / a0 ≤ a2 := Int.ediv_le_self _ c0; have hw : (a0 == 0) = false := by rw [beq_eq_false_iff_ne]; omega
  have mul : ∀ y : Int, 0 ≤ y → y < a1 → 0 ≤ y * a0 ∧ y * a0 ≤ 1600 := fun y hy0 hy1 =>
   ⟨Int.mul_nonneg hy0 (by omega), Int.le_trans (Int.mul_le_mul (show y ≤ 40 by omega) w2 (by omega) (by omega)) (by omega)⟩
  have fin : ∀ x y : Int, -1 ≤ x → x ≤ a0 → -1 ≤ y → y ≤ 1700 → x = a2 % a0 + dxz a3 → y = a2 / a0 + dyz a3 →
    (x < 0 ∨ a0 ≤ x ∨ y < 0 ∨ a1 ≤ y → -1 = r) ∧ (¬ (x < 0 ∨ a0 ≤ x ∨ y < 0 ∨ a1 ≤ y) → wrap64 (wrap64 (y * a0) + x) = r) := by
   intro x y x0 x1 y0 y1 ex ey; have hr := Hr.out; unfold sideL at hr; rw [← ex, ← ey] at hr; refine ⟨fun c => by rw [if_pos c] at hr; exact hr, fun c => ?_⟩; rw [if_neg c] at hr; have := mul y (by omega) (by omega); rw [show wrap64 (y * a0) = y * a0 by unfold wrap64; omega, show wrap64 (y * a0 + x) = y * a0 + x by unfold wrap64; omega]; exact hr
  have F := zA fin; clear fin mul; have hd : a3 = 0 ∨ a3 = 1 ∨ a3 = 2 ∨ a3 = 3 := by omega
  have ya : wrap64 (a2 / a0) = a2 / a0 := by unfold wrap64; omega
  have Ya := zA ya; clear ya
  rcases hd with rfl | rfl | rfl | rfl
  all_goals clear d0 d1
  ·have i0 : ∀ w, (Instr.index 191 (.agg #[.int .i64 0, .int .i64 1, .int .i64 0, .int .i64 (-1)]) (.int .i64 0)).run Tryd.prog w = .ok (.int .i64 0) w := fun _ => by kernel_rfl
   have i1 : ∀ w, (Instr.index 191 (.agg #[.int .i64 (-1), .int .i64 0, .int .i64 1, .int .i64 0]) (.int .i64 0)).run Tryd.prog w = .ok (.int .i64 (-1)) w := fun _ => by kernel_rfl
   have A := zA (F.out (a2 % a0) (a2 / a0 + -1) (by omega) (by omega) (by omega) (by omega) (by simp [dxz]) (by simp [dyz])); clear F; go_enter Tryd.func75, Tryd.ntmps75; go_wp2; go_quiet (fail); go_wp2
   all_goals
    go_ret; refine ⟨?_, ⟨_, rfl⟩⟩
    first
     | exact congrArg (fun x => Ending.returned (Value.int .i64 x)) (A.out.1 (by omega))
     | exact congrArg (fun x => Ending.returned (Value.int .i64 x)) (A.out.2 (by omega))
  ·have i0 : ∀ w, (Instr.index 191 (.agg #[.int .i64 0, .int .i64 1, .int .i64 0, .int .i64 (-1)]) (.int .i64 1)).run Tryd.prog w = .ok (.int .i64 1) w := fun _ => by kernel_rfl
   have i1 : ∀ w, (Instr.index 191 (.agg #[.int .i64 (-1), .int .i64 0, .int .i64 1, .int .i64 0]) (.int .i64 1)).run Tryd.prog w = .ok (.int .i64 0) w := fun _ => by kernel_rfl
   have A := zA (F.out (a2 % a0 + 1) (a2 / a0) (by omega) (by omega) (by omega) (by omega) (by simp [dxz]) (by simp [dyz])); clear F; go_enter Tryd.func75, Tryd.ntmps75; go_wp2; go_quiet (fail); go_wp2
   all_goals
    go_ret; refine ⟨?_, ⟨_, rfl⟩⟩
    first
     | exact congrArg (fun x => Ending.returned (Value.int .i64 x)) (A.out.1 (by omega))
     | exact congrArg (fun x => Ending.returned (Value.int .i64 x)) (A.out.2 (by omega))
  ·have i0 : ∀ w, (Instr.index 191 (.agg #[.int .i64 0, .int .i64 1, .int .i64 0, .int .i64 (-1)]) (.int .i64 2)).run Tryd.prog w = .ok (.int .i64 0) w := fun _ => by kernel_rfl
   have i1 : ∀ w, (Instr.index 191 (.agg #[.int .i64 (-1), .int .i64 0, .int .i64 1, .int .i64 0]) (.int .i64 2)).run Tryd.prog w = .ok (.int .i64 1) w := fun _ => by kernel_rfl
   have A := zA (F.out (a2 % a0) (a2 / a0 + 1) (by omega) (by omega) (by omega) (by omega) (by simp [dxz]) (by simp [dyz])); clear F; go_enter Tryd.func75, Tryd.ntmps75; go_wp2; go_quiet (fail); go_wp2
   all_goals
    go_ret; refine ⟨?_, ⟨_, rfl⟩⟩
    first
     | exact congrArg (fun x => Ending.returned (Value.int .i64 x)) (A.out.1 (by omega))
     | exact congrArg (fun x => Ending.returned (Value.int .i64 x)) (A.out.2 (by omega))
  ·have i0 : ∀ w, (Instr.index 191 (.agg #[.int .i64 0, .int .i64 1, .int .i64 0, .int .i64 (-1)]) (.int .i64 3)).run Tryd.prog w = .ok (.int .i64 (-1)) w := fun _ => by kernel_rfl
   have i1 : ∀ w, (Instr.index 191 (.agg #[.int .i64 (-1), .int .i64 0, .int .i64 1, .int .i64 0]) (.int .i64 3)).run Tryd.prog w = .ok (.int .i64 0) w := fun _ => by kernel_rfl
   have A := zA (F.out (a2 % a0 + -1) (a2 / a0) (by omega) (by omega) (by omega) (by omega) (by simp [dxz]) (by simp [dyz])); clear F; go_enter Tryd.func75, Tryd.ntmps75; go_wp2; go_quiet (fail); go_wp2
   all_goals
    go_ret; refine ⟨?_, ⟨_, rfl⟩⟩
    first
     | exact congrArg (fun x => Ending.returned (Value.int .i64 x)) (A.out.1 (by omega))
     | exact congrArg (fun x => Ending.returned (Value.int .i64 x)) (A.out.2 (by omega))
 ·rw [if_neg hs] at h; cases h

end Go.Proofs.YthbeplmihjhoeaaDoor.PFnExactTickFleet
