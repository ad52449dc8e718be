-- made by wip/tools/myprint.py (this session's own program, over the kit's printer)
import Derived.Test.YtbnpkiokpnmphaaDoorPFnExactUnquoteTextx0
import Derived.Test.YtbnpkiokpnmphaaDoorPFnExactUnquoteTextx1
namespace Go.Proofs.YtbnpkiokpnmphaaDoor.PFnExactUnquoteText
open Go.RowKit Go.Proofs.YtbnpkiokpnmphaaDoorW.PrintWords Go.Proofs.YtbnpkiokpnmphaaDoorW.PrintLast Go.Proofs.YtbnpkiokpnmphaaDoorW.PrintMore
attribute [local go_sem] max2_int min2_int max_two min_two max_three min_three max_four min_four   -- for this text's walks alone
set_option linter.unusedVariables false
set_option linter.unusedSimpArgs false

/-! ### spec_CheckText: function 14 -/
def spec_CheckText.l0 : Nat → List Int → Int → Option (Int × Int)
 | 0, _, _ => none
 | k + 1, x0, x4 => if x4 < (x0.length : Int) then ((spec_l1char.f k x0 x4).bind fun bt119 => (if bt119.1 = 0 then (some (2, x4)) else (spec_CheckText.l0 k x0 (wrap64 (x4 + bt119.1))))) else (some (0, 0))
def spec_CheckText.f (k : Nat) (l0 : List Int) : Option (Int × Int) := spec_CheckText.l0 k l0 0
theorem spec_CheckText.mono_l : ∀ k, (∀ y0 y1, LeO (spec_CheckText.l0 k y0 y1) (spec_CheckText.l0 (k + 1) y0 y1))
 | 0 => fun _ _ r h => by simp [spec_CheckText.l0] at h
 | k + 1 => by
  have ih0 := spec_CheckText.mono_l k
  ·intro y0 y1; unfold spec_CheckText.l0; have m1 := @spec_l1char.mono; exact zm
theorem spec_CheckText.mono : ∀ a0 k, LeO (spec_CheckText.f k a0) (spec_CheckText.f (k + 1) a0) := by
 intro a0 k; have ih0 := spec_CheckText.mono_l k; unfold spec_CheckText.f; have m1 := @spec_l1char.mono; exact zm
set_option maxHeartbeats 8000000 in
set_option maxRecDepth 100000 in
theorem spec_CheckText.calls (k : Nat) (A0 : Option Addr) (c0 : Nat) (l0 : List Int) (r1 : Int) (r2 : Int) (w : World) (hr0 : Kd.C (Kd.int .u8) w A0 l0.length l0) (hc0 : l0.length ≤ c0) (h : spec_CheckText.f k l0 = some (r1, r2)) :
  Calls Tryd.prog 14 #[.slice A0 l0.length c0] w fun e w' => e = .returned (.tuple #[.int .i64 r1, .int .i64 r2]) ∧ Below w.heap.size w w' := by
 have HR0 := zA hr0; have HC0 := zA hc0; clear hr0 hc0; have HB := zA (Below.refl w.heap.size w); have H : (spec_CheckText.l0 k l0 0) = some (r1, r2) := h; clear h; have H' := zA H; clear H; go_enter Tryd.func14, Tryd.ntmps14; go_wp2
 go_loopg [4] k (fun kq v4 w' => ∃ (Ba : Int), v4 = .int .i64 Ba ∧ Aside0 (spec_CheckText.l0 kq l0 Ba = some (r1, r2)) ∧ Aside0 (kq ≤ k) ∧ Aside0 (Below w.heap.size w w'))
 case atStart => exact ⟨(0), zr, H', ⟨Nat.le_refl _⟩, ⟨z_⟩⟩
 case round =>
  clear H'; (try clear c1); obtain ⟨Ba, rfl, HA, HK1, HB⟩ := hrel; cases gk with
  | zero => exact absurd HA.out (by simp [spec_CheckText.l0])
  | succ k1 =>
   have H := HA.out; clear HA; simp only [spec_CheckText.l0] at H
   by_cases c2 : Ba < (l0.length : Int)
   ·rw [if_pos c2] at H; have c2b0 := decide_eq_true c2; clear c2; replace H := Option.bind_eq_some_iff.mp H; obtain ⟨⟨Bb, Bc⟩, A30, H⟩ := H; replace H : (if Bb = 0 then (some (2, Ba)) else (spec_CheckText.l0 k1 l0 (wrap64 (Ba + Bb)))) = some (r1, r2) := H; have A3 := zA A30; clear A30
    by_cases c4 : Bb = 0
    ·rw [if_pos c4] at H; have c4b0 := beq_iff_eq.mpr c4; have c4b1 := bne_eq_false_iff_eq.mpr c4; clear c4; simp only [Option.some.injEq, Prod.mk.injEq] at H; obtain ⟨rfl, rfl⟩ := H; go_wp2_with (first | ((with_reducible refine gate_callee (f := 20) rfl ?_); refine goesL_ (some 14) rfl rfl Tryd.func20 (by kernel_rfl) rfl #[.slice A0 l0.length c0, .int .i64 Ba] rfl za ?_; (with_reducible refine (spec_l1char.calls k1 _ _ l0 Ba Bb Bc _ ?s1 ?s2 A3.out).mono ?_); (case s1 => exact zc (Kd.C_below HR0.out HB.out)); (case s2 => exact HC0.out); rintro e w5 ⟨rfl, hb⟩; refine ⟨_, rfl, ?_⟩; replace HB := zA (below_step z_ hb); (try clear hb))); go_ret2; exact ⟨ze, z_⟩
    ·rw [if_neg c4] at H; have c4b0 := beq_eq_false_iff_ne.mpr c4; have c4b1 := bne_iff_ne.mpr c4; have H' := zA H; clear H; go_wp2_with (first | ((with_reducible refine gate_callee (f := 20) rfl ?_); refine goesL_ (some 14) rfl rfl Tryd.func20 (by kernel_rfl) rfl #[.slice A0 l0.length c0, .int .i64 Ba] rfl za ?_; (with_reducible refine (spec_l1char.calls k1 _ _ l0 Ba Bb Bc _ ?s1 ?s2 A3.out).mono ?_); (case s1 => exact zc (Kd.C_below HR0.out HB.out)); (case s2 => exact HC0.out); rintro e w6 ⟨rfl, hb⟩; refine ⟨_, rfl, ?_⟩; replace HB := zA (below_step z_ hb); (try clear hb))); go_roundg k1
     case measure => have := HK1.out; omega
     case rel => exact ⟨(wrap64 (Ba + Bb)), zr, H', ⟨by have := HK1.out; omega⟩, ⟨z_⟩⟩
   ·rw [if_neg c2] at H; have c2b0 := decide_eq_false c2; clear c2; simp only [Option.some.injEq, Prod.mk.injEq] at H; obtain ⟨rfl, rfl⟩ := H; go_wp2; go_ret2; exact ⟨ze, z_⟩

/-! ### spec_l1good: function 10 -/
def spec_l1good.f (k : Nat) (l0 : List Int) : Option (Bool) := (spec_CheckText.f k l0).bind fun bt121 => (some (bt121.1 == 0))
theorem spec_l1good.mono : ∀ a0 k, LeO (spec_l1good.f k a0) (spec_l1good.f (k + 1) a0) := by
 intro a0 k; unfold spec_l1good.f; have m1 := @spec_CheckText.mono; exact zm
set_option maxHeartbeats 8000000 in
set_option maxRecDepth 100000 in
theorem spec_l1good.calls (k : Nat) (A0 : Option Addr) (c0 : Nat) (l0 : List Int) (r : Bool) (w : World) (hr0 : Kd.C (Kd.int .u8) w A0 l0.length l0) (hc0 : l0.length ≤ c0) (h : spec_l1good.f k l0 = some r) :
  Calls Tryd.prog 10 #[.slice A0 l0.length c0] w fun e w' => e = .returned (.bool r) ∧ Below w.heap.size w w' := by
 have HR0 := zA hr0; have HC0 := zA hc0; clear hr0 hc0; have HB := zA (Below.refl w.heap.size w); have H : ((spec_CheckText.f k l0).bind fun bt121 => (some (bt121.1 == 0))) = some r := h; clear h; replace H := Option.bind_eq_some_iff.mp H; obtain ⟨⟨Ba, Bb⟩, A20, H⟩ := H; (try dsimp only at H); have A2 := zA A20; clear A20; obtain rfl := Option.some.inj H; go_enter Tryd.func10, Tryd.ntmps10; go_wp2_with (first | ((with_reducible refine gate_callee (f := 14) rfl ?_); refine goesL_ (some 7) rfl rfl Tryd.func14 (by kernel_rfl) rfl #[.slice A0 l0.length c0] rfl za ?_; (with_reducible refine (spec_CheckText.calls k _ _ l0 Ba Bb _ ?s1 ?s2 A2.out).mono ?_); (case s1 => exact zc (HR0.out)); (case s2 => exact HC0.out); rintro e w3 ⟨rfl, hb⟩; refine ⟨_, rfl, ?_⟩; replace HB := zA (below_step z_ hb); (try clear hb))); go_ret; exact ⟨ze, z_⟩

/-! ### spec_l1digit: function 21 -/
mutual
def spec_l1digit.j0 : Nat → Int → Bool → Option (Int)
 | 0, _, _ => none
 | k + 1, x0, x8 => if x8 = true then (some ((x0 - 48) % 256)) else (if x0 ≥ 97 then (spec_l1digit.j1 k x0 (decide (x0 ≤ 102))) else (spec_l1digit.j1 k x0 false))
def spec_l1digit.j1 : Nat → Int → Bool → Option (Int)
 | 0, _, _ => none
 | k + 1, x0, x17 => if x17 = true then (some (((x0 - 97) % 256) + 10)) else (if x0 ≥ 65 then (if x0 ≤ 70 then (some (((x0 - 65) % 256) + 10)) else (some (-1))) else (some (-1)))
end
def spec_l1digit.f (k : Nat) (a0 : Int) : Option (Int) := if a0 ≥ 48 then (spec_l1digit.j0 k a0 (decide (a0 ≤ 57))) else (spec_l1digit.j0 k a0 false)
theorem spec_l1digit.mono_l : ∀ k, (∀ y0 y1, LeO (spec_l1digit.j0 k y0 y1) (spec_l1digit.j0 (k + 1) y0 y1)) ∧ (∀ y0 y1, LeO (spec_l1digit.j1 k y0 y1) (spec_l1digit.j1 (k + 1) y0 y1))
 | 0 => ⟨fun _ _ r h => by simp [spec_l1digit.j0] at h, fun _ _ r h => by simp [spec_l1digit.j1] at h⟩
 | k + 1 => by
  obtain ⟨ih0, ih1⟩ := spec_l1digit.mono_l k; refine ⟨?_, ?_⟩
  ·intro y0 y1; unfold spec_l1digit.j0; exact zm
  ·intro y0 y1; unfold spec_l1digit.j1; exact zm
theorem spec_l1digit.mono : ∀ a0 k, LeO (spec_l1digit.f k a0) (spec_l1digit.f (k + 1) a0) := by
 intro a0 k; obtain ⟨ih0, ih1⟩ := spec_l1digit.mono_l k; unfold spec_l1digit.f; exact zm
set_option maxHeartbeats 8000000 in
set_option maxRecDepth 100000 in
theorem spec_l1digit.calls (k : Nat) (a0 : Int) (r : Int) (w : World) (h : spec_l1digit.f k a0 = some r) :
  Calls Tryd.prog 21 #[.int .u8 a0] w fun e w' => e = .returned (.int .i64 r) ∧ Drawn0 w w' := by
 have H : (if a0 ≥ 48 then (spec_l1digit.j0 k a0 (decide (a0 ≤ 57))) else (spec_l1digit.j0 k a0 false)) = some r := h; clear h; have HC2 := zA H; clear H; go_enter Tryd.func21, Tryd.ntmps21
 go_upto_region 1 with (fail)
 go_cut [8] (fun v8 wc => ∃ (kq : Nat) (Bb : Bool), v8 = .bool Bb ∧ Aside0 (spec_l1digit.j0 kq a0 Bb = some r) ∧ Aside0 (kq ≤ k) ∧ Drawn0 w wc)
 case first =>
  have H := HC2.out; clear HC2
  by_cases c3 : a0 ≥ 48
  ·rw [if_pos c3] at H; have c3b0 : decide (48 ≤ a0) = true := decide_eq_true c3; clear c3
   (first | rw [c3b0] | (simp only [i64_w, i32_w]; rw [c3b0]) | skip)
   have H' := zA H; clear H; go_wp2; go_meet
   case rel => exact ⟨_, (decide (a0 ≤ 57)), zr, H', ⟨by first | omega | exact Nat.le_refl _⟩, by repeat (first | exact Drawn0.refl _ | apply Drawn0.step)⟩
  ·rw [if_neg c3] at H; have c3b0 : decide (48 ≤ a0) = false := decide_eq_false c3; clear c3
   (first | rw [c3b0] | (simp only [i64_w, i32_w]; rw [c3b0]) | skip)
   have H' := zA H; clear H; go_wp2; go_meet
   case rel => exact ⟨_, (false), zr, H', ⟨by first | omega | exact Nat.le_refl _⟩, by repeat (first | exact Drawn0.refl _ | apply Drawn0.step)⟩
 case rest =>
  clear HC2; (try clear c2); (try clear c3); (try clear c3b0); obtain ⟨kq, Bb, rfl, HA, HJ1, ⟨mc1, rfl⟩⟩ := hcut; cases kq with
  | zero => exact absurd HA.out (by simp [spec_l1digit.j0])
  | succ kj1 =>
   have H := HA.out; clear HA; simp only [spec_l1digit.j0] at H
   by_cases c4 : Bb = true
   ·subst c4; rw [if_pos rfl] at H; (try dsimp only at H); obtain rfl := Option.some.inj H; go_wp2; go_ret; exact ⟨by first | rfl | (simp; done) | (simp [*]; done), by repeat (first | exact Drawn0.refl _ | apply Drawn0.step)⟩
   ·replace c4 := Bool.eq_false_iff.mpr c4; subst c4; rw [if_neg (show ¬ (false = true) by decide)] at H; (try dsimp only at H); have HC5 := zA H; clear H
    go_upto_region 3 with (fail)
    go_cut [17] (fun v17 wc => ∃ (kq : Nat) (Ba : Bool), v17 = .bool Ba ∧ Aside0 (spec_l1digit.j1 kq a0 Ba = some r) ∧ Aside0 (kq ≤ kj1) ∧ Drawn0 w wc)
    case first =>
     have H := HC5.out; clear HC5
     by_cases c6 : a0 ≥ 97
     ·rw [if_pos c6] at H; have c6b0 : decide (97 ≤ a0) = true := decide_eq_true c6; clear c6
      (first | rw [c6b0] | (simp only [i64_w, i32_w]; rw [c6b0]) | skip)
      have H' := zA H; clear H; go_wp2; go_meet
      case rel => exact ⟨_, (decide (a0 ≤ 102)), zr, H', ⟨by have := HJ1.out; first | omega | exact Nat.le_refl _⟩, by repeat (first | exact Drawn0.refl _ | apply Drawn0.step)⟩
     ·rw [if_neg c6] at H; have c6b0 : decide (97 ≤ a0) = false := decide_eq_false c6; clear c6
      (first | rw [c6b0] | (simp only [i64_w, i32_w]; rw [c6b0]) | skip)
      have H' := zA H; clear H; go_wp2; go_meet
      case rel => exact ⟨_, (false), zr, H', ⟨by have := HJ1.out; first | omega | exact Nat.le_refl _⟩, by repeat (first | exact Drawn0.refl _ | apply Drawn0.step)⟩
    case rest =>
     clear HC5; (try clear c1); (try clear c3); (try clear c3b0); (try clear c4); (try clear c6); (try clear c6b0); obtain ⟨kq, Ba, rfl, HA, HJ4, ⟨mc4, rfl⟩⟩ := hcut; cases kq with
     | zero => exact absurd HA.out (by simp [spec_l1digit.j1])
     | succ kj4 =>
      have H := HA.out; clear HA; simp only [spec_l1digit.j1] at H
      by_cases c7 : Ba = true
      ·subst c7; rw [if_pos rfl] at H; (try dsimp only at H); obtain rfl := Option.some.inj H; go_wp2; go_ret; exact ⟨by first | rfl | (simp; done) | (simp [*]; done), by repeat (first | exact Drawn0.refl _ | apply Drawn0.step)⟩
      ·replace c7 := Bool.eq_false_iff.mpr c7; subst c7; rw [if_neg (show ¬ (false = true) by decide)] at H; (try dsimp only at H)
       by_cases c8 : a0 ≥ 65
       ·rw [if_pos c8] at H; have c8b0 : decide (65 ≤ a0) = true := decide_eq_true c8; clear c8
        by_cases c9 : a0 ≤ 70
        ·rw [if_pos c9] at H; have c9b0 := decide_eq_true c9; clear c9; obtain rfl := Option.some.inj H; go_wp2; go_ret; exact ⟨by first | rfl | (simp; done) | (simp [*]; done), by repeat (first | exact Drawn0.refl _ | apply Drawn0.step)⟩
        ·rw [if_neg c9] at H; have c9b0 := decide_eq_false c9; clear c9; obtain rfl := Option.some.inj H; go_wp2; go_ret; exact ⟨by first | rfl | (simp; done) | (simp [*]; done), by repeat (first | exact Drawn0.refl _ | apply Drawn0.step)⟩
       ·rw [if_neg c8] at H; have c8b0 : decide (65 ≤ a0) = false := decide_eq_false c8; clear c8; obtain rfl := Option.some.inj H; go_wp2; go_ret; exact ⟨by first | rfl | (simp; done) | (simp [*]; done), by repeat (first | exact Drawn0.refl _ | apply Drawn0.step)⟩

end Go.Proofs.YtbnpkiokpnmphaaDoor.PFnExactUnquoteText
