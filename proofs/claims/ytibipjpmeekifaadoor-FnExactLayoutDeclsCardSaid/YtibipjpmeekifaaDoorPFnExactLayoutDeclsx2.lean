-- made by wip/tools/myprint.py (this session's own program, over the kit's printer)
import Derived.Test.YtibipjpmeekifaaDoorPFnExactLayoutDeclsx0
import Derived.Test.YtibipjpmeekifaaDoorPFnExactLayoutDeclsx1
namespace Go.Proofs.YtibipjpmeekifaaDoor.PFnExactLayoutDecls
open Go.RowKit Go.Proofs.YtibipjpmeekifaaDoorW.PrintWords Go.Proofs.YtibipjpmeekifaaDoorW.PrintLast Go.Proofs.YtibipjpmeekifaaDoorW.PrintMore
attribute [local go_sem] max2_int min2_int max_two min_two max_three min_three max_four min_four   -- for this text's walks alone
set_option linter.unusedVariables false
set_option linter.unusedSimpArgs false

/-! ### spec_l1char: function 51 -/
mutual
def spec_l1char.j0 : Nat → List Int → Int → Int → Int → Int → Bool → Option (Int × Int)
 | 0, _, _, _, _, _, _ => none
 | k + 1, x0, x1, x6, x7, x8, x24 => if x24 = true then (spec_l1char.j2 k x0 x1 2 (wrap64 (x6 - 192))) else (if x6 ≥ 224 then (spec_l1char.j1 k x0 x1 x6 x7 x8 (decide (x6 < 240))) else (spec_l1char.j1 k x0 x1 x6 x7 x8 false))
def spec_l1char.j2 : Nat → List Int → Int → Int → Int → Option (Int × Int)
 | 0, _, _, _, _ => none
 | k + 1, x0, x1, x7, x8 => if x7 = 0 then (spec_l1char.j3 k x0 x1 x7 x8 true) else (spec_l1char.j3 k x0 x1 x7 x8 (decide ((wrap64 (x1 + x7)) > (x0.length : Int))))
def spec_l1char.j3 : Nat → List Int → Int → Int → Int → Bool → Option (Int × Int)
 | 0, _, _, _, _, _ => none
 | k + 1, x0, x1, x7, x8, x52 => if x52 = true then (some (0, 0)) else (spec_l1char.l0 k x0 x1 x7 x8 1)
def spec_l1char.l0 : Nat → List Int → Int → Int → Int → Int → Option (Int × Int)
 | 0, _, _, _, _, _ => none
 | k + 1, x0, x1, x7, x8, x9 => if x9 < x7 then (if 0 ≤ (wrap64 (x1 + x9)) then (if (wrap64 (x1 + x9)) < (x0.length : Int) then (if (wrap64 (rd x0 (wrap64 (x1 + x9)))) < 128 then (some (0, 0)) else (if (wrap64 (rd x0 (wrap64 (x1 + x9)))) ≥ 192 then (some (0, 0)) else (spec_l1char.l0 k x0 x1 x7 (wrap64 ((wrap64 ((wrap64 (x8 * 64)) + (wrap64 (rd x0 (wrap64 (x1 + x9)))))) - 128)) (wrap64 (x9 + 1))))) else (none)) else (none)) else ((spec_l1point.f x8).bind fun Bl => (if Bl = true then ((spec_l1utf8.f x8).bind fun Bc => (if (Bc.length : Int) = x7 then (some (x7, x8)) else (some (0, 0)))) else (some (0, 0))))
def spec_l1char.j1 : Nat → List Int → Int → Int → Int → Int → Bool → Option (Int × Int)
 | 0, _, _, _, _, _, _ => none
 | k + 1, x0, x1, x6, x7, x8, x32 => if x32 = true then (spec_l1char.j2 k x0 x1 3 (wrap64 (x6 - 224))) else (if x6 ≥ 240 then (if x6 < 248 then (spec_l1char.j2 k x0 x1 4 (wrap64 (x6 - 240))) else (spec_l1char.j2 k x0 x1 x7 x8)) else (spec_l1char.j2 k x0 x1 x7 x8))
end
def spec_l1char.f (k : Nat) (l0 : List Int) (a1 : Int) : Option (Int × Int) := if 0 ≤ a1 then (if a1 < (l0.length : Int) then (if (wrap64 (rd l0 a1)) < 128 then (some (1, wrap64 (rd l0 a1))) else (if (wrap64 (rd l0 a1)) ≥ 192 then (spec_l1char.j0 k l0 a1 (wrap64 (rd l0 a1)) 0 0 (decide ((wrap64 (rd l0 a1)) < 224))) else (spec_l1char.j0 k l0 a1 (wrap64 (rd l0 a1)) 0 0 false))) else (none)) else (none)
theorem spec_l1char.mono_l : ∀ k, (∀ y0 y1 y2 y3 y4 y5, LeO (spec_l1char.j0 k y0 y1 y2 y3 y4 y5) (spec_l1char.j0 (k + 1) y0 y1 y2 y3 y4 y5)) ∧ (∀ y0 y1 y2 y3, LeO (spec_l1char.j2 k y0 y1 y2 y3) (spec_l1char.j2 (k + 1) y0 y1 y2 y3)) ∧ (∀ y0 y1 y2 y3 y4, LeO (spec_l1char.j3 k y0 y1 y2 y3 y4) (spec_l1char.j3 (k + 1) y0 y1 y2 y3 y4)) ∧ (∀ y0 y1 y2 y3 y4, LeO (spec_l1char.l0 k y0 y1 y2 y3 y4) (spec_l1char.l0 (k + 1) y0 y1 y2 y3 y4)) ∧ (∀ y0 y1 y2 y3 y4 y5, LeO (spec_l1char.j1 k y0 y1 y2 y3 y4 y5) (spec_l1char.j1 (k + 1) y0 y1 y2 y3 y4 y5))
 | 0 => ⟨fun _ _ _ _ _ _ r h => by simp [spec_l1char.j0] at h, fun _ _ _ _ r h => by simp [spec_l1char.j2] at h, fun _ _ _ _ _ r h => by simp [spec_l1char.j3] at h, fun _ _ _ _ _ r h => by simp [spec_l1char.l0] at h, fun _ _ _ _ _ _ r h => by simp [spec_l1char.j1] at h⟩
 | k + 1 => by
  obtain ⟨ih0, ih1, ih2, ih3, ih4⟩ := spec_l1char.mono_l k; refine ⟨?_, ?_, ?_, ?_, ?_⟩
  ·intro y0 y1 y2 y3 y4 y5; unfold spec_l1char.j0; exact zm
  ·intro y0 y1 y2 y3; unfold spec_l1char.j2; exact zm
  ·intro y0 y1 y2 y3 y4; unfold spec_l1char.j3; exact zm
  ·intro y0 y1 y2 y3 y4; unfold spec_l1char.l0; exact zm
  ·intro y0 y1 y2 y3 y4 y5; unfold spec_l1char.j1; exact zm
theorem spec_l1char.mono : ∀ a0 a1 k, LeO (spec_l1char.f k a0 a1) (spec_l1char.f (k + 1) a0 a1) := by
 intro a0 a1 k; obtain ⟨ih0, ih1, ih2, ih3, ih4⟩ := spec_l1char.mono_l k; unfold spec_l1char.f; exact zm
set_option maxHeartbeats 8000000 in
set_option maxRecDepth 100000 in
theorem spec_l1char.calls (k : Nat) (A0 : Option Addr) (c0 : Nat) (l0 : List Int) (a1 : Int) (r1 : Int) (r2 : Int) (w : World) (hr0 : Kd.C (Kd.int .u8) w A0 l0.length l0) (hc0 : l0.length ≤ c0) (h : spec_l1char.f k l0 a1 = some (r1, r2)) :
  Calls Tryd.prog 51 #[.slice A0 l0.length c0, .int .i64 a1] w fun e w' => e = .returned (.tuple #[.int .i64 r1, .int .i64 r2]) ∧ Below w.heap.size w w' := by
 have HR0 := zA hr0; have HC0 := zA hc0; clear hr0 hc0; have HB := zA (Below.refl w.heap.size w); have H : (if 0 ≤ a1 then (if a1 < (l0.length : Int) then (if (wrap64 (rd l0 a1)) < 128 then (some (1, wrap64 (rd l0 a1))) else (if (wrap64 (rd l0 a1)) ≥ 192 then (spec_l1char.j0 k l0 a1 (wrap64 (rd l0 a1)) 0 0 (decide ((wrap64 (rd l0 a1)) < 224))) else (spec_l1char.j0 k l0 a1 (wrap64 (rd l0 a1)) 0 0 false))) else (none)) else (none)) = some (r1, r2) := h; clear h
 by_cases c3 : 0 ≤ a1
 ·rw [if_pos c3] at H; have c3b0 := decide_eq_true c3; clear c3
  by_cases c4 : a1 < (l0.length : Int)
  ·rw [if_pos c4] at H; have c4b0 := decide_eq_true c4; clear c4
   by_cases c5 : (wrap64 (rd l0 a1)) < 128
   ·rw [if_pos c5] at H; have c5b0 := decide_eq_true c5; clear c5; simp only [Option.some.injEq, Prod.mk.injEq] at H; obtain ⟨rfl, rfl⟩ := H; have p124 : 0 ≤ (a1 : Int) := zd; have q124 : a1 < (l0.length : Int) := zd; obtain ⟨Bg, e124, haa⟩ := Kd.at_int HR0.out a1 p124 q124; cases e124; replace p124 := eq_true p124; replace q124 := eq_true q124; go_enter Tryd.func51, Tryd.ntmps51; go_wp2; go_ret2; exact ⟨ze, z_⟩
   ·rw [if_neg c5] at H; have c5b0 := decide_eq_false c5; clear c5; have HC6 := zA H; clear H; have p124 : 0 ≤ (a1 : Int) := zd; have q124 : a1 < (l0.length : Int) := zd; obtain ⟨Bg, e124, haa⟩ := Kd.at_int HR0.out a1 p124 q124; cases e124; replace p124 := eq_true p124; replace q124 := eq_true q124; go_enter Tryd.func51, Tryd.ntmps51
    go_upto_region 6 with (fail)
    go_cut [24] (fun v24 wc => ∃ (kq : Nat) (Bh : Bool), v24 = .bool Bh ∧ Aside0 (spec_l1char.j0 kq l0 a1 (wrap64 (rd l0 a1)) 0 0 Bh = some (r1, r2)) ∧ Aside0 (kq ≤ k) ∧ Aside0 (Below w.heap.size w wc))
    case first =>
     have H := HC6.out; clear HC6
     by_cases c7 : (wrap64 (rd l0 a1)) ≥ 192
     ·rw [if_pos c7] at H; have c7b0 : decide (192 ≤ (wrap64 (rd l0 a1))) = true := decide_eq_true c7; clear c7
      (first | rw [c7b0] | (simp only [i64_w, i32_w]; rw [c7b0]) | skip)
      have H' := zA H; clear H; go_wp2; go_meet
      case rel => exact ⟨_, (decide ((wrap64 (rd l0 a1)) < 224)), zr, H', ⟨by first | omega | exact Nat.le_refl _⟩, ⟨z_⟩⟩
     ·rw [if_neg c7] at H; have c7b0 : decide (192 ≤ (wrap64 (rd l0 a1))) = false := decide_eq_false c7; clear c7
      (first | rw [c7b0] | (simp only [i64_w, i32_w]; rw [c7b0]) | skip)
      have H' := zA H; clear H; go_wp2; go_meet
      case rel => exact ⟨_, (false), zr, H', ⟨by first | omega | exact Nat.le_refl _⟩, ⟨z_⟩⟩
    case rest =>
     clear HC6; (try clear p1); (try clear c3); (try clear c3b0); (try clear c4); (try clear c4b0); (try clear c5); (try clear c5b0); (try clear c7); (try clear c7b0); (try clear haa); (try clear p124); (try clear q124); obtain ⟨kq, Bh, rfl, HA, HJ5, HB⟩ := hcut; cases kq with
     | zero => exact absurd HA.out (by simp [spec_l1char.j0])
     | succ kj5 =>
      have H := HA.out; clear HA; simp only [spec_l1char.j0] at H; have HC8 := zA H; clear H
      go_upto_if 24 with (fail)
      go_cut [7, 8] (fun v7 v8 wc => ∃ (kq : Nat) (Bb : Int) (Bj : Int), v7 = .int .i64 Bb ∧ v8 = .int .i64 Bj ∧ Aside0 (spec_l1char.j2 kq l0 a1 Bb Bj = some (r1, r2)) ∧ Aside0 (kq ≤ kj5) ∧ Aside0 (Below w.heap.size w wc))
      case first =>
       have H := HC8.out; clear HC8
       by_cases c9 : Bh = true
       ·subst c9; have H1 : (spec_l1char.j2 kj5 l0 a1 2 (wrap64 ((wrap64 (rd l0 a1)) - 192))) = some (r1, r2) := by rw [if_pos rfl] at H; exact H
        clear H; have H := H1; clear H1; have H' := zA H; clear H; go_wp2; go_meet
        case rel => exact ⟨_, (2), (wrap64 ((wrap64 (rd l0 a1)) - 192)), zr, zr, H', ⟨by have := HJ5.out; first | omega | exact Nat.le_refl _⟩, ⟨z_⟩⟩
       ·replace c9 := Bool.eq_false_iff.mpr c9; subst c9; have H1 : (if (wrap64 (rd l0 a1)) ≥ 224 then (spec_l1char.j1 kj5 l0 a1 (wrap64 (rd l0 a1)) 0 0 (decide ((wrap64 (rd l0 a1)) < 240))) else (spec_l1char.j1 kj5 l0 a1 (wrap64 (rd l0 a1)) 0 0 false)) = some (r1, r2) := by rw [if_neg (show ¬ (false = true) by decide)] at H; exact H
        clear H; have H := H1; clear H1; have HC10 := zA H; clear H
        go_upto_region 9 with (fail)
        go_cut [32] (fun v32 wc => ∃ (kq : Nat) (Bi : Bool), v32 = .bool Bi ∧ Aside0 (spec_l1char.j1 kq l0 a1 (wrap64 (rd l0 a1)) 0 0 Bi = some (r1, r2)) ∧ Aside0 (kq ≤ kj5) ∧ Aside0 (Below w.heap.size w wc))
        case first =>
         have H := HC10.out; clear HC10
         by_cases c11 : (wrap64 (rd l0 a1)) ≥ 224
         ·rw [if_pos c11] at H; have c11b0 : decide (224 ≤ (wrap64 (rd l0 a1))) = true := decide_eq_true c11; clear c11
          (first | rw [c11b0] | (simp only [i64_w, i32_w]; rw [c11b0]) | skip)
          have H' := zA H; clear H; go_wp2; go_meet
          case rel => exact ⟨_, (decide ((wrap64 (rd l0 a1)) < 240)), zr, H', ⟨by have := HJ5.out; first | omega | exact Nat.le_refl _⟩, ⟨z_⟩⟩
         ·rw [if_neg c11] at H; have c11b0 : decide (224 ≤ (wrap64 (rd l0 a1))) = false := decide_eq_false c11; clear c11
          (first | rw [c11b0] | (simp only [i64_w, i32_w]; rw [c11b0]) | skip)
          have H' := zA H; clear H; go_wp2; go_meet
          case rel => exact ⟨_, (false), zr, H', ⟨by have := HJ5.out; first | omega | exact Nat.le_refl _⟩, ⟨z_⟩⟩
        case rest =>
         clear HC10; (try clear c1); (try clear c3); (try clear c3b0); (try clear c4); (try clear c4b0); (try clear c5); (try clear c5b0); (try clear c7); (try clear c7b0); (try clear c9); (try clear c11); (try clear c11b0); (try clear haa); (try clear p124); (try clear q124); obtain ⟨kq, Bi, rfl, HA, HJ9, HB⟩ := hcut; cases kq with
         | zero => exact absurd HA.out (by simp [spec_l1char.j1])
         | succ kj9 =>
          have H := HA.out; clear HA; simp only [spec_l1char.j1] at H
          by_cases c12 : Bi = true
          ·subst c12; have H1 : (spec_l1char.j2 kj9 l0 a1 3 (wrap64 ((wrap64 (rd l0 a1)) - 224))) = some (r1, r2) := by rw [if_pos rfl] at H; exact H
           clear H; have H := H1; clear H1; have H' := zA H; clear H; go_wp2; go_meet
           case rel => exact ⟨_, (3), (wrap64 ((wrap64 (rd l0 a1)) - 224)), zr, zr, H', ⟨by have := HJ5.out; have := HJ9.out; first | omega | exact Nat.le_refl _⟩, ⟨z_⟩⟩
          ·replace c12 := Bool.eq_false_iff.mpr c12; subst c12; have H1 : (if (wrap64 (rd l0 a1)) ≥ 240 then (if (wrap64 (rd l0 a1)) < 248 then (spec_l1char.j2 kj9 l0 a1 4 (wrap64 ((wrap64 (rd l0 a1)) - 240))) else (spec_l1char.j2 kj9 l0 a1 0 0)) else (spec_l1char.j2 kj9 l0 a1 0 0)) = some (r1, r2) := by rw [if_neg (show ¬ (false = true) by decide)] at H; exact H
           clear H; have H := H1; clear H1
           by_cases c13 : (wrap64 (rd l0 a1)) ≥ 240
           ·rw [if_pos c13] at H; have c13b0 : decide (240 ≤ (wrap64 (rd l0 a1))) = true := decide_eq_true c13; clear c13
            by_cases c14 : (wrap64 (rd l0 a1)) < 248
            ·rw [if_pos c14] at H; have c14b0 := decide_eq_true c14; clear c14; have H' := zA H; clear H; go_wp2; go_meet
             case rel => exact ⟨_, (4), (wrap64 ((wrap64 (rd l0 a1)) - 240)), zr, zr, H', ⟨by have := HJ5.out; have := HJ9.out; first | omega | exact Nat.le_refl _⟩, ⟨z_⟩⟩
            ·rw [if_neg c14] at H; have c14b0 := decide_eq_false c14; clear c14; have H' := zA H; clear H; go_wp2; go_meet
             case rel => exact ⟨_, (0), (0), zr, zr, H', ⟨by have := HJ5.out; have := HJ9.out; first | omega | exact Nat.le_refl _⟩, ⟨z_⟩⟩
           ·rw [if_neg c13] at H; have c13b0 : decide (240 ≤ (wrap64 (rd l0 a1))) = false := decide_eq_false c13; clear c13; have H' := zA H; clear H; go_wp2; go_meet
            case rel => exact ⟨_, (0), (0), zr, zr, H', ⟨by have := HJ5.out; have := HJ9.out; first | omega | exact Nat.le_refl _⟩, ⟨z_⟩⟩
      case rest =>
       clear HC8; (try clear c1); (try clear c3); (try clear c3b0); (try clear c4); (try clear c4b0); (try clear c5); (try clear c5b0); (try clear c7); (try clear c7b0); (try clear c9); (try clear c11); (try clear c11b0); (try clear c12); (try clear c13); (try clear c13b0); (try clear c14); (try clear c14b0); (try clear haa); (try clear p124); (try clear q124); obtain ⟨kq, Bb, Bj, rfl, rfl, HA, HJ7, HB⟩ := hcut; cases kq with
       | zero => exact absurd HA.out (by simp [spec_l1char.j2])
       | succ kj7 =>
        have H := HA.out; clear HA; simp only [spec_l1char.j2] at H; have HC15 := zA H; clear H
        go_upto_region 15 with (fail)
        go_cut [52] (fun v52 wc => ∃ (kq : Nat) (Bd : Bool), v52 = .bool Bd ∧ Aside0 (spec_l1char.j3 kq l0 a1 Bb Bj Bd = some (r1, r2)) ∧ Aside0 (kq ≤ kj7) ∧ Aside0 (Below w.heap.size w wc))
        case first =>
         have H := HC15.out; clear HC15
         by_cases c16 : Bb = 0
         ·rw [if_pos c16] at H; have c16b0 := beq_iff_eq.mpr c16; have c16b1 := bne_eq_false_iff_eq.mpr c16; clear c16
          (first | rw [c16b0] | (simp only [i64_w, i32_w]; rw [c16b0]) | skip)
          have H' := zA H; clear H; go_wp2; go_meet
          case rel => exact ⟨_, (true), zr, H', ⟨by have := HJ5.out; have := HJ7.out; first | omega | exact Nat.le_refl _⟩, ⟨z_⟩⟩
         ·rw [if_neg c16] at H; have c16b0 := beq_eq_false_iff_ne.mpr c16; have c16b1 := bne_iff_ne.mpr c16
          (first | rw [c16b0] | (simp only [i64_w, i32_w]; rw [c16b0]) | skip)
          have H' := zA H; clear H; go_wp2; go_meet
          case rel => exact ⟨_, (decide ((wrap64 (a1 + Bb)) > (l0.length : Int))), zr, H', ⟨by have := HJ5.out; have := HJ7.out; first | omega | exact Nat.le_refl _⟩, ⟨z_⟩⟩
        case rest =>
         clear HC15; (try clear c1); (try clear c3); (try clear c3b0); (try clear c4); (try clear c4b0); (try clear c5); (try clear c5b0); (try clear c7); (try clear c7b0); (try clear c9); (try clear c11); (try clear c11b0); (try clear c12); (try clear c13); (try clear c13b0); (try clear c14); (try clear c14b0); (try clear c16); (try clear c16b0); (try clear c16b1); (try clear haa); (try clear p124); (try clear q124); obtain ⟨kq, Bd, rfl, HA, HJ14, HB⟩ := hcut; cases kq with
         | zero => exact absurd HA.out (by simp [spec_l1char.j3])
         | succ kj14 =>
          have H := HA.out; clear HA; simp only [spec_l1char.j3] at H
          by_cases c17 : Bd = true
          ·subst c17; have H1 : (some (0, 0)) = some (r1, r2) := by rw [if_pos rfl] at H; exact H
           clear H; have H := H1; clear H1; simp only [Option.some.injEq, Prod.mk.injEq] at H; obtain ⟨rfl, rfl⟩ := H; go_wp2; go_ret2; exact ⟨ze, z_⟩
          ·replace c17 := Bool.eq_false_iff.mpr c17; subst c17; have H1 : (spec_l1char.l0 kj14 l0 a1 Bb Bj 1) = some (r1, r2) := by rw [if_neg (show ¬ (false = true) by decide)] at H; exact H
           clear H; have H := H1; clear H1; have H' := zA H; clear H; go_wp2
           go_loopg [8, 9] kj14 (fun kq v8 v9 w' => ∃ (Ba : Int) (Bf : Int), v8 = .int .i64 Ba ∧ v9 = .int .i64 Bf ∧ Aside0 (spec_l1char.l0 kq l0 a1 Bb Ba Bf = some (r1, r2)) ∧ Aside0 (kq ≤ kj14) ∧ Aside0 (Below w.heap.size w w'))
           case atStart => exact ⟨(Bj), (1), zr, zr, H', ⟨Nat.le_refl _⟩, ⟨z_⟩⟩
           case round =>
            clear H'; (try clear c1); (try clear c3); (try clear c3b0); (try clear c4); (try clear c4b0); (try clear c5); (try clear c5b0); (try clear c7); (try clear c7b0); (try clear c9); (try clear c11); (try clear c11b0); (try clear c12); (try clear c13); (try clear c13b0); (try clear c14); (try clear c14b0); (try clear c16); (try clear c16b0); (try clear c16b1); (try clear c17); (try clear haa); (try clear p124); (try clear q124); obtain ⟨Ba, Bf, rfl, rfl, HA, HK4, HB⟩ := hrel; cases gk with
            | zero => exact absurd HA.out (by simp [spec_l1char.l0])
            | succ k4 =>
             have H := HA.out; clear HA; simp only [spec_l1char.l0] at H
             by_cases c18 : Bf < Bb
             ·rw [if_pos c18] at H; have c18b0 := decide_eq_true c18; clear c18; obtain ⟨ji19, hji19⟩ : ∃ j_ : Int, (wrap64 (a1 + Bf)) = j_ := ⟨_, rfl⟩; replace H : (if 0 ≤ (ji19) then (if (ji19) < (l0.length : Int) then (if (wrap64 (rd l0 (ji19))) < 128 then (some (0, 0)) else (if (wrap64 (rd l0 (ji19))) ≥ 192 then (some (0, 0)) else (spec_l1char.l0 k4 l0 a1 Bb (wrap64 ((wrap64 ((wrap64 (Ba * 64)) + (wrap64 (rd l0 (ji19))))) - 128)) (wrap64 (Bf + 1))))) else (none)) else (none)) = some (r1, r2) := by first | (rw [hji19] at H; exact H) | (simp only [hji19] at H ⊢; exact H)
              have hji19w : (IntKind.i64.wrap (a1 + Bf)) = ji19 := (i64_w _).trans hji19
              by_cases c20 : 0 ≤ (ji19)
              ·rw [if_pos c20] at H; have c20b0 := decide_eq_true c20; clear c20
               by_cases c21 : (ji19) < (l0.length : Int)
               ·rw [if_pos c21] at H; have c21b0 := decide_eq_true c21; clear c21
                by_cases c22 : (wrap64 (rd l0 (ji19))) < 128
                ·rw [if_pos c22] at H; have c22b0 := decide_eq_true c22; clear c22; simp only [Option.some.injEq, Prod.mk.injEq] at H; obtain ⟨rfl, rfl⟩ := H; have p125 : 0 ≤ ((ji19) : Int) := zd; have q125 : (ji19) < (l0.length : Int) := zd; obtain ⟨Be, e125, hab⟩ := Kd.at_int HR0.out (ji19) p125 q125; obtain rfl : Bg = Be := (by injection e125); replace hab := zx HB.out hab; replace p125 := eq_true p125; replace q125 := eq_true q125; go_wp2; go_ret2; exact ⟨by first | rfl | (simp [errW_none, errW_some] <;> rfl) | (simp only [← hji19]; first | rfl | (simp [errW_none, errW_some] <;> rfl)) | (simp [*, errW_none, errW_some] <;> rfl), z_⟩
                ·rw [if_neg c22] at H; have c22b0 := decide_eq_false c22; clear c22
                 by_cases c23 : (wrap64 (rd l0 (ji19))) ≥ 192
                 ·rw [if_pos c23] at H; have c23b0 : decide (192 ≤ (wrap64 (rd l0 (ji19)))) = true := decide_eq_true c23; clear c23; simp only [Option.some.injEq, Prod.mk.injEq] at H; obtain ⟨rfl, rfl⟩ := H; have p125 : 0 ≤ ((ji19) : Int) := zd; have q125 : (ji19) < (l0.length : Int) := zd; obtain ⟨Be, e125, hab⟩ := Kd.at_int HR0.out (ji19) p125 q125; obtain rfl : Bg = Be := (by injection e125); replace hab := zx HB.out hab; replace p125 := eq_true p125; replace q125 := eq_true q125; go_wp2; go_ret2; exact ⟨by first | rfl | (simp [errW_none, errW_some] <;> rfl) | (simp only [← hji19]; first | rfl | (simp [errW_none, errW_some] <;> rfl)) | (simp [*, errW_none, errW_some] <;> rfl), z_⟩
                 ·rw [if_neg c23] at H; have c23b0 : decide (192 ≤ (wrap64 (rd l0 (ji19)))) = false := decide_eq_false c23; clear c23; have H' := zA H; clear H; have p125 : 0 ≤ ((ji19) : Int) := zd; have q125 : (ji19) < (l0.length : Int) := zd; obtain ⟨Be, e125, hab⟩ := Kd.at_int HR0.out (ji19) p125 q125; obtain rfl : Bg = Be := (by injection e125); replace hab := zx HB.out hab; replace p125 := eq_true p125; replace q125 := eq_true q125; go_wp2; go_roundg k4
                  case measure => have := HJ5.out; have := HJ7.out; have := HJ14.out; have := HK4.out; omega
                  case rel => exact ⟨(wrap64 ((wrap64 ((wrap64 (Ba * 64)) + (wrap64 (rd l0 (ji19))))) - 128)), (wrap64 (Bf + 1)), (by first | rfl | (simp; done) | (simp only [← hji19] <;> (first | rfl | simp)) | (simp [*]; done)), zr, H', ⟨by have := HJ5.out; have := HJ7.out; have := HJ14.out; have := HK4.out; omega⟩, ⟨z_⟩⟩
               ·rw [if_neg c21] at H; exact absurd H (by simp)
              ·rw [if_neg c20] at H; exact absurd H (by simp)
             ·rw [if_neg c18] at H; have c18b0 := decide_eq_false c18; clear c18; replace H := Option.bind_eq_some_iff.mp H; obtain ⟨Bl, A240, H⟩ := H; replace H : (if Bl = true then ((spec_l1utf8.f Ba).bind fun Bc => (if (Bc.length : Int) = Bb then (some (Bb, Ba)) else (some (0, 0)))) else (some (0, 0))) = some (r1, r2) := H; have A24 := zA A240; clear A240
              by_cases c25 : Bl = true
              ·subst c25; have H1 : ((spec_l1utf8.f Ba).bind fun Bc => (if (Bc.length : Int) = Bb then (some (Bb, Ba)) else (some (0, 0)))) = some (r1, r2) := by rw [if_pos rfl] at H; exact H
               clear H; have H := H1; clear H1; replace H := Option.bind_eq_some_iff.mp H; obtain ⟨Bc, A260, H⟩ := H; replace H : (if (Bc.length : Int) = Bb then (some (Bb, Ba)) else (some (0, 0))) = some (r1, r2) := H; have A26 := zA A260; clear A260
               by_cases c27 : (Bc.length : Int) = Bb
               ·rw [if_pos c27] at H; have c27b0 := beq_iff_eq.mpr c27; have c27b1 := bne_eq_false_iff_eq.mpr c27; clear c27; simp only [Option.some.injEq, Prod.mk.injEq] at H; obtain ⟨rfl, rfl⟩ := H; go_wp2_with (first | ((with_reducible refine gate_callee (f := 53) rfl ?_); refine goesL_ (some 77) rfl rfl Tryd.func53 (by kernel_rfl) rfl #[.int .i64 Ba] rfl za ?_; (with_reducible refine (spec_l1point.calls Ba true _ A24.out).mono ?_); rintro e w' ⟨rfl, ⟨nd, rfl⟩⟩; refine ⟨_, rfl, ?_⟩) | (go_at_call 54; (with_reducible refine (spec_l1utf8.calls Ba Bc _ A26.out).mono ?_); rintro e w28 ⟨v128, rfl, ho0, hb⟩; have Bk := zA (Kd.R_lower ho0 (below_size z_)); replace HB := zA (below_step z_ hb); (try clear hb); (try clear ho0); obtain ⟨Bo, Bq, Bm⟩ := Kd.R_slice Bk.out; subst Bm)); go_ret2; exact ⟨ze, z_⟩
               ·rw [if_neg c27] at H; have c27b0 := beq_eq_false_iff_ne.mpr c27; have c27b1 := bne_iff_ne.mpr c27; simp only [Option.some.injEq, Prod.mk.injEq] at H; obtain ⟨rfl, rfl⟩ := H; go_wp2_with (first | ((with_reducible refine gate_callee (f := 53) rfl ?_); refine goesL_ (some 77) rfl rfl Tryd.func53 (by kernel_rfl) rfl #[.int .i64 Ba] rfl za ?_; (with_reducible refine (spec_l1point.calls Ba true _ A24.out).mono ?_); rintro e w' ⟨rfl, ⟨nd, rfl⟩⟩; refine ⟨_, rfl, ?_⟩) | (go_at_call 54; (with_reducible refine (spec_l1utf8.calls Ba Bc _ A26.out).mono ?_); rintro e w30 ⟨v128, rfl, ho0, hb⟩; have Bk := zA (Kd.R_lower ho0 (below_size z_)); replace HB := zA (below_step z_ hb); (try clear hb); (try clear ho0); obtain ⟨Bp, Br, Bn⟩ := Kd.R_slice Bk.out; subst Bn)); go_ret2; exact ⟨ze, z_⟩
              ·replace c25 := Bool.eq_false_iff.mpr c25; subst c25; have H1 : (some (0, 0)) = some (r1, r2) := by rw [if_neg (show ¬ (false = true) by decide)] at H; exact H
               clear H; have H := H1; clear H1; simp only [Option.some.injEq, Prod.mk.injEq] at H; obtain ⟨rfl, rfl⟩ := H; go_wp2_with (first | ((with_reducible refine gate_callee (f := 53) rfl ?_); refine goesL_ (some 77) rfl rfl Tryd.func53 (by kernel_rfl) rfl #[.int .i64 Ba] rfl za ?_; (with_reducible refine (spec_l1point.calls Ba false _ A24.out).mono ?_); rintro e w' ⟨rfl, ⟨nd, rfl⟩⟩; refine ⟨_, rfl, ?_⟩)); go_ret2; exact ⟨ze, z_⟩
  ·rw [if_neg c4] at H; exact absurd H (by simp)
 ·rw [if_neg c3] at H; exact absurd H (by simp)

/-! ### spec_CheckText: function 48 -/
def spec_CheckText.l0 : Nat → List Int → Int → Option (Int × Int)
 | 0, _, _ => none
 | k + 1, x0, x4 => if x4 < (x0.length : Int) then ((spec_l1char.f k x0 x4).bind fun bt130 => (if bt130.1 = 0 then (some (2, x4)) else (spec_CheckText.l0 k x0 (wrap64 (x4 + bt130.1))))) else (some (0, 0))
def spec_CheckText.f (k : Nat) (l0 : List Int) : Option (Int × Int) := spec_CheckText.l0 k l0 0
theorem spec_CheckText.mono_l : ∀ k, (∀ y0 y1, LeO (spec_CheckText.l0 k y0 y1) (spec_CheckText.l0 (k + 1) y0 y1))
 | 0 => fun _ _ r h => by simp [spec_CheckText.l0] at h
 | k + 1 => by
  have ih0 := spec_CheckText.mono_l k
  ·intro y0 y1; unfold spec_CheckText.l0; have m1 := @spec_l1char.mono; exact zm
theorem spec_CheckText.mono : ∀ a0 k, LeO (spec_CheckText.f k a0) (spec_CheckText.f (k + 1) a0) := by
 intro a0 k; have ih0 := spec_CheckText.mono_l k; unfold spec_CheckText.f; have m1 := @spec_l1char.mono; exact zm
set_option maxHeartbeats 8000000 in
set_option maxRecDepth 100000 in
theorem spec_CheckText.calls (k : Nat) (A0 : Option Addr) (c0 : Nat) (l0 : List Int) (r1 : Int) (r2 : Int) (w : World) (hr0 : Kd.C (Kd.int .u8) w A0 l0.length l0) (hc0 : l0.length ≤ c0) (h : spec_CheckText.f k l0 = some (r1, r2)) :
  Calls Tryd.prog 48 #[.slice A0 l0.length c0] w fun e w' => e = .returned (.tuple #[.int .i64 r1, .int .i64 r2]) ∧ Below w.heap.size w w' := by
 have HR0 := zA hr0; have HC0 := zA hc0; clear hr0 hc0; have HB := zA (Below.refl w.heap.size w); have H : (spec_CheckText.l0 k l0 0) = some (r1, r2) := h; clear h; have H' := zA H; clear H; go_enter Tryd.func48, Tryd.ntmps48; go_wp2
 go_loopg [4] k (fun kq v4 w' => ∃ (Ba : Int), v4 = .int .i64 Ba ∧ Aside0 (spec_CheckText.l0 kq l0 Ba = some (r1, r2)) ∧ Aside0 (kq ≤ k) ∧ Aside0 (Below w.heap.size w w'))
 case atStart => exact ⟨(0), zr, H', ⟨Nat.le_refl _⟩, ⟨z_⟩⟩
 case round =>
  clear H'; obtain ⟨Ba, rfl, HA, HK1, HB⟩ := hrel; cases gk with
  | zero => exact absurd HA.out (by simp [spec_CheckText.l0])
  | succ k1 =>
   have H := HA.out; clear HA; simp only [spec_CheckText.l0] at H
   by_cases c2 : Ba < (l0.length : Int)
   ·rw [if_pos c2] at H; have c2b0 := decide_eq_true c2; clear c2; replace H := Option.bind_eq_some_iff.mp H; obtain ⟨⟨Bb, Bc⟩, A30, H⟩ := H; replace H : (if Bb = 0 then (some (2, Ba)) else (spec_CheckText.l0 k1 l0 (wrap64 (Ba + Bb)))) = some (r1, r2) := H; have A3 := zA A30; clear A30
    by_cases c4 : Bb = 0
    ·rw [if_pos c4] at H; have c4b0 := beq_iff_eq.mpr c4; have c4b1 := bne_eq_false_iff_eq.mpr c4; clear c4; simp only [Option.some.injEq, Prod.mk.injEq] at H; obtain ⟨rfl, rfl⟩ := H; go_wp2_with (first | ((with_reducible refine gate_callee (f := 51) rfl ?_); refine goesL_ (some 14) rfl rfl Tryd.func51 (by kernel_rfl) rfl #[.slice A0 l0.length c0, .int .i64 Ba] rfl za ?_; (with_reducible refine (spec_l1char.calls k1 _ _ l0 Ba Bb Bc _ ?s1 ?s2 A3.out).mono ?_); (case s1 => exact zc (Kd.C_below HR0.out HB.out)); (case s2 => exact HC0.out); rintro e w5 ⟨rfl, hb⟩; refine ⟨_, rfl, ?_⟩; replace HB := zA (below_step z_ hb); (try clear hb))); go_ret2; exact ⟨ze, z_⟩
    ·rw [if_neg c4] at H; have c4b0 := beq_eq_false_iff_ne.mpr c4; have c4b1 := bne_iff_ne.mpr c4; have H' := zA H; clear H; go_wp2_with (first | ((with_reducible refine gate_callee (f := 51) rfl ?_); refine goesL_ (some 14) rfl rfl Tryd.func51 (by kernel_rfl) rfl #[.slice A0 l0.length c0, .int .i64 Ba] rfl za ?_; (with_reducible refine (spec_l1char.calls k1 _ _ l0 Ba Bb Bc _ ?s1 ?s2 A3.out).mono ?_); (case s1 => exact zc (Kd.C_below HR0.out HB.out)); (case s2 => exact HC0.out); rintro e w6 ⟨rfl, hb⟩; refine ⟨_, rfl, ?_⟩; replace HB := zA (below_step z_ hb); (try clear hb))); go_roundg k1
     case measure => have := HK1.out; omega
     case rel => exact ⟨(wrap64 (Ba + Bb)), zr, H', ⟨by have := HK1.out; omega⟩, ⟨z_⟩⟩
   ·rw [if_neg c2] at H; have c2b0 := decide_eq_false c2; clear c2; simp only [Option.some.injEq, Prod.mk.injEq] at H; obtain ⟨rfl, rfl⟩ := H; go_wp2; go_ret2; exact ⟨ze, z_⟩

/-! ### spec_l1good: function 43 -/
def spec_l1good.f (k : Nat) (l0 : List Int) : Option (Bool) := (spec_CheckText.f k l0).bind fun bt132 => (some (bt132.1 == 0))
theorem spec_l1good.mono : ∀ a0 k, LeO (spec_l1good.f k a0) (spec_l1good.f (k + 1) a0) := by
 intro a0 k; unfold spec_l1good.f; have m1 := @spec_CheckText.mono; exact zm
set_option maxHeartbeats 8000000 in
set_option maxRecDepth 100000 in
theorem spec_l1good.calls (k : Nat) (A0 : Option Addr) (c0 : Nat) (l0 : List Int) (r : Bool) (w : World) (hr0 : Kd.C (Kd.int .u8) w A0 l0.length l0) (hc0 : l0.length ≤ c0) (h : spec_l1good.f k l0 = some r) :
  Calls Tryd.prog 43 #[.slice A0 l0.length c0] w fun e w' => e = .returned (.bool r) ∧ Below w.heap.size w w' := by
 have HR0 := zA hr0; have HC0 := zA hc0; clear hr0 hc0; have HB := zA (Below.refl w.heap.size w); have H : ((spec_CheckText.f k l0).bind fun bt132 => (some (bt132.1 == 0))) = some r := h; clear h; replace H := Option.bind_eq_some_iff.mp H; obtain ⟨⟨Ba, Bb⟩, A20, H⟩ := H; (try dsimp only at H); have A2 := zA A20; clear A20; obtain rfl := Option.some.inj H; go_enter Tryd.func43, Tryd.ntmps43; go_wp2_with (first | ((with_reducible refine gate_callee (f := 48) rfl ?_); refine goesL_ (some 7) rfl rfl Tryd.func48 (by kernel_rfl) rfl #[.slice A0 l0.length c0] rfl za ?_; (with_reducible refine (spec_CheckText.calls k _ _ l0 Ba Bb _ ?s1 ?s2 A2.out).mono ?_); (case s1 => exact zc (HR0.out)); (case s2 => exact HC0.out); rintro e w3 ⟨rfl, hb⟩; refine ⟨_, rfl, ?_⟩; replace HB := zA (below_step z_ hb); (try clear hb))); go_ret; exact ⟨ze, z_⟩

end Go.Proofs.YtibipjpmeekifaaDoor.PFnExactLayoutDecls
