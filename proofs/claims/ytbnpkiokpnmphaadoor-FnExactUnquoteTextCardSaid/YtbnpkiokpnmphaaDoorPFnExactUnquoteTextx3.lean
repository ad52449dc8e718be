-- made by wip/tools/myprint.py (this session's own program, over the kit's printer)
import Derived.Test.YtbnpkiokpnmphaaDoorPFnExactUnquoteTextx0
import Derived.Test.YtbnpkiokpnmphaaDoorPFnExactUnquoteTextx1
import Derived.Test.YtbnpkiokpnmphaaDoorPFnExactUnquoteTextx2
namespace Go.Proofs.YtbnpkiokpnmphaaDoor.PFnExactUnquoteText
open Go.RowKit Go.Proofs.YtbnpkiokpnmphaaDoorW.PrintWords Go.Proofs.YtbnpkiokpnmphaaDoorW.PrintLast Go.Proofs.YtbnpkiokpnmphaaDoorW.PrintMore
attribute [local go_sem] max2_int min2_int max_two min_two max_three min_three max_four min_four   -- for this text's walks alone
set_option linter.unusedVariables false
set_option linter.unusedSimpArgs false

/-! ### spec_l1escape: function 15 -/
mutual
def spec_l1escape.j0 : Nat → List Int → Int → Bool → Option (List Int × Int)
 | 0, _, _, _ => none
 | k + 1, x0, x1, x23 => if x23 = true then (if 0 ≤ x1 then (if x1 < (x0.length : Int) then (some ((([rd x0 x1] : List Int)), 1)) else (none)) else (none)) else (if 0 ≤ x1 then (if x1 < (x0.length : Int) then (if (rd x0 x1) = 117 then (if (wrap64 (x1 + 1)) ≥ (x0.length : Int) then (spec_l1escape.j1 k x0 x1 true) else (if 0 ≤ (wrap64 (x1 + 1)) then (if (wrap64 (x1 + 1)) < (x0.length : Int) then (spec_l1escape.j1 k x0 x1 ((rd x0 (wrap64 (x1 + 1))) != 123)) else (none)) else (none))) else (spec_l1escape.j1 k x0 x1 true)) else (none)) else (none))
def spec_l1escape.j1 : Nat → List Int → Int → Bool → Option (List Int × Int)
 | 0, _, _, _ => none
 | k + 1, x0, x1, x48 => if x48 = true then (some (([] : List Int), 0)) else (spec_l1escape.l0 k x0 x1 0 0)
def spec_l1escape.j3 : Nat → List Int → Int → Int → Int → Option (List Int × Int)
 | 0, _, _, _, _ => none
 | k + 1, x0, x1, x6, x7 => if x7 < 1 then (some (([] : List Int), 0)) else (if x7 > 6 then (some (([] : List Int), 0)) else (if (wrap64 ((wrap64 (x1 + 2)) + x7)) ≥ (x0.length : Int) then (some (([] : List Int), 0)) else (if 0 ≤ (wrap64 ((wrap64 (x1 + 2)) + x7)) then (if (wrap64 ((wrap64 (x1 + 2)) + x7)) < (x0.length : Int) then (if (rd x0 (wrap64 ((wrap64 (x1 + 2)) + x7))) = 125 then ((spec_l1point.f x6).bind fun Bj => (if Bj = true then ((spec_l1utf8.f x6).bind fun Bf => (some (Bf, wrap64 (x7 + 3)))) else (some (([] : List Int), 0)))) else (some (([] : List Int), 0))) else (none)) else (none))))
def spec_l1escape.l0 : Nat → List Int → Int → Int → Int → Option (List Int × Int)
 | 0, _, _, _, _ => none
 | k + 1, x0, x1, x6, x7 => if (wrap64 ((wrap64 (x1 + 2)) + x7)) < (x0.length : Int) then (if x7 < 7 then (if 0 ≤ (wrap64 ((wrap64 (x1 + 2)) + x7)) then ((spec_l1digit.f k (rd x0 (wrap64 ((wrap64 (x1 + 2)) + x7)))).bind fun Be => (if Be ≥ 0 then ((spec_l1digit.f k (rd x0 (wrap64 ((wrap64 (x1 + 2)) + x7)))).bind fun Bg => (spec_l1escape.l0 k x0 x1 (wrap64 ((wrap64 (x6 * 16)) + Bg)) (wrap64 (x7 + 1)))) else (spec_l1escape.j3 k x0 x1 x6 x7))) else (none)) else (spec_l1escape.j3 k x0 x1 x6 x7)) else (spec_l1escape.j3 k x0 x1 x6 x7)
end
def spec_l1escape.f (k : Nat) (l0 : List Int) (a1 : Int) : Option (List Int × Int) := if a1 ≥ (l0.length : Int) then (some (([] : List Int), 0)) else (if 0 ≤ a1 then (if a1 < (l0.length : Int) then (if (rd l0 a1) = 34 then (spec_l1escape.j0 k l0 a1 true) else (spec_l1escape.j0 k l0 a1 ((rd l0 a1) == 92))) else (none)) else (none))
theorem spec_l1escape.mono_l : ∀ k, (∀ y0 y1 y2, LeO (spec_l1escape.j0 k y0 y1 y2) (spec_l1escape.j0 (k + 1) y0 y1 y2)) ∧ (∀ y0 y1 y2, LeO (spec_l1escape.j1 k y0 y1 y2) (spec_l1escape.j1 (k + 1) y0 y1 y2)) ∧ (∀ y0 y1 y2 y3, LeO (spec_l1escape.j3 k y0 y1 y2 y3) (spec_l1escape.j3 (k + 1) y0 y1 y2 y3)) ∧ (∀ y0 y1 y2 y3, LeO (spec_l1escape.l0 k y0 y1 y2 y3) (spec_l1escape.l0 (k + 1) y0 y1 y2 y3))
 | 0 => ⟨fun _ _ _ r h => by simp [spec_l1escape.j0] at h, fun _ _ _ r h => by simp [spec_l1escape.j1] at h, fun _ _ _ _ r h => by simp [spec_l1escape.j3] at h, fun _ _ _ _ r h => by simp [spec_l1escape.l0] at h⟩
 | k + 1 => by
  obtain ⟨ih0, ih1, ih2, ih3⟩ := spec_l1escape.mono_l k; refine ⟨?_, ?_, ?_, ?_⟩
  ·intro y0 y1 y2; unfold spec_l1escape.j0; have m1 := @spec_l1digit.mono; exact zm
  ·intro y0 y1 y2; unfold spec_l1escape.j1; have m1 := @spec_l1digit.mono; exact zm
  ·intro y0 y1 y2 y3; unfold spec_l1escape.j3; have m1 := @spec_l1digit.mono; exact zm
  ·intro y0 y1 y2 y3; unfold spec_l1escape.l0; have m1 := @spec_l1digit.mono; exact zm
theorem spec_l1escape.mono : ∀ a0 a1 k, LeO (spec_l1escape.f k a0 a1) (spec_l1escape.f (k + 1) a0 a1) := by
 intro a0 a1 k; obtain ⟨ih0, ih1, ih2, ih3⟩ := spec_l1escape.mono_l k; unfold spec_l1escape.f; have m1 := @spec_l1digit.mono; exact zm
set_option maxHeartbeats 8000000 in
set_option maxRecDepth 100000 in
theorem spec_l1escape.calls (k : Nat) (A0 : Option Addr) (c0 : Nat) (l0 : List Int) (a1 : Int) (r1 : List Int) (r2 : Int) (w : World) (hr0 : Kd.C (Kd.int .u8) w A0 l0.length l0) (hc0 : l0.length ≤ c0) (h : spec_l1escape.f k l0 a1 = some (r1, r2)) :
  Calls Tryd.prog 15 #[.slice A0 l0.length c0, .int .i64 a1] w fun e w' => ∃ v0_ : Value, e = .returned (.tuple #[v0_, .int .i64 r2]) ∧ Kd.R (Kd.int .u8) 5 w' w.heap.size (fun _ => True) v0_ r1 ∧ Below w.heap.size w w' := by
 have HR0 := zA hr0; have HC0 := zA hc0; clear hr0 hc0; have HB := zA (Below.refl w.heap.size w); have H : (if a1 ≥ (l0.length : Int) then (some (([] : List Int), 0)) else (if 0 ≤ a1 then (if a1 < (l0.length : Int) then (if (rd l0 a1) = 34 then (spec_l1escape.j0 k l0 a1 true) else (spec_l1escape.j0 k l0 a1 ((rd l0 a1) == 92))) else (none)) else (none))) = some (r1, r2) := h; clear h
 by_cases c3 : a1 ≥ (l0.length : Int)
 ·rw [if_pos c3] at H; have c3b0 : decide ((l0.length : Int) ≤ a1) = true := decide_eq_true c3; clear c3; simp only [Option.some.injEq, Prod.mk.injEq] at H; obtain ⟨rfl, rfl⟩ := H; go_enter Tryd.func15, Tryd.ntmps15; go_wp2; go_ret2; exact ⟨_, ze, by first | exact Kd.R_nil _ _ _ _ _ | exact Kd.N_nil _ _ _ _ _ | exact Kd.V_nil _ _ _ _ _ | exact Kd.Q_nil _ _ _ _ _ | exact Kd.S_nil _ _ _ _ _, z_⟩
 ·rw [if_neg c3] at H; have c3b0 : decide ((l0.length : Int) ≤ a1) = false := decide_eq_false c3; clear c3; have HC4 := zA H; clear H; go_enter Tryd.func15, Tryd.ntmps15
  go_upto_region 3 with (fail)
  go_cut [23] (fun v23 wc => ∃ (kq : Nat) (Bi : Bool), v23 = .bool Bi ∧ Aside0 (spec_l1escape.j0 kq l0 a1 Bi = some (r1, r2)) ∧ Aside0 (kq ≤ k) ∧ Aside0 (Below w.heap.size w wc))
  case first =>
   have H := HC4.out; clear HC4
   by_cases c5 : 0 ≤ a1
   ·rw [if_pos c5] at H; have c5b0 := decide_eq_true c5; clear c5
    (first | rw [c5b0] | (simp only [i64_w, i32_w]; rw [c5b0]) | skip)
    by_cases c6 : a1 < (l0.length : Int)
    ·rw [if_pos c6] at H; have c6b0 := decide_eq_true c6; clear c6
     by_cases c7 : (rd l0 a1) = 34
     ·rw [if_pos c7] at H; have c7b0 := beq_iff_eq.mpr c7; have c7b1 := bne_eq_false_iff_eq.mpr c7; clear c7; have H' := zA H; clear H; have p123 : 0 ≤ (a1 : Int) := zd; have q123 : a1 < (l0.length : Int) := zd; obtain ⟨Bl, e123, haa⟩ := Kd.at_int HR0.out a1 p123 q123; cases e123; replace haa := zx HB.out haa; replace p123 := eq_true p123; replace q123 := eq_true q123; go_wp2; go_meet
      case rel => exact ⟨_, (true), zr, H', ⟨by first | omega | exact Nat.le_refl _⟩, ⟨z_⟩⟩
     ·rw [if_neg c7] at H; have c7b0 := beq_eq_false_iff_ne.mpr c7; have c7b1 := bne_iff_ne.mpr c7; have H' := zA H; clear H; have p123 : 0 ≤ (a1 : Int) := zd; have q123 : a1 < (l0.length : Int) := zd; obtain ⟨Bl, e123, haa⟩ := Kd.at_int HR0.out a1 p123 q123; cases e123; replace haa := zx HB.out haa; replace p123 := eq_true p123; replace q123 := eq_true q123; have p124 : 0 ≤ (a1 : Int) := zd; have q124 : a1 < (l0.length : Int) := zd; obtain ⟨Bq, e124, hab⟩ := Kd.at_int HR0.out a1 p124 q124; obtain rfl : Bl = Bq := (by injection e124); replace hab := zx HB.out hab; replace p124 := eq_true p124; replace q124 := eq_true q124; go_wp2; go_meet
      case rel => exact ⟨_, (((rd l0 a1) == 92)), zr, H', ⟨by first | omega | exact Nat.le_refl _⟩, ⟨z_⟩⟩
    ·rw [if_neg c6] at H; exact absurd H (by simp)
   ·rw [if_neg c5] at H; exact absurd H (by simp)
  case rest =>
   clear HC4; (try clear c1); (try clear c3); (try clear c3b0); (try clear c5); (try clear c5b0); (try clear c6); (try clear c6b0); (try clear c7); (try clear c7b0); (try clear c7b1); (try clear haa); (try clear hab); (try clear p123); (try clear p124); (try clear q123); (try clear q124); obtain ⟨kq, Bi, rfl, HA, HJ3, HB⟩ := hcut; cases kq with
   | zero => exact absurd HA.out (by simp [spec_l1escape.j0])
   | succ kj3 =>
    have H := HA.out; clear HA; simp only [spec_l1escape.j0] at H
    by_cases c8 : Bi = true
    ·subst c8; have H1 : (if 0 ≤ a1 then (if a1 < (l0.length : Int) then (some ((([rd l0 a1] : List Int)), 1)) else (none)) else (none)) = some (r1, r2) := by rw [if_pos rfl] at H; exact H
     clear H; have H := H1; clear H1
     by_cases c9 : 0 ≤ a1
     ·rw [if_pos c9] at H; have c9b0 := decide_eq_true c9; clear c9
      by_cases c10 : a1 < (l0.length : Int)
      ·rw [if_pos c10] at H; have c10b0 := decide_eq_true c10; clear c10; obtain ⟨y126, hy126⟩ : ∃ y_ : List Int, y_ = (([rd l0 a1] : List Int)) := ⟨_, rfl⟩; replace H : (some (y126, 1)) = some (r1, r2) := zh hy126; have Ny126 := zA hy126; clear hy126; simp only [Option.some.injEq, Prod.mk.injEq] at H; obtain ⟨rfl, rfl⟩ := H; have p125 := zt (0 ≤ (a1 : Int)); have q125 := zt (a1 < (l0.length : Int)); obtain ⟨Bt, e125, hac⟩ := Kd.at_int HR0.out a1 zd zd; cases e125; replace hac := zx HB.out hac; go_wp2_with (first | ((with_reducible refine gate_dst (N := 28) rfl ?_); (try (refine gate_guard (by rfl) ?_; dsimp only)); refine Kd.R_lit (Kd.int .u8) _ 5 ?hg (N := 28) ?hd (xs := ([rd l0 a1] : List Int)) (inner := [.int .u8 (rd l0 a1)]) (ok := fun _ => True) (okp := fun _ => True) ?hr ?hp (fun _ hk => hk) trivial (Below.refl _ _) (Nat.le_refl _) (by simp) ?_; (case hd => rfl); (case hg => rfl); (case hr => first | (go_simp; done) | (go_simp; rfl)); (case hp => exact (Reps.one (show Kd.M (Kd.int .u8) _ _ _ (rd l0 a1) [.int .u8 (rd l0 a1)] from rfl) (Reps.none _ _))); intro v127 w11 ho12 hb hg_ hnew_; clear hg_ hnew_; (first | rw [← Ny126.out] at ho12 | (simp only [Int.reduceToNat] at ho12; rw [← Ny126.out] at ho12)); have Bo := zA (Kd.R_lower ho12 (below_size z_)); replace HB := zA (below_step z_ hb); clear hb ho12)); go_ret2; exact ⟨_, ze, by (with_reducible repeat (first | apply Kd.R_alloc | apply Kd.R_drewN | apply Kd.R_drew)); exact Bo.out, z_⟩
      ·rw [if_neg c10] at H; exact absurd H (by simp)
     ·rw [if_neg c9] at H; exact absurd H (by simp)
    ·replace c8 := Bool.eq_false_iff.mpr c8; subst c8; have H1 : (if 0 ≤ a1 then (if a1 < (l0.length : Int) then (if (rd l0 a1) = 117 then (if (wrap64 (a1 + 1)) ≥ (l0.length : Int) then (spec_l1escape.j1 kj3 l0 a1 true) else (if 0 ≤ (wrap64 (a1 + 1)) then (if (wrap64 (a1 + 1)) < (l0.length : Int) then (spec_l1escape.j1 kj3 l0 a1 ((rd l0 (wrap64 (a1 + 1))) != 123)) else (none)) else (none))) else (spec_l1escape.j1 kj3 l0 a1 true)) else (none)) else (none)) = some (r1, r2) := by rw [if_neg (show ¬ (false = true) by decide)] at H; exact H
     clear H; have H := H1; clear H1; have HC13 := zA H; clear H
     go_upto_region 5 with (fail)
     go_cut [48] (fun v48 wc => ∃ (kq : Nat) (Bh : Bool), v48 = .bool Bh ∧ Aside0 (spec_l1escape.j1 kq l0 a1 Bh = some (r1, r2)) ∧ Aside0 (kq ≤ kj3) ∧ Aside0 (Below w.heap.size w wc))
     case first =>
      have H := HC13.out; clear HC13
      by_cases c14 : 0 ≤ a1
      ·rw [if_pos c14] at H; have c14b0 := decide_eq_true c14; clear c14
       (first | rw [c14b0] | (simp only [i64_w, i32_w]; rw [c14b0]) | skip)
       by_cases c15 : a1 < (l0.length : Int)
       ·rw [if_pos c15] at H; have c15b0 := decide_eq_true c15; clear c15
        by_cases c16 : (rd l0 a1) = 117
        ·rw [if_pos c16] at H; have c16b0 := beq_iff_eq.mpr c16; have c16b1 := bne_eq_false_iff_eq.mpr c16; clear c16
         by_cases c17 : (wrap64 (a1 + 1)) ≥ (l0.length : Int)
         ·rw [if_pos c17] at H; have c17b0 : decide ((l0.length : Int) ≤ (wrap64 (a1 + 1))) = true := decide_eq_true c17; clear c17; have H' := zA H; clear H; have p129 : 0 ≤ (a1 : Int) := zd; have q129 : a1 < (l0.length : Int) := zd; obtain ⟨Bk, e129, had⟩ := Kd.at_int HR0.out a1 p129 q129; cases e129; replace had := zx HB.out had; replace p129 := eq_true p129; replace q129 := eq_true q129; go_wp2; go_meet
          case rel => exact ⟨_, (true), zr, H', ⟨by have := HJ3.out; first | omega | exact Nat.le_refl _⟩, ⟨z_⟩⟩
         ·rw [if_neg c17] at H; have c17b0 : decide ((l0.length : Int) ≤ (wrap64 (a1 + 1))) = false := decide_eq_false c17; clear c17; obtain ⟨ji18, hji18⟩ : ∃ j_ : Int, (wrap64 (a1 + 1)) = j_ := ⟨_, rfl⟩; replace H : (if 0 ≤ (ji18) then (if (ji18) < (l0.length : Int) then (spec_l1escape.j1 kj3 l0 a1 ((rd l0 (ji18)) != 123)) else (none)) else (none)) = some (r1, r2) := by first | (rw [hji18] at H; exact H) | (simp only [hji18] at H ⊢; exact H)
          (try rw [hji18] at c17b0); have hji18w : (IntKind.i64.wrap (a1 + 1)) = ji18 := (i64_w _).trans hji18
          by_cases c19 : 0 ≤ (ji18)
          ·rw [if_pos c19] at H; have c19b0 := decide_eq_true c19; clear c19
           by_cases c20 : (ji18) < (l0.length : Int)
           ·rw [if_pos c20] at H; have c20b0 := decide_eq_true c20; clear c20; have H' := zA H; clear H; have p129 : 0 ≤ (a1 : Int) := zd; have q129 : a1 < (l0.length : Int) := zd; obtain ⟨Bk, e129, had⟩ := Kd.at_int HR0.out a1 p129 q129; cases e129; replace had := zx HB.out had; replace p129 := eq_true p129; replace q129 := eq_true q129; have p130 : 0 ≤ ((ji18) : Int) := zd; have q130 : (ji18) < (l0.length : Int) := zd; obtain ⟨Br, e130, hae⟩ := Kd.at_int HR0.out (ji18) p130 q130; obtain rfl : Bk = Br := (by injection e130); replace hae := zx HB.out hae; replace p130 := eq_true p130; replace q130 := eq_true q130; go_wp2; go_meet
            case rel => exact ⟨_, (((rd l0 (ji18)) != 123)), (by first | rfl | (simp; done) | (simp only [← hji18] <;> (first | rfl | simp)) | (simp [*]; done)), H', ⟨by have := HJ3.out; first | omega | exact Nat.le_refl _⟩, ⟨z_⟩⟩
           ·rw [if_neg c20] at H; exact absurd H (by simp)
          ·rw [if_neg c19] at H; exact absurd H (by simp)
        ·rw [if_neg c16] at H; have c16b0 := beq_eq_false_iff_ne.mpr c16; have c16b1 := bne_iff_ne.mpr c16; have H' := zA H; clear H; have p129 : 0 ≤ (a1 : Int) := zd; have q129 : a1 < (l0.length : Int) := zd; obtain ⟨Bk, e129, had⟩ := Kd.at_int HR0.out a1 p129 q129; cases e129; replace had := zx HB.out had; replace p129 := eq_true p129; replace q129 := eq_true q129; go_wp2; go_meet
         case rel => exact ⟨_, (true), zr, H', ⟨by have := HJ3.out; first | omega | exact Nat.le_refl _⟩, ⟨z_⟩⟩
       ·rw [if_neg c15] at H; exact absurd H (by simp)
      ·rw [if_neg c14] at H; exact absurd H (by simp)
     case rest =>
      clear HC13; (try clear c1); (try clear c3); (try clear c3b0); (try clear c5); (try clear c5b0); (try clear c6); (try clear c6b0); (try clear c7); (try clear c7b0); (try clear c7b1); (try clear c8); (try clear c9); (try clear c9b0); (try clear c10); (try clear c10b0); (try clear c14); (try clear c14b0); (try clear c15); (try clear c15b0); (try clear c16); (try clear c16b0); (try clear c16b1); (try clear c17); (try clear c17b0); (try clear c19); (try clear c19b0); (try clear c20); (try clear c20b0); (try clear haa); (try clear hab); (try clear hac); (try clear had); (try clear hae); (try clear p123); (try clear p124); (try clear p125); (try clear p129); (try clear p130); (try clear q123); (try clear q124); (try clear q125); (try clear q129); (try clear q130); obtain ⟨kq, Bh, rfl, HA, HJ12, HB⟩ := hcut; cases kq with
      | zero => exact absurd HA.out (by simp [spec_l1escape.j1])
      | succ kj12 =>
       have H := HA.out; clear HA; simp only [spec_l1escape.j1] at H
       by_cases c21 : Bh = true
       ·subst c21; have H1 : (some (([] : List Int), 0)) = some (r1, r2) := by rw [if_pos rfl] at H; exact H
        clear H; have H := H1; clear H1; simp only [Option.some.injEq, Prod.mk.injEq] at H; obtain ⟨rfl, rfl⟩ := H; go_wp2; go_ret2; exact ⟨_, ze, by first | exact Kd.R_nil _ _ _ _ _ | exact Kd.N_nil _ _ _ _ _ | exact Kd.V_nil _ _ _ _ _ | exact Kd.Q_nil _ _ _ _ _ | exact Kd.S_nil _ _ _ _ _, z_⟩
       ·replace c21 := Bool.eq_false_iff.mpr c21; subst c21; have H1 : (spec_l1escape.l0 kj12 l0 a1 0 0) = some (r1, r2) := by rw [if_neg (show ¬ (false = true) by decide)] at H; exact H
        clear H; have H := H1; clear H1; have HC22 := zA H; clear H
        go_upto_block 0 with (fail)
        go_cut [6, 7] (fun v6 v7 wc => ∃ (kq : Nat) (Bb : Int) (Ba : Int), v6 = .int .i64 Bb ∧ v7 = .int .i64 Ba ∧ Aside0 (spec_l1escape.j3 kq l0 a1 Bb Ba = some (r1, r2)) ∧ Aside0 (kq ≤ kj12) ∧ Aside0 (Below w.heap.size w wc))
        case first =>
         have H := HC22.out; clear HC22; have H' := zA H; clear H; go_wp2
         go_loopg [6, 7] kj12 (fun kq v6 v7 w' => ∃ (Bd : Int) (Bc : Int), v6 = .int .i64 Bd ∧ v7 = .int .i64 Bc ∧ Aside0 (spec_l1escape.l0 kq l0 a1 Bd Bc = some (r1, r2)) ∧ Aside0 (kq ≤ kj12) ∧ Aside0 (Below w.heap.size w w'))
         case atStart => exact ⟨(0), (0), zr, zr, H', ⟨Nat.le_refl _⟩, ⟨z_⟩⟩
         case round =>
          clear H'; (try clear c1); (try clear c3); (try clear c3b0); (try clear c5); (try clear c5b0); (try clear c6); (try clear c6b0); (try clear c7); (try clear c7b0); (try clear c7b1); (try clear c8); (try clear c9); (try clear c9b0); (try clear c10); (try clear c10b0); (try clear c14); (try clear c14b0); (try clear c15); (try clear c15b0); (try clear c16); (try clear c16b0); (try clear c16b1); (try clear c17); (try clear c17b0); (try clear c19); (try clear c19b0); (try clear c20); (try clear c20b0); (try clear c21); (try clear haa); (try clear hab); (try clear hac); (try clear had); (try clear hae); (try clear p123); (try clear p124); (try clear p125); (try clear p129); (try clear p130); (try clear q123); (try clear q124); (try clear q125); (try clear q129); (try clear q130); obtain ⟨Bd, Bc, rfl, rfl, HA, HK3, HB⟩ := hrel; cases gk with
          | zero => exact absurd HA.out (by simp [spec_l1escape.l0])
          | succ k3 =>
           have H := HA.out; clear HA; simp only [spec_l1escape.l0] at H
           by_cases c23 : (wrap64 ((wrap64 (a1 + 2)) + Bc)) < (l0.length : Int)
           ·rw [if_pos c23] at H; have c23b0 := decide_eq_true c23; clear c23
            (first | rw [c23b0] | (simp only [i64_w, i32_w]; rw [c23b0]) | skip)
            by_cases c24 : Bc < 7
            ·rw [if_pos c24] at H; have c24b0 := decide_eq_true c24; clear c24; obtain ⟨ji25, hji25⟩ : ∃ j_ : Int, (wrap64 ((wrap64 (a1 + 2)) + Bc)) = j_ := ⟨_, rfl⟩; replace H : (if 0 ≤ (ji25) then ((spec_l1digit.f k3 (rd l0 (ji25))).bind fun Be => (if Be ≥ 0 then ((spec_l1digit.f k3 (rd l0 (ji25))).bind fun Bg => (spec_l1escape.l0 k3 l0 a1 (wrap64 ((wrap64 (Bd * 16)) + Bg)) (wrap64 (Bc + 1)))) else (spec_l1escape.j3 k3 l0 a1 Bd Bc))) else (none)) = some (r1, r2) := by first | (rw [hji25] at H; exact H) | (simp only [hji25] at H ⊢; exact H)
             (try rw [hji25] at c23b0); have hji25w : (IntKind.i64.wrap ((wrap64 (a1 + 2)) + Bc)) = ji25 := (i64_w _).trans hji25
             by_cases c26 : 0 ≤ (ji25)
             ·rw [if_pos c26] at H; have c26b0 := decide_eq_true c26; clear c26; replace H := Option.bind_eq_some_iff.mp H; obtain ⟨Be, A270, H⟩ := H; replace H : (if Be ≥ 0 then ((spec_l1digit.f k3 (rd l0 (ji25))).bind fun Bg => (spec_l1escape.l0 k3 l0 a1 (wrap64 ((wrap64 (Bd * 16)) + Bg)) (wrap64 (Bc + 1)))) else (spec_l1escape.j3 k3 l0 a1 Bd Bc)) = some (r1, r2) := H; have A27 := zA A270; clear A270
              by_cases c28 : Be ≥ 0
              ·rw [if_pos c28] at H; have c28b0 : decide (0 ≤ Be) = true := decide_eq_true c28; clear c28; replace H := Option.bind_eq_some_iff.mp H; obtain ⟨Bg, A290, H⟩ := H; replace H : (spec_l1escape.l0 k3 l0 a1 (wrap64 ((wrap64 (Bd * 16)) + Bg)) (wrap64 (Bc + 1))) = some (r1, r2) := H; have A29 := zA A290; clear A290; have H' := zA H; clear H; have p131 : 0 ≤ ((ji25) : Int) := zd; have q131 : (ji25) < (l0.length : Int) := zd; obtain ⟨Bm, e131, haf⟩ := Kd.at_int HR0.out (ji25) p131 q131; cases e131; replace haf := zx HB.out haf; replace p131 := eq_true p131; replace q131 := eq_true q131; go_wp2_with (first | (go_at_call 21; (with_reducible refine (spec_l1digit.calls k3 (rd l0 (ji25)) Be _ A27.out).mono ?_); rintro e w' ⟨rfl, ⟨nd, rfl⟩⟩; have p133 : 0 ≤ ((ji25) : Int) := zd; have q133 : (ji25) < (l0.length : Int) := zd; obtain ⟨Bs, e133, hag⟩ := Kd.at_int HR0.out (ji25) p133 q133; obtain rfl : Bm = Bs := (by injection e133); replace hag := zx HB.out hag; replace p133 := eq_true p133; replace q133 := eq_true q133) | ((with_reducible refine gate_callee (f := 21) rfl ?_); refine goesL_ (some 80) rfl rfl Tryd.func21 (by kernel_rfl) rfl #[.int .u8 (rd l0 (ji25))] rfl (by (try simp only [List.map_toArray, List.map_cons, List.map_nil]); first | done | (simp only [hji25]; rfl) | rfl | (simp only [List.length_drop, List.length_take]; rfl)) ?_; (with_reducible refine (spec_l1digit.calls k3 (rd l0 (ji25)) Bg _ A29.out).mono ?_); rintro e w' ⟨rfl, ⟨nd, rfl⟩⟩; refine ⟨_, rfl, ?_⟩))
               go_roundg k3
               case measure => have := HJ3.out; have := HJ12.out; have := HK3.out; omega
               case rel => exact ⟨(wrap64 ((wrap64 (Bd * 16)) + Bg)), (wrap64 (Bc + 1)), zr, zr, H', ⟨by have := HJ3.out; have := HJ12.out; have := HK3.out; omega⟩, ⟨z_⟩⟩
              ·rw [if_neg c28] at H; have c28b0 : decide (0 ≤ Be) = false := decide_eq_false c28; clear c28; have H' := zA H; clear H; have p131 : 0 ≤ ((ji25) : Int) := zd; have q131 : (ji25) < (l0.length : Int) := zd; obtain ⟨Bm, e131, haf⟩ := Kd.at_int HR0.out (ji25) p131 q131; cases e131; replace haf := zx HB.out haf; replace p131 := eq_true p131; replace q131 := eq_true q131; go_wp2_with (first | (go_at_call 21; (with_reducible refine (spec_l1digit.calls k3 (rd l0 (ji25)) Be _ A27.out).mono ?_); rintro e w' ⟨rfl, ⟨nd, rfl⟩⟩)); go_meet
               case rel => exact ⟨_, (Bd), (Bc), zr, zr, H', ⟨by have := HJ3.out; have := HJ12.out; have := HK3.out; first | omega | exact Nat.le_refl _⟩, ⟨z_⟩⟩
             ·rw [if_neg c26] at H; exact absurd H (by simp)
            ·rw [if_neg c24] at H; have c24b0 := decide_eq_false c24; clear c24; have H' := zA H; clear H; go_wp2; go_meet
             case rel => exact ⟨_, (Bd), (Bc), zr, zr, H', ⟨by have := HJ3.out; have := HJ12.out; have := HK3.out; first | omega | exact Nat.le_refl _⟩, ⟨z_⟩⟩
           ·rw [if_neg c23] at H; have c23b0 := decide_eq_false c23; clear c23
            (first | rw [c23b0] | (simp only [i64_w, i32_w]; rw [c23b0]) | skip)
            have H' := zA H; clear H; go_wp2; go_meet
            case rel => exact ⟨_, (Bd), (Bc), zr, zr, H', ⟨by have := HJ3.out; have := HJ12.out; have := HK3.out; first | omega | exact Nat.le_refl _⟩, ⟨z_⟩⟩
        case rest =>
         clear HC22; (try clear c1); (try clear c3); (try clear c3b0); (try clear c5); (try clear c5b0); (try clear c6); (try clear c6b0); (try clear c7); (try clear c7b0); (try clear c7b1); (try clear c8); (try clear c9); (try clear c9b0); (try clear c10); (try clear c10b0); (try clear c14); (try clear c14b0); (try clear c15); (try clear c15b0); (try clear c16); (try clear c16b0); (try clear c16b1); (try clear c17); (try clear c17b0); (try clear c19); (try clear c19b0); (try clear c20); (try clear c20b0); (try clear c21); (try clear c23); (try clear c23b0); (try clear c24); (try clear c24b0); (try clear c26); (try clear c26b0); (try clear c28); (try clear c28b0); (try clear haa); (try clear hab); (try clear hac); (try clear had); (try clear hae); (try clear haf); (try clear hag); (try clear p123); (try clear p124); (try clear p125); (try clear p129); (try clear p130); (try clear p131); (try clear p133); (try clear q123); (try clear q124); (try clear q125); (try clear q129); (try clear q130); (try clear q131); (try clear q133); obtain ⟨kq, Bb, Ba, rfl, rfl, HA, HJ21, HB⟩ := hcut; cases kq with
         | zero => exact absurd HA.out (by simp [spec_l1escape.j3])
         | succ kj21 =>
          have H := HA.out; clear HA; simp only [spec_l1escape.j3] at H
          by_cases c30 : Ba < 1
          ·rw [if_pos c30] at H; have c30b0 := decide_eq_true c30; clear c30; simp only [Option.some.injEq, Prod.mk.injEq] at H; obtain ⟨rfl, rfl⟩ := H; go_wp2; go_ret2; exact ⟨_, ze, by first | exact Kd.R_nil _ _ _ _ _ | exact Kd.N_nil _ _ _ _ _ | exact Kd.V_nil _ _ _ _ _ | exact Kd.Q_nil _ _ _ _ _ | exact Kd.S_nil _ _ _ _ _, z_⟩
          ·rw [if_neg c30] at H; have c30b0 := decide_eq_false c30; clear c30
           by_cases c31 : Ba > 6
           ·rw [if_pos c31] at H; have c31b0 : decide (6 < Ba) = true := decide_eq_true c31; clear c31; simp only [Option.some.injEq, Prod.mk.injEq] at H; obtain ⟨rfl, rfl⟩ := H; go_wp2; go_ret2; exact ⟨_, ze, by first | exact Kd.R_nil _ _ _ _ _ | exact Kd.N_nil _ _ _ _ _ | exact Kd.V_nil _ _ _ _ _ | exact Kd.Q_nil _ _ _ _ _ | exact Kd.S_nil _ _ _ _ _, z_⟩
           ·rw [if_neg c31] at H; have c31b0 : decide (6 < Ba) = false := decide_eq_false c31; clear c31
            by_cases c32 : (wrap64 ((wrap64 (a1 + 2)) + Ba)) ≥ (l0.length : Int)
            ·rw [if_pos c32] at H; have c32b0 : decide ((l0.length : Int) ≤ (wrap64 ((wrap64 (a1 + 2)) + Ba))) = true := decide_eq_true c32; clear c32; simp only [Option.some.injEq, Prod.mk.injEq] at H; obtain ⟨rfl, rfl⟩ := H; go_wp2; go_ret2; exact ⟨_, ze, by first | exact Kd.R_nil _ _ _ _ _ | exact Kd.N_nil _ _ _ _ _ | exact Kd.V_nil _ _ _ _ _ | exact Kd.Q_nil _ _ _ _ _ | exact Kd.S_nil _ _ _ _ _, z_⟩
            ·rw [if_neg c32] at H; have c32b0 : decide ((l0.length : Int) ≤ (wrap64 ((wrap64 (a1 + 2)) + Ba))) = false := decide_eq_false c32; clear c32; obtain ⟨ji33, hji33⟩ : ∃ j_ : Int, (wrap64 ((wrap64 (a1 + 2)) + Ba)) = j_ := ⟨_, rfl⟩; replace H : (if 0 ≤ (ji33) then (if (ji33) < (l0.length : Int) then (if (rd l0 (ji33)) = 125 then ((spec_l1point.f Bb).bind fun Bj => (if Bj = true then ((spec_l1utf8.f Bb).bind fun Bf => (some (Bf, wrap64 (Ba + 3)))) else (some (([] : List Int), 0)))) else (some (([] : List Int), 0))) else (none)) else (none)) = some (r1, r2) := by first | (rw [hji33] at H; exact H) | (simp only [hji33] at H ⊢; exact H)
             (try rw [hji33] at c32b0); have hji33w : (IntKind.i64.wrap ((wrap64 (a1 + 2)) + Ba)) = ji33 := (i64_w _).trans hji33
             by_cases c34 : 0 ≤ (ji33)
             ·rw [if_pos c34] at H; have c34b0 := decide_eq_true c34; clear c34
              by_cases c35 : (ji33) < (l0.length : Int)
              ·rw [if_pos c35] at H; have c35b0 := decide_eq_true c35; clear c35
               by_cases c36 : (rd l0 (ji33)) = 125
               ·rw [if_pos c36] at H; have c36b0 := beq_iff_eq.mpr c36; have c36b1 := bne_eq_false_iff_eq.mpr c36; clear c36; replace H := Option.bind_eq_some_iff.mp H; obtain ⟨Bj, A370, H⟩ := H; replace H : (if Bj = true then ((spec_l1utf8.f Bb).bind fun Bf => (some (Bf, wrap64 (Ba + 3)))) else (some (([] : List Int), 0))) = some (r1, r2) := H; have A37 := zA A370; clear A370
                by_cases c38 : Bj = true
                ·subst c38; have H1 : ((spec_l1utf8.f Bb).bind fun Bf => (some (Bf, wrap64 (Ba + 3)))) = some (r1, r2) := by rw [if_pos rfl] at H; exact H
                 clear H; have H := H1; clear H1; replace H := Option.bind_eq_some_iff.mp H; obtain ⟨Bf, A390, H⟩ := H; replace H : (some (Bf, wrap64 (Ba + 3))) = some (r1, r2) := H; have A39 := zA A390; clear A390; simp only [Option.some.injEq, Prod.mk.injEq] at H; obtain ⟨rfl, rfl⟩ := H; have p135 : 0 ≤ ((ji33) : Int) := zd; have q135 : (ji33) < (l0.length : Int) := zd; obtain ⟨Bn, e135, hah⟩ := Kd.at_int HR0.out (ji33) p135 q135; cases e135; replace hah := zx HB.out hah; replace p135 := eq_true p135; replace q135 := eq_true q135; go_wp2_with (first | (go_at_call 22; (with_reducible refine (spec_l1point.calls Bb true _ A37.out).mono ?_); rintro e w' ⟨rfl, ⟨nd, rfl⟩⟩) | ((with_reducible refine gate_callee (f := 23) rfl ?_); refine goesL_ (some 115) rfl rfl Tryd.func23 (by kernel_rfl) rfl #[.int .i64 Bb] rfl za ?_; (with_reducible refine (spec_l1utf8.calls Bb Bf _ A39.out).mono ?_); rintro e w40 ⟨v138, rfl, ho0, hb⟩; refine ⟨_, rfl, ?_⟩; have Bp := zA (Kd.R_lower ho0 (below_size z_)); replace HB := zA (below_step z_ hb); (try clear hb); (try clear ho0))); go_ret2; exact ⟨_, by first | rfl | (simp [errW_none, errW_some] <;> rfl) | (simp only [← hji33]; first | rfl | (simp [errW_none, errW_some] <;> rfl)) | (simp [*, errW_none, errW_some] <;> rfl), by (with_reducible repeat (first | apply Kd.R_alloc | apply Kd.R_drewN | apply Kd.R_drew)); exact Bp.out, z_⟩
                ·replace c38 := Bool.eq_false_iff.mpr c38; subst c38; have H1 : (some (([] : List Int), 0)) = some (r1, r2) := by rw [if_neg (show ¬ (false = true) by decide)] at H; exact H
                 clear H; have H := H1; clear H1; simp only [Option.some.injEq, Prod.mk.injEq] at H; obtain ⟨rfl, rfl⟩ := H; have p135 : 0 ≤ ((ji33) : Int) := zd; have q135 : (ji33) < (l0.length : Int) := zd; obtain ⟨Bn, e135, hah⟩ := Kd.at_int HR0.out (ji33) p135 q135; cases e135; replace hah := zx HB.out hah; replace p135 := eq_true p135; replace q135 := eq_true q135; go_wp2_with (first | (go_at_call 22; (with_reducible refine (spec_l1point.calls Bb false _ A37.out).mono ?_); rintro e w' ⟨rfl, ⟨nd, rfl⟩⟩)); go_ret2; exact ⟨_, by first | rfl | (simp [errW_none, errW_some] <;> rfl) | (simp only [← hji33]; first | rfl | (simp [errW_none, errW_some] <;> rfl)) | (simp [*, errW_none, errW_some] <;> rfl), by first | exact Kd.R_nil _ _ _ _ _ | exact Kd.N_nil _ _ _ _ _ | exact Kd.V_nil _ _ _ _ _ | exact Kd.Q_nil _ _ _ _ _ | exact Kd.S_nil _ _ _ _ _, z_⟩
               ·rw [if_neg c36] at H; have c36b0 := beq_eq_false_iff_ne.mpr c36; have c36b1 := bne_iff_ne.mpr c36; simp only [Option.some.injEq, Prod.mk.injEq] at H; obtain ⟨rfl, rfl⟩ := H; have p135 : 0 ≤ ((ji33) : Int) := zd; have q135 : (ji33) < (l0.length : Int) := zd; obtain ⟨Bn, e135, hah⟩ := Kd.at_int HR0.out (ji33) p135 q135; cases e135; replace hah := zx HB.out hah; replace p135 := eq_true p135; replace q135 := eq_true q135; go_wp2; go_ret2; exact ⟨_, by first | rfl | (simp [errW_none, errW_some] <;> rfl) | (simp only [← hji33]; first | rfl | (simp [errW_none, errW_some] <;> rfl)) | (simp [*, errW_none, errW_some] <;> rfl), by first | exact Kd.R_nil _ _ _ _ _ | exact Kd.N_nil _ _ _ _ _ | exact Kd.V_nil _ _ _ _ _ | exact Kd.Q_nil _ _ _ _ _ | exact Kd.S_nil _ _ _ _ _, z_⟩
              ·rw [if_neg c35] at H; exact absurd H (by simp)
             ·rw [if_neg c34] at H; exact absurd H (by simp)

end Go.Proofs.YtbnpkiokpnmphaaDoor.PFnExactUnquoteText
