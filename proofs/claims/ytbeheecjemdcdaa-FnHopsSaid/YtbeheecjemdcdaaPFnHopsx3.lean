-- made by wip/tools/myprint.py (this session's own program, over the kit's printer)
import Derived.Test.YtbeheecjemdcdaaPFnHopsx0
import Derived.Test.YtbeheecjemdcdaaPFnHopsx1
import Derived.Test.YtbeheecjemdcdaaPFnHopsx2
namespace Go.Proofs.Ytbeheecjemdcdaa.PFnHops
open Go.RowKit Go.Proofs.YtbeheecjemdcdaaW.PrintWords Go.Proofs.YtbeheecjemdcdaaW.PrintLast Go.Proofs.YtbeheecjemdcdaaW.PrintMore
attribute [local go_sem] max2_int min2_int max_two min_two max_three min_three max_four min_four   -- for this text's walks alone
set_option linter.unusedVariables false
set_option linter.unusedSimpArgs false

/-! ### spec_UnpackHops: function 25 -/
mutual
def spec_UnpackHops.j0 : Nat → List Int → Int → Bool → Option (List Int × Int)
 | 0, _, _, _ => none
 | k + 1, x0, x1, x28 => if x28 = true then (some (([] : List Int), 9)) else (spec_UnpackHops.l0 k x0 x1 ([] : List Int) 0)
def spec_UnpackHops.l0 : Nat → List Int → Int → List Int → Int → Option (List Int × Int)
 | 0, _, _, _, _ => none
 | k + 1, x0, x1, x6, x7 => if x7 < x1 then (spec_UnpackHops.l1 k x0 x1 x6 x7 0 2) else ((spec_PackHops.f k x6).bind fun bt113 => (if bt113.2 = 0 then (if (strOfNums bt113.1).toList = (strOfNums x0).toList then (some (x6, 0)) else (some (([] : List Int), 9))) else (some (([] : List Int), 9))))
def spec_UnpackHops.l1 : Nat → List Int → Int → List Int → Int → Int → Int → Option (List Int × Int)
 | 0, _, _, _, _, _, _ => none
 | k + 1, x0, x1, x6, x7, x8, x9 => if x9 ≥ 0 then (if 0 ≤ (wrap64 (Int.tdiv (wrap64 ((wrap64 (3 * x7)) + x9)) 8)) then (if (wrap64 (Int.tdiv (wrap64 ((wrap64 (3 * x7)) + x9)) 8)) < (x0.length : Int) then (if 0 ≤ (IntKind.u64.wrap (Int.tmod (wrap64 ((wrap64 (3 * x7)) + x9)) 8)) then (spec_UnpackHops.l1 k x0 x1 x6 x7 (wrap64 ((wrap64 (x8 * 2)) + (wrap64 (Int.tmod (shr .u8 (rd x0 (wrap64 (Int.tdiv (wrap64 ((wrap64 (3 * x7)) + x9)) 8))) (IntKind.u64.wrap (Int.tmod (wrap64 ((wrap64 (3 * x7)) + x9)) 8))) 2)))) (wrap64 (x9 - 1))) else (none)) else (none)) else (none)) else (if x8 = 4 then (if x6.length < 17592186044416 then (spec_UnpackHops.l0 k x0 x1 (x6 ++ [(-1)]) (wrap64 (x7 + 1))) else (none)) else (if x6.length < 17592186044416 then (spec_UnpackHops.l0 k x0 x1 (x6 ++ [x8]) (wrap64 (x7 + 1))) else (none)))
end
def spec_UnpackHops.f (k : Nat) (l0 : List Int) (a1 : Int) : Option (List Int × Int) := if a1 < 0 then (some (([] : List Int), 1)) else (if a1 > (wrap64 (8 * (l0.length : Int))) then (spec_UnpackHops.j0 k l0 a1 true) else (spec_UnpackHops.j0 k l0 a1 ((wrap64 (Int.tdiv (wrap64 ((wrap64 (3 * a1)) + 7)) 8)) != (l0.length : Int))))
theorem spec_UnpackHops.mono_l : ∀ k, (∀ y0 y1 y2, LeO (spec_UnpackHops.j0 k y0 y1 y2) (spec_UnpackHops.j0 (k + 1) y0 y1 y2)) ∧ (∀ y0 y1 y2 y3, LeO (spec_UnpackHops.l0 k y0 y1 y2 y3) (spec_UnpackHops.l0 (k + 1) y0 y1 y2 y3)) ∧ (∀ y0 y1 y2 y3 y4 y5, LeO (spec_UnpackHops.l1 k y0 y1 y2 y3 y4 y5) (spec_UnpackHops.l1 (k + 1) y0 y1 y2 y3 y4 y5))
 | 0 => ⟨fun _ _ _ r h => by simp [spec_UnpackHops.j0] at h, fun _ _ _ _ r h => by simp [spec_UnpackHops.l0] at h, fun _ _ _ _ _ _ r h => by simp [spec_UnpackHops.l1] at h⟩
 | k + 1 => by
  obtain ⟨ih0, ih1, ih2⟩ := spec_UnpackHops.mono_l k
  refine ⟨?_, ?_, ?_⟩
  ·intro y0 y1 y2
   unfold spec_UnpackHops.j0
   have m1 := @spec_PackHops.mono
   exact zm
  ·intro y0 y1 y2 y3
   unfold spec_UnpackHops.l0
   have m1 := @spec_PackHops.mono
   exact zm
  ·intro y0 y1 y2 y3 y4 y5
   unfold spec_UnpackHops.l1
   have m1 := @spec_PackHops.mono
   exact zm
theorem spec_UnpackHops.mono : ∀ a0 a1 k, LeO (spec_UnpackHops.f k a0 a1) (spec_UnpackHops.f (k + 1) a0 a1) := by
 intro a0 a1 k
 obtain ⟨ih0, ih1, ih2⟩ := spec_UnpackHops.mono_l k
 unfold spec_UnpackHops.f
 have m1 := @spec_PackHops.mono
 exact zm
set_option maxHeartbeats 8000000 in
set_option maxRecDepth 100000 in
theorem spec_UnpackHops.calls (k : Nat) (A0 : Option Addr) (c0 : Nat) (l0 : List Int) (a1 : Int) (r1 : List Int) (r2 : Int) (w : World) (hr0 : Kd.C (Kd.int .u8) w A0 l0.length l0) (hc0 : l0.length ≤ c0) (h : spec_UnpackHops.f k l0 a1 = some (r1, r2)) :
  Calls Try.prog 25 #[.slice A0 l0.length c0, .int .i64 a1] w fun e w' => ∃ v0_ : Value, e = .returned (.tuple #[v0_, .int .i64 r2]) ∧ Kd.R (Kd.int .i64) 3 w' w.heap.size (fun _ => True) v0_ r1 ∧ Below w.heap.size w w' := by
 have HR0 := zA hr0
 have HC0 := zA hc0
 clear hr0 hc0
 have HB := zA (Below.refl w.heap.size w)
 have H : (if a1 < 0 then (some (([] : List Int), 1)) else (if a1 > (wrap64 (8 * (l0.length : Int))) then (spec_UnpackHops.j0 k l0 a1 true) else (spec_UnpackHops.j0 k l0 a1 ((wrap64 (Int.tdiv (wrap64 ((wrap64 (3 * a1)) + 7)) 8)) != (l0.length : Int))))) = some (r1, r2) := h
 clear h
 by_cases c3 : a1 < 0
 ·rw [if_pos c3] at H
  have c3b0 : decide (a1 < 0) = true := decide_eq_true c3
  clear c3
  simp only [Option.some.injEq, Prod.mk.injEq] at H
  obtain ⟨rfl, rfl⟩ := H
  go_enter Try.func25, Try.ntmps25
  go_wp2
  go_ret2
  exact ⟨_, ze, by first | exact Kd.R_nil _ _ _ _ _ | exact Kd.N_nil _ _ _ _ _ | exact Kd.V_nil _ _ _ _ _ | exact Kd.Q_nil _ _ _ _ _ | exact Kd.S_nil _ _ _ _ _, z_⟩
 ·rw [if_neg c3] at H
  have c3b0 : decide (a1 < 0) = false := decide_eq_false c3
  clear c3
  have HC4 := zA H
  clear H
  go_enter Try.func25, Try.ntmps25
  go_upto_region 3 with (fail)
  go_cut [28] (fun v28 wc => ∃ (kq : Nat) (x28_3 : Bool), v28 = .bool x28_3 ∧ Aside0 (spec_UnpackHops.j0 kq l0 a1 x28_3 = some (r1, r2)) ∧ Aside0 (kq ≤ k) ∧ Aside0 (Below w.heap.size w wc))
  case first =>
   have H := HC4.out
   clear HC4
   by_cases c5 : a1 > (wrap64 (8 * (l0.length : Int)))
   ·rw [if_pos c5] at H
    have c5b0 : decide ((wrap64 (8 * (l0.length : Int))) < a1) = true := decide_eq_true c5
    clear c5
    (first | rw [c5b0] | (simp only [i64_w, i32_w]; rw [c5b0]) | skip)
    have H' := zA H
    clear H
    go_wp2
    go_meet
    case rel => exact ⟨_, (true), zr, H', ⟨by first | omega | exact Nat.le_refl _⟩, ⟨z_⟩⟩
   ·rw [if_neg c5] at H
    have c5b0 : decide ((wrap64 (8 * (l0.length : Int))) < a1) = false := decide_eq_false c5
    clear c5
    (first | rw [c5b0] | (simp only [i64_w, i32_w]; rw [c5b0]) | skip)
    have H' := zA H
    clear H
    go_wp2
    go_meet
    case rel => exact ⟨_, (((wrap64 (Int.tdiv (wrap64 ((wrap64 (3 * a1)) + 7)) 8)) != (l0.length : Int))), zr, H', ⟨by first | omega | exact Nat.le_refl _⟩, ⟨z_⟩⟩
  case rest =>
   clear HC4
   (try clear c2); (try clear p2); (try clear c3); (try clear c3b0); (try clear c5); (try clear c5b0)
   obtain ⟨kq, x28_3, rfl, HA, HJ3, HB⟩ := hcut
   cases kq with
   | zero => exact absurd HA.out (by simp [spec_UnpackHops.j0])
   | succ kj3 =>
    have H := HA.out
    clear HA
    simp only [spec_UnpackHops.j0] at H
    by_cases c6 : x28_3 = true
    ·subst c6
     have H1 : (some (([] : List Int), 9)) = some (r1, r2) := by rw [if_pos rfl] at H; exact H
     clear H
     have H := H1
     clear H1
     simp only [Option.some.injEq, Prod.mk.injEq] at H
     obtain ⟨rfl, rfl⟩ := H
     go_wp2
     go_ret2
     exact ⟨_, ze, by first | exact Kd.R_nil _ _ _ _ _ | exact Kd.N_nil _ _ _ _ _ | exact Kd.V_nil _ _ _ _ _ | exact Kd.Q_nil _ _ _ _ _ | exact Kd.S_nil _ _ _ _ _, z_⟩
    ·replace c6 := Bool.eq_false_iff.mpr c6
     subst c6
     have H1 : (spec_UnpackHops.l0 kj3 l0 a1 ([] : List Int) 0) = some (r1, r2) := by rw [if_neg (show ¬ (false = true) by decide)] at H; exact H
     clear H
     have H := H1
     clear H1
     have H' := zA H
     clear H
     go_wp2
     go_loopg [6, 7] kj3 (fun kq v6 v7 w' => ∃ (x6_2 : List Int) (x7_2 : Int), v7 = .int .i64 x7_2 ∧ Aside0 (spec_UnpackHops.l0 kq l0 a1 x6_2 x7_2 = some (r1, r2)) ∧ Aside0 (kq ≤ kj3) ∧ Aside0 (Kd.R (Kd.int .i64) 3 w' w.heap.size (fun _ => True) v6 x6_2) ∧ Aside0 (Below w.heap.size w w'))
     case atStart => exact ⟨(([] : List Int)), (0), zr, H', ⟨Nat.le_refl _⟩, ⟨by first | exact Kd.R_nil _ _ _ _ _ | exact Kd.N_nil _ _ _ _ _ | exact Kd.V_nil _ _ _ _ _ | exact Kd.Q_nil _ _ _ _ _ | exact Kd.S_nil _ _ _ _ _⟩, ⟨z_⟩⟩
     case round =>
      clear H'
      (try clear c2); (try clear p2); (try clear c3); (try clear c3b0); (try clear c5); (try clear c5b0); (try clear c6); (try clear p6); (try clear p2)
      obtain ⟨x6_2, x7_2, rfl, HA, HK2, HO_6, HB⟩ := hrel
      cases gk with
      | zero => exact absurd HA.out (by simp [spec_UnpackHops.l0])
      | succ k2 =>
       have H := HA.out
       clear HA
       simp only [spec_UnpackHops.l0] at H
       by_cases c7 : x7_2 < a1
       ·rw [if_pos c7] at H
        have c7b0 : decide (x7_2 < a1) = true := decide_eq_true c7
        clear c7
        have H' := zA H
        clear H
        go_wp2
        go_loopg [8, 9] k2 (fun kq v8 v9 w' => ∃ (x8_3 : Int) (x9_3 : Int), v8 = .int .i64 x8_3 ∧ v9 = .int .i64 x9_3 ∧ Aside0 (spec_UnpackHops.l1 kq l0 a1 x6_2 x7_2 x8_3 x9_3 = some (r1, r2)) ∧ Aside0 (kq ≤ k2) ∧ Aside0 (Kd.R (Kd.int .i64) 3 w' w.heap.size (fun _ => True) u6 x6_2) ∧ Aside0 (Below w.heap.size w w'))
        case atStart => exact ⟨(0), (2), zr, zr, H', ⟨Nat.le_refl _⟩, ⟨zR HO_6.out⟩, ⟨z_⟩⟩
        case round =>
         clear H'
         (try clear c2); (try clear p2); (try clear c3); (try clear c3b0); (try clear c5); (try clear c5b0); (try clear c6); (try clear p6); (try clear c7); (try clear c7b0); (try clear p2); (try clear p6)
         obtain ⟨x8_3, x9_3, rfl, rfl, HA, HK3, HO_6, HB⟩ := hrel
         cases gk with
         | zero => exact absurd HA.out (by simp [spec_UnpackHops.l1])
         | succ k3 =>
          have H := HA.out
          clear HA
          simp only [spec_UnpackHops.l1] at H
          by_cases c8 : x9_3 ≥ 0
          ·rw [if_pos c8] at H
           have c8b0 : decide (0 ≤ x9_3) = true := decide_eq_true c8
           clear c8
           obtain ⟨ji9, hji9⟩ : ∃ j_ : Int, (wrap64 (Int.tdiv (wrap64 ((wrap64 (3 * x7_2)) + x9_3)) 8)) = j_ := ⟨_, rfl⟩
           replace H : (if 0 ≤ (ji9) then (if (ji9) < (l0.length : Int) then (if 0 ≤ (IntKind.u64.wrap (Int.tmod (wrap64 ((wrap64 (3 * x7_2)) + x9_3)) 8)) then (spec_UnpackHops.l1 k3 l0 a1 x6_2 x7_2 (wrap64 ((wrap64 (x8_3 * 2)) + (wrap64 (Int.tmod (shr .u8 (rd l0 (ji9)) (IntKind.u64.wrap (Int.tmod (wrap64 ((wrap64 (3 * x7_2)) + x9_3)) 8))) 2)))) (wrap64 (x9_3 - 1))) else (none)) else (none)) else (none)) = some (r1, r2) := by first | (rw [hji9] at H; exact H) | (simp only [hji9] at H ⊢; exact H)
           have hji9w : (IntKind.i64.wrap (Int.tdiv (wrap64 ((wrap64 (3 * x7_2)) + x9_3)) 8)) = ji9 := (i64_w _).trans hji9
           by_cases c10 : 0 ≤ (ji9)
           ·rw [if_pos c10] at H
            have c10b0 : decide (0 ≤ (ji9)) = true := decide_eq_true c10
            clear c10
            by_cases c11 : (ji9) < (l0.length : Int)
            ·rw [if_pos c11] at H
             have c11b0 : decide ((ji9) < (l0.length : Int)) = true := decide_eq_true c11
             clear c11
             obtain ⟨ji12, hji12⟩ : ∃ j_ : Int, (IntKind.u64.wrap (Int.tmod (wrap64 ((wrap64 (3 * x7_2)) + x9_3)) 8)) = j_ := ⟨_, rfl⟩
             replace H : (if 0 ≤ (ji12) then (spec_UnpackHops.l1 k3 l0 a1 x6_2 x7_2 (wrap64 ((wrap64 (x8_3 * 2)) + (wrap64 (Int.tmod (shr .u8 (rd l0 (ji9)) (ji12)) 2)))) (wrap64 (x9_3 - 1))) else (none)) = some (r1, r2) := by first | (rw [hji12] at H; exact H) | (simp only [hji12] at H ⊢; exact H)
             by_cases c13 : 0 ≤ (ji12)
             ·rw [if_pos c13] at H
              have c13b0 := eq_true c13
              have c13b1 : decide (0 ≤ (ji12)) = true := decide_eq_true c13
              clear c13
              obtain ⟨ji14, hji14⟩ : ∃ j_ : Int, (shr .u8 (rd l0 (ji9)) (ji12)) = j_ := ⟨_, rfl⟩
              replace H : (spec_UnpackHops.l1 k3 l0 a1 x6_2 x7_2 (wrap64 ((wrap64 (x8_3 * 2)) + (wrap64 (Int.tmod (ji14) 2)))) (wrap64 (x9_3 - 1))) = some (r1, r2) := by first | (rw [hji14] at H; exact H) | (simp only [hji14] at H ⊢; exact H)
              have hji14_ : ((rd l0 (ji9)) / 2 ^ min (ji12).toNat 8) = ji14 := hji14
              have hji14z : (ji12) ≤ 8 → ((rd l0 (ji9)) / 2 ^ (ji12).toNat) = ji14 := shr_small hji14
              have H' := zA H
              clear H
              have p117 : 0 ≤ ((ji9) : Int) := zd
              have q117 : (ji9) < (l0.length : Int) := zd
              obtain ⟨ad117, e117, hx117_0⟩ := Kd.at_int HR0.out (ji9) p117 q117
              cases e117
              replace hx117_0 := zx HB.out hx117_0
              replace p117 := eq_true p117
              replace q117 := eq_true q117
              go_wp2
              go_roundg k3
              case measure => have := HJ3.out; have := HK2.out; have := HK3.out; omega
              case rel => exact ⟨(wrap64 ((wrap64 (x8_3 * 2)) + (wrap64 (Int.tmod (ji14) 2)))), (wrap64 (x9_3 - 1)), (by first | rfl | (simp; done) | (simp only [← hji14] <;> (first | rfl | simp)) | (simp [*]; done)), zr, H', ⟨by have := HJ3.out; have := HK2.out; have := HK3.out; omega⟩, ⟨zR HO_6.out⟩, ⟨z_⟩⟩
             ·rw [if_neg c13] at H
              exact absurd H (by simp)
            ·rw [if_neg c11] at H
             exact absurd H (by simp)
           ·rw [if_neg c10] at H
            exact absurd H (by simp)
          ·rw [if_neg c8] at H
           have c8b0 : decide (0 ≤ x9_3) = false := decide_eq_false c8
           clear c8
           by_cases c15 : x8_3 = 4
           ·rw [if_pos c15] at H
            have c15b0 : (x8_3 == 4) = true := beq_iff_eq.mpr c15
            have c15b1 : (x8_3 != 4) = false := bne_eq_false_iff_eq.mpr c15
            clear c15
            by_cases c16 : x6_2.length < 17592186044416
            ·rw [if_pos c16] at H
             have LMc16 := zA c16
             clear c16
             obtain ⟨y118, hy118⟩ : ∃ y_ : List Int, y_ = (x6_2 ++ [(-1)]) := ⟨_, rfl⟩
             replace H : (spec_UnpackHops.l0 k3 l0 a1 y118 (wrap64 (x7_2 + 1))) = some (r1, r2) := zh hy118
             have Ny118 := zA hy118
             clear hy118
             have H' := zA H
             clear H
             go_wp2_with (first | ((with_reducible refine gate_builtin (b := .append) (xs := #[.tmp 58, .tmp 60]) rfl ?_); (try (refine gate_guard (by rfl) ?_; dsimp only)); at_builtin; refine Kd.R_append (Kd.int .i64) (w0 := w) w.heap.size rfl (.tmp 58) (.tmp 60) 29 3 (.int .i64 0) 8 rfl Try.underlying29 info3 rfl (by decide) (by omega) u6 x6_2 (-1) [.int .i64 (-1)] (fun _ => True) (fun _ => False) rfl rfl ?aP (fun _ hk => hk.elim) ?aF ?aO ?aB ?aS ?aL ?_; (case aP => exact rfl); (case aB => exact z_); (case aF => exact (fun _ _ => trivial)); (case aO => exact (zR HO_6.out)); (case aS => exact (below_size z_)); (case aL => have := LMc16.out; omega); intro v119 w17 ho hb hg hat; rw [← Ny118.out] at ho; have n0_ := zA (hb); have n1_ := zA (ho); clear HB HO_6; have HB := n0_; have HO120 := n1_; clear n0_ n1_; clear ho hb hg hat))
             go_roundg k3
             case measure => have := HJ3.out; have := HK2.out; have := HK3.out; omega
             case rel => exact ⟨(y118), (wrap64 (x7_2 + 1)), zr, H', ⟨by have := HJ3.out; have := HK2.out; have := HK3.out; omega⟩, ⟨zR HO120.out⟩, ⟨z_⟩⟩
            ·rw [if_neg c16] at H
             exact absurd H (by simp)
           ·rw [if_neg c15] at H
            have c15b0 : (x8_3 == 4) = false := beq_eq_false_iff_ne.mpr c15
            have c15b1 : (x8_3 != 4) = true := bne_iff_ne.mpr c15
            by_cases c18 : x6_2.length < 17592186044416
            ·rw [if_pos c18] at H
             have LMc18 := zA c18
             clear c18
             obtain ⟨y121, hy121⟩ : ∃ y_ : List Int, y_ = (x6_2 ++ [x8_3]) := ⟨_, rfl⟩
             replace H : (spec_UnpackHops.l0 k3 l0 a1 y121 (wrap64 (x7_2 + 1))) = some (r1, r2) := zh hy121
             have Ny121 := zA hy121
             clear hy121
             have H' := zA H
             clear H
             go_wp2_with (first | ((with_reducible refine gate_builtin (b := .append) (xs := #[.tmp 58, .tmp 60]) rfl ?_); (try (refine gate_guard (by rfl) ?_; dsimp only)); at_builtin; refine Kd.R_append (Kd.int .i64) (w0 := w) w.heap.size rfl (.tmp 58) (.tmp 60) 29 3 (.int .i64 0) 8 rfl Try.underlying29 info3 rfl (by decide) (by omega) u6 x6_2 x8_3 [.int .i64 x8_3] (fun _ => True) (fun _ => False) rfl rfl ?aP (fun _ hk => hk.elim) ?aF ?aO ?aB ?aS ?aL ?_; (case aP => exact rfl); (case aB => exact z_); (case aF => exact (fun _ _ => trivial)); (case aO => exact (zR HO_6.out)); (case aS => exact (below_size z_)); (case aL => have := LMc18.out; omega); intro v122 w19 ho hb hg hat; rw [← Ny121.out] at ho; have n0_ := zA (hb); have n1_ := zA (ho); clear HB HO_6; have HB := n0_; have HO123 := n1_; clear n0_ n1_; clear ho hb hg hat))
             go_roundg k3
             case measure => have := HJ3.out; have := HK2.out; have := HK3.out; omega
             case rel => exact ⟨(y121), (wrap64 (x7_2 + 1)), zr, H', ⟨by have := HJ3.out; have := HK2.out; have := HK3.out; omega⟩, ⟨zR HO123.out⟩, ⟨z_⟩⟩
            ·rw [if_neg c18] at H
             exact absurd H (by simp)
       ·rw [if_neg c7] at H
        have c7b0 : decide (x7_2 < a1) = false := decide_eq_false c7
        clear c7
        replace H := Option.bind_eq_some_iff.mp H
        obtain ⟨⟨t113, t114⟩, A200, H⟩ := H
        replace H : (if t114 = 0 then (if (strOfNums t113).toList = (strOfNums l0).toList then (some (x6_2, 0)) else (some (([] : List Int), 9))) else (some (([] : List Int), 9))) = some (r1, r2) := H
        have A20 := zA A200
        clear A200
        by_cases c21 : t114 = 0
        ·rw [if_pos c21] at H
         have c21b0 : (t114 == 0) = true := beq_iff_eq.mpr c21
         have c21b1 : (t114 != 0) = false := bne_eq_false_iff_eq.mpr c21
         clear c21
         by_cases c22 : (strOfNums t113).toList = (strOfNums l0).toList
         ·rw [if_pos c22] at H
          have c22b0 : ((strOfNums t113).toList == (strOfNums l0).toList) = true := beq_iff_eq.mpr c22
          have c22b1 : ((strOfNums t113).toList != (strOfNums l0).toList) = false := bne_eq_false_iff_eq.mpr c22
          clear c22
          simp only [Option.some.injEq, Prod.mk.injEq] at H
          obtain ⟨rfl, rfl⟩ := H
          obtain ⟨Ao23, co23, eo23⟩ := Kd.R_slice HO_6.out
          subst eo23
          go_wp2_with (first | ((with_reducible refine gate_callee (f := 13) rfl ?_); refine goesL_ (some 64) rfl rfl Try.func13 (by kernel_rfl) rfl #[.slice Ao23 x6_2.length co23] rfl za ?_; (with_reducible refine (spec_PackHops.calls k2 _ _ x6_2 t113 t114 _ ?side1 ?side2 A20.out).mono ?_); (case side1 => exact zc ((Kd.R_reads' HO_6.out).2.2)); (case side2 => exact (Kd.R_reads' HO_6.out).2.1); rintro e w24 ⟨v115, rfl, ho0, hb⟩; refine ⟨_, rfl, ?_⟩; have n0_ := zA (Kd.R_below (zR HO_6.out) hb); have n1_ := zA (Kd.R_lower ho0 (below_size z_)); have n2_ := zA (below_step z_ hb); clear HO_6 HB; have HO_6 := n0_; have HO116 := n1_; have HB := n2_; clear n0_ n1_ n2_; (try clear hb); (try clear hb2); (try clear hk); (try clear hi); (try clear ho0); have hcv25 := own_string (P := Try.prog) Try.underlying23 Try.underlying5 Try.underlying9 (Kd.own_of_R HO116.out); have hcv26 := Kd.C_string (P := Try.prog) (A := A0) (c := c0) Try.underlying23 Try.underlying5 Try.underlying9 (Kd.C_below HR0.out HB.out)))
          go_ret2
          exact ⟨_, ze, by (with_reducible repeat (first | apply Kd.R_alloc | apply Kd.R_drewN | apply Kd.R_drew)); exact HO_6.out, z_⟩
         ·rw [if_neg c22] at H
          have c22b0 : ((strOfNums t113).toList == (strOfNums l0).toList) = false := beq_eq_false_iff_ne.mpr c22
          have c22b1 : ((strOfNums t113).toList != (strOfNums l0).toList) = true := bne_iff_ne.mpr c22
          simp only [Option.some.injEq, Prod.mk.injEq] at H
          obtain ⟨rfl, rfl⟩ := H
          obtain ⟨Ao27, co27, eo27⟩ := Kd.R_slice HO_6.out
          subst eo27
          go_wp2_with (first | ((with_reducible refine gate_callee (f := 13) rfl ?_); refine goesL_ (some 64) rfl rfl Try.func13 (by kernel_rfl) rfl #[.slice Ao27 x6_2.length co27] rfl za ?_; (with_reducible refine (spec_PackHops.calls k2 _ _ x6_2 t113 t114 _ ?side1 ?side2 A20.out).mono ?_); (case side1 => exact zc ((Kd.R_reads' HO_6.out).2.2)); (case side2 => exact (Kd.R_reads' HO_6.out).2.1); rintro e w28 ⟨v115, rfl, ho0, hb⟩; refine ⟨_, rfl, ?_⟩; have n0_ := zA (Kd.R_below (zR HO_6.out) hb); have n1_ := zA (Kd.R_lower ho0 (below_size z_)); have n2_ := zA (below_step z_ hb); clear HO_6 HB; have HO_6 := n0_; have HO116 := n1_; have HB := n2_; clear n0_ n1_ n2_; (try clear hb); (try clear hb2); (try clear hk); (try clear hi); (try clear ho0); have hcv29 := own_string (P := Try.prog) Try.underlying23 Try.underlying5 Try.underlying9 (Kd.own_of_R HO116.out); have hcv30 := Kd.C_string (P := Try.prog) (A := A0) (c := c0) Try.underlying23 Try.underlying5 Try.underlying9 (Kd.C_below HR0.out HB.out)))
          go_ret2
          exact ⟨_, ze, by first | exact Kd.R_nil _ _ _ _ _ | exact Kd.N_nil _ _ _ _ _ | exact Kd.V_nil _ _ _ _ _ | exact Kd.Q_nil _ _ _ _ _ | exact Kd.S_nil _ _ _ _ _, z_⟩
        ·rw [if_neg c21] at H
         have c21b0 : (t114 == 0) = false := beq_eq_false_iff_ne.mpr c21
         have c21b1 : (t114 != 0) = true := bne_iff_ne.mpr c21
         simp only [Option.some.injEq, Prod.mk.injEq] at H
         obtain ⟨rfl, rfl⟩ := H
         obtain ⟨Ao31, co31, eo31⟩ := Kd.R_slice HO_6.out
         subst eo31
         go_wp2_with (first | ((with_reducible refine gate_callee (f := 13) rfl ?_); refine goesL_ (some 64) rfl rfl Try.func13 (by kernel_rfl) rfl #[.slice Ao31 x6_2.length co31] rfl za ?_; (with_reducible refine (spec_PackHops.calls k2 _ _ x6_2 t113 t114 _ ?side1 ?side2 A20.out).mono ?_); (case side1 => exact zc ((Kd.R_reads' HO_6.out).2.2)); (case side2 => exact (Kd.R_reads' HO_6.out).2.1); rintro e w32 ⟨v115, rfl, ho0, hb⟩; refine ⟨_, rfl, ?_⟩; have n0_ := zA (Kd.R_below (zR HO_6.out) hb); have n1_ := zA (Kd.R_lower ho0 (below_size z_)); have n2_ := zA (below_step z_ hb); clear HO_6 HB; have HO_6 := n0_; have HO116 := n1_; have HB := n2_; clear n0_ n1_ n2_; (try clear hb); (try clear hb2); (try clear hk); (try clear hi); (try clear ho0)))
         go_ret2
         exact ⟨_, ze, by first | exact Kd.R_nil _ _ _ _ _ | exact Kd.N_nil _ _ _ _ _ | exact Kd.V_nil _ _ _ _ _ | exact Kd.Q_nil _ _ _ _ _ | exact Kd.S_nil _ _ _ _ _, z_⟩

/-! ### bytes_Equal: function 34 -/
def bytes_Equal.f (l0 : List Int) (l1 : List Int) : Option (Bool) := some ((strOfNums l0).toList == (strOfNums l1).toList)
set_option maxHeartbeats 8000000 in
set_option maxRecDepth 100000 in
theorem bytes_Equal.calls (A0 : Option Addr) (c0 : Nat) (l0 : List Int) (A1 : Option Addr) (c1 : Nat) (l1 : List Int) (r : Bool) (w : World) (hr0 : Kd.C (Kd.int .u8) w A0 l0.length l0) (hc0 : l0.length ≤ c0) (hr1 : Kd.C (Kd.int .u8) w A1 l1.length l1) (hc1 : l1.length ≤ c1) (h : bytes_Equal.f l0 l1 = some r) :
  Calls Try.prog 34 #[.slice A0 l0.length c0, .slice A1 l1.length c1] w fun e w' => e = .returned (.bool r) ∧ Drawn0 w w' := by
 have HR0 := zA hr0
 have HC0 := zA hc0
 clear hr0 hc0
 have HR1 := zA hr1
 have HC1 := zA hc1
 clear hr1 hc1
 have H : (some ((strOfNums l0).toList == (strOfNums l1).toList)) = some r := h
 clear h
 obtain rfl := Option.some.inj H
 have hcv3 := Kd.C_string (P := Try.prog) (A := A0) (c := c0) Try.underlying23 Try.underlying5 Try.underlying9 HR0.out
 have hcv4 := Kd.C_string (P := Try.prog) (A := A1) (c := c1) Try.underlying23 Try.underlying5 Try.underlying9 HR1.out
 go_enter Try.func34, Try.ntmps34
 go_wp2
 go_ret
 exact ⟨by first | rfl | (simp; done) | (simp [*]; done), by repeat (first | exact Drawn0.refl _ | apply Drawn0.step)⟩

/-! ### impl_UnpackHops: function 26 -/
mutual
def impl_UnpackHops.j0 : Nat → List Int → Int → Bool → Option (List Int × Int)
 | 0, _, _, _ => none
 | k + 1, x0, x1, x28 => if x28 = true then (some (([] : List Int), 9)) else (impl_UnpackHops.l0 k x0 (([] : List Int)) x1 0)
def impl_UnpackHops.l0 : Nat → List Int → List Int → Int → Int → Option (List Int × Int)
 | 0, _, _, _, _ => none
 | k + 1, x0, x6, x30, x31 => if x31 < x30 then (impl_UnpackHops.l1 k x0 x6 x31 0 x30 x31 0) else ((impl_PackHops.f k x6).bind fun bt134 => (if bt134.2 = 0 then ((bytes_Equal.f bt134.1 x0).bind fun t138 => (if t138 = true then (some (x6, 0)) else (some (([] : List Int), 9)))) else (some (([] : List Int), 9))))
def impl_UnpackHops.l1 : Nat → List Int → List Int → Int → Int → Int → Int → Int → Option (List Int × Int)
 | 0, _, _, _, _, _, _, _ => none
 | k + 1, x0, x6, x7, x8, x30, x31, x34 => if x34 < 3 then (if 0 ≤ (wrap64 (Int.tdiv (wrap64 ((wrap64 (3 * x7)) + x34)) 8)) then (if (wrap64 (Int.tdiv (wrap64 ((wrap64 (3 * x7)) + x34)) 8)) < (x0.length : Int) then (if 0 ≤ (Int.tmod (wrap64 ((wrap64 (3 * x7)) + x34)) 8) then (if 0 ≤ x34 then (impl_UnpackHops.l1 k x0 x6 x7 (Go.bits .or .i64 x8 (shl .i64 (wrap64 (Go.bits .and .u8 (shr .u8 (rd x0 (wrap64 (Int.tdiv (wrap64 ((wrap64 (3 * x7)) + x34)) 8))) (Int.tmod (wrap64 ((wrap64 (3 * x7)) + x34)) 8)) 1)) x34)) x30 x31 (wrap64 (x34 + 1))) else (none)) else (none)) else (none)) else (none)) else (if x8 = 4 then (if x6.length < 17592186044416 then (impl_UnpackHops.l0 k x0 (x6 ++ [(-1)]) x30 (wrap64 (x31 + 1))) else (none)) else (if x6.length < 17592186044416 then (impl_UnpackHops.l0 k x0 (x6 ++ [x8]) x30 (wrap64 (x31 + 1))) else (none)))
end
def impl_UnpackHops.f (k : Nat) (l0 : List Int) (a1 : Int) : Option (List Int × Int) := if a1 < 0 then (some (([] : List Int), 1)) else (if a1 > (wrap64 (8 * (l0.length : Int))) then (impl_UnpackHops.j0 k l0 a1 true) else (impl_UnpackHops.j0 k l0 a1 ((l0.length : Int) != (wrap64 (Int.tdiv (wrap64 ((wrap64 (3 * a1)) + 7)) 8)))))
theorem impl_UnpackHops.mono_l : ∀ k, (∀ y0 y1 y2, LeO (impl_UnpackHops.j0 k y0 y1 y2) (impl_UnpackHops.j0 (k + 1) y0 y1 y2)) ∧ (∀ y0 y1 y2 y3, LeO (impl_UnpackHops.l0 k y0 y1 y2 y3) (impl_UnpackHops.l0 (k + 1) y0 y1 y2 y3)) ∧ (∀ y0 y1 y2 y3 y4 y5 y6, LeO (impl_UnpackHops.l1 k y0 y1 y2 y3 y4 y5 y6) (impl_UnpackHops.l1 (k + 1) y0 y1 y2 y3 y4 y5 y6))
 | 0 => ⟨fun _ _ _ r h => by simp [impl_UnpackHops.j0] at h, fun _ _ _ _ r h => by simp [impl_UnpackHops.l0] at h, fun _ _ _ _ _ _ _ r h => by simp [impl_UnpackHops.l1] at h⟩
 | k + 1 => by
  obtain ⟨ih0, ih1, ih2⟩ := impl_UnpackHops.mono_l k
  refine ⟨?_, ?_, ?_⟩
  ·intro y0 y1 y2
   unfold impl_UnpackHops.j0
   have m1 := @impl_PackHops.mono
   exact zm
  ·intro y0 y1 y2 y3
   unfold impl_UnpackHops.l0
   have m1 := @impl_PackHops.mono
   exact zm
  ·intro y0 y1 y2 y3 y4 y5 y6
   unfold impl_UnpackHops.l1
   have m1 := @impl_PackHops.mono
   exact zm
theorem impl_UnpackHops.mono : ∀ a0 a1 k, LeO (impl_UnpackHops.f k a0 a1) (impl_UnpackHops.f (k + 1) a0 a1) := by
 intro a0 a1 k
 obtain ⟨ih0, ih1, ih2⟩ := impl_UnpackHops.mono_l k
 unfold impl_UnpackHops.f
 have m1 := @impl_PackHops.mono
 exact zm
set_option maxHeartbeats 8000000 in
set_option maxRecDepth 100000 in
theorem impl_UnpackHops.calls (k : Nat) (A0 : Option Addr) (c0 : Nat) (l0 : List Int) (a1 : Int) (r1 : List Int) (r2 : Int) (w : World) (hr0 : Kd.C (Kd.int .u8) w A0 l0.length l0) (hc0 : l0.length ≤ c0) (h : impl_UnpackHops.f k l0 a1 = some (r1, r2)) :
  Calls Try.prog 26 #[.slice A0 l0.length c0, .int .i64 a1] w fun e w' => ∃ v0_ : Value, e = .returned (.tuple #[v0_, .int .i64 r2]) ∧ Kd.R (Kd.int .i64) 3 w' w.heap.size (fun _ => True) v0_ r1 ∧ Below w.heap.size w w' := by
 have HR0 := zA hr0
 have HC0 := zA hc0
 clear hr0 hc0
 have HB := zA (Below.refl w.heap.size w)
 have H : (if a1 < 0 then (some (([] : List Int), 1)) else (if a1 > (wrap64 (8 * (l0.length : Int))) then (impl_UnpackHops.j0 k l0 a1 true) else (impl_UnpackHops.j0 k l0 a1 ((l0.length : Int) != (wrap64 (Int.tdiv (wrap64 ((wrap64 (3 * a1)) + 7)) 8)))))) = some (r1, r2) := h
 clear h
 by_cases c3 : a1 < 0
 ·rw [if_pos c3] at H
  have c3b0 : decide (a1 < 0) = true := decide_eq_true c3
  clear c3
  simp only [Option.some.injEq, Prod.mk.injEq] at H
  obtain ⟨rfl, rfl⟩ := H
  go_enter Try.func26, Try.ntmps26
  go_wp2
  go_ret2
  exact ⟨_, ze, by first | exact Kd.R_nil _ _ _ _ _ | exact Kd.N_nil _ _ _ _ _ | exact Kd.V_nil _ _ _ _ _ | exact Kd.Q_nil _ _ _ _ _ | exact Kd.S_nil _ _ _ _ _, z_⟩
 ·rw [if_neg c3] at H
  have c3b0 : decide (a1 < 0) = false := decide_eq_false c3
  clear c3
  have HC4 := zA H
  clear H
  go_enter Try.func26, Try.ntmps26
  go_upto_region 3 with (fail)
  go_cut [28] (fun v28 wc => ∃ (kq : Nat) (x28_3 : Bool), v28 = .bool x28_3 ∧ Aside0 (impl_UnpackHops.j0 kq l0 a1 x28_3 = some (r1, r2)) ∧ Aside0 (kq ≤ k) ∧ Aside0 (Below w.heap.size w wc))
  case first =>
   have H := HC4.out
   clear HC4
   by_cases c5 : a1 > (wrap64 (8 * (l0.length : Int)))
   ·rw [if_pos c5] at H
    have c5b0 : decide ((wrap64 (8 * (l0.length : Int))) < a1) = true := decide_eq_true c5
    clear c5
    (first | rw [c5b0] | (simp only [i64_w, i32_w]; rw [c5b0]) | skip)
    have H' := zA H
    clear H
    go_wp2
    go_meet
    case rel => exact ⟨_, (true), zr, H', ⟨by first | omega | exact Nat.le_refl _⟩, ⟨z_⟩⟩
   ·rw [if_neg c5] at H
    have c5b0 : decide ((wrap64 (8 * (l0.length : Int))) < a1) = false := decide_eq_false c5
    clear c5
    (first | rw [c5b0] | (simp only [i64_w, i32_w]; rw [c5b0]) | skip)
    have H' := zA H
    clear H
    go_wp2
    go_meet
    case rel => exact ⟨_, (((l0.length : Int) != (wrap64 (Int.tdiv (wrap64 ((wrap64 (3 * a1)) + 7)) 8)))), zr, H', ⟨by first | omega | exact Nat.le_refl _⟩, ⟨z_⟩⟩
  case rest =>
   clear HC4
   (try clear c2); (try clear p2); (try clear c3); (try clear c3b0); (try clear c5); (try clear c5b0)
   obtain ⟨kq, x28_3, rfl, HA, HJ3, HB⟩ := hcut
   cases kq with
   | zero => exact absurd HA.out (by simp [impl_UnpackHops.j0])
   | succ kj3 =>
    have H := HA.out
    clear HA
    simp only [impl_UnpackHops.j0] at H
    by_cases c6 : x28_3 = true
    ·subst c6
     have H1 : (some (([] : List Int), 9)) = some (r1, r2) := by rw [if_pos rfl] at H; exact H
     clear H
     have H := H1
     clear H1
     simp only [Option.some.injEq, Prod.mk.injEq] at H
     obtain ⟨rfl, rfl⟩ := H
     go_wp2
     go_ret2
     exact ⟨_, ze, by first | exact Kd.R_nil _ _ _ _ _ | exact Kd.N_nil _ _ _ _ _ | exact Kd.V_nil _ _ _ _ _ | exact Kd.Q_nil _ _ _ _ _ | exact Kd.S_nil _ _ _ _ _, z_⟩
    ·replace c6 := Bool.eq_false_iff.mpr c6
     subst c6
     have H1 : (impl_UnpackHops.l0 kj3 l0 (([] : List Int)) a1 0) = some (r1, r2) := by rw [if_neg (show ¬ (false = true) by decide)] at H; exact H
     clear H
     have H := H1
     clear H1
     obtain ⟨y124, hy124⟩ : ∃ y_ : List Int, y_ = (([] : List Int)) := ⟨_, rfl⟩
     replace H : (impl_UnpackHops.l0 kj3 l0 y124 a1 0) = some (r1, r2) := zh hy124
     have Ny124 := zA hy124
     clear hy124
     have H' := zA H
     clear H
     go_wp2_with (first | ((with_reducible refine gate_dst (N := 29) rfl ?_); (try (refine gate_guard (by rfl) ?_; dsimp only)); refine Kd.R_lit (Kd.int .i64) _ 3 ?hg (N := 29) ?hd (xs := ([] : List Int)) (inner := []) (ok := fun _ => True) (okp := fun _ => True) ?hr ?hp (fun _ hk => hk) trivial (Below.refl _ _) (Nat.le_refl _) (by simp) ?_; (case hd => rfl); (case hg => rfl); (case hr => first | (go_simp; done) | (go_simp; rfl)); (case hp => exact (Reps.none _ _)); intro v125 w7 ho8 hb hg_ hnew_; clear hg_ hnew_; (first | rw [← Ny124.out] at ho8 | (simp only [Int.reduceToNat] at ho8; rw [← Ny124.out] at ho8)); have n0_ := zA (Kd.R_lower ho8 (below_size z_)); have n1_ := zA (below_step z_ hb); clear HB; have HO126 := n0_; have HB := n1_; clear n0_ n1_; clear hb ho8))
     go_loopg [6, 31] kj3 (fun kq v6 v31 w' => ∃ (x6_2 : List Int) (x31_2 : Int), v31 = .int .i64 x31_2 ∧ Aside0 (impl_UnpackHops.l0 kq l0 x6_2 a1 x31_2 = some (r1, r2)) ∧ Aside0 (kq ≤ kj3) ∧ Aside0 (Kd.R (Kd.int .i64) 3 w' w.heap.size (fun _ => True) v6 x6_2) ∧ Aside0 (Below w.heap.size w w'))
     case atStart => exact ⟨(y124), (0), zr, H', ⟨Nat.le_refl _⟩, ⟨zR HO126.out⟩, ⟨z_⟩⟩
     case round =>
      clear H'
      (try clear c2); (try clear p2); (try clear c3); (try clear c3b0); (try clear c5); (try clear c5b0); (try clear c6); (try clear p6); (try clear p2)
      obtain ⟨x6_2, x31_2, rfl, HA, HK2, HO_6, HB⟩ := hrel
      cases gk with
      | zero => exact absurd HA.out (by simp [impl_UnpackHops.l0])
      | succ k2 =>
       have H := HA.out
       clear HA
       simp only [impl_UnpackHops.l0] at H
       by_cases c9 : x31_2 < a1
       ·rw [if_pos c9] at H
        have c9b0 : decide (x31_2 < a1) = true := decide_eq_true c9
        clear c9
        have H' := zA H
        clear H
        go_wp2
        go_loopg [8, 34] k2 (fun kq v8 v34 w' => ∃ (x8_3 : Int) (x34_3 : Int), v8 = .int .i64 x8_3 ∧ v34 = .int .i64 x34_3 ∧ Aside0 (impl_UnpackHops.l1 kq l0 x6_2 x31_2 x8_3 a1 x31_2 x34_3 = some (r1, r2)) ∧ Aside0 (kq ≤ k2) ∧ Aside0 (Kd.R (Kd.int .i64) 3 w' w.heap.size (fun _ => True) u6 x6_2) ∧ Aside0 (Below w.heap.size w w'))
        case atStart => exact ⟨(0), (0), zr, zr, H', ⟨Nat.le_refl _⟩, ⟨zR HO_6.out⟩, ⟨z_⟩⟩
        case round =>
         clear H'
         (try clear c2); (try clear p2); (try clear c3); (try clear c3b0); (try clear c5); (try clear c5b0); (try clear c6); (try clear p6); (try clear c9); (try clear c9b0); (try clear p2); (try clear p6)
         obtain ⟨x8_3, x34_3, rfl, rfl, HA, HK3, HO_6, HB⟩ := hrel
         cases gk with
         | zero => exact absurd HA.out (by simp [impl_UnpackHops.l1])
         | succ k3 =>
          have H := HA.out
          clear HA
          simp only [impl_UnpackHops.l1] at H
          by_cases c10 : x34_3 < 3
          ·rw [if_pos c10] at H
           have c10b0 : decide (x34_3 < 3) = true := decide_eq_true c10
           clear c10
           obtain ⟨ji11, hji11⟩ : ∃ j_ : Int, (wrap64 (Int.tdiv (wrap64 ((wrap64 (3 * x31_2)) + x34_3)) 8)) = j_ := ⟨_, rfl⟩
           replace H : (if 0 ≤ (ji11) then (if (ji11) < (l0.length : Int) then (if 0 ≤ (Int.tmod (wrap64 ((wrap64 (3 * x31_2)) + x34_3)) 8) then (if 0 ≤ x34_3 then (impl_UnpackHops.l1 k3 l0 x6_2 x31_2 (Go.bits .or .i64 x8_3 (shl .i64 (wrap64 (Go.bits .and .u8 (shr .u8 (rd l0 (ji11)) (Int.tmod (wrap64 ((wrap64 (3 * x31_2)) + x34_3)) 8)) 1)) x34_3)) a1 x31_2 (wrap64 (x34_3 + 1))) else (none)) else (none)) else (none)) else (none)) = some (r1, r2) := by first | (rw [hji11] at H; exact H) | (simp only [hji11] at H ⊢; exact H)
           have hji11w : (IntKind.i64.wrap (Int.tdiv (wrap64 ((wrap64 (3 * x31_2)) + x34_3)) 8)) = ji11 := (i64_w _).trans hji11
           by_cases c12 : 0 ≤ (ji11)
           ·rw [if_pos c12] at H
            have c12b0 : decide (0 ≤ (ji11)) = true := decide_eq_true c12
            clear c12
            by_cases c13 : (ji11) < (l0.length : Int)
            ·rw [if_pos c13] at H
             have c13b0 : decide ((ji11) < (l0.length : Int)) = true := decide_eq_true c13
             clear c13
             obtain ⟨ji14, hji14⟩ : ∃ j_ : Int, (Int.tmod (wrap64 ((wrap64 (3 * x31_2)) + x34_3)) 8) = j_ := ⟨_, rfl⟩
             replace H : (if 0 ≤ (ji14) then (if 0 ≤ x34_3 then (impl_UnpackHops.l1 k3 l0 x6_2 x31_2 (Go.bits .or .i64 x8_3 (shl .i64 (wrap64 (Go.bits .and .u8 (shr .u8 (rd l0 (ji11)) (ji14)) 1)) x34_3)) a1 x31_2 (wrap64 (x34_3 + 1))) else (none)) else (none)) = some (r1, r2) := by first | (rw [hji14] at H; exact H) | (simp only [hji14] at H ⊢; exact H)
             by_cases c15 : 0 ≤ (ji14)
             ·rw [if_pos c15] at H
              have c15b0 := eq_true c15
              have c15b1 : decide (0 ≤ (ji14)) = true := decide_eq_true c15
              clear c15
              obtain ⟨ji16, hji16⟩ : ∃ j_ : Int, (shr .u8 (rd l0 (ji11)) (ji14)) = j_ := ⟨_, rfl⟩
              replace H : (if 0 ≤ x34_3 then (impl_UnpackHops.l1 k3 l0 x6_2 x31_2 (Go.bits .or .i64 x8_3 (shl .i64 (wrap64 (Go.bits .and .u8 (ji16) 1)) x34_3)) a1 x31_2 (wrap64 (x34_3 + 1))) else (none)) = some (r1, r2) := by first | (rw [hji16] at H; exact H) | (simp only [hji16] at H ⊢; exact H)
              have hji16_ : ((rd l0 (ji11)) / 2 ^ min (ji14).toNat 8) = ji16 := hji16
              have hji16z : (ji14) ≤ 8 → ((rd l0 (ji11)) / 2 ^ (ji14).toNat) = ji16 := shr_small hji16
              by_cases c17 : 0 ≤ x34_3
              ·rw [if_pos c17] at H
               have c17b0 := eq_true c17
               have c17b1 : decide (0 ≤ x34_3) = true := decide_eq_true c17
               clear c17
               obtain ⟨ji18, hji18⟩ : ∃ j_ : Int, (shl .i64 (wrap64 (Go.bits .and .u8 (ji16) 1)) x34_3) = j_ := ⟨_, rfl⟩
               replace H : (impl_UnpackHops.l1 k3 l0 x6_2 x31_2 (Go.bits .or .i64 x8_3 (ji18)) a1 x31_2 (wrap64 (x34_3 + 1))) = some (r1, r2) := by first | (rw [hji18] at H; exact H) | (simp only [hji18] at H ⊢; exact H)
               have hji18_ : (IntKind.i64.wrap ((wrap64 (Go.bits .and .u8 (ji16) 1)) * 2 ^ min x34_3.toNat 64)) = ji18 := hji18
               have hji18z : x34_3 ≤ 64 → (IntKind.i64.wrap ((wrap64 (Go.bits .and .u8 (ji16) 1)) * 2 ^ x34_3.toNat)) = ji18 := shl_small hji18
               have hji18y : (wrap64 ((wrap64 (Go.bits .and .u8 (ji16) 1)) * 2 ^ min x34_3.toNat 64)) = ji18 := (i64_w _).symm.trans hji18_
               have hji18x : x34_3 ≤ 64 → (wrap64 ((wrap64 (Go.bits .and .u8 (ji16) 1)) * 2 ^ x34_3.toNat)) = ji18 := fun h_ => (i64_w _).symm.trans (hji18z h_)
               have H' := zA H
               clear H
               have p127 : 0 ≤ ((ji11) : Int) := zd
               have q127 : (ji11) < (l0.length : Int) := zd
               obtain ⟨ad127, e127, hx127_0⟩ := Kd.at_int HR0.out (ji11) p127 q127
               cases e127
               replace hx127_0 := zx HB.out hx127_0
               replace p127 := eq_true p127
               replace q127 := eq_true q127
               go_wp2
               go_roundg k3
               case measure => have := HJ3.out; have := HK2.out; have := HK3.out; omega
               case rel => exact ⟨(Go.bits .or .i64 x8_3 (ji18)), (wrap64 (x34_3 + 1)), (by first | rfl | (simp; done) | (simp only [← hji18] <;> (first | rfl | simp)) | (simp [*]; done)), zr, H', ⟨by have := HJ3.out; have := HK2.out; have := HK3.out; omega⟩, ⟨zR HO_6.out⟩, ⟨z_⟩⟩
              ·rw [if_neg c17] at H
               exact absurd H (by simp)
             ·rw [if_neg c15] at H
              exact absurd H (by simp)
            ·rw [if_neg c13] at H
             exact absurd H (by simp)
           ·rw [if_neg c12] at H
            exact absurd H (by simp)
          ·rw [if_neg c10] at H
           have c10b0 : decide (x34_3 < 3) = false := decide_eq_false c10
           clear c10
           by_cases c19 : x8_3 = 4
           ·rw [if_pos c19] at H
            have c19b0 : (x8_3 == 4) = true := beq_iff_eq.mpr c19
            have c19b1 : (x8_3 != 4) = false := bne_eq_false_iff_eq.mpr c19
            clear c19
            by_cases c20 : x6_2.length < 17592186044416
            ·rw [if_pos c20] at H
             have LMc20 := zA c20
             clear c20
             obtain ⟨y128, hy128⟩ : ∃ y_ : List Int, y_ = (x6_2 ++ [(-1)]) := ⟨_, rfl⟩
             replace H : (impl_UnpackHops.l0 k3 l0 y128 a1 (wrap64 (x31_2 + 1))) = some (r1, r2) := zh hy128
             have Ny128 := zA hy128
             clear hy128
             have H' := zA H
             clear H
             go_wp2_with (first | ((with_reducible refine gate_builtin (b := .append) (xs := #[.tmp 58, .tmp 60]) rfl ?_); (try (refine gate_guard (by rfl) ?_; dsimp only)); at_builtin; refine Kd.R_append (Kd.int .i64) (w0 := w) w.heap.size rfl (.tmp 58) (.tmp 60) 29 3 (.int .i64 0) 8 rfl Try.underlying29 info3 rfl (by decide) (by omega) u6 x6_2 (-1) [.int .i64 (-1)] (fun _ => True) (fun _ => False) rfl rfl ?aP (fun _ hk => hk.elim) ?aF ?aO ?aB ?aS ?aL ?_; (case aP => exact rfl); (case aB => exact z_); (case aF => exact (fun _ _ => trivial)); (case aO => exact (zR HO_6.out)); (case aS => exact (below_size z_)); (case aL => have := LMc20.out; omega); intro v129 w21 ho hb hg hat; rw [← Ny128.out] at ho; have n0_ := zA (hb); have n1_ := zA (ho); clear HB HO_6; have HB := n0_; have HO130 := n1_; clear n0_ n1_; clear ho hb hg hat))
             go_roundg k3
             case measure => have := HJ3.out; have := HK2.out; have := HK3.out; omega
             case rel => exact ⟨(y128), (wrap64 (x31_2 + 1)), zr, H', ⟨by have := HJ3.out; have := HK2.out; have := HK3.out; omega⟩, ⟨zR HO130.out⟩, ⟨z_⟩⟩
            ·rw [if_neg c20] at H
             exact absurd H (by simp)
           ·rw [if_neg c19] at H
            have c19b0 : (x8_3 == 4) = false := beq_eq_false_iff_ne.mpr c19
            have c19b1 : (x8_3 != 4) = true := bne_iff_ne.mpr c19
            by_cases c22 : x6_2.length < 17592186044416
            ·rw [if_pos c22] at H
             have LMc22 := zA c22
             clear c22
             obtain ⟨y131, hy131⟩ : ∃ y_ : List Int, y_ = (x6_2 ++ [x8_3]) := ⟨_, rfl⟩
             replace H : (impl_UnpackHops.l0 k3 l0 y131 a1 (wrap64 (x31_2 + 1))) = some (r1, r2) := zh hy131
             have Ny131 := zA hy131
             clear hy131
             have H' := zA H
             clear H
             go_wp2_with (first | ((with_reducible refine gate_builtin (b := .append) (xs := #[.tmp 58, .tmp 60]) rfl ?_); (try (refine gate_guard (by rfl) ?_; dsimp only)); at_builtin; refine Kd.R_append (Kd.int .i64) (w0 := w) w.heap.size rfl (.tmp 58) (.tmp 60) 29 3 (.int .i64 0) 8 rfl Try.underlying29 info3 rfl (by decide) (by omega) u6 x6_2 x8_3 [.int .i64 x8_3] (fun _ => True) (fun _ => False) rfl rfl ?aP (fun _ hk => hk.elim) ?aF ?aO ?aB ?aS ?aL ?_; (case aP => exact rfl); (case aB => exact z_); (case aF => exact (fun _ _ => trivial)); (case aO => exact (zR HO_6.out)); (case aS => exact (below_size z_)); (case aL => have := LMc22.out; omega); intro v132 w23 ho hb hg hat; rw [← Ny131.out] at ho; have n0_ := zA (hb); have n1_ := zA (ho); clear HB HO_6; have HB := n0_; have HO133 := n1_; clear n0_ n1_; clear ho hb hg hat))
             go_roundg k3
             case measure => have := HJ3.out; have := HK2.out; have := HK3.out; omega
             case rel => exact ⟨(y131), (wrap64 (x31_2 + 1)), zr, H', ⟨by have := HJ3.out; have := HK2.out; have := HK3.out; omega⟩, ⟨zR HO133.out⟩, ⟨z_⟩⟩
            ·rw [if_neg c22] at H
             exact absurd H (by simp)
       ·rw [if_neg c9] at H
        have c9b0 : decide (x31_2 < a1) = false := decide_eq_false c9
        clear c9
        replace H := Option.bind_eq_some_iff.mp H
        obtain ⟨⟨t134, t135⟩, A240, H⟩ := H
        replace H : (if t135 = 0 then ((bytes_Equal.f t134 l0).bind fun t138 => (if t138 = true then (some (x6_2, 0)) else (some (([] : List Int), 9)))) else (some (([] : List Int), 9))) = some (r1, r2) := H
        have A24 := zA A240
        clear A240
        by_cases c25 : t135 = 0
        ·rw [if_pos c25] at H
         have c25b0 : (t135 == 0) = true := beq_iff_eq.mpr c25
         have c25b1 : (t135 != 0) = false := bne_eq_false_iff_eq.mpr c25
         clear c25
         replace H := Option.bind_eq_some_iff.mp H
         obtain ⟨t138, A260, H⟩ := H
         replace H : (if t138 = true then (some (x6_2, 0)) else (some (([] : List Int), 9))) = some (r1, r2) := H
         have A26 := zA A260
         clear A260
         by_cases c27 : t138 = true
         ·subst c27
          have H1 : (some (x6_2, 0)) = some (r1, r2) := by rw [if_pos rfl] at H; exact H
          clear H
          have H := H1
          clear H1
          simp only [Option.some.injEq, Prod.mk.injEq] at H
          obtain ⟨rfl, rfl⟩ := H
          obtain ⟨Ao28, co28, eo28⟩ := Kd.R_slice HO_6.out
          subst eo28
          go_wp2_with (first | ((with_reducible refine gate_callee (f := 15) rfl ?_); refine goesL_ (some 65) rfl rfl Try.func15 (by kernel_rfl) rfl #[.slice Ao28 x6_2.length co28] rfl za ?_; (with_reducible refine (impl_PackHops.calls k2 _ _ x6_2 t134 t135 _ ?side1 ?side2 A24.out).mono ?_); (case side1 => exact zc ((Kd.R_reads' HO_6.out).2.2)); (case side2 => exact (Kd.R_reads' HO_6.out).2.1); rintro e w29 ⟨v136, rfl, ho0, hb⟩; refine ⟨_, rfl, ?_⟩; have n0_ := zA (Kd.R_below (zR HO_6.out) hb); have n1_ := zA (Kd.R_lower ho0 (below_size z_)); have n2_ := zA (below_step z_ hb); clear HO_6 HB; have HO_6 := n0_; have HO137 := n1_; have HB := n2_; clear n0_ n1_ n2_; (try clear hb); (try clear hb2); (try clear hk); (try clear hi); (try clear ho0); obtain ⟨Ao30, co30, eo30⟩ := Kd.R_slice HO137.out; subst eo30) | (go_at_call 34; (with_reducible refine (bytes_Equal.calls _ _ t134 _ _ l0 true _ ?side1 ?side2 ?side3 ?side4 A26.out).mono ?_); (case side1 => exact zc ((Kd.R_reads' HO137.out).2.2)); (case side2 => exact (Kd.R_reads' HO137.out).2.1); (case side3 => exact zc (Kd.C_below HR0.out HB.out)); (case side4 => exact HC0.out); rintro e w' ⟨rfl, ⟨nd, rfl⟩⟩))
          go_ret2
          exact ⟨_, ze, by (with_reducible repeat (first | apply Kd.R_alloc | apply Kd.R_drewN | apply Kd.R_drew)); exact HO_6.out, z_⟩
         ·replace c27 := Bool.eq_false_iff.mpr c27
          subst c27
          have H1 : (some (([] : List Int), 9)) = some (r1, r2) := by rw [if_neg (show ¬ (false = true) by decide)] at H; exact H
          clear H
          have H := H1
          clear H1
          simp only [Option.some.injEq, Prod.mk.injEq] at H
          obtain ⟨rfl, rfl⟩ := H
          obtain ⟨Ao31, co31, eo31⟩ := Kd.R_slice HO_6.out
          subst eo31
          go_wp2_with (first | ((with_reducible refine gate_callee (f := 15) rfl ?_); refine goesL_ (some 65) rfl rfl Try.func15 (by kernel_rfl) rfl #[.slice Ao31 x6_2.length co31] rfl za ?_; (with_reducible refine (impl_PackHops.calls k2 _ _ x6_2 t134 t135 _ ?side1 ?side2 A24.out).mono ?_); (case side1 => exact zc ((Kd.R_reads' HO_6.out).2.2)); (case side2 => exact (Kd.R_reads' HO_6.out).2.1); rintro e w32 ⟨v136, rfl, ho0, hb⟩; refine ⟨_, rfl, ?_⟩; have n0_ := zA (Kd.R_below (zR HO_6.out) hb); have n1_ := zA (Kd.R_lower ho0 (below_size z_)); have n2_ := zA (below_step z_ hb); clear HO_6 HB; have HO_6 := n0_; have HO137 := n1_; have HB := n2_; clear n0_ n1_ n2_; (try clear hb); (try clear hb2); (try clear hk); (try clear hi); (try clear ho0); obtain ⟨Ao33, co33, eo33⟩ := Kd.R_slice HO137.out; subst eo33) | (go_at_call 34; (with_reducible refine (bytes_Equal.calls _ _ t134 _ _ l0 false _ ?side1 ?side2 ?side3 ?side4 A26.out).mono ?_); (case side1 => exact zc ((Kd.R_reads' HO137.out).2.2)); (case side2 => exact (Kd.R_reads' HO137.out).2.1); (case side3 => exact zc (Kd.C_below HR0.out HB.out)); (case side4 => exact HC0.out); rintro e w' ⟨rfl, ⟨nd, rfl⟩⟩))
          go_ret2
          exact ⟨_, ze, by first | exact Kd.R_nil _ _ _ _ _ | exact Kd.N_nil _ _ _ _ _ | exact Kd.V_nil _ _ _ _ _ | exact Kd.Q_nil _ _ _ _ _ | exact Kd.S_nil _ _ _ _ _, z_⟩
        ·rw [if_neg c25] at H
         have c25b0 : (t135 == 0) = false := beq_eq_false_iff_ne.mpr c25
         have c25b1 : (t135 != 0) = true := bne_iff_ne.mpr c25
         simp only [Option.some.injEq, Prod.mk.injEq] at H
         obtain ⟨rfl, rfl⟩ := H
         obtain ⟨Ao34, co34, eo34⟩ := Kd.R_slice HO_6.out
         subst eo34
         go_wp2_with (first | ((with_reducible refine gate_callee (f := 15) rfl ?_); refine goesL_ (some 65) rfl rfl Try.func15 (by kernel_rfl) rfl #[.slice Ao34 x6_2.length co34] rfl za ?_; (with_reducible refine (impl_PackHops.calls k2 _ _ x6_2 t134 t135 _ ?side1 ?side2 A24.out).mono ?_); (case side1 => exact zc ((Kd.R_reads' HO_6.out).2.2)); (case side2 => exact (Kd.R_reads' HO_6.out).2.1); rintro e w35 ⟨v136, rfl, ho0, hb⟩; refine ⟨_, rfl, ?_⟩; have n0_ := zA (Kd.R_below (zR HO_6.out) hb); have n1_ := zA (Kd.R_lower ho0 (below_size z_)); have n2_ := zA (below_step z_ hb); clear HO_6 HB; have HO_6 := n0_; have HO137 := n1_; have HB := n2_; clear n0_ n1_ n2_; (try clear hb); (try clear hb2); (try clear hk); (try clear hi); (try clear ho0)))
         go_ret2
         exact ⟨_, ze, by first | exact Kd.R_nil _ _ _ _ _ | exact Kd.N_nil _ _ _ _ _ | exact Kd.V_nil _ _ _ _ _ | exact Kd.Q_nil _ _ _ _ _ | exact Kd.S_nil _ _ _ _ _, z_⟩

def IsS55 (w0 W : World) (g : Nat) (f0 : List Int) (f1 : Int) : Prop := ∃ A0 c0, W.heap[g]? = some (.cells #[.slice A0 f0.length c0, .int .i64 f1] 55 (0, 0)) ∧ w0.heap.size ≤ g ∧ (Kd.C (Kd.int .u8) w0 A0 f0.length f0 ∧ f0.length ≤ c0)
theorem IsS55.grown {w0 W : World} {g : Nat} {f0 : List Int} {f1 : Int} {W1 : World} {row : Option Nat} (h : IsS55 w0 W g f0 f1) (hw : W.grownBy W1 row) (hne : some g ≠ row) : IsS55 w0 W1 g f0 f1 := by
 obtain ⟨A0, c0, hb, hg, hr0⟩ := h
 exact ⟨A0, c0, blk_grown hb hw hne, hg, hr0⟩
theorem IsS55.own_neN {w0 W : World} {g : Nat} {f0 : List Int} {f1 : Int} {α : Type} {d : Kd α} {e : Nat} {base : Nat} {ok : Nat → Prop} {v : Value} {xs : List α} (h : IsS55 w0 W g f0 f1) (ho : Kd.N d e W base ok v xs) (ht : e ≠ 55) : some g ≠ v.ownBlock := by
 obtain ⟨A0, c0, hb, hg, hr0⟩ := h
 exact Kd.N_ne ho hb ht
theorem IsS55.fresh {w0 W : World} {g : Nat} {f0 : List Int} {f1 : Int} (h : IsS55 w0 W g f0 f1) : ∀ k, W.heap.size ≤ k → k ≠ g := by
 obtain ⟨A0, c0, hb, hg, hr0⟩ := h
 exact Kd.freshB hb
theorem IsS55.kept {w0 W : World} {g : Nat} {f0 : List Int} {f1 : Int} {W1 : World} {S : Nat → Prop} (h : IsS55 w0 W g f0 f1) (hk : Kept W W1 S) (hne : ¬ S g) : IsS55 w0 W1 g f0 f1 := by
 obtain ⟨A0, c0, hb, hg, hr0⟩ := h
 exact ⟨A0, c0, blk_kept hb hk hne, hg, hr0⟩
theorem IsS55.below {w0 W : World} {g : Nat} {f0 : List Int} {f1 : Int} {W1 : World} (h : IsS55 w0 W g f0 f1) (hw : Below W.heap.size W W1) : IsS55 w0 W1 g f0 f1 := h.grown (grown_of_below hw none) (by simp)
theorem IsS55.alloc {w0 W : World} {g : Nat} {f0 : List Int} {f1 : Int} (h : IsS55 w0 W g f0 f1) (o : Obj) : IsS55 w0 (W.alloc o) g f0 f1 := h.below (below_alloc (Below.refl _ _) o)
theorem IsS55.drewN {w0 W : World} {g : Nat} {f0 : List Int} {f1 : Int} (h : IsS55 w0 W g f0 f1) (m : Nat) : IsS55 w0 (W.drewN m) g f0 f1 := h
theorem IsS55.drew {w0 W : World} {g : Nat} {f0 : List Int} {f1 : Int} (h : IsS55 w0 W g f0 f1) : IsS55 w0 W.drew g f0 f1 := h
theorem IsS55.at_ {w0 W : World} {g : Nat} {f0 : List Int} {f1 : Int} {w' : World} {m : Nat} (hq : W.drewN m = w') (h : IsS55 w0 W g f0 f1) : IsS55 w0 w' g f0 f1 := by subst hq; exact IsS55.drewN h m
theorem IsS55.apart {w0 W : World} {g : Nat} {f0 : List Int} {f1 : Int} {α : Type} {d : Kd α} {e : Nat} {base : Nat} {ok : Nat → Prop} {v : Value} {xs : List α} (h : IsS55 w0 W g f0 f1) (ho : d.R e W base ok v xs) (ht : ∀ q, q ∈ e :: d.E → q ≠ 55) : d.R e W base (fun k => ok k ∧ k ≠ g) v xs := by
 obtain ⟨A0, c0, hb, hg, hr0⟩ := h
 exact Kd.R_types ho hb ht
theorem IsS55.own_ne {w0 W : World} {g : Nat} {f0 : List Int} {f1 : Int} {α : Type} {d : Kd α} {e : Nat} {base : Nat} {ok : Nat → Prop} {v : Value} {xs : List α} (h : IsS55 w0 W g f0 f1) (ho : d.R e W base ok v xs) (ht : e ≠ 55) : some g ≠ v.ownBlock := by
 obtain ⟨A0, c0, hb, hg, hr0⟩ := h
 exact Kd.R_ne ho hb ht
theorem IsS55.apartQ {w0 W : World} {g : Nat} {f0 : List Int} {f1 : Int} {α : Type} {d : Kd α} {e : Nat} {base : Nat} {ok : Nat → Prop} {v : Value} {xs : List α} (h : IsS55 w0 W g f0 f1) (ho : d.Q e W base ok v xs) (ht : ∀ q, q ∈ e :: d.E → q ≠ 55) : d.Q e W base (fun k => ok k ∧ k ≠ g) v xs := by
 obtain ⟨A0, c0, hb, hg, hr0⟩ := h
 exact Kd.Q_types ho hb ht
theorem IsS55.own_neQ {w0 W : World} {g : Nat} {f0 : List Int} {f1 : Int} {α : Type} {d : Kd α} {e : Nat} {base : Nat} {ok : Nat → Prop} {v : Value} {xs : List α} (h : IsS55 w0 W g f0 f1) (ho : d.Q e W base ok v xs) (ht : e ≠ 55) : some g ≠ v.ownBlock := by
 obtain ⟨A0, c0, hb, hg, hr0⟩ := h
 exact Kd.Q_ne ho hb ht
theorem IsS55.apartS {w0 W : World} {g : Nat} {f0 : List Int} {f1 : Int} {α : Type} {d : Kd α} {e : Nat} {base : Nat} {ok : Nat → Prop} {v : Value} {xs : List α} (h : IsS55 w0 W g f0 f1) (ho : d.S e W base ok v xs) (ht : ∀ q, q ∈ e :: d.E → q ≠ 55) : d.S e W base (fun k => ok k ∧ k ≠ g) v xs := by
 obtain ⟨A0, c0, hb, hg, hr0⟩ := h
 exact Kd.S_types ho hb ht
theorem IsS55.own_neS {w0 W : World} {g : Nat} {f0 : List Int} {f1 : Int} {α : Type} {d : Kd α} {e : Nat} {base : Nat} {ok : Nat → Prop} {v : Value} {xs : List α} (h : IsS55 w0 W g f0 f1) (ho : d.S e W base ok v xs) (ht : e ≠ 55) : some g ≠ v.ownBlock := by
 obtain ⟨A0, c0, hb, hg, hr0⟩ := h
 exact Kd.S_ne ho hb ht
theorem IsS55.lt {w0 W : World} {g : Nat} {f0 : List Int} {f1 : Int} (h : IsS55 w0 W g f0 f1) : g < W.heap.size := by
 obtain ⟨A0, c0, hb, hg, hr0⟩ := h
 exact blk_lt hb
theorem IsS55.ge {w0 W : World} {g : Nat} {f0 : List Int} {f1 : Int} (h : IsS55 w0 W g f0 f1) : w0.heap.size ≤ g := by
 obtain ⟨A0, c0, hb, hg, hr0⟩ := h
 exact hg
theorem IsS55.ne_blk {w0 W : World} {g : Nat} {f0 : List Int} {f1 : Int} {a : Nat} {cs : Array Value} {t : TypeId} {fr : Nat × Nat} (h : IsS55 w0 W g f0 f1) (hb2 : W.heap[a]? = some (.cells cs t fr)) (ht : t ≠ 55) : g ≠ a := by
 obtain ⟨A0, c0, hb, hg, hr0⟩ := h
 rintro rfl
 rw [hb] at hb2
 injection hb2 with hb2
 injection hb2 with _ ht2
 exact ht ht2.symm
theorem IsS55.far {w0 W : World} {g : Nat} {f0 : List Int} {f1 : Int} {p : Addr} (h : IsS55 w0 W g f0 f1) (hne : g ≠ p.block) (u : Value) : IsS55 w0 (W.setCell p u) g f0 f1 := by
 obtain ⟨A0, c0, hb, hg, hr0⟩ := h
 exact ⟨A0, c0, blk_far hb hne u, hg, hr0⟩
theorem cellS55_0 {W : World} {g : Nat} {A0 : Option Addr} {c0 : Nat} {f0 : List Int} {f1 : Int} (h : W.heap[g]? = some (.cells #[.slice A0 f0.length c0, .int .i64 f1] 55 (0, 0))) : W.cell? ⟨g, 0, none⟩ = some (.slice A0 f0.length c0) := (blk_cell h 0).trans rfl
theorem cellS55_1 {W : World} {g : Nat} {A0 : Option Addr} {c0 : Nat} {f0 : List Int} {f1 : Int} (h : W.heap[g]? = some (.cells #[.slice A0 f0.length c0, .int .i64 f1] 55 (0, 0))) : W.cell? ⟨g, 1, none⟩ = some (.int .i64 f1) := (blk_cell h 1).trans rfl
theorem IsS55.set_1 {w0 W : World} {g : Nat} {f0 : List Int} {f1 : Int} (h : IsS55 w0 W g f0 f1) (x : Int) : IsS55 w0 (W.setCell ⟨g, 1, none⟩ (.int .i64 x)) g f0 x := by
 obtain ⟨A0, c0, hb, hg, hr0⟩ := h
 exact ⟨A0, c0, by simpa using blk_set hb 1 (.int .i64 x), hg, hr0⟩
theorem IsS55.new (w0 W : World) (A0 : Option Addr) (c0 : Nat) (f0 : List Int) (f1 : Int) (hB : Below w0.heap.size w0 W) (hr0 : Kd.C (Kd.int .u8) w0 A0 f0.length f0 ∧ f0.length ≤ c0) : IsS55 w0 (W.alloc (.cells #[.slice A0 f0.length c0, .int .i64 f1] 55)) W.heap.size f0 f1 := ⟨A0, c0, by simpa using heap_alloc_new W _, hB.size, hr0⟩

/-! ### spec_l9open: function 35 -/
def spec_l9open.f (l0 : List Int) : Option (List Int × Int) := if (l0.length : Int) > 600 then (if 600 ≤ (l0.length : Int) then (some (l0.take 600, 0)) else (none)) else (if 0 ≤ (l0.length : Int) then (if (l0.length : Int) ≤ (l0.length : Int) then (some (l0.take ((l0.length : Int) : Int).toNat, 0)) else (none)) else (none))
set_option maxHeartbeats 8000000 in
set_option maxRecDepth 100000 in
theorem spec_l9open.calls (A0 : Option Addr) (c0 : Nat) (l0 : List Int) (r1 : List Int) (r2 : Int) (w0 w : World) (hB : Below w0.heap.size w0 w) (hr0 : Kd.C (Kd.int .u8) w0 A0 l0.length l0) (hc0 : l0.length ≤ c0) (h : spec_l9open.f l0 = some (r1, r2)) :
  Calls Try.prog 35 #[.slice A0 l0.length c0] w fun e w' => ∃ g_ : Nat, e = .returned (.pointer (some ⟨g_, 0, none⟩)) ∧ IsS55 w0 w' g_ r1 r2 ∧ Below w0.heap.size w0 w' ∧ Below w.heap.size w w' := by
 have hu55 := Try.underlying55
 have HR0 := zA hr0
 have HC0 := zA hc0
 clear hr0 hc0
 have HBW := zA (Below.refl w.heap.size w)
 have HW0 := zA hB.size
 have HB := zA hB
 clear hB
 have H : (if (l0.length : Int) > 600 then (if 600 ≤ (l0.length : Int) then (some (l0.take 600, 0)) else (none)) else (if 0 ≤ (l0.length : Int) then (if (l0.length : Int) ≤ (l0.length : Int) then (some (l0.take ((l0.length : Int) : Int).toNat, 0)) else (none)) else (none))) = some (r1, r2) := h
 clear h
 by_cases c2 : (l0.length : Int) > 600
 ·rw [if_pos c2] at H
  have c2b0 : decide (600 < (l0.length : Int)) = true := decide_eq_true c2
  have c2b1 : decide (600 < l0.length) = true := decide_eq_true (by omega)
  clear c2
  by_cases c3 : 600 ≤ (l0.length : Int)
  ·rw [if_pos c3] at H
   have c3b0 := eq_true c3
   have c3b1 : decide (600 ≤ (l0.length : Int)) = true := decide_eq_true c3
   clear c3
   simp only [Option.some.injEq, Prod.mk.injEq] at H
   obtain ⟨rfl, rfl⟩ := H
   obtain ⟨i04, hi04, _, hsz4, _⟩ := info_parts info5
   obtain ⟨hcut4, hA4, hC4⟩ := print_take_of (P := Try.prog) (Value.int .u8) 0 23 5 .i64 Try.underlying23 hi04 hsz4 A0 c0 l0 600 (by omega) (zd) HC0.out
   have HR139 := zA (Kd.C_of_reads (h1 := fun _ => rfl) (hA4 _ (Kd.reads_of_C HR0.out)))
   have HC139 := zA hC4
   clear hA4 hC4 hi04 hsz4
   go_enter Try.func35, Try.ntmps35
   go_wp2_with (first | ((with_reducible refine gate_dst (N := 12) rfl ?_); refine box_event ?hg (N := 12) ?hd (cs := #[.slice A0 (l0.take 600).length c0, .int .i64 0]) (t := 55) ?hr ?_; (case hd => rfl); (case hg => rfl); (case hr => first | (go_simp; done) | (go_simp; rfl)); intro gb140 hg w5 hbox hb; have n0_ := zA (below_step HBW.out hb); have n1_ := zA (below_step z_ hb); have n2_ := zA (hbox); have n3_ := zA ((by rw [hg]; exact (below_size (by repeat (first | (with_reducible first | exact HBW.out | apply below_alloc | apply pw_below_drewN | apply below_drew1) | exact HBW.out))) : w.heap.size ≤ gb140)); have n4_ := zA ((Nat.le_trans HW0.out (by rw [hg]; exact (below_size (by repeat (first | (with_reducible first | exact HBW.out | apply below_alloc | apply pw_below_drewN | apply below_drew1) | exact HBW.out))) : w.heap.size ≤ gb140) : w0.heap.size ≤ gb140)); clear HBW HB; have HBW := n0_; have HB := n1_; have BK140 := n2_; have GW140 := n3_; have GE140 := n4_; clear n0_ n1_ n2_ n3_ n4_; clear hb hbox hg))
   go_ret
   exact ⟨_, rfl, (show IsS55 w0 _ gb140 (l0.take 600) 0 from ⟨_, _, by (with_reducible repeat (first | refine blk_drewN ?_ _ | refine blk_drew ?_ | refine blk_alloc ?_ _)); exact BK140.out, GE140.out, HR139.out, HC139.out⟩), (zs GE140.out), by repeat (first | (with_reducible first | exact HBW.out | apply below_alloc | apply pw_below_drewN | apply below_drew1 | refine below_set ?_ GW140.out) | exact HBW.out)⟩
  ·rw [if_neg c3] at H
   exact absurd H (by simp)
 ·rw [if_neg c2] at H
  have c2b0 : decide (600 < (l0.length : Int)) = false := decide_eq_false c2
  have c2b1 : decide (600 < l0.length) = false := decide_eq_false (by omega)
  clear c2
  by_cases c6 : 0 ≤ (l0.length : Int)
  ·rw [if_pos c6] at H
   have c6b0 := eq_true c6
   have c6b1 : decide (0 ≤ (l0.length : Int)) = true := decide_eq_true c6
   clear c6
   by_cases c7 : (l0.length : Int) ≤ (l0.length : Int)
   ·rw [if_pos c7] at H
    have c7b0 := eq_true c7
    have c7b1 : decide ((l0.length : Int) ≤ (l0.length : Int)) = true := decide_eq_true c7
    clear c7
    simp only [Option.some.injEq, Prod.mk.injEq] at H
    obtain ⟨rfl, rfl⟩ := H
    obtain ⟨i08, hi08, _, hsz8, _⟩ := info_parts info5
    obtain ⟨hcut8, hA8, hC8⟩ := print_take_of (P := Try.prog) (Value.int .u8) 0 23 5 .i64 Try.underlying23 hi08 hsz8 A0 c0 l0 (l0.length : Int) (zd) (zd) HC0.out
    have HR141 := zA (Kd.C_of_reads (h1 := fun _ => rfl) (hA8 _ (Kd.reads_of_C HR0.out)))
    have HC141 := zA hC8
    clear hA8 hC8 hi08 hsz8
    go_enter Try.func35, Try.ntmps35
    go_wp2_with (first | ((with_reducible refine gate_dst (N := 12) rfl ?_); refine box_event ?hg (N := 12) ?hd (cs := #[.slice A0 (l0.take ((l0.length : Int) : Int).toNat).length c0, .int .i64 0]) (t := 55) ?hr ?_; (case hd => rfl); (case hg => rfl); (case hr => first | (go_simp; done) | (go_simp; rfl)); intro gb142 hg w9 hbox hb; have n0_ := zA (below_step HBW.out hb); have n1_ := zA (below_step z_ hb); have n2_ := zA (hbox); have n3_ := zA ((by rw [hg]; exact (below_size (by repeat (first | (with_reducible first | exact HBW.out | apply below_alloc | apply pw_below_drewN | apply below_drew1) | exact HBW.out))) : w.heap.size ≤ gb142)); have n4_ := zA ((Nat.le_trans HW0.out (by rw [hg]; exact (below_size (by repeat (first | (with_reducible first | exact HBW.out | apply below_alloc | apply pw_below_drewN | apply below_drew1) | exact HBW.out))) : w.heap.size ≤ gb142) : w0.heap.size ≤ gb142)); clear HBW HB; have HBW := n0_; have HB := n1_; have BK142 := n2_; have GW142 := n3_; have GE142 := n4_; clear n0_ n1_ n2_ n3_ n4_; clear hb hbox hg))
    go_ret
    exact ⟨_, rfl, (show IsS55 w0 _ gb142 (l0.take ((l0.length : Int) : Int).toNat) 0 from ⟨_, _, by (with_reducible repeat (first | refine blk_drewN ?_ _ | refine blk_drew ?_ | refine blk_alloc ?_ _)); exact BK142.out, GE142.out, HR141.out, HC141.out⟩), (zs GE142.out), by repeat (first | (with_reducible first | exact HBW.out | apply below_alloc | apply pw_below_drewN | apply below_drew1 | refine below_set ?_ GW142.out) | exact HBW.out)⟩
   ·rw [if_neg c7] at H
    exact absurd H (by simp)
  ·rw [if_neg c6] at H
   exact absurd H (by simp)

end Go.Proofs.Ytbeheecjemdcdaa.PFnHops
