-- made by wip/tools/myprint.py (this session's own program, over the kit's printer)
import Derived.Test.YthbeplmihjhoeaaDoorPFnExactEncodeImagex0
namespace Go.Proofs.YthbeplmihjhoeaaDoor.PFnExactEncodeImage
open Go.RowKit Go.Proofs.YthbeplmihjhoeaaDoorW.PrintWords Go.Proofs.YthbeplmihjhoeaaDoorW.PrintLast Go.Proofs.YthbeplmihjhoeaaDoorW.PrintMore
attribute [local go_sem] max2_int min2_int max_two min_two max_three min_three max_four min_four   -- for this text's walks alone
set_option linter.unusedVariables false
set_option linter.unusedSimpArgs false

/-! ### spec_PackHops: function 146 -/
mutual
def spec_PackHops.l0 : Nat → List Int → List Int → Int → Option (List Int × Int)
 | 0, _, _, _ => none
 | k + 1, x0, x4, x5 => if x5 < (x0.length : Int) then (if 0 ≤ x5 then (if (rd x0 x5) < (-1) then (spec_PackHops.j1 k x0 x4 x5 (rd x0 x5) true) else (spec_PackHops.j1 k x0 x4 x5 (rd x0 x5) (decide ((rd x0 x5) > 3)))) else (none)) else (some (x4, 0))
def spec_PackHops.j1 : Nat → List Int → List Int → Int → Int → Bool → Option (List Int × Int)
 | 0, _, _, _, _, _ => none
 | k + 1, x0, x4, x5, x6, x30 => if x30 = true then (some (([] : List Int), 1)) else (if x6 < 0 then (spec_PackHops.j2 k x0 x4 x5 4) else (spec_PackHops.j2 k x0 x4 x5 x6))
def spec_PackHops.j2 : Nat → List Int → List Int → Int → Int → Option (List Int × Int)
 | 0, _, _, _, _ => none
 | k + 1, x0, x4, x5, x6 => spec_PackHops.l1 k x0 x4 x5 x6 0
def spec_PackHops.l1 : Nat → List Int → List Int → Int → Int → Int → Option (List Int × Int)
 | 0, _, _, _, _, _ => none
 | k + 1, x0, x4, x5, x6, x7 => if x7 < 3 then (if (Int.tmod x6 2) = 1 then (if 0 ≤ (wrap64 (Int.tdiv (wrap64 ((wrap64 (3 * x5)) + x7)) 8)) then (if (wrap64 (Int.tdiv (wrap64 ((wrap64 (3 * x5)) + x7)) 8)) < (x4.length : Int) then (if 0 ≤ (IntKind.u64.wrap (Int.tmod (wrap64 ((wrap64 (3 * x5)) + x7)) 8)) then (spec_PackHops.l1 k x0 (x4.set ((wrap64 (Int.tdiv (wrap64 ((wrap64 (3 * x5)) + x7)) 8)) : Int).toNat (((rd x4 (wrap64 (Int.tdiv (wrap64 ((wrap64 (3 * x5)) + x7)) 8))) + (shl .u8 1 (IntKind.u64.wrap (Int.tmod (wrap64 ((wrap64 (3 * x5)) + x7)) 8)))) % 256)) x5 (wrap64 (Int.tdiv x6 2)) (wrap64 (x7 + 1))) else (none)) else (none)) else (none)) else (spec_PackHops.l1 k x0 x4 x5 (wrap64 (Int.tdiv x6 2)) (wrap64 (x7 + 1)))) else (spec_PackHops.l0 k x0 x4 (wrap64 (x5 + 1)))
end
def spec_PackHops.f (k : Nat) (l0 : List Int) : Option (List Int × Int) := if 0 ≤ (wrap64 (Int.tdiv (wrap64 ((wrap64 (3 * (l0.length : Int))) + 7)) 8)) then (if (wrap64 (Int.tdiv (wrap64 ((wrap64 (3 * (l0.length : Int))) + 7)) 8) : Int).toNat ≤ 281474976710656 then (spec_PackHops.l0 k l0 (List.replicate (wrap64 (Int.tdiv (wrap64 ((wrap64 (3 * (l0.length : Int))) + 7)) 8) : Int).toNat 0) 0) else (none)) else (none)
theorem spec_PackHops.mono_l : ∀ k, (∀ y0 y1 y2, LeO (spec_PackHops.l0 k y0 y1 y2) (spec_PackHops.l0 (k + 1) y0 y1 y2)) ∧ (∀ y0 y1 y2 y3 y4, LeO (spec_PackHops.j1 k y0 y1 y2 y3 y4) (spec_PackHops.j1 (k + 1) y0 y1 y2 y3 y4)) ∧ (∀ y0 y1 y2 y3, LeO (spec_PackHops.j2 k y0 y1 y2 y3) (spec_PackHops.j2 (k + 1) y0 y1 y2 y3)) ∧ (∀ y0 y1 y2 y3 y4, LeO (spec_PackHops.l1 k y0 y1 y2 y3 y4) (spec_PackHops.l1 (k + 1) y0 y1 y2 y3 y4))
 | 0 => ⟨fun _ _ _ r h => by simp [spec_PackHops.l0] at h, fun _ _ _ _ _ r h => by simp [spec_PackHops.j1] at h, fun _ _ _ _ r h => by simp [spec_PackHops.j2] at h, fun _ _ _ _ _ r h => by simp [spec_PackHops.l1] at h⟩
 | k + 1 => by
  obtain ⟨ih0, ih1, ih2, ih3⟩ := spec_PackHops.mono_l k
  refine ⟨?_, ?_, ?_, ?_⟩
  ·intro y0 y1 y2
   unfold spec_PackHops.l0
   exact zm
  ·intro y0 y1 y2 y3 y4
   unfold spec_PackHops.j1
   exact zm
  ·intro y0 y1 y2 y3
   unfold spec_PackHops.j2
   exact zm
  ·intro y0 y1 y2 y3 y4
   unfold spec_PackHops.l1
   exact zm
theorem spec_PackHops.mono : ∀ a0 k, LeO (spec_PackHops.f k a0) (spec_PackHops.f (k + 1) a0) := by
 intro a0 k
 obtain ⟨ih0, ih1, ih2, ih3⟩ := spec_PackHops.mono_l k
 unfold spec_PackHops.f
 exact zm
set_option maxHeartbeats 8000000 in
set_option maxRecDepth 100000 in
theorem spec_PackHops.calls (k : Nat) (A0 : Option Addr) (c0 : Nat) (l0 : List Int) (r1 : List Int) (r2 : Int) (w : World) (hr0 : Kd.C (Kd.int .i64) w A0 l0.length l0) (hc0 : l0.length ≤ c0) (h : spec_PackHops.f k l0 = some (r1, r2)) :
  Calls Tryd.prog 146 #[.slice A0 l0.length c0] w fun e w' => ∃ v0_ : Value, e = .returned (.tuple #[v0_, .int .i64 r2]) ∧ Kd.R (Kd.int .u8) 5 w' w.heap.size (fun _ => True) v0_ r1 ∧ Below w.heap.size w w' := by
 have HR0 := zA hr0
 have HC0 := zA hc0
 clear hr0 hc0
 have HB := zA (Below.refl w.heap.size w)
 have H : (if 0 ≤ (wrap64 (Int.tdiv (wrap64 ((wrap64 (3 * (l0.length : Int))) + 7)) 8)) then (if (wrap64 (Int.tdiv (wrap64 ((wrap64 (3 * (l0.length : Int))) + 7)) 8) : Int).toNat ≤ 281474976710656 then (spec_PackHops.l0 k l0 (List.replicate (wrap64 (Int.tdiv (wrap64 ((wrap64 (3 * (l0.length : Int))) + 7)) 8) : Int).toNat 0) 0) else (none)) else (none)) = some (r1, r2) := h
 clear h
 obtain ⟨ji2, hji2⟩ : ∃ j_ : Int, (wrap64 (Int.tdiv (wrap64 ((wrap64 (3 * (l0.length : Int))) + 7)) 8)) = j_ := ⟨_, rfl⟩
 replace H : (if 0 ≤ (ji2) then (if (ji2 : Int).toNat ≤ 281474976710656 then (spec_PackHops.l0 k l0 (List.replicate (ji2 : Int).toNat 0) 0) else (none)) else (none)) = some (r1, r2) := by first | (rw [hji2] at H; exact H) | (simp only [hji2] at H ⊢; exact H)
 have hji2w : (IntKind.i64.wrap (Int.tdiv (wrap64 ((wrap64 (3 * (l0.length : Int))) + 7)) 8)) = ji2 := (i64_w _).trans hji2
 by_cases c3 : 0 ≤ (ji2)
 ·rw [if_pos c3] at H
  have c3b0 := eq_true c3
  have c3b1 : decide (0 ≤ (ji2)) = true := decide_eq_true c3
  clear c3
  by_cases c4 : (ji2 : Int).toNat ≤ 281474976710656
  ·rw [if_pos c4] at H
   have c4b0 := eq_true c4
   have c4b1 : decide ((ji2 : Int).toNat ≤ 281474976710656) = true := decide_eq_true c4
   clear c4
   obtain ⟨y227, hy227⟩ : ∃ y_ : List Int, y_ = (List.replicate (ji2 : Int).toNat 0) := ⟨_, rfl⟩
   replace H : (spec_PackHops.l0 k l0 y227 0) = some (r1, r2) := zh hy227
   have Ny227 := zA hy227
   clear hy227
   have H' := zA H
   clear H
   go_enter Tryd.func146, Tryd.ntmps146
   go_wp2_with (first | ((with_reducible refine gate_dst (N := 14) rfl ?_); refine Kd.R_make (Kd.int .u8) _ 5 rfl (N := 14) rfl 54 _ _ rfl ji2 rfl rfl Tryd.underlying54 (.int .u8 0) 1 info5 rfl (by decide) (by omega) 0 (ok := fun _ => True) (okp := fun _ => True) rfl (fun _ hk => hk) trivial (zd) (Nat.le_trans (Nat.mul_le_mul_right _ (zd : ji2.toNat ≤ 281474976710656)) (by omega)) (Below.refl _ _) (Nat.le_refl _) ?_; intro v228 w5 ho6 hb hg_ hnew_; clear hg_ hnew_; (first | rw [← Ny227.out] at ho6 | (simp only [Int.reduceToNat] at ho6; rw [← Ny227.out] at ho6)); have n0_ := zA (Kd.R_lower ho6 (below_size z_)); have n1_ := zA (below_step z_ hb); clear HB; have HO229 := n0_; have HB := n1_; clear n0_ n1_; clear hb ho6))
   go_loopg [5] k (fun kq v5 w' => ∃ (x4_1 : List Int) (x5_1 : Int), v5 = .int .i64 x5_1 ∧ Aside0 (spec_PackHops.l0 kq l0 x4_1 x5_1 = some (r1, r2)) ∧ Aside0 (kq ≤ k) ∧ Aside0 (Kd.R (Kd.int .u8) 5 w' w.heap.size (fun _ => True) v228 x4_1) ∧ Aside0 (Below w.heap.size w w'))
   case atStart => exact ⟨(y227), (0), zr, H', ⟨Nat.le_refl _⟩, ⟨zR HO229.out⟩, ⟨z_⟩⟩
   case round =>
    clear H'
    (try clear c1); (try clear p2); (try clear c3); (try clear c3b0); (try clear c3b1); (try clear c4); (try clear c4b0); (try clear c4b1); (try clear p6)
    obtain ⟨x4_1, x5_1, rfl, HA, HK1, HO_4, HB⟩ := hrel
    cases gk with
    | zero => exact absurd HA.out (by simp [spec_PackHops.l0])
    | succ k1 =>
     have H := HA.out
     clear HA
     simp only [spec_PackHops.l0] at H
     by_cases c7 : x5_1 < (l0.length : Int)
     ·rw [if_pos c7] at H
      have c7b0 : decide (x5_1 < (l0.length : Int)) = true := decide_eq_true c7
      clear c7
      by_cases c8 : 0 ≤ x5_1
      ·rw [if_pos c8] at H
       have c8b0 : decide (0 ≤ x5_1) = true := decide_eq_true c8
       clear c8
       have HC9 := zA H
       clear H
       have p230 : 0 ≤ (x5_1 : Int) := zd
       have q230 : x5_1 < (l0.length : Int) := zd
       obtain ⟨ad230, e230, hx230_0⟩ := Kd.at_int HR0.out x5_1 p230 q230
       cases e230
       replace hx230_0 := zx HB.out hx230_0
       replace p230 := eq_true p230
       replace q230 := eq_true q230
       go_upto_region 6 with (fail)
       go_cut [30] (fun v30 wc => ∃ (kq : Nat) (x30_8 : Bool), v30 = .bool x30_8 ∧ Aside0 (spec_PackHops.j1 kq l0 x4_1 x5_1 (rd l0 x5_1) x30_8 = some (r1, r2)) ∧ Aside0 (kq ≤ k1) ∧ Aside0 (Kd.R (Kd.int .u8) 5 wc w.heap.size (fun _ => True) v228 x4_1) ∧ Aside0 (Below w.heap.size w wc))
       case first =>
        have H := HC9.out
        clear HC9
        by_cases c10 : (rd l0 x5_1) < (-1)
        ·rw [if_pos c10] at H
         have c10b0 : decide ((rd l0 x5_1) < (-1)) = true := decide_eq_true c10
         clear c10
         (first | rw [c10b0] | (simp only [i64_w, i32_w]; rw [c10b0]) | skip)
         have H' := zA H
         clear H
         go_wp2
         go_meet
         case rel => exact ⟨_, (true), zr, H', ⟨by have := HK1.out; first | omega | exact Nat.le_refl _⟩, ⟨zR HO_4.out⟩, ⟨z_⟩⟩
        ·rw [if_neg c10] at H
         have c10b0 : decide ((rd l0 x5_1) < (-1)) = false := decide_eq_false c10
         clear c10
         (first | rw [c10b0] | (simp only [i64_w, i32_w]; rw [c10b0]) | skip)
         have H' := zA H
         clear H
         go_wp2
         go_meet
         case rel => exact ⟨_, (decide ((rd l0 x5_1) > 3)), zr, H', ⟨by have := HK1.out; first | omega | exact Nat.le_refl _⟩, ⟨zR HO_4.out⟩, ⟨z_⟩⟩
       case rest =>
        clear HC9
        (try clear c1); (try clear p2); (try clear q2); (try clear hx2); (try clear c3); (try clear c3b0); (try clear c3b1); (try clear c4); (try clear c4b0); (try clear c4b1); (try clear p6); (try clear c7); (try clear c7b0); (try clear c8); (try clear c8b0); (try clear c10); (try clear c10b0); (try clear hx230_0); (try clear p2); (try clear p230); (try clear p6); (try clear q230)
        obtain ⟨kq, x30_8, rfl, HA, HJ8, HO_4, HB⟩ := hcut
        cases kq with
        | zero => exact absurd HA.out (by simp [spec_PackHops.j1])
        | succ kj8 =>
         have H := HA.out
         clear HA
         simp only [spec_PackHops.j1] at H
         by_cases c11 : x30_8 = true
         ·subst c11
          have H1 : (some (([] : List Int), 1)) = some (r1, r2) := by rw [if_pos rfl] at H; exact H
          clear H
          have H := H1
          clear H1
          simp only [Option.some.injEq, Prod.mk.injEq] at H
          obtain ⟨rfl, rfl⟩ := H
          go_wp2
          go_ret2
          exact ⟨_, by first | rfl | (simp [errW_none, errW_some] <;> rfl) | (simp only [← hji2]; first | rfl | (simp [errW_none, errW_some] <;> rfl)) | (simp [*, errW_none, errW_some] <;> rfl), by first | exact Kd.R_nil _ _ _ _ _ | exact Kd.N_nil _ _ _ _ _ | exact Kd.V_nil _ _ _ _ _ | exact Kd.Q_nil _ _ _ _ _ | exact Kd.S_nil _ _ _ _ _, z_⟩
         ·replace c11 := Bool.eq_false_iff.mpr c11
          subst c11
          have H1 : (if (rd l0 x5_1) < 0 then (spec_PackHops.j2 kj8 l0 x4_1 x5_1 4) else (spec_PackHops.j2 kj8 l0 x4_1 x5_1 (rd l0 x5_1))) = some (r1, r2) := by rw [if_neg (show ¬ (false = true) by decide)] at H; exact H
          clear H
          have H := H1
          clear H1
          have HC12 := zA H
          clear H
          go_upto_if 32 with (fail)
          go_cut [6] (fun v6 wc => ∃ (kq : Nat) (x6_11 : Int), v6 = .int .i64 x6_11 ∧ Aside0 (spec_PackHops.j2 kq l0 x4_1 x5_1 x6_11 = some (r1, r2)) ∧ Aside0 (kq ≤ kj8) ∧ Aside0 (Kd.R (Kd.int .u8) 5 wc w.heap.size (fun _ => True) v228 x4_1) ∧ Aside0 (Below w.heap.size w wc))
          case first =>
           have H := HC12.out
           clear HC12
           by_cases c13 : (rd l0 x5_1) < 0
           ·rw [if_pos c13] at H
            have c13b0 : decide ((rd l0 x5_1) < 0) = true := decide_eq_true c13
            clear c13
            (first | rw [c13b0] | (simp only [i64_w, i32_w]; rw [c13b0]) | skip)
            have H' := zA H
            clear H
            go_wp2
            go_meet
            case rel => exact ⟨_, (4), zr, H', ⟨by have := HK1.out; have := HJ8.out; first | omega | exact Nat.le_refl _⟩, ⟨zR HO_4.out⟩, ⟨z_⟩⟩
           ·rw [if_neg c13] at H
            have c13b0 : decide ((rd l0 x5_1) < 0) = false := decide_eq_false c13
            clear c13
            (first | rw [c13b0] | (simp only [i64_w, i32_w]; rw [c13b0]) | skip)
            have H' := zA H
            clear H
            go_wp2
            go_meet
            case rel => exact ⟨_, ((rd l0 x5_1)), zr, H', ⟨by have := HK1.out; have := HJ8.out; first | omega | exact Nat.le_refl _⟩, ⟨zR HO_4.out⟩, ⟨z_⟩⟩
          case rest =>
           clear HC12
           (try clear c1); (try clear p2); (try clear q2); (try clear hx2); (try clear c3); (try clear c3b0); (try clear c3b1); (try clear c4); (try clear c4b0); (try clear c4b1); (try clear p6); (try clear c7); (try clear c7b0); (try clear c8); (try clear c8b0); (try clear c10); (try clear c10b0); (try clear c11); (try clear c13); (try clear c13b0); (try clear hx230_0); (try clear p2); (try clear p230); (try clear p6); (try clear q2); (try clear q230)
           obtain ⟨kq, x6_11, rfl, HA, HJ11, HO_4, HB⟩ := hcut
           cases kq with
           | zero => exact absurd HA.out (by simp [spec_PackHops.j2])
           | succ kj11 =>
            have H := HA.out
            clear HA
            simp only [spec_PackHops.j2] at H
            have H' := zA H
            clear H
            go_wp2
            go_loopg [6, 7] kj11 (fun kq v6 v7 w' => ∃ (x4_4 : List Int) (x6_4 : Int) (x7_4 : Int), v6 = .int .i64 x6_4 ∧ v7 = .int .i64 x7_4 ∧ Aside0 (spec_PackHops.l1 kq l0 x4_4 x5_1 x6_4 x7_4 = some (r1, r2)) ∧ Aside0 (kq ≤ kj11) ∧ Aside0 (Kd.R (Kd.int .u8) 5 w' w.heap.size (fun _ => True) v228 x4_4) ∧ Aside0 (Below w.heap.size w w'))
            case atStart => exact ⟨(x4_1), (x6_11), (0), zr, zr, H', ⟨Nat.le_refl _⟩, ⟨zR HO_4.out⟩, ⟨z_⟩⟩
            case round =>
             clear H'
             (try clear c1); (try clear p2); (try clear q2); (try clear hx2); (try clear c3); (try clear c3b0); (try clear c3b1); (try clear c4); (try clear c4b0); (try clear c4b1); (try clear p6); (try clear c7); (try clear c7b0); (try clear c8); (try clear c8b0); (try clear c10); (try clear c10b0); (try clear c11); (try clear c13); (try clear c13b0); (try clear hx230_0); (try clear p2); (try clear p230); (try clear p6); (try clear q2); (try clear q230)
             obtain ⟨x4_4, x6_4, x7_4, rfl, rfl, HA, HK4, HO_4, HB⟩ := hrel
             cases gk with
             | zero => exact absurd HA.out (by simp [spec_PackHops.l1])
             | succ k4 =>
              have H := HA.out
              clear HA
              simp only [spec_PackHops.l1] at H
              by_cases c14 : x7_4 < 3
              ·rw [if_pos c14] at H
               have c14b0 : decide (x7_4 < 3) = true := decide_eq_true c14
               clear c14
               by_cases c15 : (Int.tmod x6_4 2) = 1
               ·rw [if_pos c15] at H
                have c15b0 : ((Int.tmod x6_4 2) == 1) = true := beq_iff_eq.mpr c15
                have c15b1 : ((Int.tmod x6_4 2) != 1) = false := bne_eq_false_iff_eq.mpr c15
                clear c15
                obtain ⟨ji16, hji16⟩ : ∃ j_ : Int, (wrap64 (Int.tdiv (wrap64 ((wrap64 (3 * x5_1)) + x7_4)) 8)) = j_ := ⟨_, rfl⟩
                replace H : (if 0 ≤ (ji16) then (if (ji16) < (x4_4.length : Int) then (if 0 ≤ (IntKind.u64.wrap (Int.tmod (wrap64 ((wrap64 (3 * x5_1)) + x7_4)) 8)) then (spec_PackHops.l1 k4 l0 (x4_4.set ((ji16) : Int).toNat (((rd x4_4 (ji16)) + (shl .u8 1 (IntKind.u64.wrap (Int.tmod (wrap64 ((wrap64 (3 * x5_1)) + x7_4)) 8)))) % 256)) x5_1 (wrap64 (Int.tdiv x6_4 2)) (wrap64 (x7_4 + 1))) else (none)) else (none)) else (none)) = some (r1, r2) := by first | (rw [hji16] at H; exact H) | (simp only [hji16] at H ⊢; exact H)
                have hji16w : (IntKind.i64.wrap (Int.tdiv (wrap64 ((wrap64 (3 * x5_1)) + x7_4)) 8)) = ji16 := (i64_w _).trans hji16
                by_cases c17 : 0 ≤ (ji16)
                ·rw [if_pos c17] at H
                 have c17b0 : decide (0 ≤ (ji16)) = true := decide_eq_true c17
                 clear c17
                 by_cases c18 : (ji16) < (x4_4.length : Int)
                 ·rw [if_pos c18] at H
                  have c18b0 : decide ((ji16) < (x4_4.length : Int)) = true := decide_eq_true c18
                  clear c18
                  obtain ⟨ji19, hji19⟩ : ∃ j_ : Int, (IntKind.u64.wrap (Int.tmod (wrap64 ((wrap64 (3 * x5_1)) + x7_4)) 8)) = j_ := ⟨_, rfl⟩
                  replace H : (if 0 ≤ (ji19) then (spec_PackHops.l1 k4 l0 (x4_4.set ((ji16) : Int).toNat (((rd x4_4 (ji16)) + (shl .u8 1 (ji19))) % 256)) x5_1 (wrap64 (Int.tdiv x6_4 2)) (wrap64 (x7_4 + 1))) else (none)) = some (r1, r2) := by first | (rw [hji19] at H; exact H) | (simp only [hji19] at H ⊢; exact H)
                  by_cases c20 : 0 ≤ (ji19)
                  ·rw [if_pos c20] at H
                   have c20b0 := eq_true c20
                   have c20b1 : decide (0 ≤ (ji19)) = true := decide_eq_true c20
                   clear c20
                   obtain ⟨ji21, hji21⟩ : ∃ j_ : Int, (shl .u8 1 (ji19)) = j_ := ⟨_, rfl⟩
                   replace H : (spec_PackHops.l1 k4 l0 (x4_4.set ((ji16) : Int).toNat (((rd x4_4 (ji16)) + (ji21)) % 256)) x5_1 (wrap64 (Int.tdiv x6_4 2)) (wrap64 (x7_4 + 1))) = some (r1, r2) := by first | (rw [hji21] at H; exact H) | (simp only [hji21] at H ⊢; exact H)
                   have hji21_ : (IntKind.u8.wrap (1 * 2 ^ min (ji19).toNat 8)) = ji21 := hji21
                   have hji21m : ((1 * 2 ^ min (ji19).toNat 8) % 256) = ji21 := (IntKind.wrap_u8 _).symm.trans hji21_
                   have hji21z : (ji19) ≤ 8 → (IntKind.u8.wrap (1 * 2 ^ (ji19).toNat)) = ji21 := shl_small hji21
                   have hji21u : (IntKind.u8.wrap (2 ^ min (ji19).toNat 8)) = ji21 := by have h_ := hji21_; rw [Int.one_mul] at h_; exact h_
                   have hji21v : (ji19) ≤ 8 → (IntKind.u8.wrap (2 ^ (ji19).toNat)) = ji21 := fun hle_ => by have h_ := hji21z hle_; rw [Int.one_mul] at h_; exact h_
                   obtain ⟨y232, hy232⟩ : ∃ y_ : List Int, y_ = (x4_4.set ((ji16) : Int).toNat (((rd x4_4 (ji16)) + (ji21)) % 256)) := ⟨_, rfl⟩
                   replace H : (spec_PackHops.l1 k4 l0 y232 x5_1 (wrap64 (Int.tdiv x6_4 2)) (wrap64 (x7_4 + 1))) = some (r1, r2) := zh hy232
                   have Ny232 := zA hy232
                   clear hy232
                   have H' := zA H
                   clear H
                   obtain ⟨Ao23, co23, eo23⟩ := Kd.R_slice HO_4.out
                   subst eo23
                   have p231 : 0 ≤ ((ji16) : Int) := zd
                   have q231 : (ji16) < (x4_4.length : Int) := zd
                   obtain ⟨ad231, e231, hx231_0⟩ := Kd.at_int (Kd.R_reads' HO_4.out).2.2 (ji16) p231 q231
                   cases e231
                   replace p231 := eq_true p231
                   replace q231 := eq_true q231
                   have p22 : 0 ≤ ((ji16) : Int) := zd
                   have q22 : ((ji16) : Int) < ((x4_4.length : Int) : Int) := zd
                   obtain ⟨go22, co22, eo22, gb22, gl22, cl22, HG22⟩ := Kd.R_form HO_4.out (by omega)
                   (first | cases eo22 | (injection eo22 with ea_ en_ ec_; (first | subst ea_ | (injection ea_ with ea_; subst ea_)); subst ec_; clear en_))
                   have GB22 := zA gb22
                   have GG22 := zA HG22
                   clear gb22 gl22 HG22
                   (first | simp only [add_plain] at hx231_0 | skip)
                   obtain ⟨hx22_0, hf22_0⟩ := Kd.R_celln 0 HO_4.out ((ji16) : Int) p22 q22
                   replace p22 := eq_true p22
                   replace q22 := eq_true q22
                   have HP24 := Kd.R_putg HO_4.out ((ji16) : Int) (((rd x4_4 (ji16)) + (ji21)) % 256)
                   go_wp2_with (first | ((with_reducible refine gate_store (t := 5) (p := 54) rfl ?_); refine store_event (t := 5) (p := 54) (v := ?vo_w25) (w1 := (wr.setCell ⟨go22, ((ji16) : Int).toNat, none⟩ (.int .u8 (((rd x4_4 (ji16)) + (ji21)) % 256)))) ?hg ?ho ?hn ?hr ?_; (case ho => rfl); (case hg => rfl); (case hn => rfl); (case hr => first | (go_simp; done) | (go_simp; rfl)); intro w25 hw; have hg : wr.grownBy w25 (some go22) := (by rw [hw]; exact HP24.2); have hp_ : Kd.R (Kd.int .u8) 5 w25 w.heap.size (fun _ => True) (.slice (some ⟨go22, 0, none⟩) x4_4.length co23) y232 := (by rw [hw, Ny232.out]; exact HP24.1); clear HP24; have n0_ := zA (hp_); have n1_ := zA ((by rw [hw]; exact below_set (HB.out) GB22.out : Below w.heap.size w w25)); clear HO_4 HB; have HO_4 := n0_; have HB := n1_; clear n0_ n1_; clear hg hw hp_))
                   go_roundg k4
                   case measure => have := HK1.out; have := HJ8.out; have := HJ11.out; have := HK4.out; omega
                   case rel => exact ⟨(y232), (wrap64 (Int.tdiv x6_4 2)), (wrap64 (x7_4 + 1)), zr, zr, H', ⟨by have := HK1.out; have := HJ8.out; have := HJ11.out; have := HK4.out; omega⟩, ⟨zR HO_4.out⟩, ⟨z_⟩⟩
                  ·rw [if_neg c20] at H
                   exact absurd H (by simp)
                 ·rw [if_neg c18] at H
                  exact absurd H (by simp)
                ·rw [if_neg c17] at H
                 exact absurd H (by simp)
               ·rw [if_neg c15] at H
                have c15b0 : ((Int.tmod x6_4 2) == 1) = false := beq_eq_false_iff_ne.mpr c15
                have c15b1 : ((Int.tmod x6_4 2) != 1) = true := bne_iff_ne.mpr c15
                have H' := zA H
                clear H
                go_wp2
                go_roundg k4
                case measure => have := HK1.out; have := HJ8.out; have := HJ11.out; have := HK4.out; omega
                case rel => exact ⟨(x4_4), (wrap64 (Int.tdiv x6_4 2)), (wrap64 (x7_4 + 1)), zr, zr, H', ⟨by have := HK1.out; have := HJ8.out; have := HJ11.out; have := HK4.out; omega⟩, ⟨zR HO_4.out⟩, ⟨z_⟩⟩
              ·rw [if_neg c14] at H
               have c14b0 : decide (x7_4 < 3) = false := decide_eq_false c14
               clear c14
               have H' := zA H
               clear H
               go_wp2
               go_roundg k4
               case measure => have := HK1.out; have := HJ8.out; have := HJ11.out; have := HK4.out; omega
               case rel => exact ⟨(x4_4), (wrap64 (x5_1 + 1)), zr, H', ⟨by have := HK1.out; have := HJ8.out; have := HJ11.out; have := HK4.out; omega⟩, ⟨zR HO_4.out⟩, ⟨z_⟩⟩
      ·rw [if_neg c8] at H
       exact absurd H (by simp)
     ·rw [if_neg c7] at H
      have c7b0 : decide (x5_1 < (l0.length : Int)) = false := decide_eq_false c7
      clear c7
      simp only [Option.some.injEq, Prod.mk.injEq] at H
      obtain ⟨rfl, rfl⟩ := H
      go_wp2
      go_ret2
      exact ⟨_, by first | rfl | (simp [errW_none, errW_some] <;> rfl) | (simp only [← hji2]; first | rfl | (simp [errW_none, errW_some] <;> rfl)) | (simp [*, errW_none, errW_some] <;> rfl), by (with_reducible repeat (first | apply Kd.R_alloc | apply Kd.R_drewN | apply Kd.R_drew)); exact HO_4.out, z_⟩
  ·rw [if_neg c4] at H
   exact absurd H (by simp)
 ·rw [if_neg c3] at H
  exact absurd H (by simp)

/-! ### spec_Crc32: function 147 -/
mutual
def spec_Crc32.l0 : Nat → List Int → Int → Int → Option (Int)
 | 0, _, _, _ => none
 | k + 1, x0, x3, x4 => if x4 < (x0.length : Int) then (if 0 ≤ x4 then (spec_Crc32.l1 k x0 (Go.bits .xor .u32 x3 ((rd x0 x4) % 4294967296)) x4 0) else (none)) else (some (Go.bits .xor .u32 x3 4294967295))
def spec_Crc32.l1 : Nat → List Int → Int → Int → Int → Option (Int)
 | 0, _, _, _, _ => none
 | k + 1, x0, x3, x4, x5 => if x5 < 8 then (if (Int.tmod x3 2) = 1 then (spec_Crc32.l1 k x0 (Go.bits .xor .u32 ((Int.tdiv x3 2) % 4294967296) 3988292384) x4 (wrap64 (x5 + 1))) else (spec_Crc32.l1 k x0 ((Int.tdiv x3 2) % 4294967296) x4 (wrap64 (x5 + 1)))) else (spec_Crc32.l0 k x0 x3 (wrap64 (x4 + 1)))
end
def spec_Crc32.f (k : Nat) (l0 : List Int) : Option (Int) := spec_Crc32.l0 k l0 4294967295 0
theorem spec_Crc32.mono_l : ∀ k, (∀ y0 y1 y2, LeO (spec_Crc32.l0 k y0 y1 y2) (spec_Crc32.l0 (k + 1) y0 y1 y2)) ∧ (∀ y0 y1 y2 y3, LeO (spec_Crc32.l1 k y0 y1 y2 y3) (spec_Crc32.l1 (k + 1) y0 y1 y2 y3))
 | 0 => ⟨fun _ _ _ r h => by simp [spec_Crc32.l0] at h, fun _ _ _ _ r h => by simp [spec_Crc32.l1] at h⟩
 | k + 1 => by
  obtain ⟨ih0, ih1⟩ := spec_Crc32.mono_l k
  refine ⟨?_, ?_⟩
  ·intro y0 y1 y2
   unfold spec_Crc32.l0
   exact zm
  ·intro y0 y1 y2 y3
   unfold spec_Crc32.l1
   exact zm
theorem spec_Crc32.mono : ∀ a0 k, LeO (spec_Crc32.f k a0) (spec_Crc32.f (k + 1) a0) := by
 intro a0 k
 obtain ⟨ih0, ih1⟩ := spec_Crc32.mono_l k
 unfold spec_Crc32.f
 exact zm
set_option maxHeartbeats 8000000 in
set_option maxRecDepth 100000 in
theorem spec_Crc32.calls (k : Nat) (A0 : Option Addr) (c0 : Nat) (l0 : List Int) (r : Int) (w : World) (hr0 : Kd.C (Kd.int .u8) w A0 l0.length l0) (hc0 : l0.length ≤ c0) (h : spec_Crc32.f k l0 = some r) :
  Calls Tryd.prog 147 #[.slice A0 l0.length c0] w fun e w' => e = .returned (.int .u32 r) ∧ Drawn0 w w' := by
 have HR0 := zA hr0
 have HC0 := zA hc0
 clear hr0 hc0
 have H : (spec_Crc32.l0 k l0 4294967295 0) = some r := h
 clear h
 have H' := zA H
 clear H
 go_enter Tryd.func147, Tryd.ntmps147
 go_wp2
 go_loopg [3, 4] k (fun kq v3 v4 w' => ∃ (x3_1 : Int) (x4_1 : Int), v3 = .int .u32 x3_1 ∧ v4 = .int .i64 x4_1 ∧ Aside0 (spec_Crc32.l0 kq l0 x3_1 x4_1 = some r) ∧ Aside0 (kq ≤ k) ∧ Drawn0 w w')
 case atStart => exact ⟨(4294967295), (0), zr, zr, H', ⟨Nat.le_refl _⟩, by repeat (first | exact Drawn0.refl _ | apply Drawn0.step)⟩
 case round =>
  clear H'
  (try clear c1)
  obtain ⟨x3_1, x4_1, rfl, rfl, HA, HK1, ⟨m1, rfl⟩⟩ := hrel
  cases gk with
  | zero => exact absurd HA.out (by simp [spec_Crc32.l0])
  | succ k1 =>
   have H := HA.out
   clear HA
   simp only [spec_Crc32.l0] at H
   by_cases c2 : x4_1 < (l0.length : Int)
   ·rw [if_pos c2] at H
    have c2b0 : decide (x4_1 < (l0.length : Int)) = true := decide_eq_true c2
    clear c2
    by_cases c3 : 0 ≤ x4_1
    ·rw [if_pos c3] at H
     have c3b0 : decide (0 ≤ x4_1) = true := decide_eq_true c3
     clear c3
     have H' := zA H
     clear H
     have p233 : 0 ≤ (x4_1 : Int) := zd
     have q233 : x4_1 < (l0.length : Int) := zd
     obtain ⟨ad233, e233, hx233_0⟩ := Kd.at_int HR0.out x4_1 p233 q233
     cases e233
     replace p233 := eq_true p233
     replace q233 := eq_true q233
     go_wp2
     go_loopg [3, 5] k1 (fun kq v3 v5 w' => ∃ (x3_2 : Int) (x5_2 : Int), v3 = .int .u32 x3_2 ∧ v5 = .int .i64 x5_2 ∧ Aside0 (spec_Crc32.l1 kq l0 x3_2 x4_1 x5_2 = some r) ∧ Aside0 (kq ≤ k1) ∧ Drawn0 w w')
     case atStart => exact ⟨(Go.bits .xor .u32 x3_1 ((rd l0 x4_1) % 4294967296)), (0), zr, zr, H', ⟨Nat.le_refl _⟩, by repeat (first | exact Drawn0.refl _ | apply Drawn0.step)⟩
     case round =>
      clear H'
      (try clear c1); (try clear c2); (try clear c2b0); (try clear p2); (try clear q2); (try clear hx2); (try clear c3); (try clear c3b0); (try clear hx233_0); (try clear p233); (try clear q233)
      obtain ⟨x3_2, x5_2, rfl, rfl, HA, HK2, ⟨m2, rfl⟩⟩ := hrel
      cases gk with
      | zero => exact absurd HA.out (by simp [spec_Crc32.l1])
      | succ k2 =>
       have H := HA.out
       clear HA
       simp only [spec_Crc32.l1] at H
       by_cases c4 : x5_2 < 8
       ·rw [if_pos c4] at H
        have c4b0 : decide (x5_2 < 8) = true := decide_eq_true c4
        clear c4
        by_cases c5 : (Int.tmod x3_2 2) = 1
        ·rw [if_pos c5] at H
         have c5b0 : ((Int.tmod x3_2 2) == 1) = true := beq_iff_eq.mpr c5
         have c5b1 : ((Int.tmod x3_2 2) != 1) = false := bne_eq_false_iff_eq.mpr c5
         clear c5
         have H' := zA H
         clear H
         go_wp2
         go_roundg k2
         case measure => have := HK1.out; have := HK2.out; omega
         case rel => exact ⟨(Go.bits .xor .u32 ((Int.tdiv x3_2 2) % 4294967296) 3988292384), (wrap64 (x5_2 + 1)), zr, zr, H', ⟨by have := HK1.out; have := HK2.out; omega⟩, by repeat (first | exact Drawn0.refl _ | apply Drawn0.step)⟩
        ·rw [if_neg c5] at H
         have c5b0 : ((Int.tmod x3_2 2) == 1) = false := beq_eq_false_iff_ne.mpr c5
         have c5b1 : ((Int.tmod x3_2 2) != 1) = true := bne_iff_ne.mpr c5
         have H' := zA H
         clear H
         go_wp2
         go_roundg k2
         case measure => have := HK1.out; have := HK2.out; omega
         case rel => exact ⟨((Int.tdiv x3_2 2) % 4294967296), (wrap64 (x5_2 + 1)), zr, zr, H', ⟨by have := HK1.out; have := HK2.out; omega⟩, by repeat (first | exact Drawn0.refl _ | apply Drawn0.step)⟩
       ·rw [if_neg c4] at H
        have c4b0 : decide (x5_2 < 8) = false := decide_eq_false c4
        clear c4
        have H' := zA H
        clear H
        go_wp2
        go_roundg k2
        case measure => have := HK1.out; have := HK2.out; omega
        case rel => exact ⟨(x3_2), (wrap64 (x4_1 + 1)), zr, zr, H', ⟨by have := HK1.out; have := HK2.out; omega⟩, by repeat (first | exact Drawn0.refl _ | apply Drawn0.step)⟩
    ·rw [if_neg c3] at H
     exact absurd H (by simp)
   ·rw [if_neg c2] at H
    have c2b0 : decide (x4_1 < (l0.length : Int)) = false := decide_eq_false c2
    clear c2
    obtain rfl := Option.some.inj H
    go_wp2
    go_ret
    exact ⟨by first | rfl | (simp; done) | (simp [*]; done), by repeat (first | exact Drawn0.refl _ | apply Drawn0.step)⟩

end Go.Proofs.YthbeplmihjhoeaaDoor.PFnExactEncodeImage
