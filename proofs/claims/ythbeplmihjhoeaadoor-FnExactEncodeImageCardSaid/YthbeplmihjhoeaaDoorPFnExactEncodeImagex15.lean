-- made by wip/tools/myprint.py (this session's own program, over the kit's printer)
import Derived.Test.YthbeplmihjhoeaaDoorPFnExactEncodeImagex0
namespace Go.Proofs.YthbeplmihjhoeaaDoor.PFnExactEncodeImage
open Go.RowKit Go.Proofs.YthbeplmihjhoeaaDoorW.PrintWords Go.Proofs.YthbeplmihjhoeaaDoorW.PrintLast Go.Proofs.YthbeplmihjhoeaaDoorW.PrintMore
attribute [local go_sem] max2_int min2_int max_two min_two max_three min_three max_four min_four   -- for this text's walks alone
set_option linter.unusedVariables false
set_option linter.unusedSimpArgs false

/-! ### impl_PackHops: function 91 -/
mutual
def impl_PackHops.l0 : Nat → List Int → List Int → Int → Int → Option (List Int × Int)
 | 0, _, _, _, _ => none
 | k + 1, x4, x15, x16, x17 => if x17 < x16 then (if 0 ≤ x17 then (if x17 < (x15.length : Int) then (if (rd x15 x17) < (-1) then (impl_PackHops.j1 k x4 x17 (rd x15 x17) x15 x16 x17 true) else (impl_PackHops.j1 k x4 x17 (rd x15 x17) x15 x16 x17 (decide ((rd x15 x17) > 3)))) else (none)) else (none)) else (some (x4, 0))
def impl_PackHops.j1 : Nat → List Int → Int → Int → List Int → Int → Int → Bool → Option (List Int × Int)
 | 0, _, _, _, _, _, _, _ => none
 | k + 1, x4, x5, x6, x15, x16, x17, x27 => if x27 = true then (some (([] : List Int), 1)) else (if x6 < 0 then (impl_PackHops.j2 k x4 x5 4 x15 x16 x17) else (impl_PackHops.j2 k x4 x5 x6 x15 x16 x17))
def impl_PackHops.j2 : Nat → List Int → Int → Int → List Int → Int → Int → Option (List Int × Int)
 | 0, _, _, _, _, _, _ => none
 | k + 1, x4, x5, x6, x15, x16, x17 => impl_PackHops.l1 k x4 x5 x6 x15 x16 x17 0
def impl_PackHops.l1 : Nat → List Int → Int → Int → List Int → Int → Int → Int → Option (List Int × Int)
 | 0, _, _, _, _, _, _, _ => none
 | k + 1, x4, x5, x6, x15, x16, x17, x30 => if x30 < 3 then (if 0 ≤ (wrap64 (Int.tdiv (wrap64 ((wrap64 (3 * x5)) + x30)) 8)) then (if (wrap64 (Int.tdiv (wrap64 ((wrap64 (3 * x5)) + x30)) 8)) < (x4.length : Int) then (if 0 ≤ x30 then (if 0 ≤ (Int.tmod (wrap64 ((wrap64 (3 * x5)) + x30)) 8) then (impl_PackHops.l1 k (x4.set ((wrap64 (Int.tdiv (wrap64 ((wrap64 (3 * x5)) + x30)) 8)) : Int).toNat (Go.bits .or .u8 (rd x4 (wrap64 (Int.tdiv (wrap64 ((wrap64 (3 * x5)) + x30)) 8))) (shl .u8 ((Go.bits .and .i64 (shr .i64 x6 x30) 1) % 256) (Int.tmod (wrap64 ((wrap64 (3 * x5)) + x30)) 8)))) x5 x6 x15 x16 x17 (wrap64 (x30 + 1))) else (none)) else (none)) else (none)) else (none)) else (impl_PackHops.l0 k x4 x15 x16 (wrap64 (x17 + 1)))
end
def impl_PackHops.f (k : Nat) (l0 : List Int) : Option (List Int × Int) := if 0 ≤ (wrap64 (Int.tdiv (wrap64 ((wrap64 (3 * (l0.length : Int))) + 7)) 8)) then (if (wrap64 (Int.tdiv (wrap64 ((wrap64 (3 * (l0.length : Int))) + 7)) 8) : Int).toNat ≤ 281474976710656 then (impl_PackHops.l0 k (List.replicate (wrap64 (Int.tdiv (wrap64 ((wrap64 (3 * (l0.length : Int))) + 7)) 8) : Int).toNat 0) l0 (l0.length : Int) 0) else (none)) else (none)
theorem impl_PackHops.mono_l : ∀ k, (∀ y0 y1 y2 y3, LeO (impl_PackHops.l0 k y0 y1 y2 y3) (impl_PackHops.l0 (k + 1) y0 y1 y2 y3)) ∧ (∀ y0 y1 y2 y3 y4 y5 y6, LeO (impl_PackHops.j1 k y0 y1 y2 y3 y4 y5 y6) (impl_PackHops.j1 (k + 1) y0 y1 y2 y3 y4 y5 y6)) ∧ (∀ y0 y1 y2 y3 y4 y5, LeO (impl_PackHops.j2 k y0 y1 y2 y3 y4 y5) (impl_PackHops.j2 (k + 1) y0 y1 y2 y3 y4 y5)) ∧ (∀ y0 y1 y2 y3 y4 y5 y6, LeO (impl_PackHops.l1 k y0 y1 y2 y3 y4 y5 y6) (impl_PackHops.l1 (k + 1) y0 y1 y2 y3 y4 y5 y6))
 | 0 => ⟨fun _ _ _ _ r h => by simp [impl_PackHops.l0] at h, fun _ _ _ _ _ _ _ r h => by simp [impl_PackHops.j1] at h, fun _ _ _ _ _ _ r h => by simp [impl_PackHops.j2] at h, fun _ _ _ _ _ _ _ r h => by simp [impl_PackHops.l1] at h⟩
 | k + 1 => by
  obtain ⟨ih0, ih1, ih2, ih3⟩ := impl_PackHops.mono_l k
  refine ⟨?_, ?_, ?_, ?_⟩
  ·intro y0 y1 y2 y3
   unfold impl_PackHops.l0
   exact zm
  ·intro y0 y1 y2 y3 y4 y5 y6
   unfold impl_PackHops.j1
   exact zm
  ·intro y0 y1 y2 y3 y4 y5
   unfold impl_PackHops.j2
   exact zm
  ·intro y0 y1 y2 y3 y4 y5 y6
   unfold impl_PackHops.l1
   exact zm
theorem impl_PackHops.mono : ∀ a0 k, LeO (impl_PackHops.f k a0) (impl_PackHops.f (k + 1) a0) := by
 intro a0 k
 obtain ⟨ih0, ih1, ih2, ih3⟩ := impl_PackHops.mono_l k
 unfold impl_PackHops.f
 exact zm
def impl_PackHops.T13 : Bool × List (List Nat × List Nat) := (true, [([], []), ([], []), ([1], [1]), ([0, 2], [0, 2]), ([3], [3]), ([], []), ([], []), ([5, 6], [5, 6]), ([7], [7]), ([8], [8]), ([], []), ([10], [10]), ([9, 11], [9, 11]), ([4, 12], [4, 12]), ([0, 2, 0, 1, 2, 3, 4, 5, 6, 7, 8, 9, 10, 11, 12, 13], [0, 2]), ([14, 13, 0, 1, 2, 3, 4, 5, 6, 7, 8, 9, 10, 11, 12, 13], [13, 14])])
def impl_PackHops.B13 : List Nat := [0, 0, 2, 7, 15, 0, 0, 96, 224, 480, 0, 1024, 4064, 8191, 16383, 32767]
theorem impl_PackHops.tab13 : rtab .any (opsOf Tryd.f91 13) = impl_PackHops.T13 := by kernel_rfl
theorem impl_PackHops.bits13 : waitsOk impl_PackHops.T13.2 impl_PackHops.B13 = true := by kernel_rfl
set_option maxHeartbeats 8000000 in
set_option maxRecDepth 100000 in
theorem impl_PackHops.calls (k : Nat) (A0 : Option Addr) (c0 : Nat) (l0 : List Int) (r1 : List Int) (r2 : Int) (w : World) (hr0 : Kd.C (Kd.int .i64) w A0 l0.length l0) (hc0 : l0.length ≤ c0) (h : impl_PackHops.f k l0 = some (r1, r2)) :
  Calls Tryd.prog 91 #[.slice A0 l0.length c0] w fun e w' => ∃ v0_ : Value, e = .returned (.tuple #[v0_, .int .i64 r2]) ∧ Kd.R (Kd.int .u8) 5 w' w.heap.size (fun _ => True) v0_ r1 ∧ Below w.heap.size w w' := by
 have HR0 := zA hr0
 have HC0 := zA hc0
 clear hr0 hc0
 have HB := zA (Below.refl w.heap.size w)
 have H : (if 0 ≤ (wrap64 (Int.tdiv (wrap64 ((wrap64 (3 * (l0.length : Int))) + 7)) 8)) then (if (wrap64 (Int.tdiv (wrap64 ((wrap64 (3 * (l0.length : Int))) + 7)) 8) : Int).toNat ≤ 281474976710656 then (impl_PackHops.l0 k (List.replicate (wrap64 (Int.tdiv (wrap64 ((wrap64 (3 * (l0.length : Int))) + 7)) 8) : Int).toNat 0) l0 (l0.length : Int) 0) else (none)) else (none)) = some (r1, r2) := h
 clear h
 obtain ⟨ji2, hji2⟩ : ∃ j_ : Int, (wrap64 (Int.tdiv (wrap64 ((wrap64 (3 * (l0.length : Int))) + 7)) 8)) = j_ := ⟨_, rfl⟩
 replace H : (if 0 ≤ (ji2) then (if (ji2 : Int).toNat ≤ 281474976710656 then (impl_PackHops.l0 k (List.replicate (ji2 : Int).toNat 0) l0 (l0.length : Int) 0) else (none)) else (none)) = some (r1, r2) := by first | (rw [hji2] at H; exact H) | (simp only [hji2] at H ⊢; exact H)
 have hji2w : (IntKind.i64.wrap (Int.tdiv (wrap64 ((wrap64 (3 * (l0.length : Int))) + 7)) 8)) = ji2 := (i64_w _).trans hji2
 by_cases c3 : 0 ≤ (ji2)
 ·rw [if_pos c3] at H
  have c3b0 := eq_true c3
  have c3b1 : decide (0 ≤ (ji2)) = true := decide_eq_true c3
  clear c3
  by_cases c4 : (ji2 : Int).toNat ≤ 281474976710656
  ·rw [if_pos c4] at H
   have c4b0 := eq_true c4
   have c4b1 : decide ((ji2 : Int).toNat ≤ 281474976710656) = true := decide_eq_true c4
   clear c4
   obtain ⟨y336, hy336⟩ : ∃ y_ : List Int, y_ = (List.replicate (ji2 : Int).toNat 0) := ⟨_, rfl⟩
   replace H : (impl_PackHops.l0 k y336 l0 (l0.length : Int) 0) = some (r1, r2) := zh hy336
   have Ny336 := zA hy336
   clear hy336
   have H' := zA H
   clear H
   go_enter Tryd.func91, Tryd.ntmps91
   go_wp2_with (first | ((with_reducible refine gate_dst (N := 14) rfl ?_); refine Kd.R_make (Kd.int .u8) _ 5 rfl (N := 14) rfl 54 _ _ rfl ji2 rfl rfl Tryd.underlying54 (.int .u8 0) 1 info5 rfl (by decide) (by omega) 0 (ok := fun _ => True) (okp := fun _ => True) rfl (fun _ hk => hk) trivial (zd) (Nat.le_trans (Nat.mul_le_mul_right _ (zd : ji2.toNat ≤ 281474976710656)) (by omega)) (Below.refl _ _) (Nat.le_refl _) ?_; intro v337 w5 ho6 hb hg_ hnew_; clear hg_ hnew_; (first | rw [← Ny336.out] at ho6 | (simp only [Int.reduceToNat] at ho6; rw [← Ny336.out] at ho6)); have n0_ := zA (Kd.R_lower ho6 (below_size z_)); have n1_ := zA (below_step z_ hb); clear HB; have HO338 := n0_; have HB := n1_; clear n0_ n1_; clear hb ho6))
   go_loopg [17] k (fun kq v17 w' => ∃ (x4_1 : List Int) (x17_1 : Int), v17 = .int .i64 x17_1 ∧ Aside0 (impl_PackHops.l0 kq x4_1 l0 (l0.length : Int) x17_1 = some (r1, r2)) ∧ Aside0 (kq ≤ k) ∧ Aside0 (Kd.R (Kd.int .u8) 5 w' w.heap.size (fun _ => True) v337 x4_1) ∧ Aside0 (Below w.heap.size w w'))
   case atStart => exact ⟨(y336), (0), zr, H', ⟨Nat.le_refl _⟩, ⟨zR HO338.out⟩, ⟨z_⟩⟩
   case round =>
    clear H'
    (try clear p2); (try clear c3); (try clear c3b0); (try clear c3b1); (try clear c4); (try clear c4b0); (try clear c4b1); (try clear p6)
    obtain ⟨x4_1, x17_1, rfl, HA, HK1, HO_4, HB⟩ := hrel
    cases gk with
    | zero => exact absurd HA.out (by simp [impl_PackHops.l0])
    | succ k1 =>
     have H := HA.out
     clear HA
     simp only [impl_PackHops.l0] at H
     by_cases c7 : x17_1 < (l0.length : Int)
     ·rw [if_pos c7] at H
      have c7b0 : decide (x17_1 < (l0.length : Int)) = true := decide_eq_true c7
      clear c7
      by_cases c8 : 0 ≤ x17_1
      ·rw [if_pos c8] at H
       have c8b0 : decide (0 ≤ x17_1) = true := decide_eq_true c8
       clear c8
       by_cases c9 : x17_1 < (l0.length : Int)
       ·rw [if_pos c9] at H
        have c9b0 : decide (x17_1 < (l0.length : Int)) = true := decide_eq_true c9
        clear c9
        have HC10 := zA H
        clear H
        have p339 : 0 ≤ (x17_1 : Int) := zd
        have q339 : x17_1 < (l0.length : Int) := zd
        obtain ⟨ad339, e339, hx339_0⟩ := Kd.at_int HR0.out x17_1 p339 q339
        cases e339
        replace hx339_0 := zx HB.out hx339_0
        replace p339 := eq_true p339
        replace q339 := eq_true q339
        go_upto_region 5 with (fail)
        go_cut [27] (fun v27 wc => ∃ (kq : Nat) (x27_9 : Bool), v27 = .bool x27_9 ∧ Aside0 (impl_PackHops.j1 kq x4_1 x17_1 (rd l0 x17_1) l0 (l0.length : Int) x17_1 x27_9 = some (r1, r2)) ∧ Aside0 (kq ≤ k1) ∧ Aside0 (Kd.R (Kd.int .u8) 5 wc w.heap.size (fun _ => True) v337 x4_1) ∧ Aside0 (Below w.heap.size w wc))
        case first =>
         have H := HC10.out
         clear HC10
         by_cases c11 : (rd l0 x17_1) < (-1)
         ·rw [if_pos c11] at H
          have c11b0 : decide ((rd l0 x17_1) < (-1)) = true := decide_eq_true c11
          clear c11
          (first | rw [c11b0] | (simp only [i64_w, i32_w]; rw [c11b0]) | skip)
          have H' := zA H
          clear H
          go_wp2
          go_meet
          case rel => exact ⟨_, (true), zr, H', ⟨by have := HK1.out; first | omega | exact Nat.le_refl _⟩, ⟨zR HO_4.out⟩, ⟨z_⟩⟩
         ·rw [if_neg c11] at H
          have c11b0 : decide ((rd l0 x17_1) < (-1)) = false := decide_eq_false c11
          clear c11
          (first | rw [c11b0] | (simp only [i64_w, i32_w]; rw [c11b0]) | skip)
          have H' := zA H
          clear H
          go_wp2
          go_meet
          case rel => exact ⟨_, (decide ((rd l0 x17_1) > 3)), zr, H', ⟨by have := HK1.out; first | omega | exact Nat.le_refl _⟩, ⟨zR HO_4.out⟩, ⟨z_⟩⟩
        case rest =>
         clear HC10
         (try clear c1); (try clear p2); (try clear c3); (try clear c3b0); (try clear c3b1); (try clear p3); (try clear q3); (try clear hx3); (try clear c4); (try clear c4b0); (try clear c4b1); (try clear p6); (try clear c7); (try clear c7b0); (try clear c8); (try clear c8b0); (try clear c9); (try clear c9b0); (try clear c11); (try clear c11b0); (try clear hx339_0); (try clear p2); (try clear p339); (try clear p6); (try clear q339)
         obtain ⟨kq, x27_9, rfl, HA, HJ9, HO_4, HB⟩ := hcut
         cases kq with
         | zero => exact absurd HA.out (by simp [impl_PackHops.j1])
         | succ kj9 =>
          have H := HA.out
          clear HA
          simp only [impl_PackHops.j1] at H
          by_cases c12 : x27_9 = true
          ·subst c12
           have H1 : (some (([] : List Int), 1)) = some (r1, r2) := by rw [if_pos rfl] at H; exact H
           clear H
           have H := H1
           clear H1
           simp only [Option.some.injEq, Prod.mk.injEq] at H
           obtain ⟨rfl, rfl⟩ := H
           go_wp2
           go_ret2
           exact ⟨_, by first | rfl | (simp [errW_none, errW_some] <;> rfl) | (simp only [← hji2]; first | rfl | (simp [errW_none, errW_some] <;> rfl)) | (simp [*, errW_none, errW_some] <;> rfl), by first | exact Kd.R_nil _ _ _ _ _ | exact Kd.N_nil _ _ _ _ _ | exact Kd.V_nil _ _ _ _ _ | exact Kd.Q_nil _ _ _ _ _ | exact Kd.S_nil _ _ _ _ _, z_⟩
          ·replace c12 := Bool.eq_false_iff.mpr c12
           subst c12
           have H1 : (if (rd l0 x17_1) < 0 then (impl_PackHops.j2 kj9 x4_1 x17_1 4 l0 (l0.length : Int) x17_1) else (impl_PackHops.j2 kj9 x4_1 x17_1 (rd l0 x17_1) l0 (l0.length : Int) x17_1)) = some (r1, r2) := by rw [if_neg (show ¬ (false = true) by decide)] at H; exact H
           clear H
           have H := H1
           clear H1
           have HC13 := zA H
           clear H
           go_upto_if 29 with (fail)
           go_cut [6] (fun v6 wc => ∃ (kq : Nat) (x6_12 : Int), v6 = .int .i64 x6_12 ∧ Aside0 (impl_PackHops.j2 kq x4_1 x17_1 x6_12 l0 (l0.length : Int) x17_1 = some (r1, r2)) ∧ Aside0 (kq ≤ kj9) ∧ Aside0 (Kd.R (Kd.int .u8) 5 wc w.heap.size (fun _ => True) v337 x4_1) ∧ Aside0 (Below w.heap.size w wc))
           case first =>
            have H := HC13.out
            clear HC13
            by_cases c14 : (rd l0 x17_1) < 0
            ·rw [if_pos c14] at H
             have c14b0 : decide ((rd l0 x17_1) < 0) = true := decide_eq_true c14
             clear c14
             (first | rw [c14b0] | (simp only [i64_w, i32_w]; rw [c14b0]) | skip)
             have H' := zA H
             clear H
             go_wp2
             go_meet
             case rel => exact ⟨_, (4), zr, H', ⟨by have := HK1.out; have := HJ9.out; first | omega | exact Nat.le_refl _⟩, ⟨zR HO_4.out⟩, ⟨z_⟩⟩
            ·rw [if_neg c14] at H
             have c14b0 : decide ((rd l0 x17_1) < 0) = false := decide_eq_false c14
             clear c14
             (first | rw [c14b0] | (simp only [i64_w, i32_w]; rw [c14b0]) | skip)
             have H' := zA H
             clear H
             go_wp2
             go_meet
             case rel => exact ⟨_, ((rd l0 x17_1)), zr, H', ⟨by have := HK1.out; have := HJ9.out; first | omega | exact Nat.le_refl _⟩, ⟨zR HO_4.out⟩, ⟨z_⟩⟩
           case rest =>
            clear HC13
            (try clear c1); (try clear p2); (try clear c3); (try clear c3b0); (try clear c3b1); (try clear p3); (try clear q3); (try clear hx3); (try clear c4); (try clear c4b0); (try clear c4b1); (try clear p6); (try clear c7); (try clear c7b0); (try clear c8); (try clear c8b0); (try clear c9); (try clear c9b0); (try clear c11); (try clear c11b0); (try clear c12); (try clear c14); (try clear c14b0); (try clear hx339_0); (try clear p2); (try clear p3); (try clear p339); (try clear p6); (try clear q3); (try clear q339)
            obtain ⟨kq, x6_12, rfl, HA, HJ12, HO_4, HB⟩ := hcut
            cases kq with
            | zero => exact absurd HA.out (by simp [impl_PackHops.j2])
            | succ kj12 =>
             have H := HA.out
             clear HA
             simp only [impl_PackHops.j2] at H
             have H' := zA H
             clear H
             go_wp2
             go_loopg [30] kj12 (fun kq v30 w' => ∃ (x4_4 : List Int) (x30_4 : Int), v30 = .int .i64 x30_4 ∧ Aside0 (impl_PackHops.l1 kq x4_4 x17_1 x6_12 l0 (l0.length : Int) x17_1 x30_4 = some (r1, r2)) ∧ Aside0 (kq ≤ kj12) ∧ Aside0 (Kd.R (Kd.int .u8) 5 w' w.heap.size (fun _ => True) v337 x4_4) ∧ Aside0 (Below w.heap.size w w'))
             case atStart => exact ⟨(x4_1), (0), zr, H', ⟨Nat.le_refl _⟩, ⟨zR HO_4.out⟩, ⟨z_⟩⟩
             case round =>
              clear H'
              (try clear c1); (try clear p2); (try clear c3); (try clear c3b0); (try clear c3b1); (try clear p3); (try clear q3); (try clear hx3); (try clear c4); (try clear c4b0); (try clear c4b1); (try clear p6); (try clear c7); (try clear c7b0); (try clear c8); (try clear c8b0); (try clear c9); (try clear c9b0); (try clear c11); (try clear c11b0); (try clear c12); (try clear c14); (try clear c14b0); (try clear hx339_0); (try clear p2); (try clear p3); (try clear p339); (try clear p6); (try clear q3); (try clear q339)
              obtain ⟨x4_4, x30_4, rfl, HA, HK4, HO_4, HB⟩ := hrel
              cases gk with
              | zero => exact absurd HA.out (by simp [impl_PackHops.l1])
              | succ k4 =>
               have H := HA.out
               clear HA
               simp only [impl_PackHops.l1] at H
               by_cases c15 : x30_4 < 3
               ·rw [if_pos c15] at H
                have c15b0 : decide (x30_4 < 3) = true := decide_eq_true c15
                clear c15
                obtain ⟨ji16, hji16⟩ : ∃ j_ : Int, (wrap64 (Int.tdiv (wrap64 ((wrap64 (3 * x17_1)) + x30_4)) 8)) = j_ := ⟨_, rfl⟩
                replace H : (if 0 ≤ (ji16) then (if (ji16) < (x4_4.length : Int) then (if 0 ≤ x30_4 then (if 0 ≤ (Int.tmod (wrap64 ((wrap64 (3 * x17_1)) + x30_4)) 8) then (impl_PackHops.l1 k4 (x4_4.set ((ji16) : Int).toNat (Go.bits .or .u8 (rd x4_4 (ji16)) (shl .u8 ((Go.bits .and .i64 (shr .i64 x6_12 x30_4) 1) % 256) (Int.tmod (wrap64 ((wrap64 (3 * x17_1)) + x30_4)) 8)))) x17_1 x6_12 l0 (l0.length : Int) x17_1 (wrap64 (x30_4 + 1))) else (none)) else (none)) else (none)) else (none)) = some (r1, r2) := by first | (rw [hji16] at H; exact H) | (simp only [hji16] at H ⊢; exact H)
                have hji16w : (IntKind.i64.wrap (Int.tdiv (wrap64 ((wrap64 (3 * x17_1)) + x30_4)) 8)) = ji16 := (i64_w _).trans hji16
                by_cases c17 : 0 ≤ (ji16)
                ·rw [if_pos c17] at H
                 have c17b0 : decide (0 ≤ (ji16)) = true := decide_eq_true c17
                 clear c17
                 by_cases c18 : (ji16) < (x4_4.length : Int)
                 ·rw [if_pos c18] at H
                  have c18b0 : decide ((ji16) < (x4_4.length : Int)) = true := decide_eq_true c18
                  clear c18
                  by_cases c19 : 0 ≤ x30_4
                  ·rw [if_pos c19] at H
                   have c19b0 := eq_true c19
                   have c19b1 : decide (0 ≤ x30_4) = true := decide_eq_true c19
                   clear c19
                   obtain ⟨ji20, hji20⟩ : ∃ j_ : Int, (shr .i64 x6_12 x30_4) = j_ := ⟨_, rfl⟩
                   replace H : (if 0 ≤ (Int.tmod (wrap64 ((wrap64 (3 * x17_1)) + x30_4)) 8) then (impl_PackHops.l1 k4 (x4_4.set ((ji16) : Int).toNat (Go.bits .or .u8 (rd x4_4 (ji16)) (shl .u8 ((Go.bits .and .i64 (ji20) 1) % 256) (Int.tmod (wrap64 ((wrap64 (3 * x17_1)) + x30_4)) 8)))) x17_1 x6_12 l0 (l0.length : Int) x17_1 (wrap64 (x30_4 + 1))) else (none)) = some (r1, r2) := by first | (rw [hji20] at H; exact H) | (simp only [hji20] at H ⊢; exact H)
                   have hji20_ : (x6_12 / 2 ^ min x30_4.toNat 64) = ji20 := hji20
                   have hji20z : x30_4 ≤ 64 → (x6_12 / 2 ^ x30_4.toNat) = ji20 := shr_small hji20
                   obtain ⟨ji21, hji21⟩ : ∃ j_ : Int, (Int.tmod (wrap64 ((wrap64 (3 * x17_1)) + x30_4)) 8) = j_ := ⟨_, rfl⟩
                   replace H : (if 0 ≤ (ji21) then (impl_PackHops.l1 k4 (x4_4.set ((ji16) : Int).toNat (Go.bits .or .u8 (rd x4_4 (ji16)) (shl .u8 ((Go.bits .and .i64 (ji20) 1) % 256) (ji21)))) x17_1 x6_12 l0 (l0.length : Int) x17_1 (wrap64 (x30_4 + 1))) else (none)) = some (r1, r2) := by first | (rw [hji21] at H; exact H) | (simp only [hji21] at H ⊢; exact H)
                   by_cases c22 : 0 ≤ (ji21)
                   ·rw [if_pos c22] at H
                    have c22b0 := eq_true c22
                    have c22b1 : decide (0 ≤ (ji21)) = true := decide_eq_true c22
                    clear c22
                    obtain ⟨ji23, hji23⟩ : ∃ j_ : Int, (shl .u8 ((Go.bits .and .i64 (ji20) 1) % 256) (ji21)) = j_ := ⟨_, rfl⟩
                    replace H : (impl_PackHops.l1 k4 (x4_4.set ((ji16) : Int).toNat (Go.bits .or .u8 (rd x4_4 (ji16)) (ji23))) x17_1 x6_12 l0 (l0.length : Int) x17_1 (wrap64 (x30_4 + 1))) = some (r1, r2) := by first | (rw [hji23] at H; exact H) | (simp only [hji23] at H ⊢; exact H)
                    have hji23_ : (IntKind.u8.wrap (((Go.bits .and .i64 (ji20) 1) % 256) * 2 ^ min (ji21).toNat 8)) = ji23 := hji23
                    have hji23m : ((((Go.bits .and .i64 (ji20) 1) % 256) * 2 ^ min (ji21).toNat 8) % 256) = ji23 := (IntKind.wrap_u8 _).symm.trans hji23_
                    have hji23z : (ji21) ≤ 8 → (IntKind.u8.wrap (((Go.bits .and .i64 (ji20) 1) % 256) * 2 ^ (ji21).toNat)) = ji23 := shl_small hji23
                    obtain ⟨y341, hy341⟩ : ∃ y_ : List Int, y_ = (x4_4.set ((ji16) : Int).toNat (Go.bits .or .u8 (rd x4_4 (ji16)) (ji23))) := ⟨_, rfl⟩
                    replace H : (impl_PackHops.l1 k4 y341 x17_1 x6_12 l0 (l0.length : Int) x17_1 (wrap64 (x30_4 + 1))) = some (r1, r2) := zh hy341
                    have Ny341 := zA hy341
                    clear hy341
                    have H' := zA H
                    clear H
                    try go_wp2
                    have n0_ := zA (Kd.R_drew HO_4.out)
                    have n1_ := zA (below_drew1 HB.out)
                    clear HO_4
                    clear HB
                    have HO_4 := n0_
                    have HB := n1_
                    clear n0_ n1_
                    obtain ⟨Ao26, co26, eo26⟩ := Kd.R_slice HO_4.out
                    (first | subst eo26 | (injection eo26 with f1_ f2_ f3_; have f4_ := f1_.symm; have f5_ := f3_.symm; clear f1_ f2_ f3_; subst f4_; subst f5_))
                    have p340 : 0 ≤ ((ji16) : Int) := zd
                    have q340 : (ji16) < (x4_4.length : Int) := zd
                    obtain ⟨ad340, e340, hx340_0⟩ := Kd.at_int (Kd.R_reads' HO_4.out).2.2 (ji16) p340 q340
                    cases e340
                    replace p340 := eq_true p340
                    replace q340 := eq_true q340
                    have p24 : 0 ≤ ((ji16) : Int) := zd
                    have q24 : ((ji16) : Int) < ((x4_4.length : Int) : Int) := zd
                    obtain ⟨go24, co24, eo24, gb24, gl24, cl24, HG24⟩ := Kd.R_form HO_4.out (by omega)
                    (first | cases eo24 | (injection eo24 with ea_ en_ ec_; (first | subst ea_ | (injection ea_ with ea_; subst ea_)); subst ec_; clear en_))
                    have GB24 := zA gb24
                    have GG24 := zA HG24
                    clear gb24 gl24 HG24
                    (first | simp only [add_plain] at hx340_0 | skip)
                    obtain ⟨hx24_0, hf24_0⟩ := Kd.R_celln 0 HO_4.out ((ji16) : Int) p24 q24
                    replace p24 := eq_true p24
                    replace q24 := eq_true q24
                    have HP27 := Kd.R_putn HO_4.out ((ji16) : Int) (Go.bits .or .u8 (rd x4_4 (ji16)) (ji23))
                    rw [← Ny341.out] at HP27
                    have HQ27 := zA HP27
                    clear HP27
                    refine start_ (n := 16) (S := fun w' => w'.cell? ⟨go24, ((ji16)).toNat, none⟩ = some (.int .u8 (rd x4_4 (ji16)))) (ds := [15]) #[false, false, false, false, false, false, false, false, false, false, false, false, false, false, false, false] (by kernel_rfl) rfl rfl (hx340_0) (fun hHeld => ?_); refine with_tabW impl_PackHops.tab13 impl_PackHops.bits13 (fun HT_ HW_ => ?_)
                    generalize wr.drew = w25 at HO_4 HB GG24 HQ27 hf24_0 hx24_0 hx340_0 hHeld ⊢
                    refine pure_ (i := 0) (N := some 37) (v := ?_) (a' := ?_) #[true, false, false, false, false, false, false, false, false, false, false, false, false, false, false, false] rfl rfl (any_of HT_.out (by kernel_rfl)) (fun _ _ _ h => h) (Or.inl ⟨by rfl, ?_⟩) ?_ ?_
                    rotate_left
                    ·intro w'
                     go_simp
                     with_reducible rfl
                    rotate_left
                    ·simp only [Act.put, List.setIfInBounds_toArray, List.set_cons_zero, List.set_cons_succ, i64_w, i32_w]
                     rfl
                    refine pure_ (i := 1) (N := some 38) (v := ?_) (a' := ?_) #[true, true, false, false, false, false, false, false, false, false, false, false, false, false, false, false] rfl rfl (any_of HT_.out (by kernel_rfl)) (fun _ _ _ h => h) (Or.inl ⟨by rfl, ?_⟩) ?_ ?_
                    rotate_left
                    ·intro w'
                     go_simp
                     with_reducible rfl
                    rotate_left
                    ·simp only [Act.put, List.setIfInBounds_toArray, List.set_cons_zero, List.set_cons_succ, i64_w, i32_w]
                     rfl
                    refine pure_ (i := 2) (N := some 39) (v := ?_) (a' := ?_) #[true, true, true, false, false, false, false, false, false, false, false, false, false, false, false, false] rfl rfl (any_of HT_.out (by kernel_rfl)) (fun _ _ _ h => h) (Or.inl ⟨by rfl, ?_⟩) ?_ ?_
                    rotate_left
                    ·intro w'
                     go_simp
                     with_reducible rfl
                    rotate_left
                    ·simp only [Act.put, List.setIfInBounds_toArray, List.set_cons_zero, List.set_cons_succ, i64_w, i32_w]
                     rfl
                    refine pure_ (i := 3) (N := some 40) (v := ?_) (a' := ?_) #[true, true, true, true, false, false, false, false, false, false, false, false, false, false, false, false] rfl rfl (any_of HT_.out (by kernel_rfl)) (fun _ _ _ h => h) (Or.inl ⟨by rfl, ?_⟩) ?_ ?_
                    rotate_left
                    ·intro w'
                     go_simp
                     with_reducible rfl
                    rotate_left
                    ·simp only [Act.put, List.setIfInBounds_toArray, List.set_cons_zero, List.set_cons_succ, i64_w, i32_w]
                     rfl
                    refine pure_ (i := 5) (N := some 42) (v := ?_) (a' := ?_) #[true, true, true, true, false, true, false, false, false, false, false, false, false, false, false, false] rfl rfl (any_of HT_.out (by kernel_rfl)) (fun _ _ _ h => h) (Or.inl ⟨by rfl, ?_⟩) ?_ ?_
                    rotate_left
                    ·intro w'
                     go_simp
                     with_reducible rfl
                    rotate_left
                    ·simp only [Act.put, List.setIfInBounds_toArray, List.set_cons_zero, List.set_cons_succ, i64_w, i32_w]
                     rfl
                    refine pure_ (i := 6) (N := some 43) (v := ?_) (a' := ?_) #[true, true, true, true, false, true, true, false, false, false, false, false, false, false, false, false] rfl rfl (any_of HT_.out (by kernel_rfl)) (fun _ _ _ h => h) (Or.inl ⟨by rfl, ?_⟩) ?_ ?_
                    rotate_left
                    ·intro w'
                     go_simp
                     with_reducible rfl
                    rotate_left
                    ·simp only [Act.put, List.setIfInBounds_toArray, List.set_cons_zero, List.set_cons_succ, i64_w, i32_w]
                     rfl
                    refine pure_ (i := 7) (N := some 44) (v := ?_) (a' := ?_) #[true, true, true, true, false, true, true, true, false, false, false, false, false, false, false, false] rfl rfl (any_of HT_.out (by kernel_rfl)) (fun _ _ _ h => h) (Or.inl ⟨by rfl, ?_⟩) ?_ ?_
                    rotate_left
                    ·intro w'
                     go_simp
                     with_reducible rfl
                    rotate_left
                    ·simp only [Act.put, List.setIfInBounds_toArray, List.set_cons_zero, List.set_cons_succ, i64_w, i32_w]
                     rfl
                    refine pure_ (i := 8) (N := some 45) (v := ?_) (a' := ?_) #[true, true, true, true, false, true, true, true, true, false, false, false, false, false, false, false] rfl rfl (any_of HT_.out (by kernel_rfl)) (fun _ _ _ h => h) (Or.inl ⟨by rfl, ?_⟩) ?_ ?_
                    rotate_left
                    ·intro w'
                     go_simp
                     with_reducible rfl
                    rotate_left
                    ·simp only [Act.put, List.setIfInBounds_toArray, List.set_cons_zero, List.set_cons_succ, i64_w, i32_w]
                     rfl
                    refine pure_ (i := 9) (N := some 46) (v := ?_) (a' := ?_) #[true, true, true, true, false, true, true, true, true, true, false, false, false, false, false, false] rfl rfl (any_of HT_.out (by kernel_rfl)) (fun _ _ _ h => h) (Or.inl ⟨by rfl, ?_⟩) ?_ ?_
                    rotate_left
                    ·intro w'
                     go_simp
                     with_reducible rfl
                    rotate_left
                    ·simp only [Act.put, List.setIfInBounds_toArray, List.set_cons_zero, List.set_cons_succ, i64_w, i32_w]
                     rfl
                    refine pure_ (i := 10) (N := some 47) (v := ?_) (a' := ?_) #[true, true, true, true, false, true, true, true, true, true, true, false, false, false, false, false] rfl rfl (any_of HT_.out (by kernel_rfl)) (fun _ _ _ h => h) (Or.inl ⟨by rfl, ?_⟩) ?_ ?_
                    rotate_left
                    ·intro w'
                     go_simp
                     with_reducible rfl
                    rotate_left
                    ·simp only [Act.put, List.setIfInBounds_toArray, List.set_cons_zero, List.set_cons_succ, i64_w, i32_w]
                     rfl
                    refine pure_ (i := 11) (N := some 48) (v := ?_) (a' := ?_) #[true, true, true, true, false, true, true, true, true, true, true, true, false, false, false, false] rfl rfl (any_of HT_.out (by kernel_rfl)) (fun _ _ _ h => h) (Or.inl ⟨by rfl, ?_⟩) ?_ ?_
                    rotate_left
                    ·intro w'
                     go_simp
                     with_reducible rfl
                    rotate_left
                    ·simp only [Act.put, List.setIfInBounds_toArray, List.set_cons_zero, List.set_cons_succ, i64_w, i32_w]
                     rfl
                    refine pure_ (i := 12) (N := some 49) (v := ?_) (a' := ?_) #[true, true, true, true, false, true, true, true, true, true, true, true, true, false, false, false] rfl rfl (any_of HT_.out (by kernel_rfl)) (fun _ _ _ h => h) (Or.inl ⟨by rfl, ?_⟩) ?_ ?_
                    rotate_left
                    ·intro w'
                     go_simp
                     with_reducible rfl
                    rotate_left
                    ·simp only [Act.put, List.setIfInBounds_toArray, List.set_cons_zero, List.set_cons_succ, i64_w, i32_w]
                     rfl
                    refine take_ (i := 4) (N := some 41) (v := ?_) (a' := ?_) #[true, true, true, true, true, true, true, true, true, true, true, true, true, false, false, false] rfl rfl (take_ofW HT_.out HW_.out (by kernel_rfl)) (fun _ _ _ h => h) (Or.inl ⟨by rfl, ?_⟩) hHeld ?_ ?_
                    rotate_left
                    ·intro w' s0
                     go_simp
                     with_reducible rfl
                    rotate_left
                    ·simp only [Act.put, List.setIfInBounds_toArray, List.set_cons_zero, List.set_cons_succ, i64_w, i32_w]
                     rfl
                    refine pure_ (i := 13) (N := some 50) (v := ?_) (a' := ?_) #[true, true, true, true, true, true, true, true, true, true, true, true, true, true, false, false] rfl rfl (any_of HT_.out (by kernel_rfl)) (fun _ _ _ h => h) (Or.inl ⟨by rfl, ?_⟩) ?_ ?_
                    rotate_left
                    ·intro w'
                     go_simp
                     with_reducible rfl
                    rotate_left
                    ·simp only [Act.put, List.setIfInBounds_toArray, List.set_cons_zero, List.set_cons_succ, i64_w, i32_w]
                     rfl
                    refine pure_ (i := 14) (N := some 51) (v := ?_) (a' := ?_) #[true, true, true, true, true, true, true, true, true, true, true, true, true, true, true, false] rfl rfl (any_of HT_.out (by kernel_rfl)) (fun _ _ _ h => h) (Or.inl ⟨by rfl, ?_⟩) ?_ ?_
                    rotate_left
                    ·intro w'
                     go_simp
                     with_reducible rfl
                    rotate_left
                    ·simp only [Act.put, List.setIfInBounds_toArray, List.set_cons_zero, List.set_cons_succ, i64_w, i32_w]
                     rfl
                    refine last_ (i := 15) (N := none) #[true, true, true, true, true, true, true, true, true, true, true, true, true, true, true, true] rfl rfl (one_of HT_.out (by kernel_rfl)) (by decide) (fun K hK => ?_)
                    refine skip_ (w1 := ?_) (by rfl) rfl ?_ ?_
                    rotate_left
                    ·go_simp
                     rfl
                    refine hK.out _ _ ?_
                    clear hK K
                    refine done_ (done_of HT_.out (by kernel_rfl)) ?_
                    try go_wp2
                    go_roundg k4
                    case measure => have := HK1.out; have := HJ9.out; have := HJ12.out; have := HK4.out; omega
                    case rel => exact ⟨(y341), (wrap64 (x30_4 + 1)), zr, H', ⟨by have := HK1.out; have := HJ9.out; have := HJ12.out; have := HK4.out; omega⟩, ⟨by (with_reducible repeat (first | apply Kd.R_alloc | apply Kd.R_drewN | apply Kd.R_drew)); (first | exact HQ27.out | (simp only [hji23m]; exact HQ27.out) | (simp only [hji23m]; exact HQ27.out))⟩, ⟨by repeat (first | (with_reducible first | exact HB.out | apply below_alloc | apply pw_below_drewN | apply below_drew1 | refine below_set ?_ GB24.out) | exact HB.out)⟩⟩
                   ·rw [if_neg c22] at H
                    exact absurd H (by simp)
                  ·rw [if_neg c19] at H
                   exact absurd H (by simp)
                 ·rw [if_neg c18] at H
                  exact absurd H (by simp)
                ·rw [if_neg c17] at H
                 exact absurd H (by simp)
               ·rw [if_neg c15] at H
                have c15b0 : decide (x30_4 < 3) = false := decide_eq_false c15
                clear c15
                have H' := zA H
                clear H
                go_wp2
                go_roundg k4
                case measure => have := HK1.out; have := HJ9.out; have := HJ12.out; have := HK4.out; omega
                case rel => exact ⟨(x4_4), (wrap64 (x17_1 + 1)), zr, H', ⟨by have := HK1.out; have := HJ9.out; have := HJ12.out; have := HK4.out; omega⟩, ⟨zR HO_4.out⟩, ⟨z_⟩⟩
       ·rw [if_neg c9] at H
        exact absurd H (by simp)
      ·rw [if_neg c8] at H
       exact absurd H (by simp)
     ·rw [if_neg c7] at H
      have c7b0 : decide (x17_1 < (l0.length : Int)) = false := decide_eq_false c7
      clear c7
      simp only [Option.some.injEq, Prod.mk.injEq] at H
      obtain ⟨rfl, rfl⟩ := H
      go_wp2
      go_ret2
      exact ⟨_, by first | rfl | (simp [errW_none, errW_some] <;> rfl) | (simp only [← hji2]; first | rfl | (simp [errW_none, errW_some] <;> rfl)) | (simp [*, errW_none, errW_some] <;> rfl), by (with_reducible repeat (first | apply Kd.R_alloc | apply Kd.R_drewN | apply Kd.R_drew)); exact HO_4.out, z_⟩
  ·rw [if_neg c4] at H
   exact absurd H (by simp)
 ·rw [if_neg c3] at H
  exact absurd H (by simp)

/-! ### impl_Crc32: function 92 -/
mutual
def impl_Crc32.l0 : Nat → Int → List Int → Int → Int → Option (Int)
 | 0, _, _, _, _ => none
 | k + 1, x3, x7, x8, x9 => if x9 < x8 then (if 0 ≤ x9 then (if x9 < (x7.length : Int) then (impl_Crc32.l1 k (Go.bits .xor .u32 x3 ((rd x7 x9) % 4294967296)) x7 x8 x9 0) else (none)) else (none)) else (some (Go.bits .xor .u32 4294967295 x3))
def impl_Crc32.l1 : Nat → Int → List Int → Int → Int → Int → Option (Int)
 | 0, _, _, _, _, _ => none
 | k + 1, x3, x7, x8, x9, x17 => if x17 < 8 then (if (Go.bits .and .u32 x3 1) = 1 then (impl_Crc32.l1 k (Go.bits .xor .u32 (x3 / 2) 3988292384) x7 x8 x9 (wrap64 (x17 + 1))) else (impl_Crc32.l1 k (x3 / 2) x7 x8 x9 (wrap64 (x17 + 1)))) else (impl_Crc32.l0 k x3 x7 x8 (wrap64 (x9 + 1)))
end
def impl_Crc32.f (k : Nat) (l0 : List Int) : Option (Int) := impl_Crc32.l0 k 4294967295 l0 (l0.length : Int) 0
theorem impl_Crc32.mono_l : ∀ k, (∀ y0 y1 y2 y3, LeO (impl_Crc32.l0 k y0 y1 y2 y3) (impl_Crc32.l0 (k + 1) y0 y1 y2 y3)) ∧ (∀ y0 y1 y2 y3 y4, LeO (impl_Crc32.l1 k y0 y1 y2 y3 y4) (impl_Crc32.l1 (k + 1) y0 y1 y2 y3 y4))
 | 0 => ⟨fun _ _ _ _ r h => by simp [impl_Crc32.l0] at h, fun _ _ _ _ _ r h => by simp [impl_Crc32.l1] at h⟩
 | k + 1 => by
  obtain ⟨ih0, ih1⟩ := impl_Crc32.mono_l k
  refine ⟨?_, ?_⟩
  ·intro y0 y1 y2 y3
   unfold impl_Crc32.l0
   exact zm
  ·intro y0 y1 y2 y3 y4
   unfold impl_Crc32.l1
   exact zm
theorem impl_Crc32.mono : ∀ a0 k, LeO (impl_Crc32.f k a0) (impl_Crc32.f (k + 1) a0) := by
 intro a0 k
 obtain ⟨ih0, ih1⟩ := impl_Crc32.mono_l k
 unfold impl_Crc32.f
 exact zm
set_option maxHeartbeats 8000000 in
set_option maxRecDepth 100000 in
theorem impl_Crc32.calls (k : Nat) (A0 : Option Addr) (c0 : Nat) (l0 : List Int) (r : Int) (w : World) (hr0 : Kd.C (Kd.int .u8) w A0 l0.length l0) (hc0 : l0.length ≤ c0) (h : impl_Crc32.f k l0 = some r) :
  Calls Tryd.prog 92 #[.slice A0 l0.length c0] w fun e w' => e = .returned (.int .u32 r) ∧ Drawn0 w w' := by
 have HR0 := zA hr0
 have HC0 := zA hc0
 clear hr0 hc0
 have H : (impl_Crc32.l0 k 4294967295 l0 (l0.length : Int) 0) = some r := h
 clear h
 have H' := zA H
 clear H
 go_enter Tryd.func92, Tryd.ntmps92
 go_wp2
 go_loopg [3, 9] k (fun kq v3 v9 w' => ∃ (x3_1 : Int) (x9_1 : Int), v3 = .int .u32 x3_1 ∧ v9 = .int .i64 x9_1 ∧ Aside0 (impl_Crc32.l0 kq x3_1 l0 (l0.length : Int) x9_1 = some r) ∧ Aside0 (kq ≤ k) ∧ Drawn0 w w')
 case atStart => exact ⟨(4294967295), (0), zr, zr, H', ⟨Nat.le_refl _⟩, by repeat (first | exact Drawn0.refl _ | apply Drawn0.step)⟩
 case round =>
  clear H'
  obtain ⟨x3_1, x9_1, rfl, rfl, HA, HK1, ⟨m1, rfl⟩⟩ := hrel
  cases gk with
  | zero => exact absurd HA.out (by simp [impl_Crc32.l0])
  | succ k1 =>
   have H := HA.out
   clear HA
   simp only [impl_Crc32.l0] at H
   by_cases c2 : x9_1 < (l0.length : Int)
   ·rw [if_pos c2] at H
    have c2b0 : decide (x9_1 < (l0.length : Int)) = true := decide_eq_true c2
    clear c2
    by_cases c3 : 0 ≤ x9_1
    ·rw [if_pos c3] at H
     have c3b0 : decide (0 ≤ x9_1) = true := decide_eq_true c3
     clear c3
     by_cases c4 : x9_1 < (l0.length : Int)
     ·rw [if_pos c4] at H
      have c4b0 : decide (x9_1 < (l0.length : Int)) = true := decide_eq_true c4
      clear c4
      have H' := zA H
      clear H
      have p342 : 0 ≤ (x9_1 : Int) := zd
      have q342 : x9_1 < (l0.length : Int) := zd
      obtain ⟨ad342, e342, hx342_0⟩ := Kd.at_int HR0.out x9_1 p342 q342
      cases e342
      replace p342 := eq_true p342
      replace q342 := eq_true q342
      go_wp2
      go_loopg [3, 17] k1 (fun kq v3 v17 w' => ∃ (x3_2 : Int) (x17_2 : Int), v3 = .int .u32 x3_2 ∧ v17 = .int .i64 x17_2 ∧ Aside0 (impl_Crc32.l1 kq x3_2 l0 (l0.length : Int) x9_1 x17_2 = some r) ∧ Aside0 (kq ≤ k1) ∧ Drawn0 w w')
      case atStart => exact ⟨(Go.bits .xor .u32 x3_1 ((rd l0 x9_1) % 4294967296)), (0), zr, zr, H', ⟨Nat.le_refl _⟩, by repeat (first | exact Drawn0.refl _ | apply Drawn0.step)⟩
      case round =>
       clear H'
       (try clear c2); (try clear c2b0); (try clear p2); (try clear c3); (try clear c3b0); (try clear p3); (try clear q3); (try clear hx3); (try clear c4); (try clear c4b0); (try clear hx342_0); (try clear p342); (try clear q342)
       obtain ⟨x3_2, x17_2, rfl, rfl, HA, HK2, ⟨m2, rfl⟩⟩ := hrel
       cases gk with
       | zero => exact absurd HA.out (by simp [impl_Crc32.l1])
       | succ k2 =>
        have H := HA.out
        clear HA
        simp only [impl_Crc32.l1] at H
        by_cases c5 : x17_2 < 8
        ·rw [if_pos c5] at H
         have c5b0 : decide (x17_2 < 8) = true := decide_eq_true c5
         clear c5
         by_cases c6 : (Go.bits .and .u32 x3_2 1) = 1
         ·rw [if_pos c6] at H
          have c6b0 : ((Go.bits .and .u32 x3_2 1) == 1) = true := beq_iff_eq.mpr c6
          have c6b1 : ((Go.bits .and .u32 x3_2 1) != 1) = false := bne_eq_false_iff_eq.mpr c6
          clear c6
          have H' := zA H
          clear H
          go_wp2
          go_roundg k2
          case measure => have := HK1.out; have := HK2.out; omega
          case rel => exact ⟨(Go.bits .xor .u32 (x3_2 / 2) 3988292384), (wrap64 (x17_2 + 1)), zr, zr, H', ⟨by have := HK1.out; have := HK2.out; omega⟩, by repeat (first | exact Drawn0.refl _ | apply Drawn0.step)⟩
         ·rw [if_neg c6] at H
          have c6b0 : ((Go.bits .and .u32 x3_2 1) == 1) = false := beq_eq_false_iff_ne.mpr c6
          have c6b1 : ((Go.bits .and .u32 x3_2 1) != 1) = true := bne_iff_ne.mpr c6
          have H' := zA H
          clear H
          go_wp2
          go_roundg k2
          case measure => have := HK1.out; have := HK2.out; omega
          case rel => exact ⟨(x3_2 / 2), (wrap64 (x17_2 + 1)), zr, zr, H', ⟨by have := HK1.out; have := HK2.out; omega⟩, by repeat (first | exact Drawn0.refl _ | apply Drawn0.step)⟩
        ·rw [if_neg c5] at H
         have c5b0 : decide (x17_2 < 8) = false := decide_eq_false c5
         clear c5
         have H' := zA H
         clear H
         go_wp2
         go_roundg k2
         case measure => have := HK1.out; have := HK2.out; omega
         case rel => exact ⟨(x3_2), (wrap64 (x9_1 + 1)), zr, zr, H', ⟨by have := HK1.out; have := HK2.out; omega⟩, by repeat (first | exact Drawn0.refl _ | apply Drawn0.step)⟩
     ·rw [if_neg c4] at H
      exact absurd H (by simp)
    ·rw [if_neg c3] at H
     exact absurd H (by simp)
   ·rw [if_neg c2] at H
    have c2b0 : decide (x9_1 < (l0.length : Int)) = false := decide_eq_false c2
    clear c2
    obtain rfl := Option.some.inj H
    go_wp2
    go_ret
    exact ⟨by first | rfl | (simp; done) | (simp [*]; done), by repeat (first | exact Drawn0.refl _ | apply Drawn0.step)⟩

end Go.Proofs.YthbeplmihjhoeaaDoor.PFnExactEncodeImage
