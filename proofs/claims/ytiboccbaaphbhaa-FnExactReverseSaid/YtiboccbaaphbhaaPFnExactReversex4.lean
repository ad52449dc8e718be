-- made by wip/tools/myprint.py (this session's own program, over the kit's printer)
import Derived.Test.YtiboccbaaphbhaaPFnExactReversex0
namespace Go.Proofs.Ytiboccbaaphbhaa.PFnExactReverse
open Go.RowKit Go.Proofs.YtiboccbaaphbhaaW.PrintWords Go.Proofs.YtiboccbaaphbhaaW.PrintLast Go.Proofs.YtiboccbaaphbhaaW.PrintMore
attribute [local go_sem] max2_int min2_int max_two min_two max_three min_three max_four min_four   -- for this text's walks alone
set_option linter.unusedVariables false
set_option linter.unusedSimpArgs false

/-! ### spec_l5graph: function 30 -/
mutual
def spec_l5graph.l0 : Nat → Int → List (S51) → List (List (S51)) → Int → Int → Option (Int × List Int × List Int × List Int × List Int)
 | 0, _, _, _, _, _ => none
 | k + 1, x0, x1, x6, x7, x128000 => if x7 < (x1.length : Int) then (if 0 ≤ x7 then (if 0 ≤ ((rd_T51 x1 x7).f0) then (if ((rd_T51 x1 x7).f0) < (x6.length : Int) then (if (rd_L2 x6 ((rd_T51 x1 x7).f0)).length < 4398046511104 then (spec_l5graph.l0 k x0 x1 (x6.set (((rd_T51 x1 x7).f0) : Int).toNat ((rd_L2 x6 ((rd_T51 x1 x7).f0)) ++ [(⟨(rd_T51 x1 x7).f0, (rd_T51 x1 x7).f1, (rd_T51 x1 x7).f2, (rd_T51 x1 x7).f3⟩ : S51)])) (wrap64 (x7 + 1)) x128000) else (none)) else (none)) else (none)) else (none)) else (spec_l5graph.l1 k x0 x6 0 x128000 ([] : List Int) ([] : List Int) ([] : List Int) ([] : List Int))
def spec_l5graph.l1 : Nat → Int → List (List (S51)) → Int → Int → List Int → List Int → List Int → List Int → Option (Int × List Int × List Int × List Int × List Int)
 | 0, _, _, _, _, _, _, _, _ => none
 | k + 1, x0, x6, x9, x128000, x128001, x128002, x128003, x128004 => if x9 < x0 then (if x128001.length < 17592186044416 then (spec_l5graph.l2 k x0 x6 x9 0 x128000 (x128001 ++ [(x128002.length : Int)]) x128002 x128003 x128004) else (none)) else (if x128001.length < 17592186044416 then (some (x128000, (x128001 ++ [(x128002.length : Int)]), x128002, x128003, x128004)) else (none))
def spec_l5graph.l2 : Nat → Int → List (List (S51)) → Int → Int → Int → List Int → List Int → List Int → List Int → Option (Int × List Int × List Int × List Int × List Int)
 | 0, _, _, _, _, _, _, _, _, _ => none
 | k + 1, x0, x6, x9, x10, x128000, x128001, x128002, x128003, x128004 => if 0 ≤ x9 then (if x9 < (x6.length : Int) then (if x10 < ((rd_L2 x6 x9).length : Int) then (if 0 ≤ x10 then (if x128002.length < 17592186044416 then (if x128003.length < 17592186044416 then (if x128004.length < 17592186044416 then (spec_l5graph.l2 k x0 x6 x9 (wrap64 (x10 + 1)) x128000 x128001 (x128002 ++ [(rd_T51 (rd_L2 x6 x9) x10).f1]) (x128003 ++ [(rd_T51 (rd_L2 x6 x9) x10).f2]) (x128004 ++ [(rd_T51 (rd_L2 x6 x9) x10).f3])) else (none)) else (none)) else (none)) else (none)) else (spec_l5graph.l1 k x0 x6 (wrap64 (x9 + 1)) x128000 x128001 x128002 x128003 x128004)) else (none)) else (none)
end
def spec_l5graph.f (k : Nat) (a0 : Int) (l1 : List (S51)) : Option (Int × List Int × List Int × List Int × List Int) := if 0 ≤ a0 then (if (a0 : Int).toNat ≤ 11728124029610 then (spec_l5graph.l0 k a0 l1 (List.replicate (a0 : Int).toNat []) 0 a0) else (none)) else (none)
theorem spec_l5graph.mono_l : ∀ k, (∀ y0 y1 y2 y3 y4, LeO (spec_l5graph.l0 k y0 y1 y2 y3 y4) (spec_l5graph.l0 (k + 1) y0 y1 y2 y3 y4)) ∧ (∀ y0 y1 y2 y3 y4 y5 y6 y7, LeO (spec_l5graph.l1 k y0 y1 y2 y3 y4 y5 y6 y7) (spec_l5graph.l1 (k + 1) y0 y1 y2 y3 y4 y5 y6 y7)) ∧ (∀ y0 y1 y2 y3 y4 y5 y6 y7 y8, LeO (spec_l5graph.l2 k y0 y1 y2 y3 y4 y5 y6 y7 y8) (spec_l5graph.l2 (k + 1) y0 y1 y2 y3 y4 y5 y6 y7 y8))
 | 0 => ⟨fun _ _ _ _ _ r h => by simp [spec_l5graph.l0] at h, fun _ _ _ _ _ _ _ _ r h => by simp [spec_l5graph.l1] at h, fun _ _ _ _ _ _ _ _ _ r h => by simp [spec_l5graph.l2] at h⟩
 | k + 1 => by
  obtain ⟨ih0, ih1, ih2⟩ := spec_l5graph.mono_l k
  refine ⟨?_, ?_, ?_⟩
  ·intro y0 y1 y2 y3 y4
   unfold spec_l5graph.l0
   exact zm
  ·intro y0 y1 y2 y3 y4 y5 y6 y7
   unfold spec_l5graph.l1
   exact zm
  ·intro y0 y1 y2 y3 y4 y5 y6 y7 y8
   unfold spec_l5graph.l2
   exact zm
theorem spec_l5graph.mono : ∀ a0 a1 k, LeO (spec_l5graph.f k a0 a1) (spec_l5graph.f (k + 1) a0 a1) := by
 intro a0 a1 k
 obtain ⟨ih0, ih1, ih2⟩ := spec_l5graph.mono_l k
 unfold spec_l5graph.f
 exact zm
def spec_l5graph.T7 : Bool × List (List Nat × List Nat) := (true, [([], []), ([], []), ([], []), ([], []), ([2, 3], [2, 3]), ([4], [4]), ([], []), ([], []), ([6, 7], [6, 7]), ([8], [8]), ([9], [9]), ([5, 10], [5, 10]), ([0, 1, 0, 1, 2, 3, 4, 5, 6, 7, 8, 9, 10, 11], [0, 1]), ([12, 11, 11, 0, 1, 2, 3, 4, 5, 6, 7, 8, 9, 10, 11], [11, 12])])
def spec_l5graph.B7 : List Nat := [0, 0, 0, 0, 12, 28, 0, 0, 192, 448, 960, 2044, 4095, 8191]
theorem spec_l5graph.tab7 : rtab .any (opsOf Try.f30 7) = spec_l5graph.T7 := by kernel_rfl
theorem spec_l5graph.bits7 : waitsOk spec_l5graph.T7.2 spec_l5graph.B7 = true := by kernel_rfl
def spec_l5graph.T15 : Bool × List (List Nat × List Nat) := (true, [([], []), ([0], [0]), ([], []), ([], []), ([2, 3], [2, 3]), ([4], [4]), ([], []), ([5, 6], [5, 6]), ([7], [7]), ([8], [8]), ([9], [9]), ([1, 10], [1, 10]), ([0, 1, 2, 3, 4, 5, 6, 7, 8, 9, 10, 11], []), ([12, 11, 11, 0, 1, 2, 3, 4, 5, 6, 7, 8, 9, 10, 11], [11, 12])])
def spec_l5graph.B15 : List Nat := [0, 1, 0, 0, 12, 28, 0, 124, 252, 508, 1020, 2047, 4095, 8191]
theorem spec_l5graph.tab15 : rtab .any (opsOf Try.f30 15) = spec_l5graph.T15 := by kernel_rfl
theorem spec_l5graph.bits15 : waitsOk spec_l5graph.T15.2 spec_l5graph.B15 = true := by kernel_rfl
def spec_l5graph.T16 : Bool × List (List Nat × List Nat) := (true, [([], []), ([0], [0]), ([], []), ([], []), ([2, 3], [2, 3]), ([4], [4]), ([], []), ([5, 6], [5, 6]), ([7], [7]), ([8], [8]), ([9], [9]), ([1, 10], [1, 10]), ([0, 1, 2, 3, 4, 5, 6, 7, 8, 9, 10, 11], []), ([12, 11, 11, 0, 1, 2, 3, 4, 5, 6, 7, 8, 9, 10, 11], [11, 12])])
def spec_l5graph.B16 : List Nat := [0, 1, 0, 0, 12, 28, 0, 124, 252, 508, 1020, 2047, 4095, 8191]
theorem spec_l5graph.tab16 : rtab .any (opsOf Try.f30 16) = spec_l5graph.T16 := by kernel_rfl
theorem spec_l5graph.bits16 : waitsOk spec_l5graph.T16.2 spec_l5graph.B16 = true := by kernel_rfl
def spec_l5graph.T17 : Bool × List (List Nat × List Nat) := (true, [([], []), ([0], [0]), ([], []), ([], []), ([2, 3], [2, 3]), ([4], [4]), ([], []), ([5, 6], [5, 6]), ([7], [7]), ([8], [8]), ([9], [9]), ([1, 10], [1, 10]), ([0, 1, 2, 3, 4, 5, 6, 7, 8, 9, 10, 11], []), ([12, 11, 11, 0, 1, 2, 3, 4, 5, 6, 7, 8, 9, 10, 11], [11, 12])])
def spec_l5graph.B17 : List Nat := [0, 1, 0, 0, 12, 28, 0, 124, 252, 508, 1020, 2047, 4095, 8191]
theorem spec_l5graph.tab17 : rtab .any (opsOf Try.f30 17) = spec_l5graph.T17 := by kernel_rfl
theorem spec_l5graph.bits17 : waitsOk spec_l5graph.T17.2 spec_l5graph.B17 = true := by kernel_rfl
set_option maxHeartbeats 8000000 in
set_option maxRecDepth 100000 in
theorem spec_l5graph.calls (k : Nat) (a0 : Int) (A1 : Option Addr) (c1 : Nat) (l1 : List (S51)) (r1 : Int) (r2 : List Int) (r3 : List Int) (r4 : List Int) (r5 : List Int) (w : World) (hr1 : Kd.C k51 w A1 l1.length l1) (hc1 : l1.length ≤ c1) (h : spec_l5graph.f k a0 l1 = some (r1, r2, r3, r4, r5)) :
  Calls Try.prog 30 #[.int .i64 a0, .slice A1 l1.length c1] w fun e w' => ∃ v1_ v2_ v3_ v4_ : Value, e = .returned (.agg #[.int .i64 r1, v1_, v2_, v3_, v4_]) ∧ Kd.R (Kd.int .i64) 3 w' w.heap.size (fun k_ => zO k_ (v2_) ∧ zO k_ (v3_) ∧ zO k_ (v4_)) v1_ r2 ∧ Kd.R (Kd.int .i64) 3 w' w.heap.size (fun k_ => zO k_ (v1_) ∧ zO k_ (v3_) ∧ zO k_ (v4_)) v2_ r3 ∧ Kd.R (Kd.int .i64) 3 w' w.heap.size (fun k_ => zO k_ (v1_) ∧ zO k_ (v2_) ∧ zO k_ (v4_)) v3_ r4 ∧ Kd.R (Kd.int .i64) 3 w' w.heap.size (fun k_ => zO k_ (v1_) ∧ zO k_ (v2_) ∧ zO k_ (v3_)) v4_ r5 ∧ Below w.heap.size w w' := by
 have hu26 := Try.underlying26
 have hu51 := Try.underlying51
 have HR1 := zA hr1
 have HC1 := zA hc1
 clear hr1 hc1
 have HB := zA (Below.refl w.heap.size w)
 have H : (if 0 ≤ a0 then (if (a0 : Int).toNat ≤ 11728124029610 then (spec_l5graph.l0 k a0 l1 (List.replicate (a0 : Int).toNat []) 0 a0) else (none)) else (none)) = some (r1, r2, r3, r4, r5) := h
 clear h
 by_cases c3 : 0 ≤ a0
 ·rw [if_pos c3] at H
  have c3b0 := eq_true c3
  have c3b1 : decide (0 ≤ a0) = true := decide_eq_true c3
  clear c3
  by_cases c4 : (a0 : Int).toNat ≤ 11728124029610
  ·rw [if_pos c4] at H
   have c4b0 := eq_true c4
   have c4b1 : decide ((a0 : Int).toNat ≤ 11728124029610) = true := decide_eq_true c4
   clear c4
   obtain ⟨y128, hy128⟩ : ∃ y_ : List (List (S51)), y_ = (List.replicate (a0 : Int).toNat []) := ⟨_, rfl⟩
   replace H : (spec_l5graph.l0 k a0 l1 y128 0 a0) = some (r1, r2, r3, r4, r5) := zh hy128
   have Ny128 := zA hy128
   clear hy128
   have H' := zA H
   clear H
   go_enter Try.func30, Try.ntmps30
   go_wp2_with (first | ((with_reducible refine gate_dst (N := 4) rfl ?_); refine box_event ?hg (N := 4) ?hd (cs := #[.int .i64 0, .slice none 0 0, .slice none 0 0, .slice none 0 0, .slice none 0 0]) (t := 26) ?hr ?_; (case hd => rfl); (case hg => rfl); (case hr => first | (go_simp; done) | (go_simp; rfl)); intro gb126 hg w5 hbox hb; have n0_ := zA (below_step z_ hb); have n1_ := zA (hbox); have n2_ := zA ((by rw [hg]; exact (below_size z_) : w.heap.size ≤ gb126)); have n3_ := zA ((by rw [hg]; exact (below_size z_) : w.heap.size ≤ gb126)); clear HB; have HB := n0_; have BK126 := n1_; have GW126 := n2_; have GE126 := n3_; clear n0_ n1_ n2_ n3_; clear hb hbox hg) | ((with_reducible refine gate_dst (N := 5) rfl ?_); refine box_event ?hg (N := 5) ?hd (cs := #[.int .i64 0, .slice none 0 0, .slice none 0 0, .slice none 0 0, .slice none 0 0]) (t := 26) ?hr ?_; (case hd => rfl); (case hg => rfl); (case hr => first | (go_simp; done) | (go_simp; rfl)); intro gb127 hg w6 hbox hb; have n0_ := zA (zB BK126.out hb); have n1_ := zA (below_step (zs GE126.out) hb); have n2_ := zA (hbox); have n3_ := zA ((by rw [hg]; exact (below_size (zs GE126.out)) : w.heap.size ≤ gb127)); have n4_ := zA ((by rw [hg]; exact (below_size (zs GE126.out)) : w.heap.size ≤ gb127)); have n5_ := zA ((by rw [hg]; exact Nat.ne_of_lt (zw BK126.out) : gb126 ≠ gb127)); have n6_ := zA ((by rw [hg]; exact Nat.ne_of_gt (zw BK126.out) : gb127 ≠ gb126)); clear BK126 HB; have BK126 := n0_; have HB := n1_; have BK127 := n2_; have GW127 := n3_; have GE127 := n4_; have NB126_127 := n5_; have NB127_126 := n6_; clear n0_ n1_ n2_ n3_ n4_ n5_ n6_; clear hb hbox hg; have hnb7 := NB127_126.out; have hnc7 := NB126_127.out; obtain ⟨hcz8_0, hcz8_1, hcz8_2, hcz8_3, hcz8_4, hfz8_0, hfz8_1, hfz8_2, hfz8_3, hfz8_4⟩ := zh5 BK127.out) | ((with_reducible refine gate_dst (N := 14) rfl ?_); refine Kd.S_make (Kd.slice 51 k51) _ 48 rfl (N := 14) rfl 75 _ _ rfl a0 rfl rfl Try.underlying75 (.slice none 0 0) 24 info48 rfl (by decide) (by omega) [] (ok := fun _ => True) (okp := fun _ => True) ⟨_, rfl, Kd.R_nil _ _ _ _ _⟩ (fun _ hk => hk) trivial (zd) (Nat.le_trans (Nat.mul_le_mul_right _ (zd : a0.toNat ≤ 11728124029610)) (by omega)) (Below.refl _ _) (Nat.le_refl _) ?_; intro v129 w9 ho10 hb hg_ hnew_; clear hg_ hnew_; (first | rw [← Ny128.out] at ho10 | (simp only [Int.reduceToNat] at ho10; rw [← Ny128.out] at ho10)); have n0_ := zA (Kd.S_lower ho10 (below_size (zs2 GE126.out GE127.out))); have n1_ := zA (blk_below (g := gb126) (o := .cells #[.int .i64 0, .slice none 0 0, .slice none 0 0, .slice none 0 0, .slice none 0 0] 26 (0, 0)) (zf BK126.out NB126_127.out) hb); have n2_ := zA (blk_below (g := gb127) (o := .cells #[.int .i64 a0, .slice none 0 0, .slice none 0 0, .slice none 0 0, .slice none 0 0] 26 (0, 0)) (zq BK127.out) hb); have n3_ := zA (below_step (zs2 GE126.out GE127.out) hb); clear BK126 BK127 HB; have HO130 := n0_; have BK126 := n1_; have BK127 := n2_; have HB := n3_; clear n0_ n1_ n2_ n3_; clear hb ho10))
   go_loopg [7] k (fun kq v7 w' => ∃ (x6_1 : List (List (S51))) (x7_1 : Int), v7 = .int .i64 x7_1 ∧ Aside0 (spec_l5graph.l0 kq a0 l1 x6_1 x7_1 a0 = some (r1, r2, r3, r4, r5)) ∧ Aside0 (kq ≤ k) ∧ Aside0 (Kd.S (Kd.slice 51 k51) 48 w' w.heap.size (fun _ => True) v129 x6_1) ∧ Aside0 (w'.heap[gb126]? = some (.cells #[.int .i64 0, (.slice none 0 0), (.slice none 0 0), (.slice none 0 0), (.slice none 0 0)] 26 (0, 0))) ∧ Aside0 (w'.heap[gb127]? = some (.cells #[.int .i64 a0, (.slice none 0 0), (.slice none 0 0), (.slice none 0 0), (.slice none 0 0)] 26 (0, 0))) ∧ Aside0 (Below w.heap.size w w'))
   case atStart => exact ⟨(y128), (0), zr, H', ⟨Nat.le_refl _⟩, ⟨zS HO130.out⟩, ⟨zb BK126.out⟩, ⟨zb BK127.out⟩, ⟨(zs2 GE126.out GE127.out)⟩⟩
   case round =>
    clear H'
    (try clear c1); (try clear p2); (try clear c3); (try clear c3b0); (try clear c3b1); (try clear c4); (try clear c4b0); (try clear c4b1); (try clear c7); (try clear hcz8_0 hcz8_1 hcz8_2 hcz8_3 hcz8_4); (try clear hfz8_0 hfz8_1 hfz8_2 hfz8_3 hfz8_4)
    obtain ⟨x6_1, x7_1, rfl, HA, HK1, HO_6, BK126, BK127, HB⟩ := hrel
    cases gk with
    | zero => exact absurd HA.out (by simp [spec_l5graph.l0])
    | succ k1 =>
     have H := HA.out
     clear HA
     simp only [spec_l5graph.l0] at H
     by_cases c11 : x7_1 < (l1.length : Int)
     ·rw [if_pos c11] at H
      have c11b0 : decide (x7_1 < (l1.length : Int)) = true := decide_eq_true c11
      clear c11
      by_cases c12 : 0 ≤ x7_1
      ·rw [if_pos c12] at H
       have c12b0 : decide (0 ≤ x7_1) = true := decide_eq_true c12
       clear c12
       by_cases c13 : 0 ≤ ((rd_T51 l1 x7_1).f0)
       ·rw [if_pos c13] at H
        have c13b0 : decide (0 ≤ ((rd_T51 l1 x7_1).f0)) = true := decide_eq_true c13
        clear c13
        by_cases c14 : ((rd_T51 l1 x7_1).f0) < (x6_1.length : Int)
        ·rw [if_pos c14] at H
         have c14b0 : decide (((rd_T51 l1 x7_1).f0) < (x6_1.length : Int)) = true := decide_eq_true c14
         clear c14
         by_cases c15 : (rd_L2 x6_1 ((rd_T51 l1 x7_1).f0)).length < 4398046511104
         ·rw [if_pos c15] at H
          have LMc15 := zA c15
          clear c15
          obtain ⟨y134, hy134⟩ : ∃ y_ : List (S51), y_ = ((rd_L2 x6_1 ((rd_T51 l1 x7_1).f0)) ++ [(⟨(rd_T51 l1 x7_1).f0, (rd_T51 l1 x7_1).f1, (rd_T51 l1 x7_1).f2, (rd_T51 l1 x7_1).f3⟩ : S51)]) := ⟨_, rfl⟩
          replace H : (spec_l5graph.l0 k1 a0 l1 (x6_1.set (((rd_T51 l1 x7_1).f0) : Int).toNat y134) (wrap64 (x7_1 + 1)) a0) = some (r1, r2, r3, r4, r5) := zh hy134
          have Ny134 := zA hy134
          clear hy134
          obtain ⟨y137, hy137⟩ : ∃ y_ : List (List (S51)), y_ = (x6_1.set (((rd_T51 l1 x7_1).f0) : Int).toNat y134) := ⟨_, rfl⟩
          replace H : (spec_l5graph.l0 k1 a0 l1 y137 (wrap64 (x7_1 + 1)) a0) = some (r1, r2, r3, r4, r5) := zh hy137
          have Ny137 := zA hy137
          clear hy137
          have H' := zA H
          clear H
          have p131 : 0 ≤ (x7_1 : Int) := zd
          have q131 : x7_1 < (l1.length : Int) := zd
          obtain ⟨ad131, e131, hx131_0, hx131_1, hx131_2, hx131_3⟩ := at_T51 HR1.out x7_1 p131 q131
          cases e131
          replace hx131_0 := zx HB.out hx131_0
          replace hx131_1 := zx HB.out hx131_1
          replace hx131_2 := zx HB.out hx131_2
          replace hx131_3 := zx HB.out hx131_3
          replace p131 := eq_true p131
          replace q131 := eq_true q131
          try go_wp2
          have n0_ := zA (Kd.S_drew HO_6.out)
          have n1_ := zA (blk_drew BK126.out)
          have n2_ := zA (blk_drew BK127.out)
          have n3_ := zA (below_drew1 HB.out)
          clear HO_6
          clear BK126
          clear BK127
          clear HB
          have HO_6 := n0_
          have BK126 := n1_
          have BK127 := n2_
          have HB := n3_
          clear n0_ n1_ n2_ n3_
          obtain ⟨Ao18, co18, eo18⟩ := Kd.S_slice HO_6.out
          (first | subst eo18 | (injection eo18 with f1_ f2_ f3_; have f4_ := f1_.symm; have f5_ := f3_.symm; clear f1_ f2_ f3_; subst f4_; subst f5_))
          have p132 : 0 ≤ (((rd_T51 l1 x7_1).f0) : Int) := zd
          have q132 : ((rd_T51 l1 x7_1).f0) < (x6_1.length : Int) := zd
          obtain ⟨ad132, A132_0, c132_0, e132, hx132_0, hl132_0, hi132_0⟩ := at_L2 (Kd.S_reads' HO_6.out).2.2 ((rd_T51 l1 x7_1).f0) p132 q132
          cases e132
          obtain ⟨ce132, hce132, hMe132, hcc132⟩ := Kd.S_get HO_6.out [] ((rd_T51 l1 x7_1).f0) p132 (by first | exact q132 | exact zd | (have e_ := (Kd.S_reads' HO_6.out).1; omega))
          obtain ⟨ve132_0, rfl, ge132_0⟩ := hMe132
          have hv132_0 := hcc132 0 _ rfl
          rw [Nat.add_zero, show ((Kd.slice 51 k51)).sz = 1 from rfl, Nat.mul_one] at hv132_0
          replace hv132_0 := Option.some.inj (hv132_0.symm.trans hx132_0)
          rw [hv132_0] at ge132_0
          have HL132_0 := zA (show Kd.R k51 51 _ _ _ _ (rd_L2 x6_1 ((rd_T51 l1 x7_1).f0)) from ge132_0)
          clear hv132_0 ge132_0
          have HX132_0 := zA hx132_0
          clear hcc132 hce132
          have HR132_0 := zA hi132_0
          have HC132_0 := zA hl132_0
          clear hi132_0 hl132_0
          replace p132 := eq_true p132
          replace q132 := eq_true q132
          have p133 : 0 ≤ (x7_1 : Int) := zd
          have q133 : x7_1 < (l1.length : Int) := zd
          obtain ⟨ad133, e133, hx133_0, hx133_1, hx133_2, hx133_3⟩ := at_T51 HR1.out x7_1 p133 q133
          have hw133_3 := hx133_3
          have hw133_2 := hx133_2
          have hw133_1 := hx133_1
          have hw133_0 := hx133_0
          obtain rfl : ad131 = ad133 := (by injection e133)
          replace hx133_0 := zx HB.out hx133_0
          replace hx133_1 := zx HB.out hx133_1
          replace hx133_2 := zx HB.out hx133_2
          replace hx133_3 := zx HB.out hx133_3
          replace p133 := eq_true p133
          replace q133 := eq_true q133
          obtain ⟨go19, co19, eo19, gb19, gl19, cl19, HG19⟩ := Kd.S_form HO_6.out (by have h_ : (((rd_T51 l1 x7_1).f0) : Int) < ((x6_1.length : Int) : Int) := zd; have h2_ : 0 ≤ (((rd_T51 l1 x7_1).f0) : Int) := (zd); omega)
          (first | cases eo19 | (injection eo19 with ea_ en_ ec_; (first | subst ea_ | (injection ea_ with ea_; subst ea_)); subst ec_; clear en_))
          have GB19 := zA gb19
          have GG19 := zA HG19
          clear gb19 gl19 HG19
          (first | simp only [add_plain] at hx132_0 | skip)
          obtain ⟨oki19, ce19, hcl19, hM19, hcc19, _, _, hH19⟩ := Kd.S_elem HO_6.out [] (((rd_T51 l1 x7_1).f0) : Int) (zd) (by have h_ : (((rd_T51 l1 x7_1).f0) : Int) < ((x6_1.length : Int) : Int) := zd; first | exact h_ | (have e_ := (Kd.S_reads' HO_6.out).1; omega) | simpa using h_)
          obtain ⟨ve19_0, rfl, ge19_0⟩ := hM19
          have hv19 := hcc19 0 _ rfl
          have hX19 := HX132_0.out
          (try simp only [add_plain] at hX19)
          (try simp only [Nat.add_zero] at hv19)
          (try rw [show ((Kd.slice 51 k51)).sz = 1 from rfl, Nat.mul_one] at hv19)
          replace hv19 := Option.some.inj (hv19.symm.trans hX19)
          subst hv19
          clear hX19 hcc19 hcl19
          have UU19 := zA (show Kd.R k51 51 _ w.heap.size oki19 (.slice A132_0 (rd_L2 x6_1 ((rd_T51 l1 x7_1).f0)).length c132_0) (rd_L2 x6_1 ((rd_T51 l1 x7_1).f0)) from ge19_0)
          have HH19 := zA hH19
          have HN19 := zA (Kd.S_reads' HO_6.out).1
          clear hH19 ge19_0
          refine start_ (n := 14) (S := fun w' => w'.cell? ⟨go19, (((rd_T51 l1 x7_1).f0)).toNat, none⟩ = some (.slice A132_0 (rd_L2 x6_1 ((rd_T51 l1 x7_1).f0)).length c132_0) ∧ w'.cell? (ad131.add ((x7_1).toNat * 4)) = some (.int .i64 ((rd_T51 l1 x7_1).f0)) ∧ w'.cell? ⟨(ad131.add ((x7_1).toNat * 4)).block, (ad131.add ((x7_1).toNat * 4)).off + 1, none⟩ = some (.int .i64 ((rd_T51 l1 x7_1).f1)) ∧ w'.cell? ⟨(ad131.add ((x7_1).toNat * 4)).block, (ad131.add ((x7_1).toNat * 4)).off + 2, none⟩ = some (.int .i64 ((rd_T51 l1 x7_1).f2)) ∧ w'.cell? ⟨(ad131.add ((x7_1).toNat * 4)).block, (ad131.add ((x7_1).toNat * 4)).off + 3, none⟩ = some (.int .i64 ((rd_T51 l1 x7_1).f3))) (ds := [13]) #[false, false, false, false, false, false, false, false, false, false, false, false, false, false] (by kernel_rfl) rfl rfl ⟨hx132_0, ((HB.out.cell (World.block_lt_of_cell? w _ hw133_0)).trans hw133_0), ((HB.out.cell (World.block_lt_of_cell? w _ hw133_1)).trans hw133_1), ((HB.out.cell (World.block_lt_of_cell? w _ hw133_2)).trans hw133_2), ((HB.out.cell (World.block_lt_of_cell? w _ hw133_3)).trans hw133_3)⟩ (fun hHeld => ?_); refine with_tabW spec_l5graph.tab7 spec_l5graph.bits7 (fun HT_ HW_ => ?_)
          generalize wr.drew = w17 at HO_6 BK126 BK127 HB GG19 HH19 HL132_0 HR132_0 HX132_0 UU19 hx132_0 hx133_0 hx133_1 hx133_2 hx133_3 hHeld ⊢
          refine pure_ (i := 0) (N := some 26) (v := ?_) (a' := ?_) #[true, false, false, false, false, false, false, false, false, false, false, false, false, false] rfl rfl (any_of HT_.out (by kernel_rfl)) (fun _ _ _ h => h) (Or.inl ⟨by rfl, ?_⟩) ?_ ?_
          rotate_left
          ·intro w'
           go_simp
           with_reducible rfl
          rotate_left
          ·simp only [Act.put, List.setIfInBounds_toArray, List.set_cons_zero, List.set_cons_succ, i64_w, i32_w]
           rfl
          refine pure_ (i := 1) (N := some 27) (v := ?_) (a' := ?_) #[true, true, false, false, false, false, false, false, false, false, false, false, false, false] rfl rfl (any_of HT_.out (by kernel_rfl)) (fun _ _ _ h => h) (Or.inl ⟨by rfl, ?_⟩) ?_ ?_
          rotate_left
          ·intro w'
           go_simp
           with_reducible rfl
          rotate_left
          ·simp only [Act.put, List.setIfInBounds_toArray, List.set_cons_zero, List.set_cons_succ, i64_w, i32_w]
           rfl
          refine pure_ (i := 2) (N := some 28) (v := ?_) (a' := ?_) #[true, true, true, false, false, false, false, false, false, false, false, false, false, false] rfl rfl (any_of HT_.out (by kernel_rfl)) (fun _ _ _ h => h) (Or.inl ⟨by rfl, ?_⟩) ?_ ?_
          rotate_left
          ·intro w'
           go_simp
           with_reducible rfl
          rotate_left
          ·simp only [Act.put, List.setIfInBounds_toArray, List.set_cons_zero, List.set_cons_succ, i64_w, i32_w]
           rfl
          refine pure_ (i := 3) (N := some 29) (v := ?_) (a' := ?_) #[true, true, true, true, false, false, false, false, false, false, false, false, false, false] rfl rfl (any_of HT_.out (by kernel_rfl)) (fun _ _ _ h => h) (Or.inl ⟨by rfl, ?_⟩) ?_ ?_
          rotate_left
          ·intro w'
           go_simp
           with_reducible rfl
          rotate_left
          ·simp only [Act.put, List.setIfInBounds_toArray, List.set_cons_zero, List.set_cons_succ, i64_w, i32_w]
           rfl
          refine pure_ (i := 4) (N := some 30) (v := ?_) (a' := ?_) #[true, true, true, true, true, false, false, false, false, false, false, false, false, false] rfl rfl (any_of HT_.out (by kernel_rfl)) (fun _ _ _ h => h) (Or.inl ⟨by rfl, ?_⟩) ?_ ?_
          rotate_left
          ·intro w'
           go_simp
           with_reducible rfl
          rotate_left
          ·simp only [Act.put, List.setIfInBounds_toArray, List.set_cons_zero, List.set_cons_succ, i64_w, i32_w]
           rfl
          refine pure_ (i := 6) (N := some 32) (v := ?_) (a' := ?_) #[true, true, true, true, true, false, true, false, false, false, false, false, false, false] rfl rfl (any_of HT_.out (by kernel_rfl)) (fun _ _ _ h => h) (Or.inl ⟨by rfl, ?_⟩) ?_ ?_
          rotate_left
          ·intro w'
           go_simp
           with_reducible rfl
          rotate_left
          ·simp only [Act.put, List.setIfInBounds_toArray, List.set_cons_zero, List.set_cons_succ, i64_w, i32_w]
           rfl
          refine pure_ (i := 7) (N := some 33) (v := ?_) (a' := ?_) #[true, true, true, true, true, false, true, true, false, false, false, false, false, false] rfl rfl (any_of HT_.out (by kernel_rfl)) (fun _ _ _ h => h) (Or.inl ⟨by rfl, ?_⟩) ?_ ?_
          rotate_left
          ·intro w'
           go_simp
           with_reducible rfl
          rotate_left
          ·simp only [Act.put, List.setIfInBounds_toArray, List.set_cons_zero, List.set_cons_succ, i64_w, i32_w]
           rfl
          refine pure_ (i := 8) (N := some 34) (v := ?_) (a' := ?_) #[true, true, true, true, true, false, true, true, true, false, false, false, false, false] rfl rfl (any_of HT_.out (by kernel_rfl)) (fun _ _ _ h => h) (Or.inl ⟨by rfl, ?_⟩) ?_ ?_
          rotate_left
          ·intro w'
           go_simp
           with_reducible rfl
          rotate_left
          ·simp only [Act.put, List.setIfInBounds_toArray, List.set_cons_zero, List.set_cons_succ, i64_w, i32_w]
           rfl
          refine take_ (i := 5) (N := some 31) (v := ?_) (a' := ?_) #[true, true, true, true, true, true, true, true, true, false, false, false, false, false] rfl rfl (take_ofW HT_.out HW_.out (by kernel_rfl)) (fun _ _ _ h => h) (Or.inl ⟨by rfl, ?_⟩) hHeld ?_ ?_
          rotate_left
          ·rintro w' ⟨s0, s1, s2, s3, s4⟩
           go_simp
           with_reducible rfl
          rotate_left
          ·simp only [Act.put, List.setIfInBounds_toArray, List.set_cons_zero, List.set_cons_succ, i64_w, i32_w]
           rfl
          refine take_ (i := 9) (N := some 35) (v := ?_) (a' := ?_) #[true, true, true, true, true, true, true, true, true, true, false, false, false, false] rfl rfl (take_ofW HT_.out HW_.out (by kernel_rfl)) (fun _ _ _ h => h) (Or.inl ⟨by rfl, ?_⟩) hHeld ?_ ?_
          rotate_left
          ·rintro w' ⟨s0, s1, s2, s3, s4⟩
           go_simp
           with_reducible rfl
          rotate_left
          ·simp only [Act.put, List.setIfInBounds_toArray, List.set_cons_zero, List.set_cons_succ, i64_w, i32_w]
           rfl
          refine one_ (i := 10) (N := some 36) #[true, true, true, true, true, true, true, true, true, true, true, false, false, false] rfl rfl (one_of HT_.out (by kernel_rfl)) (by decide) (fun K hK => ?_)
          refine value_ (w1 := ?_) (v := ?_) (by rfl) rfl ?_ ?_
          rotate_left 2
          ·go_simp
           constructor
           ·rfl
           ·rfl
          refine hK.out _ _ ⟨(World.cell?_alloc_lt _ _ _ (World.block_lt_of_cell? _ _ (hHeld.1))).trans (hHeld.1), (World.cell?_alloc_lt _ _ _ (World.block_lt_of_cell? _ _ (((HB.out.cell (World.block_lt_of_cell? w _ hw133_0)).trans hw133_0)))).trans (((HB.out.cell (World.block_lt_of_cell? w _ hw133_0)).trans hw133_0)), (World.cell?_alloc_lt _ _ _ (World.block_lt_of_cell? _ _ (((HB.out.cell (World.block_lt_of_cell? w _ hw133_1)).trans hw133_1)))).trans (((HB.out.cell (World.block_lt_of_cell? w _ hw133_1)).trans hw133_1)), (World.cell?_alloc_lt _ _ _ (World.block_lt_of_cell? _ _ (((HB.out.cell (World.block_lt_of_cell? w _ hw133_2)).trans hw133_2)))).trans (((HB.out.cell (World.block_lt_of_cell? w _ hw133_2)).trans hw133_2)), (World.cell?_alloc_lt _ _ _ (World.block_lt_of_cell? _ _ (((HB.out.cell (World.block_lt_of_cell? w _ hw133_3)).trans hw133_3)))).trans (((HB.out.cell (World.block_lt_of_cell? w _ hw133_3)).trans hw133_3))⟩ (fun hHeld => ?_)
          clear hK K
          refine norm_ (a' := ?_) ?_ ?_
          rotate_left
          ·show Act.put _ (some 36) _ = _
           simp only [Act.put, List.setIfInBounds_toArray, List.set_cons_zero, List.set_cons_succ, i64_w, i32_w]
           rfl
          refine one_ (i := 11) (N := some 37) #[true, true, true, true, true, true, true, true, true, true, true, true, false, false] rfl rfl (one_of HT_.out (by kernel_rfl)) (by decide) (fun K hK => ?_)
          refine Kd.R_append_step k51 (w0 := w) w.heap.size (by rfl) (.tmp 31) (.tmp 36) 48 51 (.agg #[(.int .i64 0), (.int .i64 0), (.int .i64 0), (.int .i64 0)]) 32 rfl Try.underlying48 info51 rfl (by decide) (by omega) (.slice A132_0 (rd_L2 x6_1 ((rd_T51 l1 x7_1).f0)).length c132_0) (rd_L2 x6_1 ((rd_T51 l1 x7_1).f0)) (⟨(rd_T51 l1 x7_1).f0, (rd_T51 l1 x7_1).f1, (rd_T51 l1 x7_1).f2, (rd_T51 l1 x7_1).f3⟩ : S51) [.int .i64 ((rd_T51 l1 x7_1).f0), .int .i64 ((rd_T51 l1 x7_1).f1), .int .i64 ((rd_T51 l1 x7_1).f2), .int .i64 ((rd_T51 l1 x7_1).f3)] (fun k_ => oki19 k_ ∨ ((fun _ => True)) k_ ∧ w17.heap.size ≤ k_) (fun _ => False) rfl rfl ?aP (fun _ hk => hk.elim) ?aF ?aO ?aB ?aS ?aL ?_
          (case aP => exact k51_mkM _ _ _ (⟨(rd_T51 l1 x7_1).f0, (rd_T51 l1 x7_1).f1, (rd_T51 l1 x7_1).f2, (rd_T51 l1 x7_1).f3⟩ : S51))
          (case aB => exact (zs2 GE126.out GE127.out))
          (case aF => exact (fun k_ hk => .inr ⟨trivial, hk⟩))
          (case aO => exact (by (with_reducible repeat (first | apply Kd.R_alloc | apply Kd.R_drewN | apply Kd.R_drew)); exact Kd.R_mono UU19.out (fun _ hk => .inl hk)))
          (case aS => exact (below_size (zs2 GE126.out GE127.out)))
          (case aL => have := LMc15.out; omega)
          intro v135 w20 ho hb hg hat
          (first | have HS0_ := cell_grown hg (hHeld.1) (by first | (rw [add_block]; exact (fun e_ => ((HL132_0.out.1 _ e_.symm).2) rfl)) | (show some (Addr.add _ _).block ≠ _; rw [add_block]; exact (fun e_ => ((HL132_0.out.1 _ e_.symm).2) rfl)) | exact (fun e_ => ((HL132_0.out.1 _ e_.symm).2) rfl)) | have HS0_ := cell_grown hg (cell_unalloc (hHeld.1) (by first | (rw [add_block]; exact Kd.S_lt HO_6.out _ rfl) | (show (Addr.add _ _).block < _; rw [add_block]; exact Kd.S_lt HO_6.out _ rfl) | exact Kd.S_lt HO_6.out _ rfl)) (by first | (rw [add_block]; exact (fun e_ => ((HL132_0.out.1 _ e_.symm).2) rfl)) | (show some (Addr.add _ _).block ≠ _; rw [add_block]; exact (fun e_ => ((HL132_0.out.1 _ e_.symm).2) rfl)) | exact (fun e_ => ((HL132_0.out.1 _ e_.symm).2) rfl)))
          rw [← Ny134.out] at ho
          have n0_ := zA (blk_grown (g := gb126) (o := .cells #[.int .i64 0, .slice none 0 0, .slice none 0 0, .slice none 0 0, .slice none 0 0] 26 (0, 0)) (zb BK126.out) hg (Kd.R_ne HL132_0.out BK126.out (by decide)))
          have n1_ := zA (blk_grown (g := gb127) (o := .cells #[.int .i64 a0, .slice none 0 0, .slice none 0 0, .slice none 0 0, .slice none 0 0] 26 (0, 0)) (zb BK127.out) hg (Kd.R_ne HL132_0.out BK127.out (by decide)))
          have n2_ := zA (hb)
          have n3_ := zA (Kd.H_grown (Kd.H_widen (by repeat (first | exact HH19.out | refine Kd.H_alloc ?_ _ | refine Kd.H_drewN ?_ _ | refine Kd.H_drew ?_))) hg (fun k_ e_ => .inl (UU19.out.1 k_ e_)))
          have n4_ := zA (ho)
          clear BK126
          clear BK127
          clear HB
          clear HH19
          clear HO_6
          clear UU19
          clear HL132_0
          have BK126 := n0_
          have BK127 := n1_
          have HB := n2_
          have HH19 := n3_
          have HO136 := n4_
          clear n0_ n1_ n2_ n3_ n4_
          clear ho hb hg hat
          have p16 : 0 ≤ (((rd_T51 l1 x7_1).f0) : Int) := zd
          have q16 : (((rd_T51 l1 x7_1).f0) : Int) < ((x6_1.length : Int) : Int) := zd
          replace p16 := eq_true p16
          replace q16 := eq_true q16
          obtain ⟨Ao23, co23, eo23⟩ := Kd.R_slice HO136.out
          (first | subst eo23 | (injection eo23 with f1_ f2_ f3_; have f4_ := f1_.symm; have f5_ := f3_.symm; clear f1_ f2_ f3_; subst f4_; subst f5_))
          obtain ⟨_, _, hraw21, _, _, hcc21, _⟩ := Kd.H_raw HH19.out (zd) (by have h_ : (((rd_T51 l1 x7_1).f0) : Int) < ((x6_1.length : Int) : Int) := zd; first | exact h_ | (have e_ := (HN19.out); omega) | simpa using h_)
          obtain ⟨_, hfr21⟩ := Kd.H_at HH19.out (zd) (by have h_ : (((rd_T51 l1 x7_1).f0) : Int) < ((x6_1.length : Int) : Int) := zd; first | exact h_ | (have e_ := (HN19.out); omega) | simpa using h_)
          have hx21_0 := hcc21 0 _ rfl
          have hf21_0 := hfr21 0
          (try simp only [Nat.add_zero] at hx21_0 hf21_0)
          (try rw [show ((Kd.slice 51 k51)).sz = 1 from rfl, Nat.mul_one] at hx21_0)
          (try rw [show ((Kd.slice 51 k51)).sz = 1 from rfl, Nat.mul_one] at hf21_0)
          have HP21 := Kd.S_seg0 HH19.out (zd) (by have h_ : (((rd_T51 l1 x7_1).f0) : Int) < ((x6_1.length : Int) : Int) := zd; first | exact h_ | (have e_ := (HN19.out); omega) | simpa using h_) (seg := [.slice Ao23 y134.length co23]) (j := 0) (show 1 ≤ 1 from by decide) (x' := y134) (Kd.M_row HO136.out) (fun _ hk => hk)
          (try simp only [show ((Kd.slice 51 k51)).sz = 1 from rfl, Nat.mul_one, Nat.add_zero] at HP21)
          clear hcc21 hfr21
          have HNB126_go19 := zA (show gb126 ≠ go19 from by have h_ := Kd.R_ne hraw21 BK126.out (by decide); intro e_; exact h_ (by rw [e_]; rfl))
          have HNB127_go19 := zA (show gb127 ≠ go19 from by have h_ := Kd.R_ne hraw21 BK127.out (by decide); intro e_; exact h_ (by rw [e_]; rfl))
          have HS21 := HP21.1
          rw [← Ny137.out] at HS21
          have HQ21 := zA HS21
          obtain ⟨_, hgg21⟩ := Kd.R_typed hraw21 go19 rfl
          have GG21_ := zA hgg21
          clear HP21 HS21 hgg21
          refine hK.out _ _ ⟨HS0_, ((HB.out.cell (World.block_lt_of_cell? w _ hw133_0)).trans hw133_0), ((HB.out.cell (World.block_lt_of_cell? w _ hw133_1)).trans hw133_1), ((HB.out.cell (World.block_lt_of_cell? w _ hw133_2)).trans hw133_2), ((HB.out.cell (World.block_lt_of_cell? w _ hw133_3)).trans hw133_3)⟩ (fun hHeld => ?_)
          clear hK K
          refine norm_ (a' := ?_) ?_ ?_
          rotate_left
          ·show Act.put _ (some 37) _ = _
           simp only [Act.put, List.setIfInBounds_toArray, List.set_cons_zero, List.set_cons_succ, i64_w, i32_w]
           rfl
          refine pure_ (i := 12) (N := some 38) (v := ?_) (a' := ?_) #[true, true, true, true, true, true, true, true, true, true, true, true, true, false] rfl rfl (any_of HT_.out (by kernel_rfl)) (fun _ _ _ h => h) (Or.inl ⟨by rfl, ?_⟩) ?_ ?_
          rotate_left
          ·intro w'
           go_simp
           with_reducible rfl
          rotate_left
          ·simp only [Act.put, List.setIfInBounds_toArray, List.set_cons_zero, List.set_cons_succ, i64_w, i32_w]
           rfl
          refine last_ (i := 13) (N := none) #[true, true, true, true, true, true, true, true, true, true, true, true, true, true] rfl rfl (one_of HT_.out (by kernel_rfl)) (by decide) (fun K hK => ?_)
          refine skip_ (w1 := ?_) (by rfl) rfl ?_ ?_
          rotate_left
          ·go_simp
           rfl
          refine hK.out _ _ ?_
          clear hK K
          refine done_ (done_of HT_.out (by kernel_rfl)) ?_
          try go_wp2
          go_roundg k1
          case measure => have := HK1.out; omega
          case rel => exact ⟨(y137), (wrap64 (x7_1 + 1)), zr, H', ⟨by have := HK1.out; omega⟩, ⟨by (with_reducible repeat (first | apply Kd.S_alloc | apply Kd.S_drewN | apply Kd.S_drew)); exact HQ21.out⟩, ⟨by (with_reducible repeat (first | refine blk_drewN ?_ _ | refine blk_drew ?_ | refine blk_alloc ?_ _)); refine blk_far ?_ HNB126_go19.out _; (with_reducible repeat (first | refine blk_drewN ?_ _ | refine blk_drew ?_ | refine blk_alloc ?_ _)); exact BK126.out⟩, ⟨by (with_reducible repeat (first | refine blk_drewN ?_ _ | refine blk_drew ?_ | refine blk_alloc ?_ _)); refine blk_far ?_ HNB127_go19.out _; (with_reducible repeat (first | refine blk_drewN ?_ _ | refine blk_drew ?_ | refine blk_alloc ?_ _)); exact BK127.out⟩, ⟨by repeat (first | (with_reducible first | exact HB.out | apply below_alloc | apply pw_below_drewN | apply below_drew1 | refine below_set ?_ GB19.out | refine below_set ?_ GE126.out | refine below_set ?_ GE127.out) | exact HB.out)⟩⟩
         ·rw [if_neg c15] at H
          exact absurd H (by simp)
        ·rw [if_neg c14] at H
         exact absurd H (by simp)
       ·rw [if_neg c13] at H
        exact absurd H (by simp)
      ·rw [if_neg c12] at H
       exact absurd H (by simp)
     ·rw [if_neg c11] at H
      have c11b0 : decide (x7_1 < (l1.length : Int)) = false := decide_eq_false c11
      clear c11
      have H' := zA H
      clear H
      go_wp2
      go_loopg [9] k1 (fun kq v9 w' => ∃ (x9_2 : Int) (x128001_2 : List Int) (x128002_2 : List Int) (x128003_2 : List Int) (x128004_2 : List Int) (u128001 : Value) (u128002 : Value) (u128003 : Value) (u128004 : Value), v9 = .int .i64 x9_2 ∧ Aside0 (spec_l5graph.l1 kq a0 x6_1 x9_2 a0 x128001_2 x128002_2 x128003_2 x128004_2 = some (r1, r2, r3, r4, r5)) ∧ Aside0 (kq ≤ k1) ∧ Aside0 (Kd.S (Kd.slice 51 k51) 48 w' w.heap.size (fun _ => True) v129 x6_1) ∧ Aside0 (Kd.R (Kd.int .i64) 3 w' w.heap.size (fun k_ => zO k_ (u128002) ∧ zO k_ (u128003) ∧ zO k_ (u128004)) u128001 x128001_2) ∧ Aside0 (Kd.R (Kd.int .i64) 3 w' w.heap.size (fun k_ => zO k_ (u128001) ∧ zO k_ (u128003) ∧ zO k_ (u128004)) u128002 x128002_2) ∧ Aside0 (Kd.R (Kd.int .i64) 3 w' w.heap.size (fun k_ => zO k_ (u128001) ∧ zO k_ (u128002) ∧ zO k_ (u128004)) u128003 x128003_2) ∧ Aside0 (Kd.R (Kd.int .i64) 3 w' w.heap.size (fun k_ => zO k_ (u128001) ∧ zO k_ (u128002) ∧ zO k_ (u128003)) u128004 x128004_2) ∧ Aside0 (w'.heap[gb126]? = some (.cells #[.int .i64 0, (.slice none 0 0), (.slice none 0 0), (.slice none 0 0), (.slice none 0 0)] 26 (0, 0))) ∧ Aside0 (w'.heap[gb127]? = some (.cells #[.int .i64 a0, u128001, u128002, u128003, u128004] 26 (0, 0))) ∧ Aside0 (Below w.heap.size w w'))
      case atStart => exact ⟨(0), (([] : List Int)), (([] : List Int)), (([] : List Int)), (([] : List Int)), (.slice none 0 0), (.slice none 0 0), (.slice none 0 0), (.slice none 0 0), zr, H', ⟨Nat.le_refl _⟩, ⟨zS HO_6.out⟩, ⟨by first | exact Kd.R_nil _ _ _ _ _ | exact Kd.N_nil _ _ _ _ _ | exact Kd.V_nil _ _ _ _ _ | exact Kd.Q_nil _ _ _ _ _ | exact Kd.S_nil _ _ _ _ _⟩, ⟨by first | exact Kd.R_nil _ _ _ _ _ | exact Kd.N_nil _ _ _ _ _ | exact Kd.V_nil _ _ _ _ _ | exact Kd.Q_nil _ _ _ _ _ | exact Kd.S_nil _ _ _ _ _⟩, ⟨by first | exact Kd.R_nil _ _ _ _ _ | exact Kd.N_nil _ _ _ _ _ | exact Kd.V_nil _ _ _ _ _ | exact Kd.Q_nil _ _ _ _ _ | exact Kd.S_nil _ _ _ _ _⟩, ⟨by first | exact Kd.R_nil _ _ _ _ _ | exact Kd.N_nil _ _ _ _ _ | exact Kd.V_nil _ _ _ _ _ | exact Kd.Q_nil _ _ _ _ _ | exact Kd.S_nil _ _ _ _ _⟩, ⟨zb BK126.out⟩, ⟨zb BK127.out⟩, ⟨(zs2 GE126.out GE127.out)⟩⟩
      case round =>
       clear H'
       (try clear c1); (try clear p1); (try clear q1); (try clear hx1); (try clear c2); (try clear p2); (try clear hx2); (try clear hf2); (try clear c3); (try clear c3b0); (try clear c3b1); (try clear c4); (try clear c4b0); (try clear c4b1); (try clear p6); (try clear c7); (try clear c11); (try clear c11b0); (try clear c12); (try clear c12b0); (try clear c13); (try clear c13b0); (try clear p13); (try clear q13); (try clear hx13); (try clear c14); (try clear c14b0); (try clear c15); (try clear p16); (try clear q16); (try clear c19); (try clear c21); (try clear hx21); (try clear hf21); (try clear hcz8_0 hcz8_1 hcz8_2 hcz8_3 hcz8_4); (try clear hfz8_0 hfz8_1 hfz8_2 hfz8_3 hfz8_4); (try clear hx131_0); (try clear hx131_1); (try clear hx131_2); (try clear hx131_3); (try clear hx132_0); (try clear hx133_0); (try clear hx133_1); (try clear hx133_2); (try clear hx133_3); (try clear hx21_0); (try clear p131); (try clear p132); (try clear p133); (try clear p16); (try clear p2); (try clear q131); (try clear q132); (try clear q133); (try clear q16)
       obtain ⟨x9_2, x128001_2, x128002_2, x128003_2, x128004_2, u128001, u128002, u128003, u128004, rfl, HA, HK2, HO_6, HO_128001, HO_128002, HO_128003, HO_128004, BK126, BK127, HB⟩ := hrel
       cases gk with
       | zero => exact absurd HA.out (by simp [spec_l5graph.l1])
       | succ k2 =>
        have H := HA.out
        clear HA
        simp only [spec_l5graph.l1] at H
        by_cases c24 : x9_2 < a0
        ·rw [if_pos c24] at H
         have c24b0 : decide (x9_2 < a0) = true := decide_eq_true c24
         clear c24
         by_cases c25 : x128001_2.length < 17592186044416
         ·rw [if_pos c25] at H
          have LMc25 := zA c25
          clear c25
          obtain ⟨y141, hy141⟩ : ∃ y_ : List Int, y_ = (x128001_2 ++ [(x128002_2.length : Int)]) := ⟨_, rfl⟩
          replace H : (spec_l5graph.l2 k2 a0 x6_1 x9_2 0 a0 y141 x128002_2 x128003_2 x128004_2) = some (r1, r2, r3, r4, r5) := zh hy141
          have Ny141 := zA hy141
          clear hy141
          have H' := zA H
          clear H
          have hnb26 := NB127_126.out
          have hnc26 := NB126_127.out
          obtain ⟨hcz27_0, hcz27_1, hcz27_2, hcz27_3, hcz27_4, hfz27_0, hfz27_1, hfz27_2, hfz27_3, hfz27_4⟩ := zh5 BK127.out
          obtain ⟨Ao28, co28, eo28⟩ := Kd.R_slice HO_128002.out
          subst eo28
          go_wp2_with (first | ((with_reducible refine gate_builtin (b := .append) (xs := #[.tmp 45, .tmp 49]) rfl ?_); at_builtin; refine Kd.R_append (Kd.int .i64) (w0 := w) w.heap.size rfl (.tmp 45) (.tmp 49) 22 3 (.int .i64 0) 8 rfl Try.underlying22 info3 rfl (by decide) (by omega) u128001 x128001_2 (x128002_2.length : Int) [.int .i64 (x128002_2.length : Int)] (fun k_ => zO k_ (.slice Ao28 x128002_2.length co28) ∧ zO k_ (u128003) ∧ zO k_ (u128004)) (fun _ => False) rfl rfl ?aP (fun _ hk => hk.elim) ?aF ?aO ?aB ?aS ?aL ?_; (case aP => exact rfl); (case aB => exact (zs2 GE126.out GE127.out)); (case aF => exact (fun k_ hk => ⟨Kd.fresh' (zl HO_128002.out) k_ hk, Kd.fresh' (zl HO_128003.out) k_ hk, Kd.fresh' (zl HO_128004.out) k_ hk⟩)); (case aO => exact (zR HO_128001.out)); (case aS => exact (below_size (zs2 GE126.out GE127.out))); (case aL => have := LMc25.out; omega); intro v142 w29 ho hb hg hat; rw [← Ny141.out] at ho; have n0_ := zA (Kd.S_over' (zS HO_6.out) (Kd.R_typed (zR HO_128001.out)) (by decide) hg); have n1_ := zA (Kd.R_after (ok := (fun k_ => zO k_ (u128003) ∧ zO k_ (u128004))) (by (with_reducible repeat (first | apply Kd.R_alloc | apply Kd.R_drewN | apply Kd.R_drew)); exact Kd.R_mono HO_128002.out zy) hg hat); have n2_ := zA (Kd.R_after (ok := (fun k_ => zO k_ (.slice Ao28 x128002_2.length co28) ∧ zO k_ (u128004))) (by (with_reducible repeat (first | apply Kd.R_alloc | apply Kd.R_drewN | apply Kd.R_drew)); exact Kd.R_mono HO_128003.out zy) hg hat); have n3_ := zA (Kd.R_after (ok := (fun k_ => zO k_ (.slice Ao28 x128002_2.length co28) ∧ zO k_ (u128003))) (by (with_reducible repeat (first | apply Kd.R_alloc | apply Kd.R_drewN | apply Kd.R_drew)); exact Kd.R_mono HO_128004.out zy) hg hat); have n4_ := zA (blk_grown (g := gb126) (o := .cells #[.int .i64 0, .slice none 0 0, .slice none 0 0, .slice none 0 0, .slice none 0 0] 26 (0, 0)) (zb BK126.out) hg (Kd.R_ne HO_128001.out BK126.out (by decide))); have n5_ := zA (blk_grown (g := gb127) (o := .cells #[.int .i64 a0, u128001, .slice Ao28 x128002_2.length co28, u128003, u128004] 26 (0, 0)) (zb BK127.out) hg (Kd.R_ne HO_128001.out BK127.out (by decide))); have n6_ := zA (hb); have n7_ := zA (ho); clear HO_6 HO_128002 HO_128003 HO_128004 BK126 BK127 HB HO_128001; have HO_6 := n0_; have HO_128002 := n1_; have HO_128003 := n2_; have HO_128004 := n3_; have BK126 := n4_; have BK127 := n5_; have HB := n6_; have HO143 := n7_; clear n0_ n1_ n2_ n3_ n4_ n5_ n6_ n7_; clear ho hb hg hat; obtain ⟨Ao30, co30, eo30⟩ := Kd.R_slice HO143.out; subst eo30; obtain ⟨hcz31_0, hcz31_1, hcz31_2, hcz31_3, hcz31_4, hfz31_0, hfz31_1, hfz31_2, hfz31_3, hfz31_4⟩ := zh5 BK127.out))
          go_loopg [10] k2 (fun kq v10 w' => ∃ (x10_3 : Int) (x128002_3 : List Int) (x128003_3 : List Int) (x128004_3 : List Int) (u128002 : Value) (u128003 : Value) (u128004 : Value), v10 = .int .i64 x10_3 ∧ Aside0 (spec_l5graph.l2 kq a0 x6_1 x9_2 x10_3 a0 y141 x128002_3 x128003_3 x128004_3 = some (r1, r2, r3, r4, r5)) ∧ Aside0 (kq ≤ k2) ∧ Aside0 (Kd.S (Kd.slice 51 k51) 48 w' w.heap.size (fun _ => True) v129 x6_1) ∧ Aside0 (Kd.R (Kd.int .i64) 3 w' w.heap.size (fun k_ => zO k_ (u128002) ∧ zO k_ (u128003) ∧ zO k_ (u128004)) (.slice Ao30 y141.length co30) y141) ∧ Aside0 (Kd.R (Kd.int .i64) 3 w' w.heap.size (fun k_ => zO k_ ((.slice Ao30 y141.length co30)) ∧ zO k_ (u128003) ∧ zO k_ (u128004)) u128002 x128002_3) ∧ Aside0 (Kd.R (Kd.int .i64) 3 w' w.heap.size (fun k_ => zO k_ ((.slice Ao30 y141.length co30)) ∧ zO k_ (u128002) ∧ zO k_ (u128004)) u128003 x128003_3) ∧ Aside0 (Kd.R (Kd.int .i64) 3 w' w.heap.size (fun k_ => zO k_ ((.slice Ao30 y141.length co30)) ∧ zO k_ (u128002) ∧ zO k_ (u128003)) u128004 x128004_3) ∧ Aside0 (w'.heap[gb126]? = some (.cells #[.int .i64 0, (.slice none 0 0), (.slice none 0 0), (.slice none 0 0), (.slice none 0 0)] 26 (0, 0))) ∧ Aside0 (w'.heap[gb127]? = some (.cells #[.int .i64 a0, (.slice Ao30 y141.length co30), u128002, u128003, u128004] 26 (0, 0))) ∧ Aside0 (Below w.heap.size w w'))
          case atStart => exact ⟨(0), (x128002_2), (x128003_2), (x128004_2), (.slice Ao28 x128002_2.length co28), (u128003), (u128004), zr, H', ⟨Nat.le_refl _⟩, ⟨by (with_reducible repeat (first | apply Kd.S_alloc | apply Kd.S_drewN | apply Kd.S_drew)); exact Kd.S_mono (Kd.S_far (p := ⟨gb127, 1, none⟩) (Kd.S_types HO_6.out BK127.out (by decide)) (fun _ hk => hk.2) (.slice Ao30 y141.length co30)) (fun _ hk => trivial)⟩, ⟨by (with_reducible repeat (first | apply Kd.R_alloc | apply Kd.R_drewN | apply Kd.R_drew)); exact Kd.R_mono (zK HO143.out BK127.out) zy⟩, ⟨by (with_reducible repeat (first | apply Kd.R_alloc | apply Kd.R_drewN | apply Kd.R_drew)); exact Kd.R_mono (zK HO_128002.out BK127.out) zy⟩, ⟨by (with_reducible repeat (first | apply Kd.R_alloc | apply Kd.R_drewN | apply Kd.R_drew)); exact Kd.R_mono (zK HO_128003.out BK127.out) zy⟩, ⟨by (with_reducible repeat (first | apply Kd.R_alloc | apply Kd.R_drewN | apply Kd.R_drew)); exact Kd.R_mono (zK HO_128004.out BK127.out) zy⟩, ⟨by (with_reducible repeat (first | refine blk_drewN ?_ _ | refine blk_drew ?_ | refine blk_alloc ?_ _)); refine blk_far ?_ NB126_127.out _; (with_reducible repeat (first | refine blk_drewN ?_ _ | refine blk_drew ?_ | refine blk_alloc ?_ _)); exact BK126.out⟩, ⟨by (with_reducible repeat (first | refine blk_drewN ?_ _ | refine blk_drew ?_ | refine blk_alloc ?_ _)); refine blk_put (cs := #[.int .i64 a0, u128001, .slice Ao28 x128002_2.length co28, u128003, u128004]) ?_ 1 _ rfl; (with_reducible repeat (first | refine blk_drewN ?_ _ | refine blk_drew ?_ | refine blk_alloc ?_ _)); exact BK127.out⟩, ⟨(zs2 GE126.out GE127.out)⟩⟩
          case round =>
           clear H'
           (try clear c1); (try clear p1); (try clear q1); (try clear hx1); (try clear c2); (try clear p2); (try clear hx2); (try clear hf2); (try clear c3); (try clear c3b0); (try clear c3b1); (try clear c4); (try clear c4b0); (try clear c4b1); (try clear p6); (try clear c7); (try clear c11); (try clear c11b0); (try clear c12); (try clear c12b0); (try clear c13); (try clear c13b0); (try clear p13); (try clear q13); (try clear hx13); (try clear c14); (try clear c14b0); (try clear c15); (try clear p16); (try clear q16); (try clear c19); (try clear c21); (try clear hx21); (try clear hf21); (try clear c24); (try clear c24b0); (try clear c25); (try clear c26); (try clear c30); (try clear hcz27_0 hcz27_1 hcz27_2 hcz27_3 hcz27_4); (try clear hcz31_0 hcz31_1 hcz31_2 hcz31_3 hcz31_4); (try clear hcz8_0 hcz8_1 hcz8_2 hcz8_3 hcz8_4); (try clear hfz27_0 hfz27_1 hfz27_2 hfz27_3 hfz27_4); (try clear hfz31_0 hfz31_1 hfz31_2 hfz31_3 hfz31_4); (try clear hfz8_0 hfz8_1 hfz8_2 hfz8_3 hfz8_4); (try clear hx131_0); (try clear hx131_1); (try clear hx131_2); (try clear hx131_3); (try clear hx132_0); (try clear hx133_0); (try clear hx133_1); (try clear hx133_2); (try clear hx133_3); (try clear hx21_0); (try clear p1); (try clear p13); (try clear p131); (try clear p132); (try clear p133); (try clear p16); (try clear p2); (try clear p6); (try clear q1); (try clear q13); (try clear q131); (try clear q132); (try clear q133); (try clear q16)
           obtain ⟨x10_3, x128002_3, x128003_3, x128004_3, u128002, u128003, u128004, rfl, HA, HK3, HO_6, HO_128001, HO_128002, HO_128003, HO_128004, BK126, BK127, HB⟩ := hrel
           cases gk with
           | zero => exact absurd HA.out (by simp [spec_l5graph.l2])
           | succ k3 =>
            have H := HA.out
            clear HA
            simp only [spec_l5graph.l2] at H
            by_cases c32 : 0 ≤ x9_2
            ·rw [if_pos c32] at H
             have c32b0 : decide (0 ≤ x9_2) = true := decide_eq_true c32
             clear c32
             by_cases c33 : x9_2 < (x6_1.length : Int)
             ·rw [if_pos c33] at H
              have c33b0 : decide (x9_2 < (x6_1.length : Int)) = true := decide_eq_true c33
              clear c33
              by_cases c34 : x10_3 < ((rd_L2 x6_1 x9_2).length : Int)
              ·rw [if_pos c34] at H
               have c34b0 : decide (x10_3 < ((rd_L2 x6_1 x9_2).length : Int)) = true := decide_eq_true c34
               clear c34
               by_cases c35 : 0 ≤ x10_3
               ·rw [if_pos c35] at H
                have c35b0 : decide (0 ≤ x10_3) = true := decide_eq_true c35
                clear c35
                by_cases c36 : x128002_3.length < 17592186044416
                ·rw [if_pos c36] at H
                 have LMc36 := zA c36
                 clear c36
                 obtain ⟨y147, hy147⟩ : ∃ y_ : List Int, y_ = (x128002_3 ++ [(rd_T51 (rd_L2 x6_1 x9_2) x10_3).f1]) := ⟨_, rfl⟩
                 replace H : (if x128003_3.length < 17592186044416 then (if x128004_3.length < 17592186044416 then (spec_l5graph.l2 k3 a0 x6_1 x9_2 (wrap64 (x10_3 + 1)) a0 y141 y147 (x128003_3 ++ [(rd_T51 (rd_L2 x6_1 x9_2) x10_3).f2]) (x128004_3 ++ [(rd_T51 (rd_L2 x6_1 x9_2) x10_3).f3])) else (none)) else (none)) = some (r1, r2, r3, r4, r5) := zh hy147
                 have Ny147 := zA hy147
                 clear hy147
                 by_cases c37 : x128003_3.length < 17592186044416
                 ·rw [if_pos c37] at H
                  have LMc37 := zA c37
                  clear c37
                  obtain ⟨y152, hy152⟩ : ∃ y_ : List Int, y_ = (x128003_3 ++ [(rd_T51 (rd_L2 x6_1 x9_2) x10_3).f2]) := ⟨_, rfl⟩
                  replace H : (if x128004_3.length < 17592186044416 then (spec_l5graph.l2 k3 a0 x6_1 x9_2 (wrap64 (x10_3 + 1)) a0 y141 y147 y152 (x128004_3 ++ [(rd_T51 (rd_L2 x6_1 x9_2) x10_3).f3])) else (none)) = some (r1, r2, r3, r4, r5) := zh hy152
                  have Ny152 := zA hy152
                  clear hy152
                  by_cases c38 : x128004_3.length < 17592186044416
                  ·rw [if_pos c38] at H
                   have LMc38 := zA c38
                   clear c38
                   obtain ⟨y157, hy157⟩ : ∃ y_ : List Int, y_ = (x128004_3 ++ [(rd_T51 (rd_L2 x6_1 x9_2) x10_3).f3]) := ⟨_, rfl⟩
                   replace H : (spec_l5graph.l2 k3 a0 x6_1 x9_2 (wrap64 (x10_3 + 1)) a0 y141 y147 y152 y157) = some (r1, r2, r3, r4, r5) := zh hy157
                   have Ny157 := zA hy157
                   clear hy157
                   have H' := zA H
                   clear H
                   obtain ⟨Ao39, co39, eo39⟩ := Kd.S_slice HO_6.out
                   subst eo39
                   have p144 : 0 ≤ (x9_2 : Int) := zd
                   have q144 : x9_2 < (x6_1.length : Int) := zd
                   obtain ⟨ad144, A144_0, c144_0, e144, hx144_0, hl144_0, hi144_0⟩ := at_L2 (Kd.S_reads' HO_6.out).2.2 x9_2 p144 q144
                   cases e144
                   obtain ⟨ce144, hce144, hMe144, hcc144⟩ := Kd.S_get HO_6.out [] x9_2 p144 (by first | exact q144 | exact zd | (have e_ := (Kd.S_reads' HO_6.out).1; omega))
                   obtain ⟨ve144_0, rfl, ge144_0⟩ := hMe144
                   have hv144_0 := hcc144 0 _ rfl
                   rw [Nat.add_zero, show ((Kd.slice 51 k51)).sz = 1 from rfl, Nat.mul_one] at hv144_0
                   replace hv144_0 := Option.some.inj (hv144_0.symm.trans hx144_0)
                   rw [hv144_0] at ge144_0
                   have HL144_0 := zA (show Kd.R k51 51 _ _ _ _ (rd_L2 x6_1 x9_2) from ge144_0)
                   clear hv144_0 ge144_0
                   have HX144_0 := zA hx144_0
                   clear hcc144 hce144
                   have HR144_0 := zA hi144_0
                   have HC144_0 := zA hl144_0
                   clear hi144_0 hl144_0
                   replace p144 := eq_true p144
                   replace q144 := eq_true q144
                   try go_wp2
                   have n0_ := zA (Kd.S_drew HO_6.out)
                   have n1_ := zA (Kd.R_drew HO_128001.out)
                   have n2_ := zA (Kd.R_drew HO_128002.out)
                   have n3_ := zA (Kd.R_drew HO_128003.out)
                   have n4_ := zA (Kd.R_drew HO_128004.out)
                   have n5_ := zA (Kd.R_drew HL144_0.out)
                   have n6_ := zA (blk_drew BK126.out)
                   have n7_ := zA (blk_drew BK127.out)
                   have n8_ := zA (Kd.C_drew HR144_0.out)
                   have n9_ := zA (below_drew1 HB.out)
                   clear HO_6
                   clear HO_128001
                   clear HO_128002
                   clear HO_128003
                   clear HO_128004
                   clear HL144_0
                   clear BK126
                   clear BK127
                   clear HR144_0
                   clear HB
                   have HO_6 := n0_
                   have HO_128001 := n1_
                   have HO_128002 := n2_
                   have HO_128003 := n3_
                   have HO_128004 := n4_
                   have HL144_0 := n5_
                   have BK126 := n6_
                   have BK127 := n7_
                   have HR144_0 := n8_
                   have HB := n9_
                   clear n0_ n1_ n2_ n3_ n4_ n5_ n6_ n7_ n8_ n9_
                   have p145 : 0 ≤ (x9_2 : Int) := zd
                   have q145 : x9_2 < (x6_1.length : Int) := zd
                   obtain ⟨ad145, A145_0, c145_0, e145, hx145_0, hl145_0, hi145_0⟩ := at_L2 (Kd.S_reads' HO_6.out).2.2 x9_2 p145 q145
                   obtain rfl : ad144 = ad145 := (by injection e145)
                   obtain ⟨ce145, hce145, hMe145, hcc145⟩ := Kd.S_get HO_6.out [] x9_2 p145 (by first | exact q145 | exact zd | (have e_ := (Kd.S_reads' HO_6.out).1; omega))
                   obtain ⟨ve145_0, rfl, ge145_0⟩ := hMe145
                   have hv145_0 := hcc145 0 _ rfl
                   rw [Nat.add_zero, show ((Kd.slice 51 k51)).sz = 1 from rfl, Nat.mul_one] at hv145_0
                   replace hv145_0 := Option.some.inj (hv145_0.symm.trans hx145_0)
                   rw [hv145_0] at ge145_0
                   have HL145_0 := zA (show Kd.R k51 51 _ _ _ _ (rd_L2 x6_1 x9_2) from ge145_0)
                   clear hv145_0 ge145_0
                   have HX145_0 := zA hx145_0
                   clear hcc145 hce145
                   have HR145_0 := zA hi145_0
                   have HC145_0 := zA hl145_0
                   clear hi145_0 hl145_0
                   replace p145 := eq_true p145
                   replace q145 := eq_true q145
                   have p146 : 0 ≤ (x10_3 : Int) := zd
                   have q146 : x10_3 < ((rd_L2 x6_1 x9_2).length : Int) := zd
                   obtain ⟨ad146, e146, hx146_0, hx146_1, hx146_2, hx146_3⟩ := at_T51 (by repeat (first | (with_reducible exact HR145_0.out) | (with_reducible refine Kd.C_alloc ?_ _) | (with_reducible refine Kd.C_drewN ?_ _) | (with_reducible refine Kd.C_drew ?_) | exact HR145_0.out)) x10_3 p146 q146
                   cases e146
                   replace p146 := eq_true p146
                   replace q146 := eq_true q146
                   refine start_ (n := 14) (S := fun w' => w'.cell? ⟨gb127, 0, none⟩ = some (.int .i64 a0) ∧ w'.cell? ⟨gb127, 1, none⟩ = some (.slice Ao30 y141.length co30) ∧ w'.cell? ⟨gb127, 2, none⟩ = some (u128002) ∧ w'.cell? ⟨gb127, 3, none⟩ = some (u128003) ∧ w'.cell? ⟨gb127, 4, none⟩ = some (u128004) ∧ w'.cell? (ad144.add (x9_2).toNat) = some (.slice (some ad146) (rd_L2 x6_1 x9_2).length c145_0) ∧ w'.cell? (ad146.add ((x10_3).toNat * 4)) = some (.int .i64 ((rd_T51 (rd_L2 x6_1 x9_2) x10_3).f0)) ∧ w'.cell? ⟨(ad146.add ((x10_3).toNat * 4)).block, (ad146.add ((x10_3).toNat * 4)).off + 1, none⟩ = some (.int .i64 ((rd_T51 (rd_L2 x6_1 x9_2) x10_3).f1)) ∧ w'.cell? ⟨(ad146.add ((x10_3).toNat * 4)).block, (ad146.add ((x10_3).toNat * 4)).off + 2, none⟩ = some (.int .i64 ((rd_T51 (rd_L2 x6_1 x9_2) x10_3).f2)) ∧ w'.cell? ⟨(ad146.add ((x10_3).toNat * 4)).block, (ad146.add ((x10_3).toNat * 4)).off + 3, none⟩ = some (.int .i64 ((rd_T51 (rd_L2 x6_1 x9_2) x10_3).f3))) (ds := [11, 13]) #[false, false, false, false, false, false, false, false, false, false, false, false, false, false] (by kernel_rfl) rfl rfl ⟨(blk_cell BK127.out 0).trans rfl, (blk_cell BK127.out 1).trans rfl, (blk_cell BK127.out 2).trans rfl, (blk_cell BK127.out 3).trans rfl, (blk_cell BK127.out 4).trans rfl, hx145_0, hx146_0, hx146_1, hx146_2, hx146_3⟩ (fun hHeld => ?_); refine with_tabW spec_l5graph.tab15 spec_l5graph.bits15 (fun HT_ HW_ => ?_)
                   generalize wr.drew = w40 at HO_6 HO_128001 HO_128002 HO_128003 HO_128004 HL144_0 BK126 BK127 HR144_0 HB HL145_0 HR145_0 HX145_0 hx145_0 hx146_0 hx146_1 hx146_2 hx146_3 hHeld ⊢
                   refine pure_ (i := 0) (N := some 61) (v := ?_) (a' := ?_) #[true, false, false, false, false, false, false, false, false, false, false, false, false, false] rfl rfl (any_of HT_.out (by kernel_rfl)) (fun _ _ _ h => h) (Or.inl ⟨by rfl, ?_⟩) ?_ ?_
                   rotate_left
                   ·intro w'
                    go_simp
                    with_reducible rfl
                   rotate_left
                   ·simp only [Act.put, List.setIfInBounds_toArray, List.set_cons_zero, List.set_cons_succ, i64_w, i32_w]
                    rfl
                   refine pure_ (i := 2) (N := some 63) (v := ?_) (a' := ?_) #[true, false, true, false, false, false, false, false, false, false, false, false, false, false] rfl rfl (any_of HT_.out (by kernel_rfl)) (fun _ _ _ h => h) (Or.inl ⟨by rfl, ?_⟩) ?_ ?_
                   rotate_left
                   ·intro w'
                    go_simp
                    with_reducible rfl
                   rotate_left
                   ·simp only [Act.put, List.setIfInBounds_toArray, List.set_cons_zero, List.set_cons_succ, i64_w, i32_w]
                    rfl
                   refine pure_ (i := 3) (N := some 64) (v := ?_) (a' := ?_) #[true, false, true, true, false, false, false, false, false, false, false, false, false, false] rfl rfl (any_of HT_.out (by kernel_rfl)) (fun _ _ _ h => h) (Or.inl ⟨by rfl, ?_⟩) ?_ ?_
                   rotate_left
                   ·intro w'
                    go_simp
                    with_reducible rfl
                   rotate_left
                   ·simp only [Act.put, List.setIfInBounds_toArray, List.set_cons_zero, List.set_cons_succ, i64_w, i32_w]
                    rfl
                   refine pure_ (i := 4) (N := some 65) (v := ?_) (a' := ?_) #[true, false, true, true, true, false, false, false, false, false, false, false, false, false] rfl rfl (any_of HT_.out (by kernel_rfl)) (fun _ _ _ h => h) (Or.inl ⟨by rfl, ?_⟩) ?_ ?_
                   rotate_left
                   ·intro w'
                    go_simp
                    with_reducible rfl
                   rotate_left
                   ·simp only [Act.put, List.setIfInBounds_toArray, List.set_cons_zero, List.set_cons_succ, i64_w, i32_w]
                    rfl
                   refine pure_ (i := 6) (N := some 67) (v := ?_) (a' := ?_) #[true, false, true, true, true, false, true, false, false, false, false, false, false, false] rfl rfl (any_of HT_.out (by kernel_rfl)) (fun _ _ _ h => h) (Or.inl ⟨by rfl, ?_⟩) ?_ ?_
                   rotate_left
                   ·intro w'
                    go_simp
                    with_reducible rfl
                   rotate_left
                   ·simp only [Act.put, List.setIfInBounds_toArray, List.set_cons_zero, List.set_cons_succ, i64_w, i32_w]
                    rfl
                   refine take_ (i := 1) (N := some 62) (v := ?_) (a' := ?_) #[true, true, true, true, true, false, true, false, false, false, false, false, false, false] rfl rfl (take_ofW HT_.out HW_.out (by kernel_rfl)) (fun _ _ _ h => h) (Or.inl ⟨by rfl, ?_⟩) hHeld ?_ ?_
                   rotate_left
                   ·rintro w' ⟨s0, s1, s2, s3, s4, s5, s6, s7, s8, s9⟩
                    go_simp
                    with_reducible rfl
                   rotate_left
                   ·simp only [Act.put, List.setIfInBounds_toArray, List.set_cons_zero, List.set_cons_succ, i64_w, i32_w]
                    rfl
                   refine take_ (i := 5) (N := some 66) (v := ?_) (a' := ?_) #[true, true, true, true, true, true, true, false, false, false, false, false, false, false] rfl rfl (take_ofW HT_.out HW_.out (by kernel_rfl)) (fun _ _ _ h => h) (Or.inl ⟨by rfl, ?_⟩) hHeld ?_ ?_
                   rotate_left
                   ·rintro w' ⟨s0, s1, s2, s3, s4, s5, s6, s7, s8, s9⟩
                    go_simp
                    with_reducible rfl
                   rotate_left
                   ·simp only [Act.put, List.setIfInBounds_toArray, List.set_cons_zero, List.set_cons_succ, i64_w, i32_w]
                    rfl
                   refine pure_ (i := 7) (N := some 68) (v := ?_) (a' := ?_) #[true, true, true, true, true, true, true, true, false, false, false, false, false, false] rfl rfl (any_of HT_.out (by kernel_rfl)) (fun _ _ _ h => h) (Or.inl ⟨by rfl, ?_⟩) ?_ ?_
                   rotate_left
                   ·intro w'
                    go_simp
                    with_reducible rfl
                   rotate_left
                   ·simp only [Act.put, List.setIfInBounds_toArray, List.set_cons_zero, List.set_cons_succ, i64_w, i32_w]
                    rfl
                   refine pure_ (i := 8) (N := some 69) (v := ?_) (a' := ?_) #[true, true, true, true, true, true, true, true, true, false, false, false, false, false] rfl rfl (any_of HT_.out (by kernel_rfl)) (fun _ _ _ h => h) (Or.inl ⟨by rfl, ?_⟩) ?_ ?_
                   rotate_left
                   ·intro w'
                    go_simp
                    with_reducible rfl
                   rotate_left
                   ·simp only [Act.put, List.setIfInBounds_toArray, List.set_cons_zero, List.set_cons_succ, i64_w, i32_w]
                    rfl
                   refine take_ (i := 9) (N := some 70) (v := ?_) (a' := ?_) #[true, true, true, true, true, true, true, true, true, true, false, false, false, false] rfl rfl (take_ofW HT_.out HW_.out (by kernel_rfl)) (fun _ _ _ h => h) (Or.inl ⟨by rfl, ?_⟩) hHeld ?_ ?_
                   rotate_left
                   ·rintro w' ⟨s0, s1, s2, s3, s4, s5, s6, s7, s8, s9⟩
                    go_simp
                    with_reducible rfl
                   rotate_left
                   ·simp only [Act.put, List.setIfInBounds_toArray, List.set_cons_zero, List.set_cons_succ, i64_w, i32_w]
                    rfl
                   refine one_ (i := 10) (N := some 71) #[true, true, true, true, true, true, true, true, true, true, true, false, false, false] rfl rfl (one_of HT_.out (by kernel_rfl)) (by decide) (fun K hK => ?_)
                   refine value_ (w1 := ?_) (v := ?_) (by rfl) rfl ?_ ?_
                   rotate_left 2
                   ·go_simp
                    constructor
                    ·rfl
                    ·rfl
                   refine hK.out _ _ ⟨(blk_cell (blk_alloc BK127.out _) 0).trans rfl, (blk_cell (blk_alloc BK127.out _) 1).trans rfl, (blk_cell (blk_alloc BK127.out _) 2).trans rfl, (blk_cell (blk_alloc BK127.out _) 3).trans rfl, (blk_cell (blk_alloc BK127.out _) 4).trans rfl, (World.cell?_alloc_lt _ _ _ (World.block_lt_of_cell? _ _ (hHeld.2.2.2.2.2.1))).trans (hHeld.2.2.2.2.2.1), (World.cell?_alloc_lt _ _ _ (World.block_lt_of_cell? _ _ (hHeld.2.2.2.2.2.2.1))).trans (hHeld.2.2.2.2.2.2.1), (World.cell?_alloc_lt _ _ _ (World.block_lt_of_cell? _ _ (hHeld.2.2.2.2.2.2.2.1))).trans (hHeld.2.2.2.2.2.2.2.1), (World.cell?_alloc_lt _ _ _ (World.block_lt_of_cell? _ _ (hHeld.2.2.2.2.2.2.2.2.1))).trans (hHeld.2.2.2.2.2.2.2.2.1), (World.cell?_alloc_lt _ _ _ (World.block_lt_of_cell? _ _ (hHeld.2.2.2.2.2.2.2.2.2))).trans (hHeld.2.2.2.2.2.2.2.2.2)⟩ (fun hHeld => ?_)
                   clear hK K
                   refine norm_ (a' := ?_) ?_ ?_
                   rotate_left
                   ·show Act.put _ (some 71) _ = _
                    simp only [Act.put, List.setIfInBounds_toArray, List.set_cons_zero, List.set_cons_succ, i64_w, i32_w]
                    rfl
                   refine last_ (i := 11) (N := some 72) #[true, true, true, true, true, true, true, true, true, true, true, true, false, false] rfl rfl (one_of HT_.out (by kernel_rfl)) (by decide) (fun K hK => ?_)
                   refine Kd.R_append_step (Kd.int .i64) (w0 := w) w.heap.size (by rfl) (.tmp 62) (.tmp 71) 22 3 (.int .i64 0) 8 rfl Try.underlying22 info3 rfl (by decide) (by omega) u128002 x128002_3 ((rd_T51 (rd_L2 x6_1 x9_2) x10_3).f1) [.int .i64 ((rd_T51 (rd_L2 x6_1 x9_2) x10_3).f1)] (fun k_ => zO k_ (.slice Ao30 y141.length co30) ∧ zO k_ (u128003) ∧ zO k_ (u128004)) (fun _ => False) rfl rfl ?aP (fun _ hk => hk.elim) ?aF ?aO ?aB ?aS ?aL ?_
                   (case aP => exact rfl)
                   (case aB => exact (zs2 GE126.out GE127.out))
                   (case aF => exact (fun k_ hk => ⟨Kd.fresh' (zl HO_128001.out) k_ hk, Kd.fresh' (zl HO_128003.out) k_ hk, Kd.fresh' (zl HO_128004.out) k_ hk⟩))
                   (case aO => exact (zR HO_128002.out))
                   (case aS => exact (below_size (zs2 GE126.out GE127.out)))
                   (case aL => have := LMc36.out; omega)
                   intro v148 w41 ho hb hg hat
                   rw [← Ny147.out] at ho
                   have n0_ := zA (Kd.S_over' (zS HO_6.out) (Kd.R_typed (zR HO_128002.out)) (by decide) hg)
                   have n1_ := zA (Kd.R_after (ok := (fun k_ => zO k_ (u128003) ∧ zO k_ (u128004))) (by (with_reducible repeat (first | apply Kd.R_alloc | apply Kd.R_drewN | apply Kd.R_drew)); exact Kd.R_mono HO_128001.out zy) hg hat)
                   have n2_ := zA (Kd.R_after (ok := (fun k_ => zO k_ (.slice Ao30 y141.length co30) ∧ zO k_ (u128004))) (by (with_reducible repeat (first | apply Kd.R_alloc | apply Kd.R_drewN | apply Kd.R_drew)); exact Kd.R_mono HO_128003.out zy) hg hat)
                   have n3_ := zA (Kd.R_after (ok := (fun k_ => zO k_ (.slice Ao30 y141.length co30) ∧ zO k_ (u128003))) (by (with_reducible repeat (first | apply Kd.R_alloc | apply Kd.R_drewN | apply Kd.R_drew)); exact Kd.R_mono HO_128004.out zy) hg hat)
                   have n4_ := zA (blk_grown (g := gb126) (o := .cells #[.int .i64 0, .slice none 0 0, .slice none 0 0, .slice none 0 0, .slice none 0 0] 26 (0, 0)) (zb BK126.out) hg (Kd.R_ne HO_128002.out BK126.out (by decide)))
                   have n5_ := zA (blk_grown (g := gb127) (o := .cells #[.int .i64 a0, .slice Ao30 y141.length co30, u128002, u128003, u128004] 26 (0, 0)) (zb BK127.out) hg (Kd.R_ne HO_128002.out BK127.out (by decide)))
                   have n6_ := zA (Kd.R_over' (by (with_reducible repeat (first | apply Kd.R_alloc | apply Kd.R_drewN | apply Kd.R_drew)); exact HL144_0.out) (Kd.R_typed (zR HO_128002.out)) (by decide) hg)
                   have n7_ := zA (Kd.R_over' (by (with_reducible repeat (first | apply Kd.R_alloc | apply Kd.R_drewN | apply Kd.R_drew)); exact HL145_0.out) (Kd.R_typed (zR HO_128002.out)) (by decide) hg)
                   have n8_ := zA (hb)
                   have n9_ := zA (ho)
                   clear HO_6
                   clear HO_128001
                   clear HO_128003
                   clear HO_128004
                   clear BK126
                   clear BK127
                   clear HL144_0
                   clear HL145_0
                   clear HB
                   clear HO_128002
                   have HO_6 := n0_
                   have HO_128001 := n1_
                   have HO_128003 := n2_
                   have HO_128004 := n3_
                   have BK126 := n4_
                   have BK127 := n5_
                   have HL144_0 := n6_
                   have HL145_0 := n7_
                   have HB := n8_
                   have HO149 := n9_
                   clear n0_ n1_ n2_ n3_ n4_ n5_ n6_ n7_ n8_ n9_
                   clear ho hb hg hat
                   obtain ⟨Ao42, co42, eo42⟩ := Kd.R_slice HO149.out
                   (first | subst eo42 | (injection eo42 with f1_ f2_ f3_; have f4_ := f1_.symm; have f5_ := f3_.symm; clear f1_ f2_ f3_; subst f4_; subst f5_))
                   refine hK.out _ _ ?_
                   clear hK K
                   refine norm_ (a' := ?_) ?_ ?_
                   rotate_left
                   ·show Act.put _ (some 72) _ = _
                    simp only [Act.put, List.setIfInBounds_toArray, List.set_cons_zero, List.set_cons_succ, i64_w, i32_w]
                    rfl
                   refine pure_ (i := 12) (N := some 73) (v := ?_) (a' := ?_) #[true, true, true, true, true, true, true, true, true, true, true, true, true, false] rfl rfl (any_of HT_.out (by kernel_rfl)) (fun _ _ _ h => h) (Or.inl ⟨by rfl, ?_⟩) ?_ ?_
                   rotate_left
                   ·intro w'
                    go_simp
                    with_reducible rfl
                   rotate_left
                   ·simp only [Act.put, List.setIfInBounds_toArray, List.set_cons_zero, List.set_cons_succ, i64_w, i32_w]
                    rfl
                   refine last_ (i := 13) (N := none) #[true, true, true, true, true, true, true, true, true, true, true, true, true, true] rfl rfl (one_of HT_.out (by kernel_rfl)) (by decide) (fun K hK => ?_)
                   have hs43 := zv BK127.out 2 (u128002)
                   have hfs43 := blk_frozen BK127.out 2
                   have hns43_0 := NB126_127.out
                   have hms43_0 := NB127_126.out
                   refine skip_ (w1 := ?_) (by rfl) rfl ?_ ?_
                   rotate_left
                   ·go_simp
                    rfl
                   refine hK.out _ _ ?_
                   clear hK K
                   refine done_ (done_of HT_.out (by kernel_rfl)) ?_
                   try go_wp2
                   have n0_ : Aside0 (Kd.S (Kd.slice 51 k51) 48 (w41.setCell ⟨gb127, 2, none⟩ (.slice Ao42 y147.length co42)) w.heap.size (fun _ => True) (.slice (some ad144) x6_1.length co39) x6_1) := ⟨by (with_reducible repeat (first | apply Kd.S_alloc | apply Kd.S_drewN | apply Kd.S_drew)); exact Kd.S_mono (Kd.S_far (p := ⟨gb127, 2, none⟩) (Kd.S_types HO_6.out BK127.out (by decide)) (fun _ hk => hk.2) (.slice Ao42 y147.length co42)) (fun _ hk => trivial)⟩
                   have n1_ : Aside0 (Kd.R (Kd.int .i64) 3 (w41.setCell ⟨gb127, 2, none⟩ (.slice Ao42 y147.length co42)) w.heap.size (fun k_ => zO k_ (u128003) ∧ zO k_ (u128004) ∧ zO k_ (.slice Ao42 y147.length co42)) (.slice Ao30 y141.length co30) y141) := ⟨by (with_reducible repeat (first | apply Kd.R_alloc | apply Kd.R_drewN | apply Kd.R_drew)); exact Kd.R_mono (zK HO_128001.out BK127.out) zy⟩
                   have n2_ : Aside0 (Kd.R (Kd.int .i64) 3 (w41.setCell ⟨gb127, 2, none⟩ (.slice Ao42 y147.length co42)) w.heap.size (fun k_ => zO k_ (.slice Ao30 y141.length co30) ∧ zO k_ (u128004) ∧ zO k_ (.slice Ao42 y147.length co42)) u128003 x128003_3) := ⟨by (with_reducible repeat (first | apply Kd.R_alloc | apply Kd.R_drewN | apply Kd.R_drew)); exact Kd.R_mono (zK HO_128003.out BK127.out) zy⟩
                   have n3_ : Aside0 (Kd.R (Kd.int .i64) 3 (w41.setCell ⟨gb127, 2, none⟩ (.slice Ao42 y147.length co42)) w.heap.size (fun k_ => zO k_ (.slice Ao30 y141.length co30) ∧ zO k_ (u128003) ∧ zO k_ (.slice Ao42 y147.length co42)) u128004 x128004_3) := ⟨by (with_reducible repeat (first | apply Kd.R_alloc | apply Kd.R_drewN | apply Kd.R_drew)); exact Kd.R_mono (zK HO_128004.out BK127.out) zy⟩
                   have n4_ : Aside0 (Kd.R k51 51 (w41.setCell ⟨gb127, 2, none⟩ (.slice Ao42 y147.length co42)) w.heap.size (fun k_ => zO k_ (.slice (some ad144) x6_1.length co39)) (.slice A144_0 (rd_L2 x6_1 x9_2).length c144_0) (rd_L2 x6_1 x9_2)) := ⟨by (with_reducible repeat (first | apply Kd.R_alloc | apply Kd.R_drewN | apply Kd.R_drew)); exact Kd.R_mono (Kd.R_far (p := ⟨gb127, 2, none⟩) (Kd.R_types HL144_0.out BK127.out (by decide)) (fun _ hk => hk.2) (.slice Ao42 y147.length co42)) (fun _ hk => hk.1.2)⟩
                   have n5_ : Aside0 (Kd.R k51 51 (w41.setCell ⟨gb127, 2, none⟩ (.slice Ao42 y147.length co42)) w.heap.size (fun k_ => zO k_ (.slice (some ad144) x6_1.length co39)) (.slice (some ad146) (rd_L2 x6_1 x9_2).length c145_0) (rd_L2 x6_1 x9_2)) := ⟨by (with_reducible repeat (first | apply Kd.R_alloc | apply Kd.R_drewN | apply Kd.R_drew)); exact Kd.R_mono (Kd.R_far (p := ⟨gb127, 2, none⟩) (Kd.R_types HL145_0.out BK127.out (by decide)) (fun _ hk => hk.2) (.slice Ao42 y147.length co42)) (fun _ hk => hk.1.2)⟩
                   have n6_ : Aside0 (Kd.R (Kd.int .i64) 3 (w41.setCell ⟨gb127, 2, none⟩ (.slice Ao42 y147.length co42)) w.heap.size (fun k_ => zO k_ (.slice Ao30 y141.length co30) ∧ zO k_ (u128003) ∧ zO k_ (u128004)) (.slice Ao42 y147.length co42) y147) := ⟨by (with_reducible repeat (first | apply Kd.R_alloc | apply Kd.R_drewN | apply Kd.R_drew)); exact Kd.R_mono (zK HO149.out BK127.out) zy⟩
                   have n7_ : Aside0 ((w41.setCell ⟨gb127, 2, none⟩ (.slice Ao42 y147.length co42)).heap[gb126]? = some (.cells #[.int .i64 0, .slice none 0 0, .slice none 0 0, .slice none 0 0, .slice none 0 0] 26 (0, 0))) := ⟨by (with_reducible repeat (first | refine blk_drewN ?_ _ | refine blk_drew ?_ | refine blk_alloc ?_ _)); refine blk_far ?_ NB126_127.out _; (with_reducible repeat (first | refine blk_drewN ?_ _ | refine blk_drew ?_ | refine blk_alloc ?_ _)); exact BK126.out⟩
                   have n8_ : Aside0 ((w41.setCell ⟨gb127, 2, none⟩ (.slice Ao42 y147.length co42)).heap[gb127]? = some (.cells #[.int .i64 a0, .slice Ao30 y141.length co30, .slice Ao42 y147.length co42, u128003, u128004] 26 (0, 0))) := ⟨by (with_reducible repeat (first | refine blk_drewN ?_ _ | refine blk_drew ?_ | refine blk_alloc ?_ _)); refine blk_put (cs := #[.int .i64 a0, .slice Ao30 y141.length co30, u128002, u128003, u128004]) ?_ 2 _ rfl; (with_reducible repeat (first | refine blk_drewN ?_ _ | refine blk_drew ?_ | refine blk_alloc ?_ _)); exact BK127.out⟩
                   have n9_ : Aside0 (Below w.heap.size w (w41.setCell ⟨gb127, 2, none⟩ (.slice Ao42 y147.length co42))) := ⟨(zs2 GE126.out GE127.out)⟩
                   (try clear HO_6)
                   (try clear HO_128001)
                   (try clear HO_128003)
                   (try clear HO_128004)
                   (try clear HL144_0)
                   (try clear HL145_0)
                   (try clear HO149)
                   (try clear BK126)
                   (try clear BK127)
                   (try clear HB)
                   generalize (w41.setCell ⟨gb127, 2, none⟩ (.slice Ao42 y147.length co42)) = w44 at n0_ n1_ n2_ n3_ n4_ n5_ n6_ n7_ n8_ n9_ ⊢
                   have HO_6 := n0_
                   have HO_128001 := n1_
                   have HO_128003 := n2_
                   have HO_128004 := n3_
                   have HL144_0 := n4_
                   have HL145_0 := n5_
                   have HO149 := n6_
                   have BK126 := n7_
                   have BK127 := n8_
                   have HB := n9_
                   clear n0_ n1_ n2_ n3_ n4_ n5_ n6_ n7_ n8_ n9_
                   have n0_ := zA (Kd.S_drew HO_6.out)
                   have n1_ := zA (Kd.R_drew HO_128001.out)
                   have n2_ := zA (Kd.R_drew HO_128003.out)
                   have n3_ := zA (Kd.R_drew HO_128004.out)
                   have n4_ := zA (Kd.R_drew HL144_0.out)
                   have n5_ := zA (Kd.R_drew HL145_0.out)
                   have n6_ := zA (Kd.R_drew HO149.out)
                   have n7_ := zA (blk_drew BK126.out)
                   have n8_ := zA (blk_drew BK127.out)
                   have n9_ := zA (below_drew1 HB.out)
                   clear HO_6
                   clear HO_128001
                   clear HO_128003
                   clear HO_128004
                   clear HL144_0
                   clear HL145_0
                   clear HO149
                   clear BK126
                   clear BK127
                   clear HB
                   have HO_6 := n0_
                   have HO_128001 := n1_
                   have HO_128003 := n2_
                   have HO_128004 := n3_
                   have HL144_0 := n4_
                   have HL145_0 := n5_
                   have HO149 := n6_
                   have BK126 := n7_
                   have BK127 := n8_
                   have HB := n9_
                   clear n0_ n1_ n2_ n3_ n4_ n5_ n6_ n7_ n8_ n9_
                   have p150 : 0 ≤ (x9_2 : Int) := zd
                   have q150 : x9_2 < (x6_1.length : Int) := zd
                   obtain ⟨ad150, A150_0, c150_0, e150, hx150_0, hl150_0, hi150_0⟩ := at_L2 (Kd.S_reads' HO_6.out).2.2 x9_2 p150 q150
                   obtain rfl : ad144 = ad150 := (by injection e150)
                   obtain ⟨ce150, hce150, hMe150, hcc150⟩ := Kd.S_get HO_6.out [] x9_2 p150 (by first | exact q150 | exact zd | (have e_ := (Kd.S_reads' HO_6.out).1; omega))
                   obtain ⟨ve150_0, rfl, ge150_0⟩ := hMe150
                   have hv150_0 := hcc150 0 _ rfl
                   rw [Nat.add_zero, show ((Kd.slice 51 k51)).sz = 1 from rfl, Nat.mul_one] at hv150_0
                   replace hv150_0 := Option.some.inj (hv150_0.symm.trans hx150_0)
                   rw [hv150_0] at ge150_0
                   have HL150_0 := zA (show Kd.R k51 51 _ _ _ _ (rd_L2 x6_1 x9_2) from ge150_0)
                   clear hv150_0 ge150_0
                   have HX150_0 := zA hx150_0
                   clear hcc150 hce150
                   have HR150_0 := zA hi150_0
                   have HC150_0 := zA hl150_0
                   clear hi150_0 hl150_0
                   replace p150 := eq_true p150
                   replace q150 := eq_true q150
                   have p151 : 0 ≤ (x10_3 : Int) := zd
                   have q151 : x10_3 < ((rd_L2 x6_1 x9_2).length : Int) := zd
                   obtain ⟨ad151, e151, hx151_0, hx151_1, hx151_2, hx151_3⟩ := at_T51 (by repeat (first | (with_reducible exact HR150_0.out) | (with_reducible refine Kd.C_alloc ?_ _) | (with_reducible refine Kd.C_drewN ?_ _) | (with_reducible refine Kd.C_drew ?_) | exact HR150_0.out)) x10_3 p151 q151
                   cases e151
                   replace p151 := eq_true p151
                   replace q151 := eq_true q151
                   refine start_ (n := 14) (S := fun w' => w'.cell? ⟨gb127, 0, none⟩ = some (.int .i64 a0) ∧ w'.cell? ⟨gb127, 1, none⟩ = some (.slice Ao30 y141.length co30) ∧ w'.cell? ⟨gb127, 2, none⟩ = some (.slice Ao42 y147.length co42) ∧ w'.cell? ⟨gb127, 3, none⟩ = some (u128003) ∧ w'.cell? ⟨gb127, 4, none⟩ = some (u128004) ∧ w'.cell? (ad144.add (x9_2).toNat) = some (.slice (some ad151) (rd_L2 x6_1 x9_2).length c150_0) ∧ w'.cell? (ad151.add ((x10_3).toNat * 4)) = some (.int .i64 ((rd_T51 (rd_L2 x6_1 x9_2) x10_3).f0)) ∧ w'.cell? ⟨(ad151.add ((x10_3).toNat * 4)).block, (ad151.add ((x10_3).toNat * 4)).off + 1, none⟩ = some (.int .i64 ((rd_T51 (rd_L2 x6_1 x9_2) x10_3).f1)) ∧ w'.cell? ⟨(ad151.add ((x10_3).toNat * 4)).block, (ad151.add ((x10_3).toNat * 4)).off + 2, none⟩ = some (.int .i64 ((rd_T51 (rd_L2 x6_1 x9_2) x10_3).f2)) ∧ w'.cell? ⟨(ad151.add ((x10_3).toNat * 4)).block, (ad151.add ((x10_3).toNat * 4)).off + 3, none⟩ = some (.int .i64 ((rd_T51 (rd_L2 x6_1 x9_2) x10_3).f3))) (ds := [11, 13]) #[false, false, false, false, false, false, false, false, false, false, false, false, false, false] (by kernel_rfl) rfl rfl ⟨(blk_cell BK127.out 0).trans rfl, (blk_cell BK127.out 1).trans rfl, (blk_cell BK127.out 2).trans rfl, (blk_cell BK127.out 3).trans rfl, (blk_cell BK127.out 4).trans rfl, hx150_0, hx151_0, hx151_1, hx151_2, hx151_3⟩ (fun hHeld => ?_); refine with_tabW spec_l5graph.tab16 spec_l5graph.bits16 (fun HT_ HW_ => ?_)
                   generalize w44.drew = w45 at HO_6 HO_128001 HO_128003 HO_128004 HL144_0 HL145_0 HO149 BK126 BK127 HB HL150_0 HR150_0 HX150_0 hx150_0 hx151_0 hx151_1 hx151_2 hx151_3 hHeld ⊢
                   refine pure_ (i := 0) (N := some 74) (v := ?_) (a' := ?_) #[true, false, false, false, false, false, false, false, false, false, false, false, false, false] rfl rfl (any_of HT_.out (by kernel_rfl)) (fun _ _ _ h => h) (Or.inl ⟨by rfl, ?_⟩) ?_ ?_
                   rotate_left
                   ·intro w'
                    go_simp
                    with_reducible rfl
                   rotate_left
                   ·simp only [Act.put, List.setIfInBounds_toArray, List.set_cons_zero, List.set_cons_succ, i64_w, i32_w]
                    rfl
                   refine pure_ (i := 2) (N := some 76) (v := ?_) (a' := ?_) #[true, false, true, false, false, false, false, false, false, false, false, false, false, false] rfl rfl (any_of HT_.out (by kernel_rfl)) (fun _ _ _ h => h) (Or.inl ⟨by rfl, ?_⟩) ?_ ?_
                   rotate_left
                   ·intro w'
                    go_simp
                    with_reducible rfl
                   rotate_left
                   ·simp only [Act.put, List.setIfInBounds_toArray, List.set_cons_zero, List.set_cons_succ, i64_w, i32_w]
                    rfl
                   refine pure_ (i := 3) (N := some 77) (v := ?_) (a' := ?_) #[true, false, true, true, false, false, false, false, false, false, false, false, false, false] rfl rfl (any_of HT_.out (by kernel_rfl)) (fun _ _ _ h => h) (Or.inl ⟨by rfl, ?_⟩) ?_ ?_
                   rotate_left
                   ·intro w'
                    go_simp
                    with_reducible rfl
                   rotate_left
                   ·simp only [Act.put, List.setIfInBounds_toArray, List.set_cons_zero, List.set_cons_succ, i64_w, i32_w]
                    rfl
                   refine pure_ (i := 4) (N := some 78) (v := ?_) (a' := ?_) #[true, false, true, true, true, false, false, false, false, false, false, false, false, false] rfl rfl (any_of HT_.out (by kernel_rfl)) (fun _ _ _ h => h) (Or.inl ⟨by rfl, ?_⟩) ?_ ?_
                   rotate_left
                   ·intro w'
                    go_simp
                    with_reducible rfl
                   rotate_left
                   ·simp only [Act.put, List.setIfInBounds_toArray, List.set_cons_zero, List.set_cons_succ, i64_w, i32_w]
                    rfl
                   refine pure_ (i := 6) (N := some 80) (v := ?_) (a' := ?_) #[true, false, true, true, true, false, true, false, false, false, false, false, false, false] rfl rfl (any_of HT_.out (by kernel_rfl)) (fun _ _ _ h => h) (Or.inl ⟨by rfl, ?_⟩) ?_ ?_
                   rotate_left
                   ·intro w'
                    go_simp
                    with_reducible rfl
                   rotate_left
                   ·simp only [Act.put, List.setIfInBounds_toArray, List.set_cons_zero, List.set_cons_succ, i64_w, i32_w]
                    rfl
                   refine take_ (i := 1) (N := some 75) (v := ?_) (a' := ?_) #[true, true, true, true, true, false, true, false, false, false, false, false, false, false] rfl rfl (take_ofW HT_.out HW_.out (by kernel_rfl)) (fun _ _ _ h => h) (Or.inl ⟨by rfl, ?_⟩) hHeld ?_ ?_
                   rotate_left
                   ·rintro w' ⟨s0, s1, s2, s3, s4, s5, s6, s7, s8, s9⟩
                    go_simp
                    with_reducible rfl
                   rotate_left
                   ·simp only [Act.put, List.setIfInBounds_toArray, List.set_cons_zero, List.set_cons_succ, i64_w, i32_w]
                    rfl
                   refine take_ (i := 5) (N := some 79) (v := ?_) (a' := ?_) #[true, true, true, true, true, true, true, false, false, false, false, false, false, false] rfl rfl (take_ofW HT_.out HW_.out (by kernel_rfl)) (fun _ _ _ h => h) (Or.inl ⟨by rfl, ?_⟩) hHeld ?_ ?_
                   rotate_left
                   ·rintro w' ⟨s0, s1, s2, s3, s4, s5, s6, s7, s8, s9⟩
                    go_simp
                    with_reducible rfl
                   rotate_left
                   ·simp only [Act.put, List.setIfInBounds_toArray, List.set_cons_zero, List.set_cons_succ, i64_w, i32_w]
                    rfl
                   refine pure_ (i := 7) (N := some 81) (v := ?_) (a' := ?_) #[true, true, true, true, true, true, true, true, false, false, false, false, false, false] rfl rfl (any_of HT_.out (by kernel_rfl)) (fun _ _ _ h => h) (Or.inl ⟨by rfl, ?_⟩) ?_ ?_
                   rotate_left
                   ·intro w'
                    go_simp
                    with_reducible rfl
                   rotate_left
                   ·simp only [Act.put, List.setIfInBounds_toArray, List.set_cons_zero, List.set_cons_succ, i64_w, i32_w]
                    rfl
                   refine pure_ (i := 8) (N := some 82) (v := ?_) (a' := ?_) #[true, true, true, true, true, true, true, true, true, false, false, false, false, false] rfl rfl (any_of HT_.out (by kernel_rfl)) (fun _ _ _ h => h) (Or.inl ⟨by rfl, ?_⟩) ?_ ?_
                   rotate_left
                   ·intro w'
                    go_simp
                    with_reducible rfl
                   rotate_left
                   ·simp only [Act.put, List.setIfInBounds_toArray, List.set_cons_zero, List.set_cons_succ, i64_w, i32_w]
                    rfl
                   refine take_ (i := 9) (N := some 83) (v := ?_) (a' := ?_) #[true, true, true, true, true, true, true, true, true, true, false, false, false, false] rfl rfl (take_ofW HT_.out HW_.out (by kernel_rfl)) (fun _ _ _ h => h) (Or.inl ⟨by rfl, ?_⟩) hHeld ?_ ?_
                   rotate_left
                   ·rintro w' ⟨s0, s1, s2, s3, s4, s5, s6, s7, s8, s9⟩
                    go_simp
                    with_reducible rfl
                   rotate_left
                   ·simp only [Act.put, List.setIfInBounds_toArray, List.set_cons_zero, List.set_cons_succ, i64_w, i32_w]
                    rfl
                   refine one_ (i := 10) (N := some 84) #[true, true, true, true, true, true, true, true, true, true, true, false, false, false] rfl rfl (one_of HT_.out (by kernel_rfl)) (by decide) (fun K hK => ?_)
                   refine value_ (w1 := ?_) (v := ?_) (by rfl) rfl ?_ ?_
                   rotate_left 2
                   ·go_simp
                    constructor
                    ·rfl
                    ·rfl
                   refine hK.out _ _ ⟨(blk_cell (blk_alloc BK127.out _) 0).trans rfl, (blk_cell (blk_alloc BK127.out _) 1).trans rfl, (blk_cell (blk_alloc BK127.out _) 2).trans rfl, (blk_cell (blk_alloc BK127.out _) 3).trans rfl, (blk_cell (blk_alloc BK127.out _) 4).trans rfl, (World.cell?_alloc_lt _ _ _ (World.block_lt_of_cell? _ _ (hHeld.2.2.2.2.2.1))).trans (hHeld.2.2.2.2.2.1), (World.cell?_alloc_lt _ _ _ (World.block_lt_of_cell? _ _ (hHeld.2.2.2.2.2.2.1))).trans (hHeld.2.2.2.2.2.2.1), (World.cell?_alloc_lt _ _ _ (World.block_lt_of_cell? _ _ (hHeld.2.2.2.2.2.2.2.1))).trans (hHeld.2.2.2.2.2.2.2.1), (World.cell?_alloc_lt _ _ _ (World.block_lt_of_cell? _ _ (hHeld.2.2.2.2.2.2.2.2.1))).trans (hHeld.2.2.2.2.2.2.2.2.1), (World.cell?_alloc_lt _ _ _ (World.block_lt_of_cell? _ _ (hHeld.2.2.2.2.2.2.2.2.2))).trans (hHeld.2.2.2.2.2.2.2.2.2)⟩ (fun hHeld => ?_)
                   clear hK K
                   refine norm_ (a' := ?_) ?_ ?_
                   rotate_left
                   ·show Act.put _ (some 84) _ = _
                    simp only [Act.put, List.setIfInBounds_toArray, List.set_cons_zero, List.set_cons_succ, i64_w, i32_w]
                    rfl
                   refine last_ (i := 11) (N := some 85) #[true, true, true, true, true, true, true, true, true, true, true, true, false, false] rfl rfl (one_of HT_.out (by kernel_rfl)) (by decide) (fun K hK => ?_)
                   refine Kd.R_append_step (Kd.int .i64) (w0 := w) w.heap.size (by rfl) (.tmp 75) (.tmp 84) 22 3 (.int .i64 0) 8 rfl Try.underlying22 info3 rfl (by decide) (by omega) u128003 x128003_3 ((rd_T51 (rd_L2 x6_1 x9_2) x10_3).f2) [.int .i64 ((rd_T51 (rd_L2 x6_1 x9_2) x10_3).f2)] (fun k_ => zO k_ (.slice Ao30 y141.length co30) ∧ zO k_ (u128004) ∧ zO k_ (.slice Ao42 y147.length co42)) (fun _ => False) rfl rfl ?aP (fun _ hk => hk.elim) ?aF ?aO ?aB ?aS ?aL ?_
                   (case aP => exact rfl)
                   (case aB => exact (zs2 GE126.out GE127.out))
                   (case aF => exact (fun k_ hk => ⟨Kd.fresh' (zl HO_128001.out) k_ hk, Kd.fresh' (zl HO_128004.out) k_ hk, Kd.fresh' (zl HO149.out) k_ hk⟩))
                   (case aO => exact (zR HO_128003.out))
                   (case aS => exact (below_size (zs2 GE126.out GE127.out)))
                   (case aL => have := LMc37.out; omega)
                   intro v153 w46 ho hb hg hat
                   rw [← Ny152.out] at ho
                   have n0_ := zA (Kd.S_over' (zS HO_6.out) (Kd.R_typed (zR HO_128003.out)) (by decide) hg)
                   have n1_ := zA (Kd.R_after (ok := (fun k_ => zO k_ (u128004) ∧ zO k_ (.slice Ao42 y147.length co42))) (by (with_reducible repeat (first | apply Kd.R_alloc | apply Kd.R_drewN | apply Kd.R_drew)); exact Kd.R_mono HO_128001.out zy) hg hat)
                   have n2_ := zA (Kd.R_after (ok := (fun k_ => zO k_ (.slice Ao30 y141.length co30) ∧ zO k_ (.slice Ao42 y147.length co42))) (by (with_reducible repeat (first | apply Kd.R_alloc | apply Kd.R_drewN | apply Kd.R_drew)); exact Kd.R_mono HO_128004.out zy) hg hat)
                   have n3_ := zA (blk_grown (g := gb126) (o := .cells #[.int .i64 0, .slice none 0 0, .slice none 0 0, .slice none 0 0, .slice none 0 0] 26 (0, 0)) (zb BK126.out) hg (Kd.R_ne HO_128003.out BK126.out (by decide)))
                   have n4_ := zA (blk_grown (g := gb127) (o := .cells #[.int .i64 a0, .slice Ao30 y141.length co30, .slice Ao42 y147.length co42, u128003, u128004] 26 (0, 0)) (zb BK127.out) hg (Kd.R_ne HO_128003.out BK127.out (by decide)))
                   have n5_ := zA (Kd.R_over' (by (with_reducible repeat (first | apply Kd.R_alloc | apply Kd.R_drewN | apply Kd.R_drew)); exact HL144_0.out) (Kd.R_typed (zR HO_128003.out)) (by decide) hg)
                   have n6_ := zA (Kd.R_over' (by (with_reducible repeat (first | apply Kd.R_alloc | apply Kd.R_drewN | apply Kd.R_drew)); exact HL145_0.out) (Kd.R_typed (zR HO_128003.out)) (by decide) hg)
                   have n7_ := zA (Kd.R_after (ok := (fun k_ => zO k_ (.slice Ao30 y141.length co30) ∧ zO k_ (u128004))) (by (with_reducible repeat (first | apply Kd.R_alloc | apply Kd.R_drewN | apply Kd.R_drew)); exact Kd.R_mono HO149.out zy) hg hat)
                   have n8_ := zA (Kd.R_over' (by (with_reducible repeat (first | apply Kd.R_alloc | apply Kd.R_drewN | apply Kd.R_drew)); exact HL150_0.out) (Kd.R_typed (zR HO_128003.out)) (by decide) hg)
                   have n9_ := zA (hb)
                   have n10_ := zA (ho)
                   clear HO_6
                   clear HO_128001
                   clear HO_128004
                   clear BK126
                   clear BK127
                   clear HL144_0
                   clear HL145_0
                   clear HO149
                   clear HL150_0
                   clear HB
                   clear HO_128003
                   have HO_6 := n0_
                   have HO_128001 := n1_
                   have HO_128004 := n2_
                   have BK126 := n3_
                   have BK127 := n4_
                   have HL144_0 := n5_
                   have HL145_0 := n6_
                   have HO149 := n7_
                   have HL150_0 := n8_
                   have HB := n9_
                   have HO154 := n10_
                   clear n0_ n1_ n2_ n3_ n4_ n5_ n6_ n7_ n8_ n9_ n10_
                   clear ho hb hg hat
                   obtain ⟨Ao47, co47, eo47⟩ := Kd.R_slice HO154.out
                   (first | subst eo47 | (injection eo47 with f1_ f2_ f3_; have f4_ := f1_.symm; have f5_ := f3_.symm; clear f1_ f2_ f3_; subst f4_; subst f5_))
                   refine hK.out _ _ ?_
                   clear hK K
                   refine norm_ (a' := ?_) ?_ ?_
                   rotate_left
                   ·show Act.put _ (some 85) _ = _
                    simp only [Act.put, List.setIfInBounds_toArray, List.set_cons_zero, List.set_cons_succ, i64_w, i32_w]
                    rfl
                   refine pure_ (i := 12) (N := some 86) (v := ?_) (a' := ?_) #[true, true, true, true, true, true, true, true, true, true, true, true, true, false] rfl rfl (any_of HT_.out (by kernel_rfl)) (fun _ _ _ h => h) (Or.inl ⟨by rfl, ?_⟩) ?_ ?_
                   rotate_left
                   ·intro w'
                    go_simp
                    with_reducible rfl
                   rotate_left
                   ·simp only [Act.put, List.setIfInBounds_toArray, List.set_cons_zero, List.set_cons_succ, i64_w, i32_w]
                    rfl
                   refine last_ (i := 13) (N := none) #[true, true, true, true, true, true, true, true, true, true, true, true, true, true] rfl rfl (one_of HT_.out (by kernel_rfl)) (by decide) (fun K hK => ?_)
                   have hs48 := zv BK127.out 3 (u128003)
                   have hfs48 := blk_frozen BK127.out 3
                   have hns48_0 := NB126_127.out
                   have hms48_0 := NB127_126.out
                   refine skip_ (w1 := ?_) (by rfl) rfl ?_ ?_
                   rotate_left
                   ·go_simp
                    rfl
                   refine hK.out _ _ ?_
                   clear hK K
                   refine done_ (done_of HT_.out (by kernel_rfl)) ?_
                   try go_wp2
                   have n0_ : Aside0 (Kd.S (Kd.slice 51 k51) 48 (w46.setCell ⟨gb127, 3, none⟩ (.slice Ao47 y152.length co47)) w.heap.size (fun _ => True) (.slice (some ad144) x6_1.length co39) x6_1) := ⟨by (with_reducible repeat (first | apply Kd.S_alloc | apply Kd.S_drewN | apply Kd.S_drew)); exact Kd.S_mono (Kd.S_far (p := ⟨gb127, 3, none⟩) (Kd.S_types HO_6.out BK127.out (by decide)) (fun _ hk => hk.2) (.slice Ao47 y152.length co47)) (fun _ hk => trivial)⟩
                   have n1_ : Aside0 (Kd.R (Kd.int .i64) 3 (w46.setCell ⟨gb127, 3, none⟩ (.slice Ao47 y152.length co47)) w.heap.size (fun k_ => zO k_ (u128004) ∧ zO k_ (.slice Ao42 y147.length co42) ∧ zO k_ (.slice Ao47 y152.length co47)) (.slice Ao30 y141.length co30) y141) := ⟨by (with_reducible repeat (first | apply Kd.R_alloc | apply Kd.R_drewN | apply Kd.R_drew)); exact Kd.R_mono (zK HO_128001.out BK127.out) zy⟩
                   have n2_ : Aside0 (Kd.R (Kd.int .i64) 3 (w46.setCell ⟨gb127, 3, none⟩ (.slice Ao47 y152.length co47)) w.heap.size (fun k_ => zO k_ (.slice Ao30 y141.length co30) ∧ zO k_ (.slice Ao42 y147.length co42) ∧ zO k_ (.slice Ao47 y152.length co47)) u128004 x128004_3) := ⟨by (with_reducible repeat (first | apply Kd.R_alloc | apply Kd.R_drewN | apply Kd.R_drew)); exact Kd.R_mono (zK HO_128004.out BK127.out) zy⟩
                   have n3_ : Aside0 (Kd.R k51 51 (w46.setCell ⟨gb127, 3, none⟩ (.slice Ao47 y152.length co47)) w.heap.size (fun k_ => zO k_ (.slice (some ad144) x6_1.length co39)) (.slice A144_0 (rd_L2 x6_1 x9_2).length c144_0) (rd_L2 x6_1 x9_2)) := ⟨by (with_reducible repeat (first | apply Kd.R_alloc | apply Kd.R_drewN | apply Kd.R_drew)); exact Kd.R_mono (Kd.R_far (p := ⟨gb127, 3, none⟩) (Kd.R_types HL144_0.out BK127.out (by decide)) (fun _ hk => hk.2) (.slice Ao47 y152.length co47)) (fun _ hk => hk.1)⟩
                   have n4_ : Aside0 (Kd.R k51 51 (w46.setCell ⟨gb127, 3, none⟩ (.slice Ao47 y152.length co47)) w.heap.size (fun k_ => zO k_ (.slice (some ad144) x6_1.length co39)) (.slice (some ad146) (rd_L2 x6_1 x9_2).length c145_0) (rd_L2 x6_1 x9_2)) := ⟨by (with_reducible repeat (first | apply Kd.R_alloc | apply Kd.R_drewN | apply Kd.R_drew)); exact Kd.R_mono (Kd.R_far (p := ⟨gb127, 3, none⟩) (Kd.R_types HL145_0.out BK127.out (by decide)) (fun _ hk => hk.2) (.slice Ao47 y152.length co47)) (fun _ hk => hk.1)⟩
                   have n5_ : Aside0 (Kd.R (Kd.int .i64) 3 (w46.setCell ⟨gb127, 3, none⟩ (.slice Ao47 y152.length co47)) w.heap.size (fun k_ => zO k_ (.slice Ao30 y141.length co30) ∧ zO k_ (u128004) ∧ zO k_ (.slice Ao47 y152.length co47)) (.slice Ao42 y147.length co42) y147) := ⟨by (with_reducible repeat (first | apply Kd.R_alloc | apply Kd.R_drewN | apply Kd.R_drew)); exact Kd.R_mono (zK HO149.out BK127.out) zy⟩
                   have n6_ : Aside0 (Kd.R k51 51 (w46.setCell ⟨gb127, 3, none⟩ (.slice Ao47 y152.length co47)) w.heap.size (fun k_ => zO k_ (.slice (some ad144) x6_1.length co39)) (.slice (some ad151) (rd_L2 x6_1 x9_2).length c150_0) (rd_L2 x6_1 x9_2)) := ⟨by (with_reducible repeat (first | apply Kd.R_alloc | apply Kd.R_drewN | apply Kd.R_drew)); exact Kd.R_mono (Kd.R_far (p := ⟨gb127, 3, none⟩) (Kd.R_types HL150_0.out BK127.out (by decide)) (fun _ hk => hk.2) (.slice Ao47 y152.length co47)) (fun _ hk => hk.1.2)⟩
                   have n7_ : Aside0 (Kd.R (Kd.int .i64) 3 (w46.setCell ⟨gb127, 3, none⟩ (.slice Ao47 y152.length co47)) w.heap.size (fun k_ => zO k_ (.slice Ao30 y141.length co30) ∧ zO k_ (u128004) ∧ zO k_ (.slice Ao42 y147.length co42)) (.slice Ao47 y152.length co47) y152) := ⟨by (with_reducible repeat (first | apply Kd.R_alloc | apply Kd.R_drewN | apply Kd.R_drew)); exact Kd.R_mono (zK HO154.out BK127.out) zy⟩
                   have n8_ : Aside0 ((w46.setCell ⟨gb127, 3, none⟩ (.slice Ao47 y152.length co47)).heap[gb126]? = some (.cells #[.int .i64 0, .slice none 0 0, .slice none 0 0, .slice none 0 0, .slice none 0 0] 26 (0, 0))) := ⟨by (with_reducible repeat (first | refine blk_drewN ?_ _ | refine blk_drew ?_ | refine blk_alloc ?_ _)); refine blk_far ?_ NB126_127.out _; (with_reducible repeat (first | refine blk_drewN ?_ _ | refine blk_drew ?_ | refine blk_alloc ?_ _)); exact BK126.out⟩
                   have n9_ : Aside0 ((w46.setCell ⟨gb127, 3, none⟩ (.slice Ao47 y152.length co47)).heap[gb127]? = some (.cells #[.int .i64 a0, .slice Ao30 y141.length co30, .slice Ao42 y147.length co42, .slice Ao47 y152.length co47, u128004] 26 (0, 0))) := ⟨by (with_reducible repeat (first | refine blk_drewN ?_ _ | refine blk_drew ?_ | refine blk_alloc ?_ _)); refine blk_put (cs := #[.int .i64 a0, .slice Ao30 y141.length co30, .slice Ao42 y147.length co42, u128003, u128004]) ?_ 3 _ rfl; (with_reducible repeat (first | refine blk_drewN ?_ _ | refine blk_drew ?_ | refine blk_alloc ?_ _)); exact BK127.out⟩
                   have n10_ : Aside0 (Below w.heap.size w (w46.setCell ⟨gb127, 3, none⟩ (.slice Ao47 y152.length co47))) := ⟨(zs2 GE126.out GE127.out)⟩
                   (try clear HO_6)
                   (try clear HO_128001)
                   (try clear HO_128004)
                   (try clear HL144_0)
                   (try clear HL145_0)
                   (try clear HO149)
                   (try clear HL150_0)
                   (try clear HO154)
                   (try clear BK126)
                   (try clear BK127)
                   (try clear HB)
                   generalize (w46.setCell ⟨gb127, 3, none⟩ (.slice Ao47 y152.length co47)) = w49 at n0_ n1_ n2_ n3_ n4_ n5_ n6_ n7_ n8_ n9_ n10_ ⊢
                   have HO_6 := n0_
                   have HO_128001 := n1_
                   have HO_128004 := n2_
                   have HL144_0 := n3_
                   have HL145_0 := n4_
                   have HO149 := n5_
                   have HL150_0 := n6_
                   have HO154 := n7_
                   have BK126 := n8_
                   have BK127 := n9_
                   have HB := n10_
                   clear n0_ n1_ n2_ n3_ n4_ n5_ n6_ n7_ n8_ n9_ n10_
                   have n0_ := zA (Kd.S_drew HO_6.out)
                   have n1_ := zA (Kd.R_drew HO_128001.out)
                   have n2_ := zA (Kd.R_drew HO_128004.out)
                   have n3_ := zA (Kd.R_drew HL144_0.out)
                   have n4_ := zA (Kd.R_drew HL145_0.out)
                   have n5_ := zA (Kd.R_drew HO149.out)
                   have n6_ := zA (Kd.R_drew HL150_0.out)
                   have n7_ := zA (Kd.R_drew HO154.out)
                   have n8_ := zA (blk_drew BK126.out)
                   have n9_ := zA (blk_drew BK127.out)
                   have n10_ := zA (below_drew1 HB.out)
                   clear HO_6
                   clear HO_128001
                   clear HO_128004
                   clear HL144_0
                   clear HL145_0
                   clear HO149
                   clear HL150_0
                   clear HO154
                   clear BK126
                   clear BK127
                   clear HB
                   have HO_6 := n0_
                   have HO_128001 := n1_
                   have HO_128004 := n2_
                   have HL144_0 := n3_
                   have HL145_0 := n4_
                   have HO149 := n5_
                   have HL150_0 := n6_
                   have HO154 := n7_
                   have BK126 := n8_
                   have BK127 := n9_
                   have HB := n10_
                   clear n0_ n1_ n2_ n3_ n4_ n5_ n6_ n7_ n8_ n9_ n10_
                   have p155 : 0 ≤ (x9_2 : Int) := zd
                   have q155 : x9_2 < (x6_1.length : Int) := zd
                   obtain ⟨ad155, A155_0, c155_0, e155, hx155_0, hl155_0, hi155_0⟩ := at_L2 (Kd.S_reads' HO_6.out).2.2 x9_2 p155 q155
                   obtain rfl : ad144 = ad155 := (by injection e155)
                   obtain ⟨ce155, hce155, hMe155, hcc155⟩ := Kd.S_get HO_6.out [] x9_2 p155 (by first | exact q155 | exact zd | (have e_ := (Kd.S_reads' HO_6.out).1; omega))
                   obtain ⟨ve155_0, rfl, ge155_0⟩ := hMe155
                   have hv155_0 := hcc155 0 _ rfl
                   rw [Nat.add_zero, show ((Kd.slice 51 k51)).sz = 1 from rfl, Nat.mul_one] at hv155_0
                   replace hv155_0 := Option.some.inj (hv155_0.symm.trans hx155_0)
                   rw [hv155_0] at ge155_0
                   have HL155_0 := zA (show Kd.R k51 51 _ _ _ _ (rd_L2 x6_1 x9_2) from ge155_0)
                   clear hv155_0 ge155_0
                   have HX155_0 := zA hx155_0
                   clear hcc155 hce155
                   have HR155_0 := zA hi155_0
                   have HC155_0 := zA hl155_0
                   clear hi155_0 hl155_0
                   replace p155 := eq_true p155
                   replace q155 := eq_true q155
                   have p156 : 0 ≤ (x10_3 : Int) := zd
                   have q156 : x10_3 < ((rd_L2 x6_1 x9_2).length : Int) := zd
                   obtain ⟨ad156, e156, hx156_0, hx156_1, hx156_2, hx156_3⟩ := at_T51 (by repeat (first | (with_reducible exact HR155_0.out) | (with_reducible refine Kd.C_alloc ?_ _) | (with_reducible refine Kd.C_drewN ?_ _) | (with_reducible refine Kd.C_drew ?_) | exact HR155_0.out)) x10_3 p156 q156
                   cases e156
                   replace p156 := eq_true p156
                   replace q156 := eq_true q156
                   refine start_ (n := 14) (S := fun w' => w'.cell? ⟨gb127, 0, none⟩ = some (.int .i64 a0) ∧ w'.cell? ⟨gb127, 1, none⟩ = some (.slice Ao30 y141.length co30) ∧ w'.cell? ⟨gb127, 2, none⟩ = some (.slice Ao42 y147.length co42) ∧ w'.cell? ⟨gb127, 3, none⟩ = some (.slice Ao47 y152.length co47) ∧ w'.cell? ⟨gb127, 4, none⟩ = some (u128004) ∧ w'.cell? (ad144.add (x9_2).toNat) = some (.slice (some ad156) (rd_L2 x6_1 x9_2).length c155_0) ∧ w'.cell? (ad156.add ((x10_3).toNat * 4)) = some (.int .i64 ((rd_T51 (rd_L2 x6_1 x9_2) x10_3).f0)) ∧ w'.cell? ⟨(ad156.add ((x10_3).toNat * 4)).block, (ad156.add ((x10_3).toNat * 4)).off + 1, none⟩ = some (.int .i64 ((rd_T51 (rd_L2 x6_1 x9_2) x10_3).f1)) ∧ w'.cell? ⟨(ad156.add ((x10_3).toNat * 4)).block, (ad156.add ((x10_3).toNat * 4)).off + 2, none⟩ = some (.int .i64 ((rd_T51 (rd_L2 x6_1 x9_2) x10_3).f2)) ∧ w'.cell? ⟨(ad156.add ((x10_3).toNat * 4)).block, (ad156.add ((x10_3).toNat * 4)).off + 3, none⟩ = some (.int .i64 ((rd_T51 (rd_L2 x6_1 x9_2) x10_3).f3))) (ds := [11, 13]) #[false, false, false, false, false, false, false, false, false, false, false, false, false, false] (by kernel_rfl) rfl rfl ⟨(blk_cell BK127.out 0).trans rfl, (blk_cell BK127.out 1).trans rfl, (blk_cell BK127.out 2).trans rfl, (blk_cell BK127.out 3).trans rfl, (blk_cell BK127.out 4).trans rfl, hx155_0, hx156_0, hx156_1, hx156_2, hx156_3⟩ (fun hHeld => ?_); refine with_tabW spec_l5graph.tab17 spec_l5graph.bits17 (fun HT_ HW_ => ?_)
                   generalize w49.drew = w50 at HO_6 HO_128001 HO_128004 HL144_0 HL145_0 HO149 HL150_0 HO154 BK126 BK127 HB HL155_0 HR155_0 HX155_0 hx155_0 hx156_0 hx156_1 hx156_2 hx156_3 hHeld ⊢
                   refine pure_ (i := 0) (N := some 87) (v := ?_) (a' := ?_) #[true, false, false, false, false, false, false, false, false, false, false, false, false, false] rfl rfl (any_of HT_.out (by kernel_rfl)) (fun _ _ _ h => h) (Or.inl ⟨by rfl, ?_⟩) ?_ ?_
                   rotate_left
                   ·intro w'
                    go_simp
                    with_reducible rfl
                   rotate_left
                   ·simp only [Act.put, List.setIfInBounds_toArray, List.set_cons_zero, List.set_cons_succ, i64_w, i32_w]
                    rfl
                   refine pure_ (i := 2) (N := some 89) (v := ?_) (a' := ?_) #[true, false, true, false, false, false, false, false, false, false, false, false, false, false] rfl rfl (any_of HT_.out (by kernel_rfl)) (fun _ _ _ h => h) (Or.inl ⟨by rfl, ?_⟩) ?_ ?_
                   rotate_left
                   ·intro w'
                    go_simp
                    with_reducible rfl
                   rotate_left
                   ·simp only [Act.put, List.setIfInBounds_toArray, List.set_cons_zero, List.set_cons_succ, i64_w, i32_w]
                    rfl
                   refine pure_ (i := 3) (N := some 90) (v := ?_) (a' := ?_) #[true, false, true, true, false, false, false, false, false, false, false, false, false, false] rfl rfl (any_of HT_.out (by kernel_rfl)) (fun _ _ _ h => h) (Or.inl ⟨by rfl, ?_⟩) ?_ ?_
                   rotate_left
                   ·intro w'
                    go_simp
                    with_reducible rfl
                   rotate_left
                   ·simp only [Act.put, List.setIfInBounds_toArray, List.set_cons_zero, List.set_cons_succ, i64_w, i32_w]
                    rfl
                   refine pure_ (i := 4) (N := some 91) (v := ?_) (a' := ?_) #[true, false, true, true, true, false, false, false, false, false, false, false, false, false] rfl rfl (any_of HT_.out (by kernel_rfl)) (fun _ _ _ h => h) (Or.inl ⟨by rfl, ?_⟩) ?_ ?_
                   rotate_left
                   ·intro w'
                    go_simp
                    with_reducible rfl
                   rotate_left
                   ·simp only [Act.put, List.setIfInBounds_toArray, List.set_cons_zero, List.set_cons_succ, i64_w, i32_w]
                    rfl
                   refine pure_ (i := 6) (N := some 93) (v := ?_) (a' := ?_) #[true, false, true, true, true, false, true, false, false, false, false, false, false, false] rfl rfl (any_of HT_.out (by kernel_rfl)) (fun _ _ _ h => h) (Or.inl ⟨by rfl, ?_⟩) ?_ ?_
                   rotate_left
                   ·intro w'
                    go_simp
                    with_reducible rfl
                   rotate_left
                   ·simp only [Act.put, List.setIfInBounds_toArray, List.set_cons_zero, List.set_cons_succ, i64_w, i32_w]
                    rfl
                   refine take_ (i := 1) (N := some 88) (v := ?_) (a' := ?_) #[true, true, true, true, true, false, true, false, false, false, false, false, false, false] rfl rfl (take_ofW HT_.out HW_.out (by kernel_rfl)) (fun _ _ _ h => h) (Or.inl ⟨by rfl, ?_⟩) hHeld ?_ ?_
                   rotate_left
                   ·rintro w' ⟨s0, s1, s2, s3, s4, s5, s6, s7, s8, s9⟩
                    go_simp
                    with_reducible rfl
                   rotate_left
                   ·simp only [Act.put, List.setIfInBounds_toArray, List.set_cons_zero, List.set_cons_succ, i64_w, i32_w]
                    rfl
                   refine take_ (i := 5) (N := some 92) (v := ?_) (a' := ?_) #[true, true, true, true, true, true, true, false, false, false, false, false, false, false] rfl rfl (take_ofW HT_.out HW_.out (by kernel_rfl)) (fun _ _ _ h => h) (Or.inl ⟨by rfl, ?_⟩) hHeld ?_ ?_
                   rotate_left
                   ·rintro w' ⟨s0, s1, s2, s3, s4, s5, s6, s7, s8, s9⟩
                    go_simp
                    with_reducible rfl
                   rotate_left
                   ·simp only [Act.put, List.setIfInBounds_toArray, List.set_cons_zero, List.set_cons_succ, i64_w, i32_w]
                    rfl
                   refine pure_ (i := 7) (N := some 94) (v := ?_) (a' := ?_) #[true, true, true, true, true, true, true, true, false, false, false, false, false, false] rfl rfl (any_of HT_.out (by kernel_rfl)) (fun _ _ _ h => h) (Or.inl ⟨by rfl, ?_⟩) ?_ ?_
                   rotate_left
                   ·intro w'
                    go_simp
                    with_reducible rfl
                   rotate_left
                   ·simp only [Act.put, List.setIfInBounds_toArray, List.set_cons_zero, List.set_cons_succ, i64_w, i32_w]
                    rfl
                   refine pure_ (i := 8) (N := some 95) (v := ?_) (a' := ?_) #[true, true, true, true, true, true, true, true, true, false, false, false, false, false] rfl rfl (any_of HT_.out (by kernel_rfl)) (fun _ _ _ h => h) (Or.inl ⟨by rfl, ?_⟩) ?_ ?_
                   rotate_left
                   ·intro w'
                    go_simp
                    with_reducible rfl
                   rotate_left
                   ·simp only [Act.put, List.setIfInBounds_toArray, List.set_cons_zero, List.set_cons_succ, i64_w, i32_w]
                    rfl
                   refine take_ (i := 9) (N := some 96) (v := ?_) (a' := ?_) #[true, true, true, true, true, true, true, true, true, true, false, false, false, false] rfl rfl (take_ofW HT_.out HW_.out (by kernel_rfl)) (fun _ _ _ h => h) (Or.inl ⟨by rfl, ?_⟩) hHeld ?_ ?_
                   rotate_left
                   ·rintro w' ⟨s0, s1, s2, s3, s4, s5, s6, s7, s8, s9⟩
                    go_simp
                    with_reducible rfl
                   rotate_left
                   ·simp only [Act.put, List.setIfInBounds_toArray, List.set_cons_zero, List.set_cons_succ, i64_w, i32_w]
                    rfl
                   refine one_ (i := 10) (N := some 97) #[true, true, true, true, true, true, true, true, true, true, true, false, false, false] rfl rfl (one_of HT_.out (by kernel_rfl)) (by decide) (fun K hK => ?_)
                   refine value_ (w1 := ?_) (v := ?_) (by rfl) rfl ?_ ?_
                   rotate_left 2
                   ·go_simp
                    constructor
                    ·rfl
                    ·rfl
                   refine hK.out _ _ ⟨(blk_cell (blk_alloc BK127.out _) 0).trans rfl, (blk_cell (blk_alloc BK127.out _) 1).trans rfl, (blk_cell (blk_alloc BK127.out _) 2).trans rfl, (blk_cell (blk_alloc BK127.out _) 3).trans rfl, (blk_cell (blk_alloc BK127.out _) 4).trans rfl, (World.cell?_alloc_lt _ _ _ (World.block_lt_of_cell? _ _ (hHeld.2.2.2.2.2.1))).trans (hHeld.2.2.2.2.2.1), (World.cell?_alloc_lt _ _ _ (World.block_lt_of_cell? _ _ (hHeld.2.2.2.2.2.2.1))).trans (hHeld.2.2.2.2.2.2.1), (World.cell?_alloc_lt _ _ _ (World.block_lt_of_cell? _ _ (hHeld.2.2.2.2.2.2.2.1))).trans (hHeld.2.2.2.2.2.2.2.1), (World.cell?_alloc_lt _ _ _ (World.block_lt_of_cell? _ _ (hHeld.2.2.2.2.2.2.2.2.1))).trans (hHeld.2.2.2.2.2.2.2.2.1), (World.cell?_alloc_lt _ _ _ (World.block_lt_of_cell? _ _ (hHeld.2.2.2.2.2.2.2.2.2))).trans (hHeld.2.2.2.2.2.2.2.2.2)⟩ (fun hHeld => ?_)
                   clear hK K
                   refine norm_ (a' := ?_) ?_ ?_
                   rotate_left
                   ·show Act.put _ (some 97) _ = _
                    simp only [Act.put, List.setIfInBounds_toArray, List.set_cons_zero, List.set_cons_succ, i64_w, i32_w]
                    rfl
                   refine last_ (i := 11) (N := some 98) #[true, true, true, true, true, true, true, true, true, true, true, true, false, false] rfl rfl (one_of HT_.out (by kernel_rfl)) (by decide) (fun K hK => ?_)
                   refine Kd.R_append_step (Kd.int .i64) (w0 := w) w.heap.size (by rfl) (.tmp 88) (.tmp 97) 22 3 (.int .i64 0) 8 rfl Try.underlying22 info3 rfl (by decide) (by omega) u128004 x128004_3 ((rd_T51 (rd_L2 x6_1 x9_2) x10_3).f3) [.int .i64 ((rd_T51 (rd_L2 x6_1 x9_2) x10_3).f3)] (fun k_ => zO k_ (.slice Ao30 y141.length co30) ∧ zO k_ (.slice Ao42 y147.length co42) ∧ zO k_ (.slice Ao47 y152.length co47)) (fun _ => False) rfl rfl ?aP (fun _ hk => hk.elim) ?aF ?aO ?aB ?aS ?aL ?_
                   (case aP => exact rfl)
                   (case aB => exact (zs2 GE126.out GE127.out))
                   (case aF => exact (fun k_ hk => ⟨Kd.fresh' (zl HO_128001.out) k_ hk, Kd.fresh' (zl HO149.out) k_ hk, Kd.fresh' (zl HO154.out) k_ hk⟩))
                   (case aO => exact (zR HO_128004.out))
                   (case aS => exact (below_size (zs2 GE126.out GE127.out)))
                   (case aL => have := LMc38.out; omega)
                   intro v158 w51 ho hb hg hat
                   rw [← Ny157.out] at ho
                   have n0_ := zA (Kd.S_over' (zS HO_6.out) (Kd.R_typed (zR HO_128004.out)) (by decide) hg)
                   have n1_ := zA (Kd.R_after (ok := (fun k_ => zO k_ (.slice Ao42 y147.length co42) ∧ zO k_ (.slice Ao47 y152.length co47))) (by (with_reducible repeat (first | apply Kd.R_alloc | apply Kd.R_drewN | apply Kd.R_drew)); exact Kd.R_mono HO_128001.out zy) hg hat)
                   have n2_ := zA (blk_grown (g := gb126) (o := .cells #[.int .i64 0, .slice none 0 0, .slice none 0 0, .slice none 0 0, .slice none 0 0] 26 (0, 0)) (zb BK126.out) hg (Kd.R_ne HO_128004.out BK126.out (by decide)))
                   have n3_ := zA (blk_grown (g := gb127) (o := .cells #[.int .i64 a0, .slice Ao30 y141.length co30, .slice Ao42 y147.length co42, .slice Ao47 y152.length co47, u128004] 26 (0, 0)) (zb BK127.out) hg (Kd.R_ne HO_128004.out BK127.out (by decide)))
                   have n4_ := zA (Kd.R_over' (by (with_reducible repeat (first | apply Kd.R_alloc | apply Kd.R_drewN | apply Kd.R_drew)); exact HL144_0.out) (Kd.R_typed (zR HO_128004.out)) (by decide) hg)
                   have n5_ := zA (Kd.R_over' (by (with_reducible repeat (first | apply Kd.R_alloc | apply Kd.R_drewN | apply Kd.R_drew)); exact HL145_0.out) (Kd.R_typed (zR HO_128004.out)) (by decide) hg)
                   have n6_ := zA (Kd.R_after (ok := (fun k_ => zO k_ (.slice Ao30 y141.length co30) ∧ zO k_ (.slice Ao47 y152.length co47))) (by (with_reducible repeat (first | apply Kd.R_alloc | apply Kd.R_drewN | apply Kd.R_drew)); exact Kd.R_mono HO149.out zy) hg hat)
                   have n7_ := zA (Kd.R_over' (by (with_reducible repeat (first | apply Kd.R_alloc | apply Kd.R_drewN | apply Kd.R_drew)); exact HL150_0.out) (Kd.R_typed (zR HO_128004.out)) (by decide) hg)
                   have n8_ := zA (Kd.R_after (ok := (fun k_ => zO k_ (.slice Ao30 y141.length co30) ∧ zO k_ (.slice Ao42 y147.length co42))) (by (with_reducible repeat (first | apply Kd.R_alloc | apply Kd.R_drewN | apply Kd.R_drew)); exact Kd.R_mono HO154.out zy) hg hat)
                   have n9_ := zA (Kd.R_over' (by (with_reducible repeat (first | apply Kd.R_alloc | apply Kd.R_drewN | apply Kd.R_drew)); exact HL155_0.out) (Kd.R_typed (zR HO_128004.out)) (by decide) hg)
                   have n10_ := zA (hb)
                   have n11_ := zA (ho)
                   clear HO_6
                   clear HO_128001
                   clear BK126
                   clear BK127
                   clear HL144_0
                   clear HL145_0
                   clear HO149
                   clear HL150_0
                   clear HO154
                   clear HL155_0
                   clear HB
                   clear HO_128004
                   have HO_6 := n0_
                   have HO_128001 := n1_
                   have BK126 := n2_
                   have BK127 := n3_
                   have HL144_0 := n4_
                   have HL145_0 := n5_
                   have HO149 := n6_
                   have HL150_0 := n7_
                   have HO154 := n8_
                   have HL155_0 := n9_
                   have HB := n10_
                   have HO159 := n11_
                   clear n0_ n1_ n2_ n3_ n4_ n5_ n6_ n7_ n8_ n9_ n10_ n11_
                   clear ho hb hg hat
                   obtain ⟨Ao52, co52, eo52⟩ := Kd.R_slice HO159.out
                   (first | subst eo52 | (injection eo52 with f1_ f2_ f3_; have f4_ := f1_.symm; have f5_ := f3_.symm; clear f1_ f2_ f3_; subst f4_; subst f5_))
                   refine hK.out _ _ ?_
                   clear hK K
                   refine norm_ (a' := ?_) ?_ ?_
                   rotate_left
                   ·show Act.put _ (some 98) _ = _
                    simp only [Act.put, List.setIfInBounds_toArray, List.set_cons_zero, List.set_cons_succ, i64_w, i32_w]
                    rfl
                   refine pure_ (i := 12) (N := some 99) (v := ?_) (a' := ?_) #[true, true, true, true, true, true, true, true, true, true, true, true, true, false] rfl rfl (any_of HT_.out (by kernel_rfl)) (fun _ _ _ h => h) (Or.inl ⟨by rfl, ?_⟩) ?_ ?_
                   rotate_left
                   ·intro w'
                    go_simp
                    with_reducible rfl
                   rotate_left
                   ·simp only [Act.put, List.setIfInBounds_toArray, List.set_cons_zero, List.set_cons_succ, i64_w, i32_w]
                    rfl
                   refine last_ (i := 13) (N := none) #[true, true, true, true, true, true, true, true, true, true, true, true, true, true] rfl rfl (one_of HT_.out (by kernel_rfl)) (by decide) (fun K hK => ?_)
                   have hs53 := zv BK127.out 4 (u128004)
                   have hfs53 := blk_frozen BK127.out 4
                   have hns53_0 := NB126_127.out
                   have hms53_0 := NB127_126.out
                   refine skip_ (w1 := ?_) (by rfl) rfl ?_ ?_
                   rotate_left
                   ·go_simp
                    rfl
                   refine hK.out _ _ ?_
                   clear hK K
                   refine done_ (done_of HT_.out (by kernel_rfl)) ?_
                   try go_wp2
                   go_roundg k3
                   case measure => have := HK1.out; have := HK2.out; have := HK3.out; omega
                   case rel => exact ⟨(wrap64 (x10_3 + 1)), (y147), (y152), (y157), (.slice Ao42 y147.length co42), (.slice Ao47 y152.length co47), (.slice Ao52 y157.length co52), zr, H', ⟨by have := HK1.out; have := HK2.out; have := HK3.out; omega⟩, ⟨by (with_reducible repeat (first | apply Kd.S_alloc | apply Kd.S_drewN | apply Kd.S_drew)); exact Kd.S_mono (Kd.S_far (p := ⟨gb127, 4, none⟩) (Kd.S_types HO_6.out BK127.out (by decide)) (fun _ hk => hk.2) (.slice Ao52 y157.length co52)) (fun _ hk => trivial)⟩, ⟨by (with_reducible repeat (first | apply Kd.R_alloc | apply Kd.R_drewN | apply Kd.R_drew)); exact Kd.R_mono (zK HO_128001.out BK127.out) zy⟩, ⟨by (with_reducible repeat (first | apply Kd.R_alloc | apply Kd.R_drewN | apply Kd.R_drew)); exact Kd.R_mono (zK HO149.out BK127.out) zy⟩, ⟨by (with_reducible repeat (first | apply Kd.R_alloc | apply Kd.R_drewN | apply Kd.R_drew)); exact Kd.R_mono (zK HO154.out BK127.out) zy⟩, ⟨by (with_reducible repeat (first | apply Kd.R_alloc | apply Kd.R_drewN | apply Kd.R_drew)); exact Kd.R_mono (zK HO159.out BK127.out) zy⟩, ⟨by (with_reducible repeat (first | refine blk_drewN ?_ _ | refine blk_drew ?_ | refine blk_alloc ?_ _)); refine blk_far ?_ NB126_127.out _; (with_reducible repeat (first | refine blk_drewN ?_ _ | refine blk_drew ?_ | refine blk_alloc ?_ _)); exact BK126.out⟩, ⟨by (with_reducible repeat (first | refine blk_drewN ?_ _ | refine blk_drew ?_ | refine blk_alloc ?_ _)); refine blk_put (cs := #[.int .i64 a0, .slice Ao30 y141.length co30, .slice Ao42 y147.length co42, .slice Ao47 y152.length co47, u128004]) ?_ 4 _ rfl; (with_reducible repeat (first | refine blk_drewN ?_ _ | refine blk_drew ?_ | refine blk_alloc ?_ _)); exact BK127.out⟩, ⟨(zs2 GE126.out GE127.out)⟩⟩
                  ·rw [if_neg c38] at H
                   exact absurd H (by simp)
                 ·rw [if_neg c37] at H
                  exact absurd H (by simp)
                ·rw [if_neg c36] at H
                 exact absurd H (by simp)
               ·rw [if_neg c35] at H
                exact absurd H (by simp)
              ·rw [if_neg c34] at H
               have c34b0 : decide (x10_3 < ((rd_L2 x6_1 x9_2).length : Int)) = false := decide_eq_false c34
               clear c34
               have H' := zA H
               clear H
               obtain ⟨Ao54, co54, eo54⟩ := Kd.S_slice HO_6.out
               subst eo54
               have p144 : 0 ≤ (x9_2 : Int) := zd
               have q144 : x9_2 < (x6_1.length : Int) := zd
               obtain ⟨ad144, A144_0, c144_0, e144, hx144_0, hl144_0, hi144_0⟩ := at_L2 (Kd.S_reads' HO_6.out).2.2 x9_2 p144 q144
               cases e144
               obtain ⟨ce144, hce144, hMe144, hcc144⟩ := Kd.S_get HO_6.out [] x9_2 p144 (by first | exact q144 | exact zd | (have e_ := (Kd.S_reads' HO_6.out).1; omega))
               obtain ⟨ve144_0, rfl, ge144_0⟩ := hMe144
               have hv144_0 := hcc144 0 _ rfl
               rw [Nat.add_zero, show ((Kd.slice 51 k51)).sz = 1 from rfl, Nat.mul_one] at hv144_0
               replace hv144_0 := Option.some.inj (hv144_0.symm.trans hx144_0)
               rw [hv144_0] at ge144_0
               have HL144_0 := zA (show Kd.R k51 51 _ _ _ _ (rd_L2 x6_1 x9_2) from ge144_0)
               clear hv144_0 ge144_0
               have HX144_0 := zA hx144_0
               clear hcc144 hce144
               have HR144_0 := zA hi144_0
               have HC144_0 := zA hl144_0
               clear hi144_0 hl144_0
               replace p144 := eq_true p144
               replace q144 := eq_true q144
               go_wp2
               go_roundg k3
               case measure => have := HK1.out; have := HK2.out; have := HK3.out; omega
               case rel => exact ⟨(wrap64 (x9_2 + 1)), (y141), (x128002_3), (x128003_3), (x128004_3), (.slice Ao30 y141.length co30), (u128002), (u128003), (u128004), zr, H', ⟨by have := HK1.out; have := HK2.out; have := HK3.out; omega⟩, ⟨zS HO_6.out⟩, ⟨zR HO_128001.out⟩, ⟨zR HO_128002.out⟩, ⟨zR HO_128003.out⟩, ⟨zR HO_128004.out⟩, ⟨zb BK126.out⟩, ⟨zb BK127.out⟩, ⟨(zs2 GE126.out GE127.out)⟩⟩
             ·rw [if_neg c33] at H
              exact absurd H (by simp)
            ·rw [if_neg c32] at H
             exact absurd H (by simp)
         ·rw [if_neg c25] at H
          exact absurd H (by simp)
        ·rw [if_neg c24] at H
         have c24b0 : decide (x9_2 < a0) = false := decide_eq_false c24
         clear c24
         by_cases c55 : x128001_2.length < 17592186044416
         ·rw [if_pos c55] at H
          have LMc55 := zA c55
          clear c55
          obtain ⟨y138, hy138⟩ : ∃ y_ : List Int, y_ = (x128001_2 ++ [(x128002_2.length : Int)]) := ⟨_, rfl⟩
          replace H : (some (a0, y138, x128002_2, x128003_2, x128004_2)) = some (r1, r2, r3, r4, r5) := zh hy138
          have Ny138 := zA hy138
          clear hy138
          simp only [Option.some.injEq, Prod.mk.injEq] at H
          obtain ⟨rfl, rfl, rfl, rfl, rfl⟩ := H
          have hnb56 := NB127_126.out
          have hnc56 := NB126_127.out
          obtain ⟨hcz57_0, hcz57_1, hcz57_2, hcz57_3, hcz57_4, hfz57_0, hfz57_1, hfz57_2, hfz57_3, hfz57_4⟩ := zh5 BK127.out
          obtain ⟨Ao58, co58, eo58⟩ := Kd.R_slice HO_128002.out
          subst eo58
          go_wp2_with (first | ((with_reducible refine gate_builtin (b := .append) (xs := #[.tmp 101, .tmp 105]) rfl ?_); at_builtin; refine Kd.R_append (Kd.int .i64) (w0 := w) w.heap.size rfl (.tmp 101) (.tmp 105) 22 3 (.int .i64 0) 8 rfl Try.underlying22 info3 rfl (by decide) (by omega) u128001 x128001_2 (x128002_2.length : Int) [.int .i64 (x128002_2.length : Int)] (fun k_ => zO k_ (.slice Ao58 x128002_2.length co58) ∧ zO k_ (u128003) ∧ zO k_ (u128004)) (fun _ => False) rfl rfl ?aP (fun _ hk => hk.elim) ?aF ?aO ?aB ?aS ?aL ?_; (case aP => exact rfl); (case aB => exact (zs2 GE126.out GE127.out)); (case aF => exact (fun k_ hk => ⟨Kd.fresh' (zl HO_128002.out) k_ hk, Kd.fresh' (zl HO_128003.out) k_ hk, Kd.fresh' (zl HO_128004.out) k_ hk⟩)); (case aO => exact (zR HO_128001.out)); (case aS => exact (below_size (zs2 GE126.out GE127.out))); (case aL => have := LMc55.out; omega); intro v139 w59 ho hb hg hat; rw [← Ny138.out] at ho; have n0_ := zA (Kd.S_over' (zS HO_6.out) (Kd.R_typed (zR HO_128001.out)) (by decide) hg); have n1_ := zA (Kd.R_after (ok := (fun k_ => zO k_ (u128003) ∧ zO k_ (u128004))) (by (with_reducible repeat (first | apply Kd.R_alloc | apply Kd.R_drewN | apply Kd.R_drew)); exact Kd.R_mono HO_128002.out zy) hg hat); have n2_ := zA (Kd.R_after (ok := (fun k_ => zO k_ (.slice Ao58 x128002_2.length co58) ∧ zO k_ (u128004))) (by (with_reducible repeat (first | apply Kd.R_alloc | apply Kd.R_drewN | apply Kd.R_drew)); exact Kd.R_mono HO_128003.out zy) hg hat); have n3_ := zA (Kd.R_after (ok := (fun k_ => zO k_ (.slice Ao58 x128002_2.length co58) ∧ zO k_ (u128003))) (by (with_reducible repeat (first | apply Kd.R_alloc | apply Kd.R_drewN | apply Kd.R_drew)); exact Kd.R_mono HO_128004.out zy) hg hat); have n4_ := zA (blk_grown (g := gb126) (o := .cells #[.int .i64 0, .slice none 0 0, .slice none 0 0, .slice none 0 0, .slice none 0 0] 26 (0, 0)) (zb BK126.out) hg (Kd.R_ne HO_128001.out BK126.out (by decide))); have n5_ := zA (blk_grown (g := gb127) (o := .cells #[.int .i64 a0, u128001, .slice Ao58 x128002_2.length co58, u128003, u128004] 26 (0, 0)) (zb BK127.out) hg (Kd.R_ne HO_128001.out BK127.out (by decide))); have n6_ := zA (hb); have n7_ := zA (ho); clear HO_6 HO_128002 HO_128003 HO_128004 BK126 BK127 HB HO_128001; have HO_6 := n0_; have HO_128002 := n1_; have HO_128003 := n2_; have HO_128004 := n3_; have BK126 := n4_; have BK127 := n5_; have HB := n6_; have HO140 := n7_; clear n0_ n1_ n2_ n3_ n4_ n5_ n6_ n7_; clear ho hb hg hat; obtain ⟨Ao60, co60, eo60⟩ := Kd.R_slice HO140.out; subst eo60; obtain ⟨hcz61_0, hcz61_1, hcz61_2, hcz61_3, hcz61_4, hfz61_0, hfz61_1, hfz61_2, hfz61_3, hfz61_4⟩ := zh5 BK127.out; obtain ⟨hcz62_0, hcz62_1, hcz62_2, hcz62_3, hcz62_4, hfz62_0, hfz62_1, hfz62_2, hfz62_3, hfz62_4⟩ := zh5 BK126.out; obtain ⟨Ao63, co63, eo63⟩ := Kd.R_slice HO_128003.out; subst eo63; obtain ⟨Ao64, co64, eo64⟩ := Kd.R_slice HO_128004.out; subst eo64))
          refine bodyPost_ret (results_cell_row rfl _ _ gb126 26 #[.int .i64 a0, .slice Ao60 y138.length co60, .slice Ao58 x128002_2.length co58, .slice Ao63 x128003_2.length co63, .slice Ao64 x128004_2.length co64] (0, 0) _ rfl (by (with_reducible repeat (first | refine blk_drewN ?_ _ | refine blk_drew ?_ | refine blk_alloc ?_ _)); refine blk_put (cs := #[.int .i64 a0, .slice Ao60 y138.length co60, .slice Ao58 x128002_2.length co58, .slice Ao63 x128003_2.length co63, .slice none 0 0]) ?_ 4 _ rfl; (with_reducible repeat (first | refine blk_drewN ?_ _ | refine blk_drew ?_ | refine blk_alloc ?_ _)); refine blk_put (cs := #[.int .i64 a0, .slice Ao60 y138.length co60, .slice Ao58 x128002_2.length co58, .slice none 0 0, .slice none 0 0]) ?_ 3 _ rfl; (with_reducible repeat (first | refine blk_drewN ?_ _ | refine blk_drew ?_ | refine blk_alloc ?_ _)); refine blk_put (cs := #[.int .i64 a0, .slice Ao60 y138.length co60, .slice none 0 0, .slice none 0 0, .slice none 0 0]) ?_ 2 _ rfl; (with_reducible repeat (first | refine blk_drewN ?_ _ | refine blk_drew ?_ | refine blk_alloc ?_ _)); refine blk_put (cs := #[.int .i64 a0, .slice none 0 0, .slice none 0 0, .slice none 0 0, .slice none 0 0]) ?_ 1 _ rfl; (with_reducible repeat (first | refine blk_drewN ?_ _ | refine blk_drew ?_ | refine blk_alloc ?_ _)); refine blk_put (cs := #[.int .i64 0, .slice none 0 0, .slice none 0 0, .slice none 0 0, .slice none 0 0]) ?_ 0 _ rfl; (with_reducible repeat (first | refine blk_drewN ?_ _ | refine blk_drew ?_ | refine blk_alloc ?_ _)); refine blk_far ?_ NB126_127.out _; (with_reducible repeat (first | refine blk_drewN ?_ _ | refine blk_drew ?_ | refine blk_alloc ?_ _)); exact BK126.out) Try.underlying26 rfl (by kernel_rfl)) rfl ?_
          exact ⟨_, _, _, _, ze, by (with_reducible repeat (first | apply Kd.R_alloc | apply Kd.R_drewN | apply Kd.R_drew)); exact Kd.R_mono (Kd.R_far (p := ⟨gb126, 4, none⟩) (Kd.R_far (p := ⟨gb126, 3, none⟩) (Kd.R_far (p := ⟨gb126, 2, none⟩) (Kd.R_far (p := ⟨gb126, 1, none⟩) (Kd.R_far (p := ⟨gb126, 0, none⟩) (Kd.R_far (p := ⟨gb127, 1, none⟩) (Kd.R_types (Kd.R_types HO140.out BK127.out (by decide)) BK126.out (by decide)) (fun _ hk => hk.1.2) (.slice Ao60 y138.length co60)) (fun _ hk => hk.2) (.int .i64 a0)) (fun _ hk => hk.2) (.slice Ao60 y138.length co60)) (fun _ hk => hk.2) (.slice Ao58 x128002_2.length co58)) (fun _ hk => hk.2) (.slice Ao63 x128003_2.length co63)) (fun _ hk => hk.2) (.slice Ao64 x128004_2.length co64)) zy, by (with_reducible repeat (first | apply Kd.R_alloc | apply Kd.R_drewN | apply Kd.R_drew)); exact Kd.R_mono (Kd.R_far (p := ⟨gb126, 4, none⟩) (Kd.R_far (p := ⟨gb126, 3, none⟩) (Kd.R_far (p := ⟨gb126, 2, none⟩) (Kd.R_far (p := ⟨gb126, 1, none⟩) (Kd.R_far (p := ⟨gb126, 0, none⟩) (Kd.R_far (p := ⟨gb127, 1, none⟩) (Kd.R_types (Kd.R_types HO_128002.out BK127.out (by decide)) BK126.out (by decide)) (fun _ hk => hk.1.2) (.slice Ao60 y138.length co60)) (fun _ hk => hk.2) (.int .i64 a0)) (fun _ hk => hk.2) (.slice Ao60 y138.length co60)) (fun _ hk => hk.2) (.slice Ao58 x128002_2.length co58)) (fun _ hk => hk.2) (.slice Ao63 x128003_2.length co63)) (fun _ hk => hk.2) (.slice Ao64 x128004_2.length co64)) zy, by (with_reducible repeat (first | apply Kd.R_alloc | apply Kd.R_drewN | apply Kd.R_drew)); exact Kd.R_mono (Kd.R_far (p := ⟨gb126, 4, none⟩) (Kd.R_far (p := ⟨gb126, 3, none⟩) (Kd.R_far (p := ⟨gb126, 2, none⟩) (Kd.R_far (p := ⟨gb126, 1, none⟩) (Kd.R_far (p := ⟨gb126, 0, none⟩) (Kd.R_far (p := ⟨gb127, 1, none⟩) (Kd.R_types (Kd.R_types HO_128003.out BK127.out (by decide)) BK126.out (by decide)) (fun _ hk => hk.1.2) (.slice Ao60 y138.length co60)) (fun _ hk => hk.2) (.int .i64 a0)) (fun _ hk => hk.2) (.slice Ao60 y138.length co60)) (fun _ hk => hk.2) (.slice Ao58 x128002_2.length co58)) (fun _ hk => hk.2) (.slice Ao63 x128003_2.length co63)) (fun _ hk => hk.2) (.slice Ao64 x128004_2.length co64)) zy, by (with_reducible repeat (first | apply Kd.R_alloc | apply Kd.R_drewN | apply Kd.R_drew)); exact Kd.R_mono (Kd.R_far (p := ⟨gb126, 4, none⟩) (Kd.R_far (p := ⟨gb126, 3, none⟩) (Kd.R_far (p := ⟨gb126, 2, none⟩) (Kd.R_far (p := ⟨gb126, 1, none⟩) (Kd.R_far (p := ⟨gb126, 0, none⟩) (Kd.R_far (p := ⟨gb127, 1, none⟩) (Kd.R_types (Kd.R_types HO_128004.out BK127.out (by decide)) BK126.out (by decide)) (fun _ hk => hk.1.2) (.slice Ao60 y138.length co60)) (fun _ hk => hk.2) (.int .i64 a0)) (fun _ hk => hk.2) (.slice Ao60 y138.length co60)) (fun _ hk => hk.2) (.slice Ao58 x128002_2.length co58)) (fun _ hk => hk.2) (.slice Ao63 x128003_2.length co63)) (fun _ hk => hk.2) (.slice Ao64 x128004_2.length co64)) zy, (zs2 GE126.out GE127.out)⟩
         ·rw [if_neg c55] at H
          exact absurd H (by simp)
  ·rw [if_neg c4] at H
   exact absurd H (by simp)
 ·rw [if_neg c3] at H
  exact absurd H (by simp)

end Go.Proofs.Ytiboccbaaphbhaa.PFnExactReverse
