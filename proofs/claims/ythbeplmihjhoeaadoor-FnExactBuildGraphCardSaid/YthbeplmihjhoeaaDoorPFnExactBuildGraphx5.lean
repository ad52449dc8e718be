-- made by wip/tools/myprint.py (this session's own program, over the kit's printer)
import Derived.Test.YthbeplmihjhoeaaDoorPFnExactBuildGraphx0
namespace Go.Proofs.YthbeplmihjhoeaaDoor.PFnExactBuildGraph
open Go.RowKit Go.Proofs.YthbeplmihjhoeaaDoorW.PrintWords Go.Proofs.YthbeplmihjhoeaaDoorW.PrintLast Go.Proofs.YthbeplmihjhoeaaDoorW.PrintMore
attribute [local go_sem] max2_int min2_int max_two min_two max_three min_three max_four min_four   -- for this text's walks alone
set_option linter.unusedVariables false
set_option linter.unusedSimpArgs false

/-! ### spec_l5graph: function 71 -/
mutual
def spec_l5graph.l0 : Nat → Int → List (S99) → List (List (S99)) → Int → Int → Option (Int × List Int × List Int × List Int × List Int)
 | 0, _, _, _, _, _ => none
 | k + 1, x0, x1, x6, x7, x158000 => if x7 < (x1.length : Int) then (if 0 ≤ x7 then (if 0 ≤ ((rd_T99 x1 x7).f0) then (if ((rd_T99 x1 x7).f0) < (x6.length : Int) then (if (rd_L7 x6 ((rd_T99 x1 x7).f0)).length < 4398046511104 then (spec_l5graph.l0 k x0 x1 (x6.set (((rd_T99 x1 x7).f0) : Int).toNat ((rd_L7 x6 ((rd_T99 x1 x7).f0)) ++ [(⟨(rd_T99 x1 x7).f0, (rd_T99 x1 x7).f1, (rd_T99 x1 x7).f2, (rd_T99 x1 x7).f3⟩ : S99)])) (wrap64 (x7 + 1)) x158000) else (none)) else (none)) else (none)) else (none)) else (spec_l5graph.l1 k x0 x6 0 x158000 ([] : List Int) ([] : List Int) ([] : List Int) ([] : List Int))
def spec_l5graph.l1 : Nat → Int → List (List (S99)) → Int → Int → List Int → List Int → List Int → List Int → Option (Int × List Int × List Int × List Int × List Int)
 | 0, _, _, _, _, _, _, _, _ => none
 | k + 1, x0, x6, x9, x158000, x158001, x158002, x158003, x158004 => if x9 < x0 then (if x158001.length < 17592186044416 then (spec_l5graph.l2 k x0 x6 x9 0 x158000 (x158001 ++ [(x158002.length : Int)]) x158002 x158003 x158004) else (none)) else (if x158001.length < 17592186044416 then (some (x158000, (x158001 ++ [(x158002.length : Int)]), x158002, x158003, x158004)) else (none))
def spec_l5graph.l2 : Nat → Int → List (List (S99)) → Int → Int → Int → List Int → List Int → List Int → List Int → Option (Int × List Int × List Int × List Int × List Int)
 | 0, _, _, _, _, _, _, _, _, _ => none
 | k + 1, x0, x6, x9, x10, x158000, x158001, x158002, x158003, x158004 => if 0 ≤ x9 then (if x9 < (x6.length : Int) then (if x10 < ((rd_L7 x6 x9).length : Int) then (if 0 ≤ x10 then (if x158002.length < 17592186044416 then (if x158003.length < 17592186044416 then (if x158004.length < 17592186044416 then (spec_l5graph.l2 k x0 x6 x9 (wrap64 (x10 + 1)) x158000 x158001 (x158002 ++ [(rd_T99 (rd_L7 x6 x9) x10).f1]) (x158003 ++ [(rd_T99 (rd_L7 x6 x9) x10).f2]) (x158004 ++ [(rd_T99 (rd_L7 x6 x9) x10).f3])) else (none)) else (none)) else (none)) else (none)) else (spec_l5graph.l1 k x0 x6 (wrap64 (x9 + 1)) x158000 x158001 x158002 x158003 x158004)) else (none)) else (none)
end
def spec_l5graph.f (k : Nat) (a0 : Int) (l1 : List (S99)) : Option (Int × List Int × List Int × List Int × List Int) := if 0 ≤ a0 then (if (a0 : Int).toNat ≤ 11728124029610 then (spec_l5graph.l0 k a0 l1 (List.replicate (a0 : Int).toNat []) 0 a0) else (none)) else (none)
theorem spec_l5graph.mono_l : ∀ k, (∀ y0 y1 y2 y3 y4, LeO (spec_l5graph.l0 k y0 y1 y2 y3 y4) (spec_l5graph.l0 (k + 1) y0 y1 y2 y3 y4)) ∧ (∀ y0 y1 y2 y3 y4 y5 y6 y7, LeO (spec_l5graph.l1 k y0 y1 y2 y3 y4 y5 y6 y7) (spec_l5graph.l1 (k + 1) y0 y1 y2 y3 y4 y5 y6 y7)) ∧ (∀ y0 y1 y2 y3 y4 y5 y6 y7 y8, LeO (spec_l5graph.l2 k y0 y1 y2 y3 y4 y5 y6 y7 y8) (spec_l5graph.l2 (k + 1) y0 y1 y2 y3 y4 y5 y6 y7 y8))
 | 0 => ⟨fun _ _ _ _ _ r h => by simp [spec_l5graph.l0] at h, fun _ _ _ _ _ _ _ _ r h => by simp [spec_l5graph.l1] at h, fun _ _ _ _ _ _ _ _ _ r h => by simp [spec_l5graph.l2] at h⟩
 | k + 1 => by
  obtain ⟨ih0, ih1, ih2⟩ := spec_l5graph.mono_l k
  refine ⟨?_, ?_, ?_⟩
  ·intro y0 y1 y2 y3 y4
   unfold spec_l5graph.l0
   exact zm
  ·intro y0 y1 y2 y3 y4 y5 y6 y7
   unfold spec_l5graph.l1
   exact zm
  ·intro y0 y1 y2 y3 y4 y5 y6 y7 y8
   unfold spec_l5graph.l2
   exact zm
theorem spec_l5graph.mono : ∀ a0 a1 k, LeO (spec_l5graph.f k a0 a1) (spec_l5graph.f (k + 1) a0 a1) := by
 intro a0 a1 k
 obtain ⟨ih0, ih1, ih2⟩ := spec_l5graph.mono_l k
 unfold spec_l5graph.f
 exact zm
def spec_l5graph.T7 : Bool × List (List Nat × List Nat) := (true, [([], []), ([], []), ([], []), ([], []), ([2, 3], [2, 3]), ([4], [4]), ([], []), ([], []), ([6, 7], [6, 7]), ([8], [8]), ([9], [9]), ([5, 10], [5, 10]), ([0, 1, 0, 1, 2, 3, 4, 5, 6, 7, 8, 9, 10, 11], [0, 1]), ([12, 11, 11, 0, 1, 2, 3, 4, 5, 6, 7, 8, 9, 10, 11], [11, 12])])
def spec_l5graph.B7 : List Nat := [0, 0, 0, 0, 12, 28, 0, 0, 192, 448, 960, 2044, 4095, 8191]
theorem spec_l5graph.tab7 : rtab .any (opsOf Tryd.f71 7) = spec_l5graph.T7 := by kernel_rfl
theorem spec_l5graph.bits7 : waitsOk spec_l5graph.T7.2 spec_l5graph.B7 = true := by kernel_rfl
def spec_l5graph.T15 : Bool × List (List Nat × List Nat) := (true, [([], []), ([0], [0]), ([], []), ([], []), ([2, 3], [2, 3]), ([4], [4]), ([], []), ([5, 6], [5, 6]), ([7], [7]), ([8], [8]), ([9], [9]), ([1, 10], [1, 10]), ([0, 1, 2, 3, 4, 5, 6, 7, 8, 9, 10, 11], []), ([12, 11, 11, 0, 1, 2, 3, 4, 5, 6, 7, 8, 9, 10, 11], [11, 12])])
def spec_l5graph.B15 : List Nat := [0, 1, 0, 0, 12, 28, 0, 124, 252, 508, 1020, 2047, 4095, 8191]
theorem spec_l5graph.tab15 : rtab .any (opsOf Tryd.f71 15) = spec_l5graph.T15 := by kernel_rfl
theorem spec_l5graph.bits15 : waitsOk spec_l5graph.T15.2 spec_l5graph.B15 = true := by kernel_rfl
def spec_l5graph.T16 : Bool × List (List Nat × List Nat) := (true, [([], []), ([0], [0]), ([], []), ([], []), ([2, 3], [2, 3]), ([4], [4]), ([], []), ([5, 6], [5, 6]), ([7], [7]), ([8], [8]), ([9], [9]), ([1, 10], [1, 10]), ([0, 1, 2, 3, 4, 5, 6, 7, 8, 9, 10, 11], []), ([12, 11, 11, 0, 1, 2, 3, 4, 5, 6, 7, 8, 9, 10, 11], [11, 12])])
def spec_l5graph.B16 : List Nat := [0, 1, 0, 0, 12, 28, 0, 124, 252, 508, 1020, 2047, 4095, 8191]
theorem spec_l5graph.tab16 : rtab .any (opsOf Tryd.f71 16) = spec_l5graph.T16 := by kernel_rfl
theorem spec_l5graph.bits16 : waitsOk spec_l5graph.T16.2 spec_l5graph.B16 = true := by kernel_rfl
def spec_l5graph.T17 : Bool × List (List Nat × List Nat) := (true, [([], []), ([0], [0]), ([], []), ([], []), ([2, 3], [2, 3]), ([4], [4]), ([], []), ([5, 6], [5, 6]), ([7], [7]), ([8], [8]), ([9], [9]), ([1, 10], [1, 10]), ([0, 1, 2, 3, 4, 5, 6, 7, 8, 9, 10, 11], []), ([12, 11, 11, 0, 1, 2, 3, 4, 5, 6, 7, 8, 9, 10, 11], [11, 12])])
def spec_l5graph.B17 : List Nat := [0, 1, 0, 0, 12, 28, 0, 124, 252, 508, 1020, 2047, 4095, 8191]
theorem spec_l5graph.tab17 : rtab .any (opsOf Tryd.f71 17) = spec_l5graph.T17 := by kernel_rfl
theorem spec_l5graph.bits17 : waitsOk spec_l5graph.T17.2 spec_l5graph.B17 = true := by kernel_rfl
set_option maxHeartbeats 8000000 in
set_option maxRecDepth 100000 in
theorem spec_l5graph.calls (k : Nat) (a0 : Int) (A1 : Option Addr) (c1 : Nat) (l1 : List (S99)) (r1 : Int) (r2 : List Int) (r3 : List Int) (r4 : List Int) (r5 : List Int) (w : World) (hr1 : Kd.C k99 w A1 l1.length l1) (hc1 : l1.length ≤ c1) (h : spec_l5graph.f k a0 l1 = some (r1, r2, r3, r4, r5)) :
  Calls Tryd.prog 71 #[.int .i64 a0, .slice A1 l1.length c1] w fun e w' => ∃ v1_ v2_ v3_ v4_ : Value, e = .returned (.agg #[.int .i64 r1, v1_, v2_, v3_, v4_]) ∧ Kd.R (Kd.int .i64) 3 w' w.heap.size (fun k_ => zO k_ (v2_) ∧ zO k_ (v3_) ∧ zO k_ (v4_)) v1_ r2 ∧ Kd.R (Kd.int .i64) 3 w' w.heap.size (fun k_ => zO k_ (v1_) ∧ zO k_ (v3_) ∧ zO k_ (v4_)) v2_ r3 ∧ Kd.R (Kd.int .i64) 3 w' w.heap.size (fun k_ => zO k_ (v1_) ∧ zO k_ (v2_) ∧ zO k_ (v4_)) v3_ r4 ∧ Kd.R (Kd.int .i64) 3 w' w.heap.size (fun k_ => zO k_ (v1_) ∧ zO k_ (v2_) ∧ zO k_ (v3_)) v4_ r5 ∧ Below w.heap.size w w' := by
 have hu28 := Tryd.underlying28
 have hu99 := Tryd.underlying99
 have HR1 := zA hr1
 have HC1 := zA hc1
 clear hr1 hc1
 have HB := zA (Below.refl w.heap.size w)
 have H : (if 0 ≤ a0 then (if (a0 : Int).toNat ≤ 11728124029610 then (spec_l5graph.l0 k a0 l1 (List.replicate (a0 : Int).toNat []) 0 a0) else (none)) else (none)) = some (r1, r2, r3, r4, r5) := h
 clear h
 by_cases c3 : 0 ≤ a0
 ·rw [if_pos c3] at H
  have c3b0 := eq_true c3
  have c3b1 : decide (0 ≤ a0) = true := decide_eq_true c3
  clear c3
  by_cases c4 : (a0 : Int).toNat ≤ 11728124029610
  ·rw [if_pos c4] at H
   have c4b0 := eq_true c4
   have c4b1 : decide ((a0 : Int).toNat ≤ 11728124029610) = true := decide_eq_true c4
   clear c4
   obtain ⟨y158, hy158⟩ : ∃ y_ : List (List (S99)), y_ = (List.replicate (a0 : Int).toNat []) := ⟨_, rfl⟩
   replace H : (spec_l5graph.l0 k a0 l1 y158 0 a0) = some (r1, r2, r3, r4, r5) := zh hy158
   have Ny158 := zA hy158
   clear hy158
   have H' := zA H
   clear H
   go_enter Tryd.func71, Tryd.ntmps71
   go_wp2_with (first | ((with_reducible refine gate_dst (N := 4) rfl ?_); refine box_event ?hg (N := 4) ?hd (cs := #[.int .i64 0, .slice none 0 0, .slice none 0 0, .slice none 0 0, .slice none 0 0]) (t := 28) ?hr ?_; (case hd => rfl); (case hg => rfl); (case hr => first | (go_simp; done) | (go_simp; rfl)); intro gb156 hg w5 hbox hb; have n0_ := zA (below_step z_ hb); have n1_ := zA (hbox); have n2_ := zA ((by rw [hg]; exact (below_size z_) : w.heap.size ≤ gb156)); have n3_ := zA ((by rw [hg]; exact (below_size z_) : w.heap.size ≤ gb156)); clear HB; have HB := n0_; have BK156 := n1_; have GW156 := n2_; have GE156 := n3_; clear n0_ n1_ n2_ n3_; clear hb hbox hg) | ((with_reducible refine gate_dst (N := 5) rfl ?_); refine box_event ?hg (N := 5) ?hd (cs := #[.int .i64 0, .slice none 0 0, .slice none 0 0, .slice none 0 0, .slice none 0 0]) (t := 28) ?hr ?_; (case hd => rfl); (case hg => rfl); (case hr => first | (go_simp; done) | (go_simp; rfl)); intro gb157 hg w6 hbox hb; have n0_ := zA (zB BK156.out hb); have n1_ := zA (below_step (zs GE156.out) hb); have n2_ := zA (hbox); have n3_ := zA ((by rw [hg]; exact (below_size (zs GE156.out)) : w.heap.size ≤ gb157)); have n4_ := zA ((by rw [hg]; exact (below_size (zs GE156.out)) : w.heap.size ≤ gb157)); have n5_ := zA ((by rw [hg]; exact Nat.ne_of_lt (zw BK156.out) : gb156 ≠ gb157)); have n6_ := zA ((by rw [hg]; exact Nat.ne_of_gt (zw BK156.out) : gb157 ≠ gb156)); clear BK156 HB; have BK156 := n0_; have HB := n1_; have BK157 := n2_; have GW157 := n3_; have GE157 := n4_; have NB156_157 := n5_; have NB157_156 := n6_; clear n0_ n1_ n2_ n3_ n4_ n5_ n6_; clear hb hbox hg; have hnb7 := NB157_156.out; have hnc7 := NB156_157.out; obtain ⟨hcz8_0, hcz8_1, hcz8_2, hcz8_3, hcz8_4, hfz8_0, hfz8_1, hfz8_2, hfz8_3, hfz8_4⟩ := zh5 BK157.out) | ((with_reducible refine gate_dst (N := 14) rfl ?_); refine Kd.S_make (Kd.slice 99 k99) _ 94 rfl (N := 14) rfl 187 _ _ rfl a0 rfl rfl Tryd.underlying187 (.slice none 0 0) 24 info94 rfl (by decide) (by omega) [] (ok := fun _ => True) (okp := fun _ => True) ⟨_, rfl, Kd.R_nil _ _ _ _ _⟩ (fun _ hk => hk) trivial (zd) (Nat.le_trans (Nat.mul_le_mul_right _ (zd : a0.toNat ≤ 11728124029610)) (by omega)) (Below.refl _ _) (Nat.le_refl _) ?_; intro v159 w9 ho10 hb hg_ hnew_; clear hg_ hnew_; (first | rw [← Ny158.out] at ho10 | (simp only [Int.reduceToNat] at ho10; rw [← Ny158.out] at ho10)); have n0_ := zA (Kd.S_lower ho10 (below_size (zs2 GE156.out GE157.out))); have n1_ := zA (blk_below (g := gb156) (o := .cells #[.int .i64 0, .slice none 0 0, .slice none 0 0, .slice none 0 0, .slice none 0 0] 28 (0, 0)) (zf BK156.out NB156_157.out) hb); have n2_ := zA (blk_below (g := gb157) (o := .cells #[.int .i64 a0, .slice none 0 0, .slice none 0 0, .slice none 0 0, .slice none 0 0] 28 (0, 0)) (zq BK157.out) hb); have n3_ := zA (below_step (zs2 GE156.out GE157.out) hb); clear BK156 BK157 HB; have HO160 := n0_; have BK156 := n1_; have BK157 := n2_; have HB := n3_; clear n0_ n1_ n2_ n3_; clear hb ho10))
   go_loopg [7] k (fun kq v7 w' => ∃ (x6_1 : List (List (S99))) (x7_1 : Int), v7 = .int .i64 x7_1 ∧ Aside0 (spec_l5graph.l0 kq a0 l1 x6_1 x7_1 a0 = some (r1, r2, r3, r4, r5)) ∧ Aside0 (kq ≤ k) ∧ Aside0 (Kd.S (Kd.slice 99 k99) 94 w' w.heap.size (fun _ => True) v159 x6_1) ∧ Aside0 (w'.heap[gb156]? = some (.cells #[.int .i64 0, (.slice none 0 0), (.slice none 0 0), (.slice none 0 0), (.slice none 0 0)] 28 (0, 0))) ∧ Aside0 (w'.heap[gb157]? = some (.cells #[.int .i64 a0, (.slice none 0 0), (.slice none 0 0), (.slice none 0 0), (.slice none 0 0)] 28 (0, 0))) ∧ Aside0 (Below w.heap.size w w'))
   case atStart => exact ⟨(y158), (0), zr, H', ⟨Nat.le_refl _⟩, ⟨zS HO160.out⟩, ⟨zb BK156.out⟩, ⟨zb BK157.out⟩, ⟨(zs2 GE156.out GE157.out)⟩⟩
   case round =>
    clear H'
    (try clear c1); (try clear p2); (try clear c3); (try clear c3b0); (try clear c3b1); (try clear c4); (try clear c4b0); (try clear c4b1); (try clear c7); (try clear hcz8_0 hcz8_1 hcz8_2 hcz8_3 hcz8_4); (try clear hfz8_0 hfz8_1 hfz8_2 hfz8_3 hfz8_4)
    obtain ⟨x6_1, x7_1, rfl, HA, HK1, HO_6, BK156, BK157, HB⟩ := hrel
    cases gk with
    | zero => exact absurd HA.out (by simp [spec_l5graph.l0])
    | succ k1 =>
     have H := HA.out
     clear HA
     simp only [spec_l5graph.l0] at H
     by_cases c11 : x7_1 < (l1.length : Int)
     ·rw [if_pos c11] at H
      have c11b0 : decide (x7_1 < (l1.length : Int)) = true := decide_eq_true c11
      clear c11
      by_cases c12 : 0 ≤ x7_1
      ·rw [if_pos c12] at H
       have c12b0 : decide (0 ≤ x7_1) = true := decide_eq_true c12
       clear c12
       by_cases c13 : 0 ≤ ((rd_T99 l1 x7_1).f0)
       ·rw [if_pos c13] at H
        have c13b0 : decide (0 ≤ ((rd_T99 l1 x7_1).f0)) = true := decide_eq_true c13
        clear c13
        by_cases c14 : ((rd_T99 l1 x7_1).f0) < (x6_1.length : Int)
        ·rw [if_pos c14] at H
         have c14b0 : decide (((rd_T99 l1 x7_1).f0) < (x6_1.length : Int)) = true := decide_eq_true c14
         clear c14
         by_cases c15 : (rd_L7 x6_1 ((rd_T99 l1 x7_1).f0)).length < 4398046511104
         ·rw [if_pos c15] at H
          have LMc15 := zA c15
          clear c15
          obtain ⟨y164, hy164⟩ : ∃ y_ : List (S99), y_ = ((rd_L7 x6_1 ((rd_T99 l1 x7_1).f0)) ++ [(⟨(rd_T99 l1 x7_1).f0, (rd_T99 l1 x7_1).f1, (rd_T99 l1 x7_1).f2, (rd_T99 l1 x7_1).f3⟩ : S99)]) := ⟨_, rfl⟩
          replace H : (spec_l5graph.l0 k1 a0 l1 (x6_1.set (((rd_T99 l1 x7_1).f0) : Int).toNat y164) (wrap64 (x7_1 + 1)) a0) = some (r1, r2, r3, r4, r5) := zh hy164
          have Ny164 := zA hy164
          clear hy164
          obtain ⟨y167, hy167⟩ : ∃ y_ : List (List (S99)), y_ = (x6_1.set (((rd_T99 l1 x7_1).f0) : Int).toNat y164) := ⟨_, rfl⟩
          replace H : (spec_l5graph.l0 k1 a0 l1 y167 (wrap64 (x7_1 + 1)) a0) = some (r1, r2, r3, r4, r5) := zh hy167
          have Ny167 := zA hy167
          clear hy167
          have H' := zA H
          clear H
          have p161 : 0 ≤ (x7_1 : Int) := zd
          have q161 : x7_1 < (l1.length : Int) := zd
          obtain ⟨ad161, e161, hx161_0, hx161_1, hx161_2, hx161_3⟩ := at_T99 HR1.out x7_1 p161 q161
          cases e161
          replace hx161_0 := zx HB.out hx161_0
          replace hx161_1 := zx HB.out hx161_1
          replace hx161_2 := zx HB.out hx161_2
          replace hx161_3 := zx HB.out hx161_3
          replace p161 := eq_true p161
          replace q161 := eq_true q161
          try go_wp2
          have n0_ := zA (Kd.S_drew HO_6.out)
          have n1_ := zA (blk_drew BK156.out)
          have n2_ := zA (blk_drew BK157.out)
          have n3_ := zA (below_drew1 HB.out)
          clear HO_6
          clear BK156
          clear BK157
          clear HB
          have HO_6 := n0_
          have BK156 := n1_
          have BK157 := n2_
          have HB := n3_
          clear n0_ n1_ n2_ n3_
          obtain ⟨Ao18, co18, eo18⟩ := Kd.S_slice HO_6.out
          (first | subst eo18 | (injection eo18 with f1_ f2_ f3_; have f4_ := f1_.symm; have f5_ := f3_.symm; clear f1_ f2_ f3_; subst f4_; subst f5_))
          have p162 : 0 ≤ (((rd_T99 l1 x7_1).f0) : Int) := zd
          have q162 : ((rd_T99 l1 x7_1).f0) < (x6_1.length : Int) := zd
          obtain ⟨ad162, A162_0, c162_0, e162, hx162_0, hl162_0, hi162_0⟩ := at_L7 (Kd.S_reads' HO_6.out).2.2 ((rd_T99 l1 x7_1).f0) p162 q162
          cases e162
          obtain ⟨ce162, hce162, hMe162, hcc162⟩ := Kd.S_get HO_6.out [] ((rd_T99 l1 x7_1).f0) p162 (by first | exact q162 | exact zd | (have e_ := (Kd.S_reads' HO_6.out).1; omega))
          obtain ⟨ve162_0, rfl, ge162_0⟩ := hMe162
          have hv162_0 := hcc162 0 _ rfl
          rw [Nat.add_zero, show ((Kd.slice 99 k99)).sz = 1 from rfl, Nat.mul_one] at hv162_0
          replace hv162_0 := Option.some.inj (hv162_0.symm.trans hx162_0)
          rw [hv162_0] at ge162_0
          have HL162_0 := zA (show Kd.R k99 99 _ _ _ _ (rd_L7 x6_1 ((rd_T99 l1 x7_1).f0)) from ge162_0)
          clear hv162_0 ge162_0
          have HX162_0 := zA hx162_0
          clear hcc162 hce162
          have HR162_0 := zA hi162_0
          have HC162_0 := zA hl162_0
          clear hi162_0 hl162_0
          replace p162 := eq_true p162
          replace q162 := eq_true q162
          have p163 : 0 ≤ (x7_1 : Int) := zd
          have q163 : x7_1 < (l1.length : Int) := zd
          obtain ⟨ad163, e163, hx163_0, hx163_1, hx163_2, hx163_3⟩ := at_T99 HR1.out x7_1 p163 q163
          have hw163_3 := hx163_3
          have hw163_2 := hx163_2
          have hw163_1 := hx163_1
          have hw163_0 := hx163_0
          obtain rfl : ad161 = ad163 := (by injection e163)
          replace hx163_0 := zx HB.out hx163_0
          replace hx163_1 := zx HB.out hx163_1
          replace hx163_2 := zx HB.out hx163_2
          replace hx163_3 := zx HB.out hx163_3
          replace p163 := eq_true p163
          replace q163 := eq_true q163
          obtain ⟨go19, co19, eo19, gb19, gl19, cl19, HG19⟩ := Kd.S_form HO_6.out (by have h_ : (((rd_T99 l1 x7_1).f0) : Int) < ((x6_1.length : Int) : Int) := zd; have h2_ : 0 ≤ (((rd_T99 l1 x7_1).f0) : Int) := (zd); omega)
          (first | cases eo19 | (injection eo19 with ea_ en_ ec_; (first | subst ea_ | (injection ea_ with ea_; subst ea_)); subst ec_; clear en_))
          have GB19 := zA gb19
          have GG19 := zA HG19
          clear gb19 gl19 HG19
          (first | simp only [add_plain] at hx162_0 | skip)
          obtain ⟨oki19, ce19, hcl19, hM19, hcc19, _, _, hH19⟩ := Kd.S_elem HO_6.out [] (((rd_T99 l1 x7_1).f0) : Int) (zd) (by have h_ : (((rd_T99 l1 x7_1).f0) : Int) < ((x6_1.length : Int) : Int) := zd; first | exact h_ | (have e_ := (Kd.S_reads' HO_6.out).1; omega) | simpa using h_)
          obtain ⟨ve19_0, rfl, ge19_0⟩ := hM19
          have hv19 := hcc19 0 _ rfl
          have hX19 := HX162_0.out
          (try simp only [add_plain] at hX19)
          (try simp only [Nat.add_zero] at hv19)
          (try rw [show ((Kd.slice 99 k99)).sz = 1 from rfl, Nat.mul_one] at hv19)
          replace hv19 := Option.some.inj (hv19.symm.trans hX19)
          subst hv19
          clear hX19 hcc19 hcl19
          have UU19 := zA (show Kd.R k99 99 _ w.heap.size oki19 (.slice A162_0 (rd_L7 x6_1 ((rd_T99 l1 x7_1).f0)).length c162_0) (rd_L7 x6_1 ((rd_T99 l1 x7_1).f0)) from ge19_0)
          have HH19 := zA hH19
          have HN19 := zA (Kd.S_reads' HO_6.out).1
          clear hH19 ge19_0
          refine start_ (n := 14) (S := fun w' => w'.cell? ⟨go19, (((rd_T99 l1 x7_1).f0)).toNat, none⟩ = some (.slice A162_0 (rd_L7 x6_1 ((rd_T99 l1 x7_1).f0)).length c162_0) ∧ w'.cell? (ad161.add ((x7_1).toNat * 4)) = some (.int .i64 ((rd_T99 l1 x7_1).f0)) ∧ w'.cell? ⟨(ad161.add ((x7_1).toNat * 4)).block, (ad161.add ((x7_1).toNat * 4)).off + 1, none⟩ = some (.int .i64 ((rd_T99 l1 x7_1).f1)) ∧ w'.cell? ⟨(ad161.add ((x7_1).toNat * 4)).block, (ad161.add ((x7_1).toNat * 4)).off + 2, none⟩ = some (.int .i64 ((rd_T99 l1 x7_1).f2)) ∧ w'.cell? ⟨(ad161.add ((x7_1).toNat * 4)).block, (ad161.add ((x7_1).toNat * 4)).off + 3, none⟩ = some (.int .i64 ((rd_T99 l1 x7_1).f3))) (ds := [13]) #[false, false, false, false, false, false, false, false, false, false, false, false, false, false] (by kernel_rfl) rfl rfl ⟨hx162_0, ((HB.out.cell (World.block_lt_of_cell? w _ hw163_0)).trans hw163_0), ((HB.out.cell (World.block_lt_of_cell? w _ hw163_1)).trans hw163_1), ((HB.out.cell (World.block_lt_of_cell? w _ hw163_2)).trans hw163_2), ((HB.out.cell (World.block_lt_of_cell? w _ hw163_3)).trans hw163_3)⟩ (fun hHeld => ?_); refine with_tabW spec_l5graph.tab7 spec_l5graph.bits7 (fun HT_ HW_ => ?_)
          generalize wr.drew = w17 at HO_6 BK156 BK157 HB GG19 HH19 HL162_0 HR162_0 HX162_0 UU19 hx162_0 hx163_0 hx163_1 hx163_2 hx163_3 hHeld ⊢
          refine pure_ (i := 0) (N := some 26) (v := ?_) (a' := ?_) #[true, false, false, false, false, false, false, false, false, false, false, false, false, false] rfl rfl (any_of HT_.out (by kernel_rfl)) (fun _ _ _ h => h) (Or.inl ⟨by rfl, ?_⟩) ?_ ?_
          rotate_left
          ·intro w'
           go_simp
           with_reducible rfl
          rotate_left
          ·simp only [Act.put, List.setIfInBounds_toArray, List.set_cons_zero, List.set_cons_succ, i64_w, i32_w]
           rfl
          refine pure_ (i := 1) (N := some 27) (v := ?_) (a' := ?_) #[true, true, false, false, false, false, false, false, false, false, false, false, false, false] rfl rfl (any_of HT_.out (by kernel_rfl)) (fun _ _ _ h => h) (Or.inl ⟨by rfl, ?_⟩) ?_ ?_
          rotate_left
          ·intro w'
           go_simp
           with_reducible rfl
          rotate_left
          ·simp only [Act.put, List.setIfInBounds_toArray, List.set_cons_zero, List.set_cons_succ, i64_w, i32_w]
           rfl
          refine pure_ (i := 2) (N := some 28) (v := ?_) (a' := ?_) #[true, true, true, false, false, false, false, false, false, false, false, false, false, false] rfl rfl (any_of HT_.out (by kernel_rfl)) (fun _ _ _ h => h) (Or.inl ⟨by rfl, ?_⟩) ?_ ?_
          rotate_left
          ·intro w'
           go_simp
           with_reducible rfl
          rotate_left
          ·simp only [Act.put, List.setIfInBounds_toArray, List.set_cons_zero, List.set_cons_succ, i64_w, i32_w]
           rfl
          refine pure_ (i := 3) (N := some 29) (v := ?_) (a' := ?_) #[true, true, true, true, false, false, false, false, false, false, false, false, false, false] rfl rfl (any_of HT_.out (by kernel_rfl)) (fun _ _ _ h => h) (Or.inl ⟨by rfl, ?_⟩) ?_ ?_
          rotate_left
          ·intro w'
           go_simp
           with_reducible rfl
          rotate_left
          ·simp only [Act.put, List.setIfInBounds_toArray, List.set_cons_zero, List.set_cons_succ, i64_w, i32_w]
           rfl
          refine pure_ (i := 4) (N := some 30) (v := ?_) (a' := ?_) #[true, true, true, true, true, false, false, false, false, false, false, false, false, false] rfl rfl (any_of HT_.out (by kernel_rfl)) (fun _ _ _ h => h) (Or.inl ⟨by rfl, ?_⟩) ?_ ?_
          rotate_left
          ·intro w'
           go_simp
           with_reducible rfl
          rotate_left
          ·simp only [Act.put, List.setIfInBounds_toArray, List.set_cons_zero, List.set_cons_succ, i64_w, i32_w]
           rfl
          refine pure_ (i := 6) (N := some 32) (v := ?_) (a' := ?_) #[true, true, true, true, true, false, true, false, false, false, false, false, false, false] rfl rfl (any_of HT_.out (by kernel_rfl)) (fun _ _ _ h => h) (Or.inl ⟨by rfl, ?_⟩) ?_ ?_
          rotate_left
          ·intro w'
           go_simp
           with_reducible rfl
          rotate_left
          ·simp only [Act.put, List.setIfInBounds_toArray, List.set_cons_zero, List.set_cons_succ, i64_w, i32_w]
           rfl
          refine pure_ (i := 7) (N := some 33) (v := ?_) (a' := ?_) #[true, true, true, true, true, false, true, true, false, false, false, false, false, false] rfl rfl (any_of HT_.out (by kernel_rfl)) (fun _ _ _ h => h) (Or.inl ⟨by rfl, ?_⟩) ?_ ?_
          rotate_left
          ·intro w'
           go_simp
           with_reducible rfl
          rotate_left
          ·simp only [Act.put, List.setIfInBounds_toArray, List.set_cons_zero, List.set_cons_succ, i64_w, i32_w]
           rfl
          refine pure_ (i := 8) (N := some 34) (v := ?_) (a' := ?_) #[true, true, true, true, true, false, true, true, true, false, false, false, false, false] rfl rfl (any_of HT_.out (by kernel_rfl)) (fun _ _ _ h => h) (Or.inl ⟨by rfl, ?_⟩) ?_ ?_
          rotate_left
          ·intro w'
           go_simp
           with_reducible rfl
          rotate_left
          ·simp only [Act.put, List.setIfInBounds_toArray, List.set_cons_zero, List.set_cons_succ, i64_w, i32_w]
           rfl
          refine take_ (i := 5) (N := some 31) (v := ?_) (a' := ?_) #[true, true, true, true, true, true, true, true, true, false, false, false, false, false] rfl rfl (take_ofW HT_.out HW_.out (by kernel_rfl)) (fun _ _ _ h => h) (Or.inl ⟨by rfl, ?_⟩) hHeld ?_ ?_
          rotate_left
          ·rintro w' ⟨s0, s1, s2, s3, s4⟩
           go_simp
           with_reducible rfl
          rotate_left
          ·simp only [Act.put, List.setIfInBounds_toArray, List.set_cons_zero, List.set_cons_succ, i64_w, i32_w]
           rfl
          refine take_ (i := 9) (N := some 35) (v := ?_) (a' := ?_) #[true, true, true, true, true, true, true, true, true, true, false, false, false, false] rfl rfl (take_ofW HT_.out HW_.out (by kernel_rfl)) (fun _ _ _ h => h) (Or.inl ⟨by rfl, ?_⟩) hHeld ?_ ?_
          rotate_left
          ·rintro w' ⟨s0, s1, s2, s3, s4⟩
           go_simp
           with_reducible rfl
          rotate_left
          ·simp only [Act.put, List.setIfInBounds_toArray, List.set_cons_zero, List.set_cons_succ, i64_w, i32_w]
           rfl
          refine one_ (i := 10) (N := some 36) #[true, true, true, true, true, true, true, true, true, true, true, false, false, false] rfl rfl (one_of HT_.out (by kernel_rfl)) (by decide) (fun K hK => ?_)
          refine value_ (w1 := ?_) (v := ?_) (by rfl) rfl ?_ ?_
          rotate_left 2
          ·go_simp
           constructor
           ·rfl
           ·rfl
          refine hK.out _ _ ⟨(World.cell?_alloc_lt _ _ _ (World.block_lt_of_cell? _ _ (hHeld.1))).trans (hHeld.1), (World.cell?_alloc_lt _ _ _ (World.block_lt_of_cell? _ _ (((HB.out.cell (World.block_lt_of_cell? w _ hw163_0)).trans hw163_0)))).trans (((HB.out.cell (World.block_lt_of_cell? w _ hw163_0)).trans hw163_0)), (World.cell?_alloc_lt _ _ _ (World.block_lt_of_cell? _ _ (((HB.out.cell (World.block_lt_of_cell? w _ hw163_1)).trans hw163_1)))).trans (((HB.out.cell (World.block_lt_of_cell? w _ hw163_1)).trans hw163_1)), (World.cell?_alloc_lt _ _ _ (World.block_lt_of_cell? _ _ (((HB.out.cell (World.block_lt_of_cell? w _ hw163_2)).trans hw163_2)))).trans (((HB.out.cell (World.block_lt_of_cell? w _ hw163_2)).trans hw163_2)), (World.cell?_alloc_lt _ _ _ (World.block_lt_of_cell? _ _ (((HB.out.cell (World.block_lt_of_cell? w _ hw163_3)).trans hw163_3)))).trans (((HB.out.cell (World.block_lt_of_cell? w _ hw163_3)).trans hw163_3))⟩ (fun hHeld => ?_)
          clear hK K
          refine norm_ (a' := ?_) ?_ ?_
          rotate_left
          ·show Act.put _ (some 36) _ = _
           simp only [Act.put, List.setIfInBounds_toArray, List.set_cons_zero, List.set_cons_succ, i64_w, i32_w]
           rfl
          refine one_ (i := 11) (N := some 37) #[true, true, true, true, true, true, true, true, true, true, true, true, false, false] rfl rfl (one_of HT_.out (by kernel_rfl)) (by decide) (fun K hK => ?_)
          refine Kd.R_append_step k99 (w0 := w) w.heap.size (by rfl) (.tmp 31) (.tmp 36) 94 99 (.agg #[(.int .i64 0), (.int .i64 0), (.int .i64 0), (.int .i64 0)]) 32 rfl Tryd.underlying94 info99 rfl (by decide) (by omega) (.slice A162_0 (rd_L7 x6_1 ((rd_T99 l1 x7_1).f0)).length c162_0) (rd_L7 x6_1 ((rd_T99 l1 x7_1).f0)) (⟨(rd_T99 l1 x7_1).f0, (rd_T99 l1 x7_1).f1, (rd_T99 l1 x7_1).f2, (rd_T99 l1 x7_1).f3⟩ : S99) [.int .i64 ((rd_T99 l1 x7_1).f0), .int .i64 ((rd_T99 l1 x7_1).f1), .int .i64 ((rd_T99 l1 x7_1).f2), .int .i64 ((rd_T99 l1 x7_1).f3)] (fun k_ => oki19 k_ ∨ ((fun _ => True)) k_ ∧ w17.heap.size ≤ k_) (fun _ => False) rfl rfl ?aP (fun _ hk => hk.elim) ?aF ?aO ?aB ?aS ?aL ?_
          (case aP => exact k99_mkM _ _ _ (⟨(rd_T99 l1 x7_1).f0, (rd_T99 l1 x7_1).f1, (rd_T99 l1 x7_1).f2, (rd_T99 l1 x7_1).f3⟩ : S99))
          (case aB => exact (zs2 GE156.out GE157.out))
          (case aF => exact (fun k_ hk => .inr ⟨trivial, hk⟩))
          (case aO => exact (by (with_reducible repeat (first | apply Kd.R_alloc | apply Kd.R_drewN | apply Kd.R_drew)); exact Kd.R_mono UU19.out (fun _ hk => .inl hk)))
          (case aS => exact (below_size (zs2 GE156.out GE157.out)))
          (case aL => have := LMc15.out; omega)
          intro v165 w20 ho hb hg hat
          (first | have HS0_ := cell_grown hg (hHeld.1) (by first | (rw [add_block]; exact (fun e_ => ((HL162_0.out.1 _ e_.symm).2) rfl)) | (show some (Addr.add _ _).block ≠ _; rw [add_block]; exact (fun e_ => ((HL162_0.out.1 _ e_.symm).2) rfl)) | exact (fun e_ => ((HL162_0.out.1 _ e_.symm).2) rfl)) | have HS0_ := cell_grown hg (cell_unalloc (hHeld.1) (by first | (rw [add_block]; exact Kd.S_lt HO_6.out _ rfl) | (show (Addr.add _ _).block < _; rw [add_block]; exact Kd.S_lt HO_6.out _ rfl) | exact Kd.S_lt HO_6.out _ rfl)) (by first | (rw [add_block]; exact (fun e_ => ((HL162_0.out.1 _ e_.symm).2) rfl)) | (show some (Addr.add _ _).block ≠ _; rw [add_block]; exact (fun e_ => ((HL162_0.out.1 _ e_.symm).2) rfl)) | exact (fun e_ => ((HL162_0.out.1 _ e_.symm).2) rfl)))
          rw [← Ny164.out] at ho
          have n0_ := zA (blk_grown (g := gb156) (o := .cells #[.int .i64 0, .slice none 0 0, .slice none 0 0, .slice none 0 0, .slice none 0 0] 28 (0, 0)) (zb BK156.out) hg (Kd.R_ne HL162_0.out BK156.out (by decide)))
          have n1_ := zA (blk_grown (g := gb157) (o := .cells #[.int .i64 a0, .slice none 0 0, .slice none 0 0, .slice none 0 0, .slice none 0 0] 28 (0, 0)) (zb BK157.out) hg (Kd.R_ne HL162_0.out BK157.out (by decide)))
          have n2_ := zA (hb)
          have n3_ := zA (Kd.H_grown (Kd.H_widen (by repeat (first | exact HH19.out | refine Kd.H_alloc ?_ _ | refine Kd.H_drewN ?_ _ | refine Kd.H_drew ?_))) hg (fun k_ e_ => .inl (UU19.out.1 k_ e_)))
          have n4_ := zA (ho)
          clear BK156
          clear BK157
          clear HB
          clear HH19
          clear HO_6
          clear UU19
          clear HL162_0
          have BK156 := n0_
          have BK157 := n1_
          have HB := n2_
          have HH19 := n3_
          have HO166 := n4_
          clear n0_ n1_ n2_ n3_ n4_
          clear ho hb hg hat
          have p16 : 0 ≤ (((rd_T99 l1 x7_1).f0) : Int) := zd
          have q16 : (((rd_T99 l1 x7_1).f0) : Int) < ((x6_1.length : Int) : Int) := zd
          replace p16 := eq_true p16
          replace q16 := eq_true q16
          obtain ⟨Ao23, co23, eo23⟩ := Kd.R_slice HO166.out
          (first | subst eo23 | (injection eo23 with f1_ f2_ f3_; have f4_ := f1_.symm; have f5_ := f3_.symm; clear f1_ f2_ f3_; subst f4_; subst f5_))
          obtain ⟨_, _, hraw21, _, _, hcc21, _⟩ := Kd.H_raw HH19.out (zd) (by have h_ : (((rd_T99 l1 x7_1).f0) : Int) < ((x6_1.length : Int) : Int) := zd; first | exact h_ | (have e_ := (HN19.out); omega) | simpa using h_)
          obtain ⟨_, hfr21⟩ := Kd.H_at HH19.out (zd) (by have h_ : (((rd_T99 l1 x7_1).f0) : Int) < ((x6_1.length : Int) : Int) := zd; first | exact h_ | (have e_ := (HN19.out); omega) | simpa using h_)
          have hx21_0 := hcc21 0 _ rfl
          have hf21_0 := hfr21 0
          (try simp only [Nat.add_zero] at hx21_0 hf21_0)
          (try rw [show ((Kd.slice 99 k99)).sz = 1 from rfl, Nat.mul_one] at hx21_0)
          (try rw [show ((Kd.slice 99 k99)).sz = 1 from rfl, Nat.mul_one] at hf21_0)
          have HP21 := Kd.S_seg0 HH19.out (zd) (by have h_ : (((rd_T99 l1 x7_1).f0) : Int) < ((x6_1.length : Int) : Int) := zd; first | exact h_ | (have e_ := (HN19.out); omega) | simpa using h_) (seg := [.slice Ao23 y164.length co23]) (j := 0) (show 1 ≤ 1 from by decide) (x' := y164) (Kd.M_row HO166.out) (fun _ hk => hk)
          (try simp only [show ((Kd.slice 99 k99)).sz = 1 from rfl, Nat.mul_one, Nat.add_zero] at HP21)
          clear hcc21 hfr21
          have HNB156_go19 := zA (show gb156 ≠ go19 from by have h_ := Kd.R_ne hraw21 BK156.out (by decide); intro e_; exact h_ (by rw [e_]; rfl))
          have HNB157_go19 := zA (show gb157 ≠ go19 from by have h_ := Kd.R_ne hraw21 BK157.out (by decide); intro e_; exact h_ (by rw [e_]; rfl))
          have HS21 := HP21.1
          rw [← Ny167.out] at HS21
          have HQ21 := zA HS21
          obtain ⟨_, hgg21⟩ := Kd.R_typed hraw21 go19 rfl
          have GG21_ := zA hgg21
          clear HP21 HS21 hgg21
          refine hK.out _ _ ⟨HS0_, ((HB.out.cell (World.block_lt_of_cell? w _ hw163_0)).trans hw163_0), ((HB.out.cell (World.block_lt_of_cell? w _ hw163_1)).trans hw163_1), ((HB.out.cell (World.block_lt_of_cell? w _ hw163_2)).trans hw163_2), ((HB.out.cell (World.block_lt_of_cell? w _ hw163_3)).trans hw163_3)⟩ (fun hHeld => ?_)
          clear hK K
          refine norm_ (a' := ?_) ?_ ?_
          rotate_left
          ·show Act.put _ (some 37) _ = _
           simp only [Act.put, List.setIfInBounds_toArray, List.set_cons_zero, List.set_cons_succ, i64_w, i32_w]
           rfl
          refine pure_ (i := 12) (N := some 38) (v := ?_) (a' := ?_) #[true, true, true, true, true, true, true, true, true, true, true, true, true, false] rfl rfl (any_of HT_.out (by kernel_rfl)) (fun _ _ _ h => h) (Or.inl ⟨by rfl, ?_⟩) ?_ ?_
          rotate_left
          ·intro w'
           go_simp
           with_reducible rfl
          rotate_left
          ·simp only [Act.put, List.setIfInBounds_toArray, List.set_cons_zero, List.set_cons_succ, i64_w, i32_w]
           rfl
          refine last_ (i := 13) (N := none) #[true, true, true, true, true, true, true, true, true, true, true, true, true, true] rfl rfl (one_of HT_.out (by kernel_rfl)) (by decide) (fun K hK => ?_)
          refine skip_ (w1 := ?_) (by rfl) rfl ?_ ?_
          rotate_left
          ·go_simp
           rfl
          refine hK.out _ _ ?_
          clear hK K
          refine done_ (done_of HT_.out (by kernel_rfl)) ?_
          try go_wp2
          go_roundg k1
          case measure => have := HK1.out; omega
          case rel => exact ⟨(y167), (wrap64 (x7_1 + 1)), zr, H', ⟨by have := HK1.out; omega⟩, ⟨by (with_reducible repeat (first | apply Kd.S_alloc | apply Kd.S_drewN | apply Kd.S_drew)); exact HQ21.out⟩, ⟨by (with_reducible repeat (first | refine blk_drewN ?_ _ | refine blk_drew ?_ | refine blk_alloc ?_ _)); refine blk_far ?_ HNB156_go19.out _; (with_reducible repeat (first | refine blk_drewN ?_ _ | refine blk_drew ?_ | refine blk_alloc ?_ _)); exact BK156.out⟩, ⟨by (with_reducible repeat (first | refine blk_drewN ?_ _ | refine blk_drew ?_ | refine blk_alloc ?_ _)); refine blk_far ?_ HNB157_go19.out _; (with_reducible repeat (first | refine blk_drewN ?_ _ | refine blk_drew ?_ | refine blk_alloc ?_ _)); exact BK157.out⟩, ⟨by repeat (first | (with_reducible first | exact HB.out | apply below_alloc | apply pw_below_drewN | apply below_drew1 | refine below_set ?_ GB19.out | refine below_set ?_ GE156.out | refine below_set ?_ GE157.out) | exact HB.out)⟩⟩
         ·rw [if_neg c15] at H
          exact absurd H (by simp)
        ·rw [if_neg c14] at H
         exact absurd H (by simp)
       ·rw [if_neg c13] at H
        exact absurd H (by simp)
      ·rw [if_neg c12] at H
       exact absurd H (by simp)
     ·rw [if_neg c11] at H
      have c11b0 : decide (x7_1 < (l1.length : Int)) = false := decide_eq_false c11
      clear c11
      have H' := zA H
      clear H
      go_wp2
      go_loopg [9] k1 (fun kq v9 w' => ∃ (x9_2 : Int) (x158001_2 : List Int) (x158002_2 : List Int) (x158003_2 : List Int) (x158004_2 : List Int) (u158001 : Value) (u158002 : Value) (u158003 : Value) (u158004 : Value), v9 = .int .i64 x9_2 ∧ Aside0 (spec_l5graph.l1 kq a0 x6_1 x9_2 a0 x158001_2 x158002_2 x158003_2 x158004_2 = some (r1, r2, r3, r4, r5)) ∧ Aside0 (kq ≤ k1) ∧ Aside0 (Kd.S (Kd.slice 99 k99) 94 w' w.heap.size (fun _ => True) v159 x6_1) ∧ Aside0 (Kd.R (Kd.int .i64) 3 w' w.heap.size (fun k_ => zO k_ (u158002) ∧ zO k_ (u158003) ∧ zO k_ (u158004)) u158001 x158001_2) ∧ Aside0 (Kd.R (Kd.int .i64) 3 w' w.heap.size (fun k_ => zO k_ (u158001) ∧ zO k_ (u158003) ∧ zO k_ (u158004)) u158002 x158002_2) ∧ Aside0 (Kd.R (Kd.int .i64) 3 w' w.heap.size (fun k_ => zO k_ (u158001) ∧ zO k_ (u158002) ∧ zO k_ (u158004)) u158003 x158003_2) ∧ Aside0 (Kd.R (Kd.int .i64) 3 w' w.heap.size (fun k_ => zO k_ (u158001) ∧ zO k_ (u158002) ∧ zO k_ (u158003)) u158004 x158004_2) ∧ Aside0 (w'.heap[gb156]? = some (.cells #[.int .i64 0, (.slice none 0 0), (.slice none 0 0), (.slice none 0 0), (.slice none 0 0)] 28 (0, 0))) ∧ Aside0 (w'.heap[gb157]? = some (.cells #[.int .i64 a0, u158001, u158002, u158003, u158004] 28 (0, 0))) ∧ Aside0 (Below w.heap.size w w'))
      case atStart => exact ⟨(0), (([] : List Int)), (([] : List Int)), (([] : List Int)), (([] : List Int)), (.slice none 0 0), (.slice none 0 0), (.slice none 0 0), (.slice none 0 0), zr, H', ⟨Nat.le_refl _⟩, ⟨zS HO_6.out⟩, ⟨by first | exact Kd.R_nil _ _ _ _ _ | exact Kd.N_nil _ _ _ _ _ | exact Kd.V_nil _ _ _ _ _ | exact Kd.Q_nil _ _ _ _ _ | exact Kd.S_nil _ _ _ _ _⟩, ⟨by first | exact Kd.R_nil _ _ _ _ _ | exact Kd.N_nil _ _ _ _ _ | exact Kd.V_nil _ _ _ _ _ | exact Kd.Q_nil _ _ _ _ _ | exact Kd.S_nil _ _ _ _ _⟩, ⟨by first | exact Kd.R_nil _ _ _ _ _ | exact Kd.N_nil _ _ _ _ _ | exact Kd.V_nil _ _ _ _ _ | exact Kd.Q_nil _ _ _ _ _ | exact Kd.S_nil _ _ _ _ _⟩, ⟨by first | exact Kd.R_nil _ _ _ _ _ | exact Kd.N_nil _ _ _ _ _ | exact Kd.V_nil _ _ _ _ _ | exact Kd.Q_nil _ _ _ _ _ | exact Kd.S_nil _ _ _ _ _⟩, ⟨zb BK156.out⟩, ⟨zb BK157.out⟩, ⟨(zs2 GE156.out GE157.out)⟩⟩
      case round =>
       clear H'
       (try clear c1); (try clear p1); (try clear q1); (try clear hx1); (try clear c2); (try clear p2); (try clear hx2); (try clear hf2); (try clear c3); (try clear c3b0); (try clear c3b1); (try clear c4); (try clear c4b0); (try clear c4b1); (try clear p6); (try clear c7); (try clear c11); (try clear c11b0); (try clear c12); (try clear c12b0); (try clear c13); (try clear c13b0); (try clear c14); (try clear c14b0); (try clear c15); (try clear c16); (try clear p16); (try clear q16); (try clear hx16); (try clear c19); (try clear c21); (try clear hx21); (try clear hf21); (try clear hcz8_0 hcz8_1 hcz8_2 hcz8_3 hcz8_4); (try clear hfz8_0 hfz8_1 hfz8_2 hfz8_3 hfz8_4); (try clear hx161_0); (try clear hx161_1); (try clear hx161_2); (try clear hx161_3); (try clear hx162_0); (try clear hx163_0); (try clear hx163_1); (try clear hx163_2); (try clear hx163_3); (try clear hx21_0); (try clear p16); (try clear p161); (try clear p162); (try clear p163); (try clear p2); (try clear q16); (try clear q161); (try clear q162); (try clear q163)
       obtain ⟨x9_2, x158001_2, x158002_2, x158003_2, x158004_2, u158001, u158002, u158003, u158004, rfl, HA, HK2, HO_6, HO_158001, HO_158002, HO_158003, HO_158004, BK156, BK157, HB⟩ := hrel
       cases gk with
       | zero => exact absurd HA.out (by simp [spec_l5graph.l1])
       | succ k2 =>
        have H := HA.out
        clear HA
        simp only [spec_l5graph.l1] at H
        by_cases c24 : x9_2 < a0
        ·rw [if_pos c24] at H
         have c24b0 : decide (x9_2 < a0) = true := decide_eq_true c24
         clear c24
         by_cases c25 : x158001_2.length < 17592186044416
         ·rw [if_pos c25] at H
          have LMc25 := zA c25
          clear c25
          obtain ⟨y171, hy171⟩ : ∃ y_ : List Int, y_ = (x158001_2 ++ [(x158002_2.length : Int)]) := ⟨_, rfl⟩
          replace H : (spec_l5graph.l2 k2 a0 x6_1 x9_2 0 a0 y171 x158002_2 x158003_2 x158004_2) = some (r1, r2, r3, r4, r5) := zh hy171
          have Ny171 := zA hy171
          clear hy171
          have H' := zA H
          clear H
          have hnb26 := NB157_156.out
          have hnc26 := NB156_157.out
          obtain ⟨hcz27_0, hcz27_1, hcz27_2, hcz27_3, hcz27_4, hfz27_0, hfz27_1, hfz27_2, hfz27_3, hfz27_4⟩ := zh5 BK157.out
          obtain ⟨Ao28, co28, eo28⟩ := Kd.R_slice HO_158002.out
          subst eo28
          go_wp2_with (first | ((with_reducible refine gate_builtin (b := .append) (xs := #[.tmp 45, .tmp 49]) rfl ?_); at_builtin; refine Kd.R_append (Kd.int .i64) (w0 := w) w.heap.size rfl (.tmp 45) (.tmp 49) 22 3 (.int .i64 0) 8 rfl Tryd.underlying22 info3 rfl (by decide) (by omega) u158001 x158001_2 (x158002_2.length : Int) [.int .i64 (x158002_2.length : Int)] (fun k_ => zO k_ (.slice Ao28 x158002_2.length co28) ∧ zO k_ (u158003) ∧ zO k_ (u158004)) (fun _ => False) rfl rfl ?aP (fun _ hk => hk.elim) ?aF ?aO ?aB ?aS ?aL ?_; (case aP => exact rfl); (case aB => exact (zs2 GE156.out GE157.out)); (case aF => exact (fun k_ hk => ⟨Kd.fresh' (zl HO_158002.out) k_ hk, Kd.fresh' (zl HO_158003.out) k_ hk, Kd.fresh' (zl HO_158004.out) k_ hk⟩)); (case aO => exact (zR HO_158001.out)); (case aS => exact (below_size (zs2 GE156.out GE157.out))); (case aL => have := LMc25.out; omega); intro v172 w29 ho hb hg hat; rw [← Ny171.out] at ho; have n0_ := zA (Kd.S_over' (zS HO_6.out) (Kd.R_typed (zR HO_158001.out)) (by decide) hg); have n1_ := zA (Kd.R_after (ok := (fun k_ => zO k_ (u158003) ∧ zO k_ (u158004))) (by (with_reducible repeat (first | apply Kd.R_alloc | apply Kd.R_drewN | apply Kd.R_drew)); exact Kd.R_mono HO_158002.out (fun _ hk => ⟨⟨hk.2.1, hk.2.2⟩, hk.1⟩)) hg hat); have n2_ := zA (Kd.R_after (ok := (fun k_ => zO k_ (.slice Ao28 x158002_2.length co28) ∧ zO k_ (u158004))) (by (with_reducible repeat (first | apply Kd.R_alloc | apply Kd.R_drewN | apply Kd.R_drew)); exact Kd.R_mono HO_158003.out (fun _ hk => ⟨⟨hk.2.1, hk.2.2⟩, hk.1⟩)) hg hat); have n3_ := zA (Kd.R_after (ok := (fun k_ => zO k_ (.slice Ao28 x158002_2.length co28) ∧ zO k_ (u158003))) (by (with_reducible repeat (first | apply Kd.R_alloc | apply Kd.R_drewN | apply Kd.R_drew)); exact Kd.R_mono HO_158004.out (fun _ hk => ⟨⟨hk.2.1, hk.2.2⟩, hk.1⟩)) hg hat); have n4_ := zA (blk_grown (g := gb156) (o := .cells #[.int .i64 0, .slice none 0 0, .slice none 0 0, .slice none 0 0, .slice none 0 0] 28 (0, 0)) (zb BK156.out) hg (Kd.R_ne HO_158001.out BK156.out (by decide))); have n5_ := zA (blk_grown (g := gb157) (o := .cells #[.int .i64 a0, u158001, .slice Ao28 x158002_2.length co28, u158003, u158004] 28 (0, 0)) (zb BK157.out) hg (Kd.R_ne HO_158001.out BK157.out (by decide))); have n6_ := zA (hb); have n7_ := zA (ho); clear HO_6 HO_158002 HO_158003 HO_158004 BK156 BK157 HB HO_158001; have HO_6 := n0_; have HO_158002 := n1_; have HO_158003 := n2_; have HO_158004 := n3_; have BK156 := n4_; have BK157 := n5_; have HB := n6_; have HO173 := n7_; clear n0_ n1_ n2_ n3_ n4_ n5_ n6_ n7_; clear ho hb hg hat; obtain ⟨Ao30, co30, eo30⟩ := Kd.R_slice HO173.out; subst eo30; obtain ⟨hcz31_0, hcz31_1, hcz31_2, hcz31_3, hcz31_4, hfz31_0, hfz31_1, hfz31_2, hfz31_3, hfz31_4⟩ := zh5 BK157.out))
          go_loopg [10] k2 (fun kq v10 w' => ∃ (x10_3 : Int) (x158002_3 : List Int) (x158003_3 : List Int) (x158004_3 : List Int) (u158002 : Value) (u158003 : Value) (u158004 : Value), v10 = .int .i64 x10_3 ∧ Aside0 (spec_l5graph.l2 kq a0 x6_1 x9_2 x10_3 a0 y171 x158002_3 x158003_3 x158004_3 = some (r1, r2, r3, r4, r5)) ∧ Aside0 (kq ≤ k2) ∧ Aside0 (Kd.S (Kd.slice 99 k99) 94 w' w.heap.size (fun _ => True) v159 x6_1) ∧ Aside0 (Kd.R (Kd.int .i64) 3 w' w.heap.size (fun k_ => zO k_ (u158002) ∧ zO k_ (u158003) ∧ zO k_ (u158004)) (.slice Ao30 y171.length co30) y171) ∧ Aside0 (Kd.R (Kd.int .i64) 3 w' w.heap.size (fun k_ => zO k_ ((.slice Ao30 y171.length co30)) ∧ zO k_ (u158003) ∧ zO k_ (u158004)) u158002 x158002_3) ∧ Aside0 (Kd.R (Kd.int .i64) 3 w' w.heap.size (fun k_ => zO k_ ((.slice Ao30 y171.length co30)) ∧ zO k_ (u158002) ∧ zO k_ (u158004)) u158003 x158003_3) ∧ Aside0 (Kd.R (Kd.int .i64) 3 w' w.heap.size (fun k_ => zO k_ ((.slice Ao30 y171.length co30)) ∧ zO k_ (u158002) ∧ zO k_ (u158003)) u158004 x158004_3) ∧ Aside0 (w'.heap[gb156]? = some (.cells #[.int .i64 0, (.slice none 0 0), (.slice none 0 0), (.slice none 0 0), (.slice none 0 0)] 28 (0, 0))) ∧ Aside0 (w'.heap[gb157]? = some (.cells #[.int .i64 a0, (.slice Ao30 y171.length co30), u158002, u158003, u158004] 28 (0, 0))) ∧ Aside0 (Below w.heap.size w w'))
          case atStart => exact ⟨(0), (x158002_2), (x158003_2), (x158004_2), (.slice Ao28 x158002_2.length co28), (u158003), (u158004), zr, H', ⟨Nat.le_refl _⟩, ⟨by (with_reducible repeat (first | apply Kd.S_alloc | apply Kd.S_drewN | apply Kd.S_drew)); exact Kd.S_mono (Kd.S_far (p := ⟨gb157, 1, none⟩) (Kd.S_types HO_6.out BK157.out (by decide)) (fun _ hk => hk.2) (.slice Ao30 y171.length co30)) (fun _ hk => trivial)⟩, ⟨by (with_reducible repeat (first | apply Kd.R_alloc | apply Kd.R_drewN | apply Kd.R_drew)); exact Kd.R_mono (zK HO173.out BK157.out) (fun _ hk => ⟨hk.1, ⟨hk.2.1, hk.2.2⟩⟩)⟩, ⟨by (with_reducible repeat (first | apply Kd.R_alloc | apply Kd.R_drewN | apply Kd.R_drew)); exact Kd.R_mono (zK HO_158002.out BK157.out) (fun _ hk => ⟨hk.2, ⟨hk.1.1, hk.1.2⟩⟩)⟩, ⟨by (with_reducible repeat (first | apply Kd.R_alloc | apply Kd.R_drewN | apply Kd.R_drew)); exact Kd.R_mono (zK HO_158003.out BK157.out) (fun _ hk => ⟨hk.2, ⟨hk.1.1, hk.1.2⟩⟩)⟩, ⟨by (with_reducible repeat (first | apply Kd.R_alloc | apply Kd.R_drewN | apply Kd.R_drew)); exact Kd.R_mono (zK HO_158004.out BK157.out) (fun _ hk => ⟨hk.2, ⟨hk.1.1, hk.1.2⟩⟩)⟩, ⟨by (with_reducible repeat (first | refine blk_drewN ?_ _ | refine blk_drew ?_ | refine blk_alloc ?_ _)); refine blk_far ?_ NB156_157.out _; (with_reducible repeat (first | refine blk_drewN ?_ _ | refine blk_drew ?_ | refine blk_alloc ?_ _)); exact BK156.out⟩, ⟨by (with_reducible repeat (first | refine blk_drewN ?_ _ | refine blk_drew ?_ | refine blk_alloc ?_ _)); refine blk_put (cs := #[.int .i64 a0, u158001, .slice Ao28 x158002_2.length co28, u158003, u158004]) ?_ 1 _ rfl; (with_reducible repeat (first | refine blk_drewN ?_ _ | refine blk_drew ?_ | refine blk_alloc ?_ _)); exact BK157.out⟩, ⟨(zs2 GE156.out GE157.out)⟩⟩
          case round =>
           clear H'
           (try clear c1); (try clear p1); (try clear q1); (try clear hx1); (try clear c2); (try clear p2); (try clear hx2); (try clear hf2); (try clear c3); (try clear c3b0); (try clear c3b1); (try clear c4); (try clear c4b0); (try clear c4b1); (try clear p6); (try clear c7); (try clear c11); (try clear c11b0); (try clear c12); (try clear c12b0); (try clear c13); (try clear c13b0); (try clear c14); (try clear c14b0); (try clear c15); (try clear c16); (try clear p16); (try clear q16); (try clear hx16); (try clear c19); (try clear c21); (try clear hx21); (try clear hf21); (try clear c24); (try clear c24b0); (try clear c25); (try clear c26); (try clear hcz27_0 hcz27_1 hcz27_2 hcz27_3 hcz27_4); (try clear hcz31_0 hcz31_1 hcz31_2 hcz31_3 hcz31_4); (try clear hcz8_0 hcz8_1 hcz8_2 hcz8_3 hcz8_4); (try clear hfz27_0 hfz27_1 hfz27_2 hfz27_3 hfz27_4); (try clear hfz31_0 hfz31_1 hfz31_2 hfz31_3 hfz31_4); (try clear hfz8_0 hfz8_1 hfz8_2 hfz8_3 hfz8_4); (try clear hx161_0); (try clear hx161_1); (try clear hx161_2); (try clear hx161_3); (try clear hx162_0); (try clear hx163_0); (try clear hx163_1); (try clear hx163_2); (try clear hx163_3); (try clear hx21_0); (try clear p1); (try clear p16); (try clear p161); (try clear p162); (try clear p163); (try clear p2); (try clear p6); (try clear q1); (try clear q16); (try clear q161); (try clear q162); (try clear q163)
           obtain ⟨x10_3, x158002_3, x158003_3, x158004_3, u158002, u158003, u158004, rfl, HA, HK3, HO_6, HO_158001, HO_158002, HO_158003, HO_158004, BK156, BK157, HB⟩ := hrel
           cases gk with
           | zero => exact absurd HA.out (by simp [spec_l5graph.l2])
           | succ k3 =>
            have H := HA.out
            clear HA
            simp only [spec_l5graph.l2] at H
            by_cases c32 : 0 ≤ x9_2
            ·rw [if_pos c32] at H
             have c32b0 : decide (0 ≤ x9_2) = true := decide_eq_true c32
             clear c32
             by_cases c33 : x9_2 < (x6_1.length : Int)
             ·rw [if_pos c33] at H
              have c33b0 : decide (x9_2 < (x6_1.length : Int)) = true := decide_eq_true c33
              clear c33
              by_cases c34 : x10_3 < ((rd_L7 x6_1 x9_2).length : Int)
              ·rw [if_pos c34] at H
               have c34b0 : decide (x10_3 < ((rd_L7 x6_1 x9_2).length : Int)) = true := decide_eq_true c34
               clear c34
               by_cases c35 : 0 ≤ x10_3
               ·rw [if_pos c35] at H
                have c35b0 : decide (0 ≤ x10_3) = true := decide_eq_true c35
                clear c35
                by_cases c36 : x158002_3.length < 17592186044416
                ·rw [if_pos c36] at H
                 have LMc36 := zA c36
                 clear c36
                 obtain ⟨y177, hy177⟩ : ∃ y_ : List Int, y_ = (x158002_3 ++ [(rd_T99 (rd_L7 x6_1 x9_2) x10_3).f1]) := ⟨_, rfl⟩
                 replace H : (if x158003_3.length < 17592186044416 then (if x158004_3.length < 17592186044416 then (spec_l5graph.l2 k3 a0 x6_1 x9_2 (wrap64 (x10_3 + 1)) a0 y171 y177 (x158003_3 ++ [(rd_T99 (rd_L7 x6_1 x9_2) x10_3).f2]) (x158004_3 ++ [(rd_T99 (rd_L7 x6_1 x9_2) x10_3).f3])) else (none)) else (none)) = some (r1, r2, r3, r4, r5) := zh hy177
                 have Ny177 := zA hy177
                 clear hy177
                 by_cases c37 : x158003_3.length < 17592186044416
                 ·rw [if_pos c37] at H
                  have LMc37 := zA c37
                  clear c37
                  obtain ⟨y182, hy182⟩ : ∃ y_ : List Int, y_ = (x158003_3 ++ [(rd_T99 (rd_L7 x6_1 x9_2) x10_3).f2]) := ⟨_, rfl⟩
                  replace H : (if x158004_3.length < 17592186044416 then (spec_l5graph.l2 k3 a0 x6_1 x9_2 (wrap64 (x10_3 + 1)) a0 y171 y177 y182 (x158004_3 ++ [(rd_T99 (rd_L7 x6_1 x9_2) x10_3).f3])) else (none)) = some (r1, r2, r3, r4, r5) := zh hy182
                  have Ny182 := zA hy182
                  clear hy182
                  by_cases c38 : x158004_3.length < 17592186044416
                  ·rw [if_pos c38] at H
                   have LMc38 := zA c38
                   clear c38
                   obtain ⟨y187, hy187⟩ : ∃ y_ : List Int, y_ = (x158004_3 ++ [(rd_T99 (rd_L7 x6_1 x9_2) x10_3).f3]) := ⟨_, rfl⟩
                   replace H : (spec_l5graph.l2 k3 a0 x6_1 x9_2 (wrap64 (x10_3 + 1)) a0 y171 y177 y182 y187) = some (r1, r2, r3, r4, r5) := zh hy187
                   have Ny187 := zA hy187
                   clear hy187
                   have H' := zA H
                   clear H
                   obtain ⟨Ao39, co39, eo39⟩ := Kd.S_slice HO_6.out
                   subst eo39
                   have p174 : 0 ≤ (x9_2 : Int) := zd
                   have q174 : x9_2 < (x6_1.length : Int) := zd
                   obtain ⟨ad174, A174_0, c174_0, e174, hx174_0, hl174_0, hi174_0⟩ := at_L7 (Kd.S_reads' HO_6.out).2.2 x9_2 p174 q174
                   cases e174
                   obtain ⟨ce174, hce174, hMe174, hcc174⟩ := Kd.S_get HO_6.out [] x9_2 p174 (by first | exact q174 | exact zd | (have e_ := (Kd.S_reads' HO_6.out).1; omega))
                   obtain ⟨ve174_0, rfl, ge174_0⟩ := hMe174
                   have hv174_0 := hcc174 0 _ rfl
                   rw [Nat.add_zero, show ((Kd.slice 99 k99)).sz = 1 from rfl, Nat.mul_one] at hv174_0
                   replace hv174_0 := Option.some.inj (hv174_0.symm.trans hx174_0)
                   rw [hv174_0] at ge174_0
                   have HL174_0 := zA (show Kd.R k99 99 _ _ _ _ (rd_L7 x6_1 x9_2) from ge174_0)
                   clear hv174_0 ge174_0
                   have HX174_0 := zA hx174_0
                   clear hcc174 hce174
                   have HR174_0 := zA hi174_0
                   have HC174_0 := zA hl174_0
                   clear hi174_0 hl174_0
                   replace p174 := eq_true p174
                   replace q174 := eq_true q174
                   try go_wp2
                   have n0_ := zA (Kd.S_drew HO_6.out)
                   have n1_ := zA (Kd.R_drew HO_158001.out)
                   have n2_ := zA (Kd.R_drew HO_158002.out)
                   have n3_ := zA (Kd.R_drew HO_158003.out)
                   have n4_ := zA (Kd.R_drew HO_158004.out)
                   have n5_ := zA (Kd.R_drew HL174_0.out)
                   have n6_ := zA (blk_drew BK156.out)
                   have n7_ := zA (blk_drew BK157.out)
                   have n8_ := zA (Kd.C_drew HR174_0.out)
                   have n9_ := zA (below_drew1 HB.out)
                   clear HO_6
                   clear HO_158001
                   clear HO_158002
                   clear HO_158003
                   clear HO_158004
                   clear HL174_0
                   clear BK156
                   clear BK157
                   clear HR174_0
                   clear HB
                   have HO_6 := n0_
                   have HO_158001 := n1_
                   have HO_158002 := n2_
                   have HO_158003 := n3_
                   have HO_158004 := n4_
                   have HL174_0 := n5_
                   have BK156 := n6_
                   have BK157 := n7_
                   have HR174_0 := n8_
                   have HB := n9_
                   clear n0_ n1_ n2_ n3_ n4_ n5_ n6_ n7_ n8_ n9_
                   have p175 : 0 ≤ (x9_2 : Int) := zd
                   have q175 : x9_2 < (x6_1.length : Int) := zd
                   obtain ⟨ad175, A175_0, c175_0, e175, hx175_0, hl175_0, hi175_0⟩ := at_L7 (Kd.S_reads' HO_6.out).2.2 x9_2 p175 q175
                   obtain rfl : ad174 = ad175 := (by injection e175)
                   obtain ⟨ce175, hce175, hMe175, hcc175⟩ := Kd.S_get HO_6.out [] x9_2 p175 (by first | exact q175 | exact zd | (have e_ := (Kd.S_reads' HO_6.out).1; omega))
                   obtain ⟨ve175_0, rfl, ge175_0⟩ := hMe175
                   have hv175_0 := hcc175 0 _ rfl
                   rw [Nat.add_zero, show ((Kd.slice 99 k99)).sz = 1 from rfl, Nat.mul_one] at hv175_0
                   replace hv175_0 := Option.some.inj (hv175_0.symm.trans hx175_0)
                   rw [hv175_0] at ge175_0
                   have HL175_0 := zA (show Kd.R k99 99 _ _ _ _ (rd_L7 x6_1 x9_2) from ge175_0)
                   clear hv175_0 ge175_0
                   have HX175_0 := zA hx175_0
                   clear hcc175 hce175
                   have HR175_0 := zA hi175_0
                   have HC175_0 := zA hl175_0
                   clear hi175_0 hl175_0
                   replace p175 := eq_true p175
                   replace q175 := eq_true q175
                   have p176 : 0 ≤ (x10_3 : Int) := zd
                   have q176 : x10_3 < ((rd_L7 x6_1 x9_2).length : Int) := zd
                   obtain ⟨ad176, e176, hx176_0, hx176_1, hx176_2, hx176_3⟩ := at_T99 (by repeat (first | (with_reducible exact HR175_0.out) | (with_reducible refine Kd.C_alloc ?_ _) | (with_reducible refine Kd.C_drewN ?_ _) | (with_reducible refine Kd.C_drew ?_) | exact HR175_0.out)) x10_3 p176 q176
                   cases e176
                   replace p176 := eq_true p176
                   replace q176 := eq_true q176
                   refine start_ (n := 14) (S := fun w' => w'.cell? ⟨gb157, 0, none⟩ = some (.int .i64 a0) ∧ w'.cell? ⟨gb157, 1, none⟩ = some (.slice Ao30 y171.length co30) ∧ w'.cell? ⟨gb157, 2, none⟩ = some (u158002) ∧ w'.cell? ⟨gb157, 3, none⟩ = some (u158003) ∧ w'.cell? ⟨gb157, 4, none⟩ = some (u158004) ∧ w'.cell? (ad174.add (x9_2).toNat) = some (.slice (some ad176) (rd_L7 x6_1 x9_2).length c175_0) ∧ w'.cell? (ad176.add ((x10_3).toNat * 4)) = some (.int .i64 ((rd_T99 (rd_L7 x6_1 x9_2) x10_3).f0)) ∧ w'.cell? ⟨(ad176.add ((x10_3).toNat * 4)).block, (ad176.add ((x10_3).toNat * 4)).off + 1, none⟩ = some (.int .i64 ((rd_T99 (rd_L7 x6_1 x9_2) x10_3).f1)) ∧ w'.cell? ⟨(ad176.add ((x10_3).toNat * 4)).block, (ad176.add ((x10_3).toNat * 4)).off + 2, none⟩ = some (.int .i64 ((rd_T99 (rd_L7 x6_1 x9_2) x10_3).f2)) ∧ w'.cell? ⟨(ad176.add ((x10_3).toNat * 4)).block, (ad176.add ((x10_3).toNat * 4)).off + 3, none⟩ = some (.int .i64 ((rd_T99 (rd_L7 x6_1 x9_2) x10_3).f3))) (ds := [11, 13]) #[false, false, false, false, false, false, false, false, false, false, false, false, false, false] (by kernel_rfl) rfl rfl ⟨(blk_cell BK157.out 0).trans rfl, (blk_cell BK157.out 1).trans rfl, (blk_cell BK157.out 2).trans rfl, (blk_cell BK157.out 3).trans rfl, (blk_cell BK157.out 4).trans rfl, hx175_0, hx176_0, hx176_1, hx176_2, hx176_3⟩ (fun hHeld => ?_); refine with_tabW spec_l5graph.tab15 spec_l5graph.bits15 (fun HT_ HW_ => ?_)
                   generalize wr.drew = w40 at HO_6 HO_158001 HO_158002 HO_158003 HO_158004 HL174_0 BK156 BK157 HR174_0 HB HL175_0 HR175_0 HX175_0 hx175_0 hx176_0 hx176_1 hx176_2 hx176_3 hHeld ⊢
                   refine pure_ (i := 0) (N := some 61) (v := ?_) (a' := ?_) #[true, false, false, false, false, false, false, false, false, false, false, false, false, false] rfl rfl (any_of HT_.out (by kernel_rfl)) (fun _ _ _ h => h) (Or.inl ⟨by rfl, ?_⟩) ?_ ?_
                   rotate_left
                   ·intro w'
                    go_simp
                    with_reducible rfl
                   rotate_left
                   ·simp only [Act.put, List.setIfInBounds_toArray, List.set_cons_zero, List.set_cons_succ, i64_w, i32_w]
                    rfl
                   refine pure_ (i := 2) (N := some 63) (v := ?_) (a' := ?_) #[true, false, true, false, false, false, false, false, false, false, false, false, false, false] rfl rfl (any_of HT_.out (by kernel_rfl)) (fun _ _ _ h => h) (Or.inl ⟨by rfl, ?_⟩) ?_ ?_
                   rotate_left
                   ·intro w'
                    go_simp
                    with_reducible rfl
                   rotate_left
                   ·simp only [Act.put, List.setIfInBounds_toArray, List.set_cons_zero, List.set_cons_succ, i64_w, i32_w]
                    rfl
                   refine pure_ (i := 3) (N := some 64) (v := ?_) (a' := ?_) #[true, false, true, true, false, false, false, false, false, false, false, false, false, false] rfl rfl (any_of HT_.out (by kernel_rfl)) (fun _ _ _ h => h) (Or.inl ⟨by rfl, ?_⟩) ?_ ?_
                   rotate_left
                   ·intro w'
                    go_simp
                    with_reducible rfl
                   rotate_left
                   ·simp only [Act.put, List.setIfInBounds_toArray, List.set_cons_zero, List.set_cons_succ, i64_w, i32_w]
                    rfl
                   refine pure_ (i := 4) (N := some 65) (v := ?_) (a' := ?_) #[true, false, true, true, true, false, false, false, false, false, false, false, false, false] rfl rfl (any_of HT_.out (by kernel_rfl)) (fun _ _ _ h => h) (Or.inl ⟨by rfl, ?_⟩) ?_ ?_
                   rotate_left
                   ·intro w'
                    go_simp
                    with_reducible rfl
                   rotate_left
                   ·simp only [Act.put, List.setIfInBounds_toArray, List.set_cons_zero, List.set_cons_succ, i64_w, i32_w]
                    rfl
                   refine pure_ (i := 6) (N := some 67) (v := ?_) (a' := ?_) #[true, false, true, true, true, false, true, false, false, false, false, false, false, false] rfl rfl (any_of HT_.out (by kernel_rfl)) (fun _ _ _ h => h) (Or.inl ⟨by rfl, ?_⟩) ?_ ?_
                   rotate_left
                   ·intro w'
                    go_simp
                    with_reducible rfl
                   rotate_left
                   ·simp only [Act.put, List.setIfInBounds_toArray, List.set_cons_zero, List.set_cons_succ, i64_w, i32_w]
                    rfl
                   refine take_ (i := 1) (N := some 62) (v := ?_) (a' := ?_) #[true, true, true, true, true, false, true, false, false, false, false, false, false, false] rfl rfl (take_ofW HT_.out HW_.out (by kernel_rfl)) (fun _ _ _ h => h) (Or.inl ⟨by rfl, ?_⟩) hHeld ?_ ?_
                   rotate_left
                   ·rintro w' ⟨s0, s1, s2, s3, s4, s5, s6, s7, s8, s9⟩
                    go_simp
                    with_reducible rfl
                   rotate_left
                   ·simp only [Act.put, List.setIfInBounds_toArray, List.set_cons_zero, List.set_cons_succ, i64_w, i32_w]
                    rfl
                   refine take_ (i := 5) (N := some 66) (v := ?_) (a' := ?_) #[true, true, true, true, true, true, true, false, false, false, false, false, false, false] rfl rfl (take_ofW HT_.out HW_.out (by kernel_rfl)) (fun _ _ _ h => h) (Or.inl ⟨by rfl, ?_⟩) hHeld ?_ ?_
                   rotate_left
                   ·rintro w' ⟨s0, s1, s2, s3, s4, s5, s6, s7, s8, s9⟩
                    go_simp
                    with_reducible rfl
                   rotate_left
                   ·simp only [Act.put, List.setIfInBounds_toArray, List.set_cons_zero, List.set_cons_succ, i64_w, i32_w]
                    rfl
                   refine pure_ (i := 7) (N := some 68) (v := ?_) (a' := ?_) #[true, true, true, true, true, true, true, true, false, false, false, false, false, false] rfl rfl (any_of HT_.out (by kernel_rfl)) (fun _ _ _ h => h) (Or.inl ⟨by rfl, ?_⟩) ?_ ?_
                   rotate_left
                   ·intro w'
                    go_simp
                    with_reducible rfl
                   rotate_left
                   ·simp only [Act.put, List.setIfInBounds_toArray, List.set_cons_zero, List.set_cons_succ, i64_w, i32_w]
                    rfl
                   refine pure_ (i := 8) (N := some 69) (v := ?_) (a' := ?_) #[true, true, true, true, true, true, true, true, true, false, false, false, false, false] rfl rfl (any_of HT_.out (by kernel_rfl)) (fun _ _ _ h => h) (Or.inl ⟨by rfl, ?_⟩) ?_ ?_
                   rotate_left
                   ·intro w'
                    go_simp
                    with_reducible rfl
                   rotate_left
                   ·simp only [Act.put, List.setIfInBounds_toArray, List.set_cons_zero, List.set_cons_succ, i64_w, i32_w]
                    rfl
                   refine take_ (i := 9) (N := some 70) (v := ?_) (a' := ?_) #[true, true, true, true, true, true, true, true, true, true, false, false, false, false] rfl rfl (take_ofW HT_.out HW_.out (by kernel_rfl)) (fun _ _ _ h => h) (Or.inl ⟨by rfl, ?_⟩) hHeld ?_ ?_
                   rotate_left
                   ·rintro w' ⟨s0, s1, s2, s3, s4, s5, s6, s7, s8, s9⟩
                    go_simp
                    with_reducible rfl
                   rotate_left
                   ·simp only [Act.put, List.setIfInBounds_toArray, List.set_cons_zero, List.set_cons_succ, i64_w, i32_w]
                    rfl
                   refine one_ (i := 10) (N := some 71) #[true, true, true, true, true, true, true, true, true, true, true, false, false, false] rfl rfl (one_of HT_.out (by kernel_rfl)) (by decide) (fun K hK => ?_)
                   refine value_ (w1 := ?_) (v := ?_) (by rfl) rfl ?_ ?_
                   rotate_left 2
                   ·go_simp
                    constructor
                    ·rfl
                    ·rfl
                   refine hK.out _ _ ⟨(blk_cell (blk_alloc BK157.out _) 0).trans rfl, (blk_cell (blk_alloc BK157.out _) 1).trans rfl, (blk_cell (blk_alloc BK157.out _) 2).trans rfl, (blk_cell (blk_alloc BK157.out _) 3).trans rfl, (blk_cell (blk_alloc BK157.out _) 4).trans rfl, (World.cell?_alloc_lt _ _ _ (World.block_lt_of_cell? _ _ (hHeld.2.2.2.2.2.1))).trans (hHeld.2.2.2.2.2.1), (World.cell?_alloc_lt _ _ _ (World.block_lt_of_cell? _ _ (hHeld.2.2.2.2.2.2.1))).trans (hHeld.2.2.2.2.2.2.1), (World.cell?_alloc_lt _ _ _ (World.block_lt_of_cell? _ _ (hHeld.2.2.2.2.2.2.2.1))).trans (hHeld.2.2.2.2.2.2.2.1), (World.cell?_alloc_lt _ _ _ (World.block_lt_of_cell? _ _ (hHeld.2.2.2.2.2.2.2.2.1))).trans (hHeld.2.2.2.2.2.2.2.2.1), (World.cell?_alloc_lt _ _ _ (World.block_lt_of_cell? _ _ (hHeld.2.2.2.2.2.2.2.2.2))).trans (hHeld.2.2.2.2.2.2.2.2.2)⟩ (fun hHeld => ?_)
                   clear hK K
                   refine norm_ (a' := ?_) ?_ ?_
                   rotate_left
                   ·show Act.put _ (some 71) _ = _
                    simp only [Act.put, List.setIfInBounds_toArray, List.set_cons_zero, List.set_cons_succ, i64_w, i32_w]
                    rfl
                   refine last_ (i := 11) (N := some 72) #[true, true, true, true, true, true, true, true, true, true, true, true, false, false] rfl rfl (one_of HT_.out (by kernel_rfl)) (by decide) (fun K hK => ?_)
                   refine Kd.R_append_step (Kd.int .i64) (w0 := w) w.heap.size (by rfl) (.tmp 62) (.tmp 71) 22 3 (.int .i64 0) 8 rfl Tryd.underlying22 info3 rfl (by decide) (by omega) u158002 x158002_3 ((rd_T99 (rd_L7 x6_1 x9_2) x10_3).f1) [.int .i64 ((rd_T99 (rd_L7 x6_1 x9_2) x10_3).f1)] (fun k_ => zO k_ (.slice Ao30 y171.length co30) ∧ zO k_ (u158003) ∧ zO k_ (u158004)) (fun _ => False) rfl rfl ?aP (fun _ hk => hk.elim) ?aF ?aO ?aB ?aS ?aL ?_
                   (case aP => exact rfl)
                   (case aB => exact (zs2 GE156.out GE157.out))
                   (case aF => exact (fun k_ hk => ⟨Kd.fresh' (zl HO_158001.out) k_ hk, Kd.fresh' (zl HO_158003.out) k_ hk, Kd.fresh' (zl HO_158004.out) k_ hk⟩))
                   (case aO => exact (zR HO_158002.out))
                   (case aS => exact (below_size (zs2 GE156.out GE157.out)))
                   (case aL => have := LMc36.out; omega)
                   intro v178 w41 ho hb hg hat
                   rw [← Ny177.out] at ho
                   have n0_ := zA (Kd.S_over' (zS HO_6.out) (Kd.R_typed (zR HO_158002.out)) (by decide) hg)
                   have n1_ := zA (Kd.R_after (ok := (fun k_ => zO k_ (u158003) ∧ zO k_ (u158004))) (by (with_reducible repeat (first | apply Kd.R_alloc | apply Kd.R_drewN | apply Kd.R_drew)); exact Kd.R_mono HO_158001.out (fun _ hk => ⟨⟨hk.2.1, hk.2.2⟩, hk.1⟩)) hg hat)
                   have n2_ := zA (Kd.R_after (ok := (fun k_ => zO k_ (.slice Ao30 y171.length co30) ∧ zO k_ (u158004))) (by (with_reducible repeat (first | apply Kd.R_alloc | apply Kd.R_drewN | apply Kd.R_drew)); exact Kd.R_mono HO_158003.out (fun _ hk => ⟨⟨hk.1, hk.2.2⟩, hk.2.1⟩)) hg hat)
                   have n3_ := zA (Kd.R_after (ok := (fun k_ => zO k_ (.slice Ao30 y171.length co30) ∧ zO k_ (u158003))) (by (with_reducible repeat (first | apply Kd.R_alloc | apply Kd.R_drewN | apply Kd.R_drew)); exact Kd.R_mono HO_158004.out (fun _ hk => ⟨⟨hk.1, hk.2.2⟩, hk.2.1⟩)) hg hat)
                   have n4_ := zA (blk_grown (g := gb156) (o := .cells #[.int .i64 0, .slice none 0 0, .slice none 0 0, .slice none 0 0, .slice none 0 0] 28 (0, 0)) (zb BK156.out) hg (Kd.R_ne HO_158002.out BK156.out (by decide)))
                   have n5_ := zA (blk_grown (g := gb157) (o := .cells #[.int .i64 a0, .slice Ao30 y171.length co30, u158002, u158003, u158004] 28 (0, 0)) (zb BK157.out) hg (Kd.R_ne HO_158002.out BK157.out (by decide)))
                   have n6_ := zA (Kd.R_over' (by (with_reducible repeat (first | apply Kd.R_alloc | apply Kd.R_drewN | apply Kd.R_drew)); exact HL174_0.out) (Kd.R_typed (zR HO_158002.out)) (by decide) hg)
                   have n7_ := zA (Kd.R_over' (by (with_reducible repeat (first | apply Kd.R_alloc | apply Kd.R_drewN | apply Kd.R_drew)); exact HL175_0.out) (Kd.R_typed (zR HO_158002.out)) (by decide) hg)
                   have n8_ := zA (hb)
                   have n9_ := zA (ho)
                   clear HO_6
                   clear HO_158001
                   clear HO_158003
                   clear HO_158004
                   clear BK156
                   clear BK157
                   clear HL174_0
                   clear HL175_0
                   clear HB
                   clear HO_158002
                   have HO_6 := n0_
                   have HO_158001 := n1_
                   have HO_158003 := n2_
                   have HO_158004 := n3_
                   have BK156 := n4_
                   have BK157 := n5_
                   have HL174_0 := n6_
                   have HL175_0 := n7_
                   have HB := n8_
                   have HO179 := n9_
                   clear n0_ n1_ n2_ n3_ n4_ n5_ n6_ n7_ n8_ n9_
                   clear ho hb hg hat
                   obtain ⟨Ao42, co42, eo42⟩ := Kd.R_slice HO179.out
                   (first | subst eo42 | (injection eo42 with f1_ f2_ f3_; have f4_ := f1_.symm; have f5_ := f3_.symm; clear f1_ f2_ f3_; subst f4_; subst f5_))
                   refine hK.out _ _ ?_
                   clear hK K
                   refine norm_ (a' := ?_) ?_ ?_
                   rotate_left
                   ·show Act.put _ (some 72) _ = _
                    simp only [Act.put, List.setIfInBounds_toArray, List.set_cons_zero, List.set_cons_succ, i64_w, i32_w]
                    rfl
                   refine pure_ (i := 12) (N := some 73) (v := ?_) (a' := ?_) #[true, true, true, true, true, true, true, true, true, true, true, true, true, false] rfl rfl (any_of HT_.out (by kernel_rfl)) (fun _ _ _ h => h) (Or.inl ⟨by rfl, ?_⟩) ?_ ?_
                   rotate_left
                   ·intro w'
                    go_simp
                    with_reducible rfl
                   rotate_left
                   ·simp only [Act.put, List.setIfInBounds_toArray, List.set_cons_zero, List.set_cons_succ, i64_w, i32_w]
                    rfl
                   refine last_ (i := 13) (N := none) #[true, true, true, true, true, true, true, true, true, true, true, true, true, true] rfl rfl (one_of HT_.out (by kernel_rfl)) (by decide) (fun K hK => ?_)
                   have hs43 := zv BK157.out 2 (u158002)
                   have hfs43 := blk_frozen BK157.out 2
                   have hns43_0 := NB156_157.out
                   have hms43_0 := NB157_156.out
                   refine skip_ (w1 := ?_) (by rfl) rfl ?_ ?_
                   rotate_left
                   ·go_simp
                    rfl
                   refine hK.out _ _ ?_
                   clear hK K
                   refine done_ (done_of HT_.out (by kernel_rfl)) ?_
                   try go_wp2
                   have n0_ : Aside0 (Kd.S (Kd.slice 99 k99) 94 (w41.setCell ⟨gb157, 2, none⟩ (.slice Ao42 y177.length co42)) w.heap.size (fun _ => True) (.slice (some ad174) x6_1.length co39) x6_1) := ⟨by (with_reducible repeat (first | apply Kd.S_alloc | apply Kd.S_drewN | apply Kd.S_drew)); exact Kd.S_mono (Kd.S_far (p := ⟨gb157, 2, none⟩) (Kd.S_types HO_6.out BK157.out (by decide)) (fun _ hk => hk.2) (.slice Ao42 y177.length co42)) (fun _ hk => trivial)⟩
                   have n1_ : Aside0 (Kd.R (Kd.int .i64) 3 (w41.setCell ⟨gb157, 2, none⟩ (.slice Ao42 y177.length co42)) w.heap.size (fun k_ => zO k_ (u158003) ∧ zO k_ (u158004) ∧ zO k_ (.slice Ao42 y177.length co42)) (.slice Ao30 y171.length co30) y171) := ⟨by (with_reducible repeat (first | apply Kd.R_alloc | apply Kd.R_drewN | apply Kd.R_drew)); exact Kd.R_mono (zK HO_158001.out BK157.out) (fun _ hk => ⟨hk.1.1, ⟨hk.1.2, hk.2⟩⟩)⟩
                   have n2_ : Aside0 (Kd.R (Kd.int .i64) 3 (w41.setCell ⟨gb157, 2, none⟩ (.slice Ao42 y177.length co42)) w.heap.size (fun k_ => zO k_ (.slice Ao30 y171.length co30) ∧ zO k_ (u158004) ∧ zO k_ (.slice Ao42 y177.length co42)) u158003 x158003_3) := ⟨by (with_reducible repeat (first | apply Kd.R_alloc | apply Kd.R_drewN | apply Kd.R_drew)); exact Kd.R_mono (zK HO_158003.out BK157.out) (fun _ hk => ⟨hk.1.1, ⟨hk.1.2, hk.2⟩⟩)⟩
                   have n3_ : Aside0 (Kd.R (Kd.int .i64) 3 (w41.setCell ⟨gb157, 2, none⟩ (.slice Ao42 y177.length co42)) w.heap.size (fun k_ => zO k_ (.slice Ao30 y171.length co30) ∧ zO k_ (u158003) ∧ zO k_ (.slice Ao42 y177.length co42)) u158004 x158004_3) := ⟨by (with_reducible repeat (first | apply Kd.R_alloc | apply Kd.R_drewN | apply Kd.R_drew)); exact Kd.R_mono (zK HO_158004.out BK157.out) (fun _ hk => ⟨hk.1.1, ⟨hk.1.2, hk.2⟩⟩)⟩
                   have n4_ : Aside0 (Kd.R k99 99 (w41.setCell ⟨gb157, 2, none⟩ (.slice Ao42 y177.length co42)) w.heap.size (fun k_ => zO k_ (.slice (some ad174) x6_1.length co39)) (.slice A174_0 (rd_L7 x6_1 x9_2).length c174_0) (rd_L7 x6_1 x9_2)) := ⟨by (with_reducible repeat (first | apply Kd.R_alloc | apply Kd.R_drewN | apply Kd.R_drew)); exact Kd.R_mono (Kd.R_far (p := ⟨gb157, 2, none⟩) (Kd.R_types HL174_0.out BK157.out (by decide)) (fun _ hk => hk.2) (.slice Ao42 y177.length co42)) (fun _ hk => hk.1.2)⟩
                   have n5_ : Aside0 (Kd.R k99 99 (w41.setCell ⟨gb157, 2, none⟩ (.slice Ao42 y177.length co42)) w.heap.size (fun k_ => zO k_ (.slice (some ad174) x6_1.length co39)) (.slice (some ad176) (rd_L7 x6_1 x9_2).length c175_0) (rd_L7 x6_1 x9_2)) := ⟨by (with_reducible repeat (first | apply Kd.R_alloc | apply Kd.R_drewN | apply Kd.R_drew)); exact Kd.R_mono (Kd.R_far (p := ⟨gb157, 2, none⟩) (Kd.R_types HL175_0.out BK157.out (by decide)) (fun _ hk => hk.2) (.slice Ao42 y177.length co42)) (fun _ hk => hk.1.2)⟩
                   have n6_ : Aside0 (Kd.R (Kd.int .i64) 3 (w41.setCell ⟨gb157, 2, none⟩ (.slice Ao42 y177.length co42)) w.heap.size (fun k_ => zO k_ (.slice Ao30 y171.length co30) ∧ zO k_ (u158003) ∧ zO k_ (u158004)) (.slice Ao42 y177.length co42) y177) := ⟨by (with_reducible repeat (first | apply Kd.R_alloc | apply Kd.R_drewN | apply Kd.R_drew)); exact Kd.R_mono (zK HO179.out BK157.out) (fun _ hk => ⟨hk.1, ⟨hk.2.1, hk.2.2⟩⟩)⟩
                   have n7_ : Aside0 ((w41.setCell ⟨gb157, 2, none⟩ (.slice Ao42 y177.length co42)).heap[gb156]? = some (.cells #[.int .i64 0, .slice none 0 0, .slice none 0 0, .slice none 0 0, .slice none 0 0] 28 (0, 0))) := ⟨by (with_reducible repeat (first | refine blk_drewN ?_ _ | refine blk_drew ?_ | refine blk_alloc ?_ _)); refine blk_far ?_ NB156_157.out _; (with_reducible repeat (first | refine blk_drewN ?_ _ | refine blk_drew ?_ | refine blk_alloc ?_ _)); exact BK156.out⟩
                   have n8_ : Aside0 ((w41.setCell ⟨gb157, 2, none⟩ (.slice Ao42 y177.length co42)).heap[gb157]? = some (.cells #[.int .i64 a0, .slice Ao30 y171.length co30, .slice Ao42 y177.length co42, u158003, u158004] 28 (0, 0))) := ⟨by (with_reducible repeat (first | refine blk_drewN ?_ _ | refine blk_drew ?_ | refine blk_alloc ?_ _)); refine blk_put (cs := #[.int .i64 a0, .slice Ao30 y171.length co30, u158002, u158003, u158004]) ?_ 2 _ rfl; (with_reducible repeat (first | refine blk_drewN ?_ _ | refine blk_drew ?_ | refine blk_alloc ?_ _)); exact BK157.out⟩
                   have n9_ : Aside0 (Below w.heap.size w (w41.setCell ⟨gb157, 2, none⟩ (.slice Ao42 y177.length co42))) := ⟨(zs2 GE156.out GE157.out)⟩
                   (try clear HO_6)
                   (try clear HO_158001)
                   (try clear HO_158003)
                   (try clear HO_158004)
                   (try clear HL174_0)
                   (try clear HL175_0)
                   (try clear HO179)
                   (try clear BK156)
                   (try clear BK157)
                   (try clear HB)
                   generalize (w41.setCell ⟨gb157, 2, none⟩ (.slice Ao42 y177.length co42)) = w44 at n0_ n1_ n2_ n3_ n4_ n5_ n6_ n7_ n8_ n9_ ⊢
                   have HO_6 := n0_
                   have HO_158001 := n1_
                   have HO_158003 := n2_
                   have HO_158004 := n3_
                   have HL174_0 := n4_
                   have HL175_0 := n5_
                   have HO179 := n6_
                   have BK156 := n7_
                   have BK157 := n8_
                   have HB := n9_
                   clear n0_ n1_ n2_ n3_ n4_ n5_ n6_ n7_ n8_ n9_
                   have n0_ := zA (Kd.S_drew HO_6.out)
                   have n1_ := zA (Kd.R_drew HO_158001.out)
                   have n2_ := zA (Kd.R_drew HO_158003.out)
                   have n3_ := zA (Kd.R_drew HO_158004.out)
                   have n4_ := zA (Kd.R_drew HL174_0.out)
                   have n5_ := zA (Kd.R_drew HL175_0.out)
                   have n6_ := zA (Kd.R_drew HO179.out)
                   have n7_ := zA (blk_drew BK156.out)
                   have n8_ := zA (blk_drew BK157.out)
                   have n9_ := zA (below_drew1 HB.out)
                   clear HO_6
                   clear HO_158001
                   clear HO_158003
                   clear HO_158004
                   clear HL174_0
                   clear HL175_0
                   clear HO179
                   clear BK156
                   clear BK157
                   clear HB
                   have HO_6 := n0_
                   have HO_158001 := n1_
                   have HO_158003 := n2_
                   have HO_158004 := n3_
                   have HL174_0 := n4_
                   have HL175_0 := n5_
                   have HO179 := n6_
                   have BK156 := n7_
                   have BK157 := n8_
                   have HB := n9_
                   clear n0_ n1_ n2_ n3_ n4_ n5_ n6_ n7_ n8_ n9_
                   have p180 : 0 ≤ (x9_2 : Int) := zd
                   have q180 : x9_2 < (x6_1.length : Int) := zd
                   obtain ⟨ad180, A180_0, c180_0, e180, hx180_0, hl180_0, hi180_0⟩ := at_L7 (Kd.S_reads' HO_6.out).2.2 x9_2 p180 q180
                   obtain rfl : ad174 = ad180 := (by injection e180)
                   obtain ⟨ce180, hce180, hMe180, hcc180⟩ := Kd.S_get HO_6.out [] x9_2 p180 (by first | exact q180 | exact zd | (have e_ := (Kd.S_reads' HO_6.out).1; omega))
                   obtain ⟨ve180_0, rfl, ge180_0⟩ := hMe180
                   have hv180_0 := hcc180 0 _ rfl
                   rw [Nat.add_zero, show ((Kd.slice 99 k99)).sz = 1 from rfl, Nat.mul_one] at hv180_0
                   replace hv180_0 := Option.some.inj (hv180_0.symm.trans hx180_0)
                   rw [hv180_0] at ge180_0
                   have HL180_0 := zA (show Kd.R k99 99 _ _ _ _ (rd_L7 x6_1 x9_2) from ge180_0)
                   clear hv180_0 ge180_0
                   have HX180_0 := zA hx180_0
                   clear hcc180 hce180
                   have HR180_0 := zA hi180_0
                   have HC180_0 := zA hl180_0
                   clear hi180_0 hl180_0
                   replace p180 := eq_true p180
                   replace q180 := eq_true q180
                   have p181 : 0 ≤ (x10_3 : Int) := zd
                   have q181 : x10_3 < ((rd_L7 x6_1 x9_2).length : Int) := zd
                   obtain ⟨ad181, e181, hx181_0, hx181_1, hx181_2, hx181_3⟩ := at_T99 (by repeat (first | (with_reducible exact HR180_0.out) | (with_reducible refine Kd.C_alloc ?_ _) | (with_reducible refine Kd.C_drewN ?_ _) | (with_reducible refine Kd.C_drew ?_) | exact HR180_0.out)) x10_3 p181 q181
                   cases e181
                   replace p181 := eq_true p181
                   replace q181 := eq_true q181
                   refine start_ (n := 14) (S := fun w' => w'.cell? ⟨gb157, 0, none⟩ = some (.int .i64 a0) ∧ w'.cell? ⟨gb157, 1, none⟩ = some (.slice Ao30 y171.length co30) ∧ w'.cell? ⟨gb157, 2, none⟩ = some (.slice Ao42 y177.length co42) ∧ w'.cell? ⟨gb157, 3, none⟩ = some (u158003) ∧ w'.cell? ⟨gb157, 4, none⟩ = some (u158004) ∧ w'.cell? (ad174.add (x9_2).toNat) = some (.slice (some ad181) (rd_L7 x6_1 x9_2).length c180_0) ∧ w'.cell? (ad181.add ((x10_3).toNat * 4)) = some (.int .i64 ((rd_T99 (rd_L7 x6_1 x9_2) x10_3).f0)) ∧ w'.cell? ⟨(ad181.add ((x10_3).toNat * 4)).block, (ad181.add ((x10_3).toNat * 4)).off + 1, none⟩ = some (.int .i64 ((rd_T99 (rd_L7 x6_1 x9_2) x10_3).f1)) ∧ w'.cell? ⟨(ad181.add ((x10_3).toNat * 4)).block, (ad181.add ((x10_3).toNat * 4)).off + 2, none⟩ = some (.int .i64 ((rd_T99 (rd_L7 x6_1 x9_2) x10_3).f2)) ∧ w'.cell? ⟨(ad181.add ((x10_3).toNat * 4)).block, (ad181.add ((x10_3).toNat * 4)).off + 3, none⟩ = some (.int .i64 ((rd_T99 (rd_L7 x6_1 x9_2) x10_3).f3))) (ds := [11, 13]) #[false, false, false, false, false, false, false, false, false, false, false, false, false, false] (by kernel_rfl) rfl rfl ⟨(blk_cell BK157.out 0).trans rfl, (blk_cell BK157.out 1).trans rfl, (blk_cell BK157.out 2).trans rfl, (blk_cell BK157.out 3).trans rfl, (blk_cell BK157.out 4).trans rfl, hx180_0, hx181_0, hx181_1, hx181_2, hx181_3⟩ (fun hHeld => ?_); refine with_tabW spec_l5graph.tab16 spec_l5graph.bits16 (fun HT_ HW_ => ?_)
                   generalize w44.drew = w45 at HO_6 HO_158001 HO_158003 HO_158004 HL174_0 HL175_0 HO179 BK156 BK157 HB HL180_0 HR180_0 HX180_0 hx180_0 hx181_0 hx181_1 hx181_2 hx181_3 hHeld ⊢
                   refine pure_ (i := 0) (N := some 74) (v := ?_) (a' := ?_) #[true, false, false, false, false, false, false, false, false, false, false, false, false, false] rfl rfl (any_of HT_.out (by kernel_rfl)) (fun _ _ _ h => h) (Or.inl ⟨by rfl, ?_⟩) ?_ ?_
                   rotate_left
                   ·intro w'
                    go_simp
                    with_reducible rfl
                   rotate_left
                   ·simp only [Act.put, List.setIfInBounds_toArray, List.set_cons_zero, List.set_cons_succ, i64_w, i32_w]
                    rfl
                   refine pure_ (i := 2) (N := some 76) (v := ?_) (a' := ?_) #[true, false, true, false, false, false, false, false, false, false, false, false, false, false] rfl rfl (any_of HT_.out (by kernel_rfl)) (fun _ _ _ h => h) (Or.inl ⟨by rfl, ?_⟩) ?_ ?_
                   rotate_left
                   ·intro w'
                    go_simp
                    with_reducible rfl
                   rotate_left
                   ·simp only [Act.put, List.setIfInBounds_toArray, List.set_cons_zero, List.set_cons_succ, i64_w, i32_w]
                    rfl
                   refine pure_ (i := 3) (N := some 77) (v := ?_) (a' := ?_) #[true, false, true, true, false, false, false, false, false, false, false, false, false, false] rfl rfl (any_of HT_.out (by kernel_rfl)) (fun _ _ _ h => h) (Or.inl ⟨by rfl, ?_⟩) ?_ ?_
                   rotate_left
                   ·intro w'
                    go_simp
                    with_reducible rfl
                   rotate_left
                   ·simp only [Act.put, List.setIfInBounds_toArray, List.set_cons_zero, List.set_cons_succ, i64_w, i32_w]
                    rfl
                   refine pure_ (i := 4) (N := some 78) (v := ?_) (a' := ?_) #[true, false, true, true, true, false, false, false, false, false, false, false, false, false] rfl rfl (any_of HT_.out (by kernel_rfl)) (fun _ _ _ h => h) (Or.inl ⟨by rfl, ?_⟩) ?_ ?_
                   rotate_left
                   ·intro w'
                    go_simp
                    with_reducible rfl
                   rotate_left
                   ·simp only [Act.put, List.setIfInBounds_toArray, List.set_cons_zero, List.set_cons_succ, i64_w, i32_w]
                    rfl
                   refine pure_ (i := 6) (N := some 80) (v := ?_) (a' := ?_) #[true, false, true, true, true, false, true, false, false, false, false, false, false, false] rfl rfl (any_of HT_.out (by kernel_rfl)) (fun _ _ _ h => h) (Or.inl ⟨by rfl, ?_⟩) ?_ ?_
                   rotate_left
                   ·intro w'
                    go_simp
                    with_reducible rfl
                   rotate_left
                   ·simp only [Act.put, List.setIfInBounds_toArray, List.set_cons_zero, List.set_cons_succ, i64_w, i32_w]
                    rfl
                   refine take_ (i := 1) (N := some 75) (v := ?_) (a' := ?_) #[true, true, true, true, true, false, true, false, false, false, false, false, false, false] rfl rfl (take_ofW HT_.out HW_.out (by kernel_rfl)) (fun _ _ _ h => h) (Or.inl ⟨by rfl, ?_⟩) hHeld ?_ ?_
                   rotate_left
                   ·rintro w' ⟨s0, s1, s2, s3, s4, s5, s6, s7, s8, s9⟩
                    go_simp
                    with_reducible rfl
                   rotate_left
                   ·simp only [Act.put, List.setIfInBounds_toArray, List.set_cons_zero, List.set_cons_succ, i64_w, i32_w]
                    rfl
                   refine take_ (i := 5) (N := some 79) (v := ?_) (a' := ?_) #[true, true, true, true, true, true, true, false, false, false, false, false, false, false] rfl rfl (take_ofW HT_.out HW_.out (by kernel_rfl)) (fun _ _ _ h => h) (Or.inl ⟨by rfl, ?_⟩) hHeld ?_ ?_
                   rotate_left
                   ·rintro w' ⟨s0, s1, s2, s3, s4, s5, s6, s7, s8, s9⟩
                    go_simp
                    with_reducible rfl
                   rotate_left
                   ·simp only [Act.put, List.setIfInBounds_toArray, List.set_cons_zero, List.set_cons_succ, i64_w, i32_w]
                    rfl
                   refine pure_ (i := 7) (N := some 81) (v := ?_) (a' := ?_) #[true, true, true, true, true, true, true, true, false, false, false, false, false, false] rfl rfl (any_of HT_.out (by kernel_rfl)) (fun _ _ _ h => h) (Or.inl ⟨by rfl, ?_⟩) ?_ ?_
                   rotate_left
                   ·intro w'
                    go_simp
                    with_reducible rfl
                   rotate_left
                   ·simp only [Act.put, List.setIfInBounds_toArray, List.set_cons_zero, List.set_cons_succ, i64_w, i32_w]
                    rfl
                   refine pure_ (i := 8) (N := some 82) (v := ?_) (a' := ?_) #[true, true, true, true, true, true, true, true, true, false, false, false, false, false] rfl rfl (any_of HT_.out (by kernel_rfl)) (fun _ _ _ h => h) (Or.inl ⟨by rfl, ?_⟩) ?_ ?_
                   rotate_left
                   ·intro w'
                    go_simp
                    with_reducible rfl
                   rotate_left
                   ·simp only [Act.put, List.setIfInBounds_toArray, List.set_cons_zero, List.set_cons_succ, i64_w, i32_w]
                    rfl
                   refine take_ (i := 9) (N := some 83) (v := ?_) (a' := ?_) #[true, true, true, true, true, true, true, true, true, true, false, false, false, false] rfl rfl (take_ofW HT_.out HW_.out (by kernel_rfl)) (fun _ _ _ h => h) (Or.inl ⟨by rfl, ?_⟩) hHeld ?_ ?_
                   rotate_left
                   ·rintro w' ⟨s0, s1, s2, s3, s4, s5, s6, s7, s8, s9⟩
                    go_simp
                    with_reducible rfl
                   rotate_left
                   ·simp only [Act.put, List.setIfInBounds_toArray, List.set_cons_zero, List.set_cons_succ, i64_w, i32_w]
                    rfl
                   refine one_ (i := 10) (N := some 84) #[true, true, true, true, true, true, true, true, true, true, true, false, false, false] rfl rfl (one_of HT_.out (by kernel_rfl)) (by decide) (fun K hK => ?_)
                   refine value_ (w1 := ?_) (v := ?_) (by rfl) rfl ?_ ?_
                   rotate_left 2
                   ·go_simp
                    constructor
                    ·rfl
                    ·rfl
                   refine hK.out _ _ ⟨(blk_cell (blk_alloc BK157.out _) 0).trans rfl, (blk_cell (blk_alloc BK157.out _) 1).trans rfl, (blk_cell (blk_alloc BK157.out _) 2).trans rfl, (blk_cell (blk_alloc BK157.out _) 3).trans rfl, (blk_cell (blk_alloc BK157.out _) 4).trans rfl, (World.cell?_alloc_lt _ _ _ (World.block_lt_of_cell? _ _ (hHeld.2.2.2.2.2.1))).trans (hHeld.2.2.2.2.2.1), (World.cell?_alloc_lt _ _ _ (World.block_lt_of_cell? _ _ (hHeld.2.2.2.2.2.2.1))).trans (hHeld.2.2.2.2.2.2.1), (World.cell?_alloc_lt _ _ _ (World.block_lt_of_cell? _ _ (hHeld.2.2.2.2.2.2.2.1))).trans (hHeld.2.2.2.2.2.2.2.1), (World.cell?_alloc_lt _ _ _ (World.block_lt_of_cell? _ _ (hHeld.2.2.2.2.2.2.2.2.1))).trans (hHeld.2.2.2.2.2.2.2.2.1), (World.cell?_alloc_lt _ _ _ (World.block_lt_of_cell? _ _ (hHeld.2.2.2.2.2.2.2.2.2))).trans (hHeld.2.2.2.2.2.2.2.2.2)⟩ (fun hHeld => ?_)
                   clear hK K
                   refine norm_ (a' := ?_) ?_ ?_
                   rotate_left
                   ·show Act.put _ (some 84) _ = _
                    simp only [Act.put, List.setIfInBounds_toArray, List.set_cons_zero, List.set_cons_succ, i64_w, i32_w]
                    rfl
                   refine last_ (i := 11) (N := some 85) #[true, true, true, true, true, true, true, true, true, true, true, true, false, false] rfl rfl (one_of HT_.out (by kernel_rfl)) (by decide) (fun K hK => ?_)
                   refine Kd.R_append_step (Kd.int .i64) (w0 := w) w.heap.size (by rfl) (.tmp 75) (.tmp 84) 22 3 (.int .i64 0) 8 rfl Tryd.underlying22 info3 rfl (by decide) (by omega) u158003 x158003_3 ((rd_T99 (rd_L7 x6_1 x9_2) x10_3).f2) [.int .i64 ((rd_T99 (rd_L7 x6_1 x9_2) x10_3).f2)] (fun k_ => zO k_ (.slice Ao30 y171.length co30) ∧ zO k_ (u158004) ∧ zO k_ (.slice Ao42 y177.length co42)) (fun _ => False) rfl rfl ?aP (fun _ hk => hk.elim) ?aF ?aO ?aB ?aS ?aL ?_
                   (case aP => exact rfl)
                   (case aB => exact (zs2 GE156.out GE157.out))
                   (case aF => exact (fun k_ hk => ⟨Kd.fresh' (zl HO_158001.out) k_ hk, Kd.fresh' (zl HO_158004.out) k_ hk, Kd.fresh' (zl HO179.out) k_ hk⟩))
                   (case aO => exact (zR HO_158003.out))
                   (case aS => exact (below_size (zs2 GE156.out GE157.out)))
                   (case aL => have := LMc37.out; omega)
                   intro v183 w46 ho hb hg hat
                   rw [← Ny182.out] at ho
                   have n0_ := zA (Kd.S_over' (zS HO_6.out) (Kd.R_typed (zR HO_158003.out)) (by decide) hg)
                   have n1_ := zA (Kd.R_after (ok := (fun k_ => zO k_ (u158004) ∧ zO k_ (.slice Ao42 y177.length co42))) (by (with_reducible repeat (first | apply Kd.R_alloc | apply Kd.R_drewN | apply Kd.R_drew)); exact Kd.R_mono HO_158001.out (fun _ hk => ⟨⟨hk.2.1, hk.2.2⟩, hk.1⟩)) hg hat)
                   have n2_ := zA (Kd.R_after (ok := (fun k_ => zO k_ (.slice Ao30 y171.length co30) ∧ zO k_ (.slice Ao42 y177.length co42))) (by (with_reducible repeat (first | apply Kd.R_alloc | apply Kd.R_drewN | apply Kd.R_drew)); exact Kd.R_mono HO_158004.out (fun _ hk => ⟨⟨hk.1, hk.2.2⟩, hk.2.1⟩)) hg hat)
                   have n3_ := zA (blk_grown (g := gb156) (o := .cells #[.int .i64 0, .slice none 0 0, .slice none 0 0, .slice none 0 0, .slice none 0 0] 28 (0, 0)) (zb BK156.out) hg (Kd.R_ne HO_158003.out BK156.out (by decide)))
                   have n4_ := zA (blk_grown (g := gb157) (o := .cells #[.int .i64 a0, .slice Ao30 y171.length co30, .slice Ao42 y177.length co42, u158003, u158004] 28 (0, 0)) (zb BK157.out) hg (Kd.R_ne HO_158003.out BK157.out (by decide)))
                   have n5_ := zA (Kd.R_over' (by (with_reducible repeat (first | apply Kd.R_alloc | apply Kd.R_drewN | apply Kd.R_drew)); exact HL174_0.out) (Kd.R_typed (zR HO_158003.out)) (by decide) hg)
                   have n6_ := zA (Kd.R_over' (by (with_reducible repeat (first | apply Kd.R_alloc | apply Kd.R_drewN | apply Kd.R_drew)); exact HL175_0.out) (Kd.R_typed (zR HO_158003.out)) (by decide) hg)
                   have n7_ := zA (Kd.R_after (ok := (fun k_ => zO k_ (.slice Ao30 y171.length co30) ∧ zO k_ (u158004))) (by (with_reducible repeat (first | apply Kd.R_alloc | apply Kd.R_drewN | apply Kd.R_drew)); exact Kd.R_mono HO179.out (fun _ hk => ⟨⟨hk.1, hk.2.2⟩, hk.2.1⟩)) hg hat)
                   have n8_ := zA (Kd.R_over' (by (with_reducible repeat (first | apply Kd.R_alloc | apply Kd.R_drewN | apply Kd.R_drew)); exact HL180_0.out) (Kd.R_typed (zR HO_158003.out)) (by decide) hg)
                   have n9_ := zA (hb)
                   have n10_ := zA (ho)
                   clear HO_6
                   clear HO_158001
                   clear HO_158004
                   clear BK156
                   clear BK157
                   clear HL174_0
                   clear HL175_0
                   clear HO179
                   clear HL180_0
                   clear HB
                   clear HO_158003
                   have HO_6 := n0_
                   have HO_158001 := n1_
                   have HO_158004 := n2_
                   have BK156 := n3_
                   have BK157 := n4_
                   have HL174_0 := n5_
                   have HL175_0 := n6_
                   have HO179 := n7_
                   have HL180_0 := n8_
                   have HB := n9_
                   have HO184 := n10_
                   clear n0_ n1_ n2_ n3_ n4_ n5_ n6_ n7_ n8_ n9_ n10_
                   clear ho hb hg hat
                   obtain ⟨Ao47, co47, eo47⟩ := Kd.R_slice HO184.out
                   (first | subst eo47 | (injection eo47 with f1_ f2_ f3_; have f4_ := f1_.symm; have f5_ := f3_.symm; clear f1_ f2_ f3_; subst f4_; subst f5_))
                   refine hK.out _ _ ?_
                   clear hK K
                   refine norm_ (a' := ?_) ?_ ?_
                   rotate_left
                   ·show Act.put _ (some 85) _ = _
                    simp only [Act.put, List.setIfInBounds_toArray, List.set_cons_zero, List.set_cons_succ, i64_w, i32_w]
                    rfl
                   refine pure_ (i := 12) (N := some 86) (v := ?_) (a' := ?_) #[true, true, true, true, true, true, true, true, true, true, true, true, true, false] rfl rfl (any_of HT_.out (by kernel_rfl)) (fun _ _ _ h => h) (Or.inl ⟨by rfl, ?_⟩) ?_ ?_
                   rotate_left
                   ·intro w'
                    go_simp
                    with_reducible rfl
                   rotate_left
                   ·simp only [Act.put, List.setIfInBounds_toArray, List.set_cons_zero, List.set_cons_succ, i64_w, i32_w]
                    rfl
                   refine last_ (i := 13) (N := none) #[true, true, true, true, true, true, true, true, true, true, true, true, true, true] rfl rfl (one_of HT_.out (by kernel_rfl)) (by decide) (fun K hK => ?_)
                   have hs48 := zv BK157.out 3 (u158003)
                   have hfs48 := blk_frozen BK157.out 3
                   have hns48_0 := NB156_157.out
                   have hms48_0 := NB157_156.out
                   refine skip_ (w1 := ?_) (by rfl) rfl ?_ ?_
                   rotate_left
                   ·go_simp
                    rfl
                   refine hK.out _ _ ?_
                   clear hK K
                   refine done_ (done_of HT_.out (by kernel_rfl)) ?_
                   try go_wp2
                   have n0_ : Aside0 (Kd.S (Kd.slice 99 k99) 94 (w46.setCell ⟨gb157, 3, none⟩ (.slice Ao47 y182.length co47)) w.heap.size (fun _ => True) (.slice (some ad174) x6_1.length co39) x6_1) := ⟨by (with_reducible repeat (first | apply Kd.S_alloc | apply Kd.S_drewN | apply Kd.S_drew)); exact Kd.S_mono (Kd.S_far (p := ⟨gb157, 3, none⟩) (Kd.S_types HO_6.out BK157.out (by decide)) (fun _ hk => hk.2) (.slice Ao47 y182.length co47)) (fun _ hk => trivial)⟩
                   have n1_ : Aside0 (Kd.R (Kd.int .i64) 3 (w46.setCell ⟨gb157, 3, none⟩ (.slice Ao47 y182.length co47)) w.heap.size (fun k_ => zO k_ (u158004) ∧ zO k_ (.slice Ao42 y177.length co42) ∧ zO k_ (.slice Ao47 y182.length co47)) (.slice Ao30 y171.length co30) y171) := ⟨by (with_reducible repeat (first | apply Kd.R_alloc | apply Kd.R_drewN | apply Kd.R_drew)); exact Kd.R_mono (zK HO_158001.out BK157.out) (fun _ hk => ⟨hk.1.1, ⟨hk.1.2, hk.2⟩⟩)⟩
                   have n2_ : Aside0 (Kd.R (Kd.int .i64) 3 (w46.setCell ⟨gb157, 3, none⟩ (.slice Ao47 y182.length co47)) w.heap.size (fun k_ => zO k_ (.slice Ao30 y171.length co30) ∧ zO k_ (.slice Ao42 y177.length co42) ∧ zO k_ (.slice Ao47 y182.length co47)) u158004 x158004_3) := ⟨by (with_reducible repeat (first | apply Kd.R_alloc | apply Kd.R_drewN | apply Kd.R_drew)); exact Kd.R_mono (zK HO_158004.out BK157.out) (fun _ hk => ⟨hk.1.1, ⟨hk.1.2, hk.2⟩⟩)⟩
                   have n3_ : Aside0 (Kd.R k99 99 (w46.setCell ⟨gb157, 3, none⟩ (.slice Ao47 y182.length co47)) w.heap.size (fun k_ => zO k_ (.slice (some ad174) x6_1.length co39)) (.slice A174_0 (rd_L7 x6_1 x9_2).length c174_0) (rd_L7 x6_1 x9_2)) := ⟨by (with_reducible repeat (first | apply Kd.R_alloc | apply Kd.R_drewN | apply Kd.R_drew)); exact Kd.R_mono (Kd.R_far (p := ⟨gb157, 3, none⟩) (Kd.R_types HL174_0.out BK157.out (by decide)) (fun _ hk => hk.2) (.slice Ao47 y182.length co47)) (fun _ hk => hk.1)⟩
                   have n4_ : Aside0 (Kd.R k99 99 (w46.setCell ⟨gb157, 3, none⟩ (.slice Ao47 y182.length co47)) w.heap.size (fun k_ => zO k_ (.slice (some ad174) x6_1.length co39)) (.slice (some ad176) (rd_L7 x6_1 x9_2).length c175_0) (rd_L7 x6_1 x9_2)) := ⟨by (with_reducible repeat (first | apply Kd.R_alloc | apply Kd.R_drewN | apply Kd.R_drew)); exact Kd.R_mono (Kd.R_far (p := ⟨gb157, 3, none⟩) (Kd.R_types HL175_0.out BK157.out (by decide)) (fun _ hk => hk.2) (.slice Ao47 y182.length co47)) (fun _ hk => hk.1)⟩
                   have n5_ : Aside0 (Kd.R (Kd.int .i64) 3 (w46.setCell ⟨gb157, 3, none⟩ (.slice Ao47 y182.length co47)) w.heap.size (fun k_ => zO k_ (.slice Ao30 y171.length co30) ∧ zO k_ (u158004) ∧ zO k_ (.slice Ao47 y182.length co47)) (.slice Ao42 y177.length co42) y177) := ⟨by (with_reducible repeat (first | apply Kd.R_alloc | apply Kd.R_drewN | apply Kd.R_drew)); exact Kd.R_mono (zK HO179.out BK157.out) (fun _ hk => ⟨hk.1.1, ⟨hk.1.2, hk.2⟩⟩)⟩
                   have n6_ : Aside0 (Kd.R k99 99 (w46.setCell ⟨gb157, 3, none⟩ (.slice Ao47 y182.length co47)) w.heap.size (fun k_ => zO k_ (.slice (some ad174) x6_1.length co39)) (.slice (some ad181) (rd_L7 x6_1 x9_2).length c180_0) (rd_L7 x6_1 x9_2)) := ⟨by (with_reducible repeat (first | apply Kd.R_alloc | apply Kd.R_drewN | apply Kd.R_drew)); exact Kd.R_mono (Kd.R_far (p := ⟨gb157, 3, none⟩) (Kd.R_types HL180_0.out BK157.out (by decide)) (fun _ hk => hk.2) (.slice Ao47 y182.length co47)) (fun _ hk => hk.1.2)⟩
                   have n7_ : Aside0 (Kd.R (Kd.int .i64) 3 (w46.setCell ⟨gb157, 3, none⟩ (.slice Ao47 y182.length co47)) w.heap.size (fun k_ => zO k_ (.slice Ao30 y171.length co30) ∧ zO k_ (u158004) ∧ zO k_ (.slice Ao42 y177.length co42)) (.slice Ao47 y182.length co47) y182) := ⟨by (with_reducible repeat (first | apply Kd.R_alloc | apply Kd.R_drewN | apply Kd.R_drew)); exact Kd.R_mono (zK HO184.out BK157.out) (fun _ hk => ⟨hk.1, ⟨hk.2.1, hk.2.2⟩⟩)⟩
                   have n8_ : Aside0 ((w46.setCell ⟨gb157, 3, none⟩ (.slice Ao47 y182.length co47)).heap[gb156]? = some (.cells #[.int .i64 0, .slice none 0 0, .slice none 0 0, .slice none 0 0, .slice none 0 0] 28 (0, 0))) := ⟨by (with_reducible repeat (first | refine blk_drewN ?_ _ | refine blk_drew ?_ | refine blk_alloc ?_ _)); refine blk_far ?_ NB156_157.out _; (with_reducible repeat (first | refine blk_drewN ?_ _ | refine blk_drew ?_ | refine blk_alloc ?_ _)); exact BK156.out⟩
                   have n9_ : Aside0 ((w46.setCell ⟨gb157, 3, none⟩ (.slice Ao47 y182.length co47)).heap[gb157]? = some (.cells #[.int .i64 a0, .slice Ao30 y171.length co30, .slice Ao42 y177.length co42, .slice Ao47 y182.length co47, u158004] 28 (0, 0))) := ⟨by (with_reducible repeat (first | refine blk_drewN ?_ _ | refine blk_drew ?_ | refine blk_alloc ?_ _)); refine blk_put (cs := #[.int .i64 a0, .slice Ao30 y171.length co30, .slice Ao42 y177.length co42, u158003, u158004]) ?_ 3 _ rfl; (with_reducible repeat (first | refine blk_drewN ?_ _ | refine blk_drew ?_ | refine blk_alloc ?_ _)); exact BK157.out⟩
                   have n10_ : Aside0 (Below w.heap.size w (w46.setCell ⟨gb157, 3, none⟩ (.slice Ao47 y182.length co47))) := ⟨(zs2 GE156.out GE157.out)⟩
                   (try clear HO_6)
                   (try clear HO_158001)
                   (try clear HO_158004)
                   (try clear HL174_0)
                   (try clear HL175_0)
                   (try clear HO179)
                   (try clear HL180_0)
                   (try clear HO184)
                   (try clear BK156)
                   (try clear BK157)
                   (try clear HB)
                   generalize (w46.setCell ⟨gb157, 3, none⟩ (.slice Ao47 y182.length co47)) = w49 at n0_ n1_ n2_ n3_ n4_ n5_ n6_ n7_ n8_ n9_ n10_ ⊢
                   have HO_6 := n0_
                   have HO_158001 := n1_
                   have HO_158004 := n2_
                   have HL174_0 := n3_
                   have HL175_0 := n4_
                   have HO179 := n5_
                   have HL180_0 := n6_
                   have HO184 := n7_
                   have BK156 := n8_
                   have BK157 := n9_
                   have HB := n10_
                   clear n0_ n1_ n2_ n3_ n4_ n5_ n6_ n7_ n8_ n9_ n10_
                   have n0_ := zA (Kd.S_drew HO_6.out)
                   have n1_ := zA (Kd.R_drew HO_158001.out)
                   have n2_ := zA (Kd.R_drew HO_158004.out)
                   have n3_ := zA (Kd.R_drew HL174_0.out)
                   have n4_ := zA (Kd.R_drew HL175_0.out)
                   have n5_ := zA (Kd.R_drew HO179.out)
                   have n6_ := zA (Kd.R_drew HL180_0.out)
                   have n7_ := zA (Kd.R_drew HO184.out)
                   have n8_ := zA (blk_drew BK156.out)
                   have n9_ := zA (blk_drew BK157.out)
                   have n10_ := zA (below_drew1 HB.out)
                   clear HO_6
                   clear HO_158001
                   clear HO_158004
                   clear HL174_0
                   clear HL175_0
                   clear HO179
                   clear HL180_0
                   clear HO184
                   clear BK156
                   clear BK157
                   clear HB
                   have HO_6 := n0_
                   have HO_158001 := n1_
                   have HO_158004 := n2_
                   have HL174_0 := n3_
                   have HL175_0 := n4_
                   have HO179 := n5_
                   have HL180_0 := n6_
                   have HO184 := n7_
                   have BK156 := n8_
                   have BK157 := n9_
                   have HB := n10_
                   clear n0_ n1_ n2_ n3_ n4_ n5_ n6_ n7_ n8_ n9_ n10_
                   have p185 : 0 ≤ (x9_2 : Int) := zd
                   have q185 : x9_2 < (x6_1.length : Int) := zd
                   obtain ⟨ad185, A185_0, c185_0, e185, hx185_0, hl185_0, hi185_0⟩ := at_L7 (Kd.S_reads' HO_6.out).2.2 x9_2 p185 q185
                   obtain rfl : ad174 = ad185 := (by injection e185)
                   obtain ⟨ce185, hce185, hMe185, hcc185⟩ := Kd.S_get HO_6.out [] x9_2 p185 (by first | exact q185 | exact zd | (have e_ := (Kd.S_reads' HO_6.out).1; omega))
                   obtain ⟨ve185_0, rfl, ge185_0⟩ := hMe185
                   have hv185_0 := hcc185 0 _ rfl
                   rw [Nat.add_zero, show ((Kd.slice 99 k99)).sz = 1 from rfl, Nat.mul_one] at hv185_0
                   replace hv185_0 := Option.some.inj (hv185_0.symm.trans hx185_0)
                   rw [hv185_0] at ge185_0
                   have HL185_0 := zA (show Kd.R k99 99 _ _ _ _ (rd_L7 x6_1 x9_2) from ge185_0)
                   clear hv185_0 ge185_0
                   have HX185_0 := zA hx185_0
                   clear hcc185 hce185
                   have HR185_0 := zA hi185_0
                   have HC185_0 := zA hl185_0
                   clear hi185_0 hl185_0
                   replace p185 := eq_true p185
                   replace q185 := eq_true q185
                   have p186 : 0 ≤ (x10_3 : Int) := zd
                   have q186 : x10_3 < ((rd_L7 x6_1 x9_2).length : Int) := zd
                   obtain ⟨ad186, e186, hx186_0, hx186_1, hx186_2, hx186_3⟩ := at_T99 (by repeat (first | (with_reducible exact HR185_0.out) | (with_reducible refine Kd.C_alloc ?_ _) | (with_reducible refine Kd.C_drewN ?_ _) | (with_reducible refine Kd.C_drew ?_) | exact HR185_0.out)) x10_3 p186 q186
                   cases e186
                   replace p186 := eq_true p186
                   replace q186 := eq_true q186
                   refine start_ (n := 14) (S := fun w' => w'.cell? ⟨gb157, 0, none⟩ = some (.int .i64 a0) ∧ w'.cell? ⟨gb157, 1, none⟩ = some (.slice Ao30 y171.length co30) ∧ w'.cell? ⟨gb157, 2, none⟩ = some (.slice Ao42 y177.length co42) ∧ w'.cell? ⟨gb157, 3, none⟩ = some (.slice Ao47 y182.length co47) ∧ w'.cell? ⟨gb157, 4, none⟩ = some (u158004) ∧ w'.cell? (ad174.add (x9_2).toNat) = some (.slice (some ad186) (rd_L7 x6_1 x9_2).length c185_0) ∧ w'.cell? (ad186.add ((x10_3).toNat * 4)) = some (.int .i64 ((rd_T99 (rd_L7 x6_1 x9_2) x10_3).f0)) ∧ w'.cell? ⟨(ad186.add ((x10_3).toNat * 4)).block, (ad186.add ((x10_3).toNat * 4)).off + 1, none⟩ = some (.int .i64 ((rd_T99 (rd_L7 x6_1 x9_2) x10_3).f1)) ∧ w'.cell? ⟨(ad186.add ((x10_3).toNat * 4)).block, (ad186.add ((x10_3).toNat * 4)).off + 2, none⟩ = some (.int .i64 ((rd_T99 (rd_L7 x6_1 x9_2) x10_3).f2)) ∧ w'.cell? ⟨(ad186.add ((x10_3).toNat * 4)).block, (ad186.add ((x10_3).toNat * 4)).off + 3, none⟩ = some (.int .i64 ((rd_T99 (rd_L7 x6_1 x9_2) x10_3).f3))) (ds := [11, 13]) #[false, false, false, false, false, false, false, false, false, false, false, false, false, false] (by kernel_rfl) rfl rfl ⟨(blk_cell BK157.out 0).trans rfl, (blk_cell BK157.out 1).trans rfl, (blk_cell BK157.out 2).trans rfl, (blk_cell BK157.out 3).trans rfl, (blk_cell BK157.out 4).trans rfl, hx185_0, hx186_0, hx186_1, hx186_2, hx186_3⟩ (fun hHeld => ?_); refine with_tabW spec_l5graph.tab17 spec_l5graph.bits17 (fun HT_ HW_ => ?_)
                   generalize w49.drew = w50 at HO_6 HO_158001 HO_158004 HL174_0 HL175_0 HO179 HL180_0 HO184 BK156 BK157 HB HL185_0 HR185_0 HX185_0 hx185_0 hx186_0 hx186_1 hx186_2 hx186_3 hHeld ⊢
                   refine pure_ (i := 0) (N := some 87) (v := ?_) (a' := ?_) #[true, false, false, false, false, false, false, false, false, false, false, false, false, false] rfl rfl (any_of HT_.out (by kernel_rfl)) (fun _ _ _ h => h) (Or.inl ⟨by rfl, ?_⟩) ?_ ?_
                   rotate_left
                   ·intro w'
                    go_simp
                    with_reducible rfl
                   rotate_left
                   ·simp only [Act.put, List.setIfInBounds_toArray, List.set_cons_zero, List.set_cons_succ, i64_w, i32_w]
                    rfl
                   refine pure_ (i := 2) (N := some 89) (v := ?_) (a' := ?_) #[true, false, true, false, false, false, false, false, false, false, false, false, false, false] rfl rfl (any_of HT_.out (by kernel_rfl)) (fun _ _ _ h => h) (Or.inl ⟨by rfl, ?_⟩) ?_ ?_
                   rotate_left
                   ·intro w'
                    go_simp
                    with_reducible rfl
                   rotate_left
                   ·simp only [Act.put, List.setIfInBounds_toArray, List.set_cons_zero, List.set_cons_succ, i64_w, i32_w]
                    rfl
                   refine pure_ (i := 3) (N := some 90) (v := ?_) (a' := ?_) #[true, false, true, true, false, false, false, false, false, false, false, false, false, false] rfl rfl (any_of HT_.out (by kernel_rfl)) (fun _ _ _ h => h) (Or.inl ⟨by rfl, ?_⟩) ?_ ?_
                   rotate_left
                   ·intro w'
                    go_simp
                    with_reducible rfl
                   rotate_left
                   ·simp only [Act.put, List.setIfInBounds_toArray, List.set_cons_zero, List.set_cons_succ, i64_w, i32_w]
                    rfl
                   refine pure_ (i := 4) (N := some 91) (v := ?_) (a' := ?_) #[true, false, true, true, true, false, false, false, false, false, false, false, false, false] rfl rfl (any_of HT_.out (by kernel_rfl)) (fun _ _ _ h => h) (Or.inl ⟨by rfl, ?_⟩) ?_ ?_
                   rotate_left
                   ·intro w'
                    go_simp
                    with_reducible rfl
                   rotate_left
                   ·simp only [Act.put, List.setIfInBounds_toArray, List.set_cons_zero, List.set_cons_succ, i64_w, i32_w]
                    rfl
                   refine pure_ (i := 6) (N := some 93) (v := ?_) (a' := ?_) #[true, false, true, true, true, false, true, false, false, false, false, false, false, false] rfl rfl (any_of HT_.out (by kernel_rfl)) (fun _ _ _ h => h) (Or.inl ⟨by rfl, ?_⟩) ?_ ?_
                   rotate_left
                   ·intro w'
                    go_simp
                    with_reducible rfl
                   rotate_left
                   ·simp only [Act.put, List.setIfInBounds_toArray, List.set_cons_zero, List.set_cons_succ, i64_w, i32_w]
                    rfl
                   refine take_ (i := 1) (N := some 88) (v := ?_) (a' := ?_) #[true, true, true, true, true, false, true, false, false, false, false, false, false, false] rfl rfl (take_ofW HT_.out HW_.out (by kernel_rfl)) (fun _ _ _ h => h) (Or.inl ⟨by rfl, ?_⟩) hHeld ?_ ?_
                   rotate_left
                   ·rintro w' ⟨s0, s1, s2, s3, s4, s5, s6, s7, s8, s9⟩
                    go_simp
                    with_reducible rfl
                   rotate_left
                   ·simp only [Act.put, List.setIfInBounds_toArray, List.set_cons_zero, List.set_cons_succ, i64_w, i32_w]
                    rfl
                   refine take_ (i := 5) (N := some 92) (v := ?_) (a' := ?_) #[true, true, true, true, true, true, true, false, false, false, false, false, false, false] rfl rfl (take_ofW HT_.out HW_.out (by kernel_rfl)) (fun _ _ _ h => h) (Or.inl ⟨by rfl, ?_⟩) hHeld ?_ ?_
                   rotate_left
                   ·rintro w' ⟨s0, s1, s2, s3, s4, s5, s6, s7, s8, s9⟩
                    go_simp
                    with_reducible rfl
                   rotate_left
                   ·simp only [Act.put, List.setIfInBounds_toArray, List.set_cons_zero, List.set_cons_succ, i64_w, i32_w]
                    rfl
                   refine pure_ (i := 7) (N := some 94) (v := ?_) (a' := ?_) #[true, true, true, true, true, true, true, true, false, false, false, false, false, false] rfl rfl (any_of HT_.out (by kernel_rfl)) (fun _ _ _ h => h) (Or.inl ⟨by rfl, ?_⟩) ?_ ?_
                   rotate_left
                   ·intro w'
                    go_simp
                    with_reducible rfl
                   rotate_left
                   ·simp only [Act.put, List.setIfInBounds_toArray, List.set_cons_zero, List.set_cons_succ, i64_w, i32_w]
                    rfl
                   refine pure_ (i := 8) (N := some 95) (v := ?_) (a' := ?_) #[true, true, true, true, true, true, true, true, true, false, false, false, false, false] rfl rfl (any_of HT_.out (by kernel_rfl)) (fun _ _ _ h => h) (Or.inl ⟨by rfl, ?_⟩) ?_ ?_
                   rotate_left
                   ·intro w'
                    go_simp
                    with_reducible rfl
                   rotate_left
                   ·simp only [Act.put, List.setIfInBounds_toArray, List.set_cons_zero, List.set_cons_succ, i64_w, i32_w]
                    rfl
                   refine take_ (i := 9) (N := some 96) (v := ?_) (a' := ?_) #[true, true, true, true, true, true, true, true, true, true, false, false, false, false] rfl rfl (take_ofW HT_.out HW_.out (by kernel_rfl)) (fun _ _ _ h => h) (Or.inl ⟨by rfl, ?_⟩) hHeld ?_ ?_
                   rotate_left
                   ·rintro w' ⟨s0, s1, s2, s3, s4, s5, s6, s7, s8, s9⟩
                    go_simp
                    with_reducible rfl
                   rotate_left
                   ·simp only [Act.put, List.setIfInBounds_toArray, List.set_cons_zero, List.set_cons_succ, i64_w, i32_w]
                    rfl
                   refine one_ (i := 10) (N := some 97) #[true, true, true, true, true, true, true, true, true, true, true, false, false, false] rfl rfl (one_of HT_.out (by kernel_rfl)) (by decide) (fun K hK => ?_)
                   refine value_ (w1 := ?_) (v := ?_) (by rfl) rfl ?_ ?_
                   rotate_left 2
                   ·go_simp
                    constructor
                    ·rfl
                    ·rfl
                   refine hK.out _ _ ⟨(blk_cell (blk_alloc BK157.out _) 0).trans rfl, (blk_cell (blk_alloc BK157.out _) 1).trans rfl, (blk_cell (blk_alloc BK157.out _) 2).trans rfl, (blk_cell (blk_alloc BK157.out _) 3).trans rfl, (blk_cell (blk_alloc BK157.out _) 4).trans rfl, (World.cell?_alloc_lt _ _ _ (World.block_lt_of_cell? _ _ (hHeld.2.2.2.2.2.1))).trans (hHeld.2.2.2.2.2.1), (World.cell?_alloc_lt _ _ _ (World.block_lt_of_cell? _ _ (hHeld.2.2.2.2.2.2.1))).trans (hHeld.2.2.2.2.2.2.1), (World.cell?_alloc_lt _ _ _ (World.block_lt_of_cell? _ _ (hHeld.2.2.2.2.2.2.2.1))).trans (hHeld.2.2.2.2.2.2.2.1), (World.cell?_alloc_lt _ _ _ (World.block_lt_of_cell? _ _ (hHeld.2.2.2.2.2.2.2.2.1))).trans (hHeld.2.2.2.2.2.2.2.2.1), (World.cell?_alloc_lt _ _ _ (World.block_lt_of_cell? _ _ (hHeld.2.2.2.2.2.2.2.2.2))).trans (hHeld.2.2.2.2.2.2.2.2.2)⟩ (fun hHeld => ?_)
                   clear hK K
                   refine norm_ (a' := ?_) ?_ ?_
                   rotate_left
                   ·show Act.put _ (some 97) _ = _
                    simp only [Act.put, List.setIfInBounds_toArray, List.set_cons_zero, List.set_cons_succ, i64_w, i32_w]
                    rfl
                   refine last_ (i := 11) (N := some 98) #[true, true, true, true, true, true, true, true, true, true, true, true, false, false] rfl rfl (one_of HT_.out (by kernel_rfl)) (by decide) (fun K hK => ?_)
                   refine Kd.R_append_step (Kd.int .i64) (w0 := w) w.heap.size (by rfl) (.tmp 88) (.tmp 97) 22 3 (.int .i64 0) 8 rfl Tryd.underlying22 info3 rfl (by decide) (by omega) u158004 x158004_3 ((rd_T99 (rd_L7 x6_1 x9_2) x10_3).f3) [.int .i64 ((rd_T99 (rd_L7 x6_1 x9_2) x10_3).f3)] (fun k_ => zO k_ (.slice Ao30 y171.length co30) ∧ zO k_ (.slice Ao42 y177.length co42) ∧ zO k_ (.slice Ao47 y182.length co47)) (fun _ => False) rfl rfl ?aP (fun _ hk => hk.elim) ?aF ?aO ?aB ?aS ?aL ?_
                   (case aP => exact rfl)
                   (case aB => exact (zs2 GE156.out GE157.out))
                   (case aF => exact (fun k_ hk => ⟨Kd.fresh' (zl HO_158001.out) k_ hk, Kd.fresh' (zl HO179.out) k_ hk, Kd.fresh' (zl HO184.out) k_ hk⟩))
                   (case aO => exact (zR HO_158004.out))
                   (case aS => exact (below_size (zs2 GE156.out GE157.out)))
                   (case aL => have := LMc38.out; omega)
                   intro v188 w51 ho hb hg hat
                   rw [← Ny187.out] at ho
                   have n0_ := zA (Kd.S_over' (zS HO_6.out) (Kd.R_typed (zR HO_158004.out)) (by decide) hg)
                   have n1_ := zA (Kd.R_after (ok := (fun k_ => zO k_ (.slice Ao42 y177.length co42) ∧ zO k_ (.slice Ao47 y182.length co47))) (by (with_reducible repeat (first | apply Kd.R_alloc | apply Kd.R_drewN | apply Kd.R_drew)); exact Kd.R_mono HO_158001.out (fun _ hk => ⟨⟨hk.2.1, hk.2.2⟩, hk.1⟩)) hg hat)
                   have n2_ := zA (blk_grown (g := gb156) (o := .cells #[.int .i64 0, .slice none 0 0, .slice none 0 0, .slice none 0 0, .slice none 0 0] 28 (0, 0)) (zb BK156.out) hg (Kd.R_ne HO_158004.out BK156.out (by decide)))
                   have n3_ := zA (blk_grown (g := gb157) (o := .cells #[.int .i64 a0, .slice Ao30 y171.length co30, .slice Ao42 y177.length co42, .slice Ao47 y182.length co47, u158004] 28 (0, 0)) (zb BK157.out) hg (Kd.R_ne HO_158004.out BK157.out (by decide)))
                   have n4_ := zA (Kd.R_over' (by (with_reducible repeat (first | apply Kd.R_alloc | apply Kd.R_drewN | apply Kd.R_drew)); exact HL174_0.out) (Kd.R_typed (zR HO_158004.out)) (by decide) hg)
                   have n5_ := zA (Kd.R_over' (by (with_reducible repeat (first | apply Kd.R_alloc | apply Kd.R_drewN | apply Kd.R_drew)); exact HL175_0.out) (Kd.R_typed (zR HO_158004.out)) (by decide) hg)
                   have n6_ := zA (Kd.R_after (ok := (fun k_ => zO k_ (.slice Ao30 y171.length co30) ∧ zO k_ (.slice Ao47 y182.length co47))) (by (with_reducible repeat (first | apply Kd.R_alloc | apply Kd.R_drewN | apply Kd.R_drew)); exact Kd.R_mono HO179.out (fun _ hk => ⟨⟨hk.1, hk.2.2⟩, hk.2.1⟩)) hg hat)
                   have n7_ := zA (Kd.R_over' (by (with_reducible repeat (first | apply Kd.R_alloc | apply Kd.R_drewN | apply Kd.R_drew)); exact HL180_0.out) (Kd.R_typed (zR HO_158004.out)) (by decide) hg)
                   have n8_ := zA (Kd.R_after (ok := (fun k_ => zO k_ (.slice Ao30 y171.length co30) ∧ zO k_ (.slice Ao42 y177.length co42))) (by (with_reducible repeat (first | apply Kd.R_alloc | apply Kd.R_drewN | apply Kd.R_drew)); exact Kd.R_mono HO184.out (fun _ hk => ⟨⟨hk.1, hk.2.2⟩, hk.2.1⟩)) hg hat)
                   have n9_ := zA (Kd.R_over' (by (with_reducible repeat (first | apply Kd.R_alloc | apply Kd.R_drewN | apply Kd.R_drew)); exact HL185_0.out) (Kd.R_typed (zR HO_158004.out)) (by decide) hg)
                   have n10_ := zA (hb)
                   have n11_ := zA (ho)
                   clear HO_6
                   clear HO_158001
                   clear BK156
                   clear BK157
                   clear HL174_0
                   clear HL175_0
                   clear HO179
                   clear HL180_0
                   clear HO184
                   clear HL185_0
                   clear HB
                   clear HO_158004
                   have HO_6 := n0_
                   have HO_158001 := n1_
                   have BK156 := n2_
                   have BK157 := n3_
                   have HL174_0 := n4_
                   have HL175_0 := n5_
                   have HO179 := n6_
                   have HL180_0 := n7_
                   have HO184 := n8_
                   have HL185_0 := n9_
                   have HB := n10_
                   have HO189 := n11_
                   clear n0_ n1_ n2_ n3_ n4_ n5_ n6_ n7_ n8_ n9_ n10_ n11_
                   clear ho hb hg hat
                   obtain ⟨Ao52, co52, eo52⟩ := Kd.R_slice HO189.out
                   (first | subst eo52 | (injection eo52 with f1_ f2_ f3_; have f4_ := f1_.symm; have f5_ := f3_.symm; clear f1_ f2_ f3_; subst f4_; subst f5_))
                   refine hK.out _ _ ?_
                   clear hK K
                   refine norm_ (a' := ?_) ?_ ?_
                   rotate_left
                   ·show Act.put _ (some 98) _ = _
                    simp only [Act.put, List.setIfInBounds_toArray, List.set_cons_zero, List.set_cons_succ, i64_w, i32_w]
                    rfl
                   refine pure_ (i := 12) (N := some 99) (v := ?_) (a' := ?_) #[true, true, true, true, true, true, true, true, true, true, true, true, true, false] rfl rfl (any_of HT_.out (by kernel_rfl)) (fun _ _ _ h => h) (Or.inl ⟨by rfl, ?_⟩) ?_ ?_
                   rotate_left
                   ·intro w'
                    go_simp
                    with_reducible rfl
                   rotate_left
                   ·simp only [Act.put, List.setIfInBounds_toArray, List.set_cons_zero, List.set_cons_succ, i64_w, i32_w]
                    rfl
                   refine last_ (i := 13) (N := none) #[true, true, true, true, true, true, true, true, true, true, true, true, true, true] rfl rfl (one_of HT_.out (by kernel_rfl)) (by decide) (fun K hK => ?_)
                   have hs53 := zv BK157.out 4 (u158004)
                   have hfs53 := blk_frozen BK157.out 4
                   have hns53_0 := NB156_157.out
                   have hms53_0 := NB157_156.out
                   refine skip_ (w1 := ?_) (by rfl) rfl ?_ ?_
                   rotate_left
                   ·go_simp
                    rfl
                   refine hK.out _ _ ?_
                   clear hK K
                   refine done_ (done_of HT_.out (by kernel_rfl)) ?_
                   try go_wp2
                   go_roundg k3
                   case measure => have := HK1.out; have := HK2.out; have := HK3.out; omega
                   case rel => exact ⟨(wrap64 (x10_3 + 1)), (y177), (y182), (y187), (.slice Ao42 y177.length co42), (.slice Ao47 y182.length co47), (.slice Ao52 y187.length co52), zr, H', ⟨by have := HK1.out; have := HK2.out; have := HK3.out; omega⟩, ⟨by (with_reducible repeat (first | apply Kd.S_alloc | apply Kd.S_drewN | apply Kd.S_drew)); exact Kd.S_mono (Kd.S_far (p := ⟨gb157, 4, none⟩) (Kd.S_types HO_6.out BK157.out (by decide)) (fun _ hk => hk.2) (.slice Ao52 y187.length co52)) (fun _ hk => trivial)⟩, ⟨by (with_reducible repeat (first | apply Kd.R_alloc | apply Kd.R_drewN | apply Kd.R_drew)); exact Kd.R_mono (zK HO_158001.out BK157.out) (fun _ hk => ⟨hk.1.1, ⟨hk.1.2, hk.2⟩⟩)⟩, ⟨by (with_reducible repeat (first | apply Kd.R_alloc | apply Kd.R_drewN | apply Kd.R_drew)); exact Kd.R_mono (zK HO179.out BK157.out) (fun _ hk => ⟨hk.1.1, ⟨hk.1.2, hk.2⟩⟩)⟩, ⟨by (with_reducible repeat (first | apply Kd.R_alloc | apply Kd.R_drewN | apply Kd.R_drew)); exact Kd.R_mono (zK HO184.out BK157.out) (fun _ hk => ⟨hk.1.1, ⟨hk.1.2, hk.2⟩⟩)⟩, ⟨by (with_reducible repeat (first | apply Kd.R_alloc | apply Kd.R_drewN | apply Kd.R_drew)); exact Kd.R_mono (zK HO189.out BK157.out) (fun _ hk => ⟨hk.1, ⟨hk.2.1, hk.2.2⟩⟩)⟩, ⟨by (with_reducible repeat (first | refine blk_drewN ?_ _ | refine blk_drew ?_ | refine blk_alloc ?_ _)); refine blk_far ?_ NB156_157.out _; (with_reducible repeat (first | refine blk_drewN ?_ _ | refine blk_drew ?_ | refine blk_alloc ?_ _)); exact BK156.out⟩, ⟨by (with_reducible repeat (first | refine blk_drewN ?_ _ | refine blk_drew ?_ | refine blk_alloc ?_ _)); refine blk_put (cs := #[.int .i64 a0, .slice Ao30 y171.length co30, .slice Ao42 y177.length co42, .slice Ao47 y182.length co47, u158004]) ?_ 4 _ rfl; (with_reducible repeat (first | refine blk_drewN ?_ _ | refine blk_drew ?_ | refine blk_alloc ?_ _)); exact BK157.out⟩, ⟨(zs2 GE156.out GE157.out)⟩⟩
                  ·rw [if_neg c38] at H
                   exact absurd H (by simp)
                 ·rw [if_neg c37] at H
                  exact absurd H (by simp)
                ·rw [if_neg c36] at H
                 exact absurd H (by simp)
               ·rw [if_neg c35] at H
                exact absurd H (by simp)
              ·rw [if_neg c34] at H
               have c34b0 : decide (x10_3 < ((rd_L7 x6_1 x9_2).length : Int)) = false := decide_eq_false c34
               clear c34
               have H' := zA H
               clear H
               obtain ⟨Ao54, co54, eo54⟩ := Kd.S_slice HO_6.out
               subst eo54
               have p174 : 0 ≤ (x9_2 : Int) := zd
               have q174 : x9_2 < (x6_1.length : Int) := zd
               obtain ⟨ad174, A174_0, c174_0, e174, hx174_0, hl174_0, hi174_0⟩ := at_L7 (Kd.S_reads' HO_6.out).2.2 x9_2 p174 q174
               cases e174
               obtain ⟨ce174, hce174, hMe174, hcc174⟩ := Kd.S_get HO_6.out [] x9_2 p174 (by first | exact q174 | exact zd | (have e_ := (Kd.S_reads' HO_6.out).1; omega))
               obtain ⟨ve174_0, rfl, ge174_0⟩ := hMe174
               have hv174_0 := hcc174 0 _ rfl
               rw [Nat.add_zero, show ((Kd.slice 99 k99)).sz = 1 from rfl, Nat.mul_one] at hv174_0
               replace hv174_0 := Option.some.inj (hv174_0.symm.trans hx174_0)
               rw [hv174_0] at ge174_0
               have HL174_0 := zA (show Kd.R k99 99 _ _ _ _ (rd_L7 x6_1 x9_2) from ge174_0)
               clear hv174_0 ge174_0
               have HX174_0 := zA hx174_0
               clear hcc174 hce174
               have HR174_0 := zA hi174_0
               have HC174_0 := zA hl174_0
               clear hi174_0 hl174_0
               replace p174 := eq_true p174
               replace q174 := eq_true q174
               go_wp2
               go_roundg k3
               case measure => have := HK1.out; have := HK2.out; have := HK3.out; omega
               case rel => exact ⟨(wrap64 (x9_2 + 1)), (y171), (x158002_3), (x158003_3), (x158004_3), (.slice Ao30 y171.length co30), (u158002), (u158003), (u158004), zr, H', ⟨by have := HK1.out; have := HK2.out; have := HK3.out; omega⟩, ⟨zS HO_6.out⟩, ⟨zR HO_158001.out⟩, ⟨zR HO_158002.out⟩, ⟨zR HO_158003.out⟩, ⟨zR HO_158004.out⟩, ⟨zb BK156.out⟩, ⟨zb BK157.out⟩, ⟨(zs2 GE156.out GE157.out)⟩⟩
             ·rw [if_neg c33] at H
              exact absurd H (by simp)
            ·rw [if_neg c32] at H
             exact absurd H (by simp)
         ·rw [if_neg c25] at H
          exact absurd H (by simp)
        ·rw [if_neg c24] at H
         have c24b0 : decide (x9_2 < a0) = false := decide_eq_false c24
         clear c24
         by_cases c55 : x158001_2.length < 17592186044416
         ·rw [if_pos c55] at H
          have LMc55 := zA c55
          clear c55
          obtain ⟨y168, hy168⟩ : ∃ y_ : List Int, y_ = (x158001_2 ++ [(x158002_2.length : Int)]) := ⟨_, rfl⟩
          replace H : (some (a0, y168, x158002_2, x158003_2, x158004_2)) = some (r1, r2, r3, r4, r5) := zh hy168
          have Ny168 := zA hy168
          clear hy168
          simp only [Option.some.injEq, Prod.mk.injEq] at H
          obtain ⟨rfl, rfl, rfl, rfl, rfl⟩ := H
          have hnb56 := NB157_156.out
          have hnc56 := NB156_157.out
          obtain ⟨hcz57_0, hcz57_1, hcz57_2, hcz57_3, hcz57_4, hfz57_0, hfz57_1, hfz57_2, hfz57_3, hfz57_4⟩ := zh5 BK157.out
          obtain ⟨Ao58, co58, eo58⟩ := Kd.R_slice HO_158002.out
          subst eo58
          go_wp2_with (first | ((with_reducible refine gate_builtin (b := .append) (xs := #[.tmp 101, .tmp 105]) rfl ?_); at_builtin; refine Kd.R_append (Kd.int .i64) (w0 := w) w.heap.size rfl (.tmp 101) (.tmp 105) 22 3 (.int .i64 0) 8 rfl Tryd.underlying22 info3 rfl (by decide) (by omega) u158001 x158001_2 (x158002_2.length : Int) [.int .i64 (x158002_2.length : Int)] (fun k_ => zO k_ (.slice Ao58 x158002_2.length co58) ∧ zO k_ (u158003) ∧ zO k_ (u158004)) (fun _ => False) rfl rfl ?aP (fun _ hk => hk.elim) ?aF ?aO ?aB ?aS ?aL ?_; (case aP => exact rfl); (case aB => exact (zs2 GE156.out GE157.out)); (case aF => exact (fun k_ hk => ⟨Kd.fresh' (zl HO_158002.out) k_ hk, Kd.fresh' (zl HO_158003.out) k_ hk, Kd.fresh' (zl HO_158004.out) k_ hk⟩)); (case aO => exact (zR HO_158001.out)); (case aS => exact (below_size (zs2 GE156.out GE157.out))); (case aL => have := LMc55.out; omega); intro v169 w59 ho hb hg hat; rw [← Ny168.out] at ho; have n0_ := zA (Kd.S_over' (zS HO_6.out) (Kd.R_typed (zR HO_158001.out)) (by decide) hg); have n1_ := zA (Kd.R_after (ok := (fun k_ => zO k_ (u158003) ∧ zO k_ (u158004))) (by (with_reducible repeat (first | apply Kd.R_alloc | apply Kd.R_drewN | apply Kd.R_drew)); exact Kd.R_mono HO_158002.out (fun _ hk => ⟨⟨hk.2.1, hk.2.2⟩, hk.1⟩)) hg hat); have n2_ := zA (Kd.R_after (ok := (fun k_ => zO k_ (.slice Ao58 x158002_2.length co58) ∧ zO k_ (u158004))) (by (with_reducible repeat (first | apply Kd.R_alloc | apply Kd.R_drewN | apply Kd.R_drew)); exact Kd.R_mono HO_158003.out (fun _ hk => ⟨⟨hk.2.1, hk.2.2⟩, hk.1⟩)) hg hat); have n3_ := zA (Kd.R_after (ok := (fun k_ => zO k_ (.slice Ao58 x158002_2.length co58) ∧ zO k_ (u158003))) (by (with_reducible repeat (first | apply Kd.R_alloc | apply Kd.R_drewN | apply Kd.R_drew)); exact Kd.R_mono HO_158004.out (fun _ hk => ⟨⟨hk.2.1, hk.2.2⟩, hk.1⟩)) hg hat); have n4_ := zA (blk_grown (g := gb156) (o := .cells #[.int .i64 0, .slice none 0 0, .slice none 0 0, .slice none 0 0, .slice none 0 0] 28 (0, 0)) (zb BK156.out) hg (Kd.R_ne HO_158001.out BK156.out (by decide))); have n5_ := zA (blk_grown (g := gb157) (o := .cells #[.int .i64 a0, u158001, .slice Ao58 x158002_2.length co58, u158003, u158004] 28 (0, 0)) (zb BK157.out) hg (Kd.R_ne HO_158001.out BK157.out (by decide))); have n6_ := zA (hb); have n7_ := zA (ho); clear HO_6 HO_158002 HO_158003 HO_158004 BK156 BK157 HB HO_158001; have HO_6 := n0_; have HO_158002 := n1_; have HO_158003 := n2_; have HO_158004 := n3_; have BK156 := n4_; have BK157 := n5_; have HB := n6_; have HO170 := n7_; clear n0_ n1_ n2_ n3_ n4_ n5_ n6_ n7_; clear ho hb hg hat; obtain ⟨Ao60, co60, eo60⟩ := Kd.R_slice HO170.out; subst eo60; obtain ⟨hcz61_0, hcz61_1, hcz61_2, hcz61_3, hcz61_4, hfz61_0, hfz61_1, hfz61_2, hfz61_3, hfz61_4⟩ := zh5 BK157.out; obtain ⟨hcz62_0, hcz62_1, hcz62_2, hcz62_3, hcz62_4, hfz62_0, hfz62_1, hfz62_2, hfz62_3, hfz62_4⟩ := zh5 BK156.out; obtain ⟨Ao63, co63, eo63⟩ := Kd.R_slice HO_158003.out; subst eo63; obtain ⟨Ao64, co64, eo64⟩ := Kd.R_slice HO_158004.out; subst eo64))
          refine bodyPost_ret (results_cell_row rfl _ _ gb156 28 #[.int .i64 a0, .slice Ao60 y168.length co60, .slice Ao58 x158002_2.length co58, .slice Ao63 x158003_2.length co63, .slice Ao64 x158004_2.length co64] (0, 0) _ rfl (by (with_reducible repeat (first | refine blk_drewN ?_ _ | refine blk_drew ?_ | refine blk_alloc ?_ _)); refine blk_put (cs := #[.int .i64 a0, .slice Ao60 y168.length co60, .slice Ao58 x158002_2.length co58, .slice Ao63 x158003_2.length co63, .slice none 0 0]) ?_ 4 _ rfl; (with_reducible repeat (first | refine blk_drewN ?_ _ | refine blk_drew ?_ | refine blk_alloc ?_ _)); refine blk_put (cs := #[.int .i64 a0, .slice Ao60 y168.length co60, .slice Ao58 x158002_2.length co58, .slice none 0 0, .slice none 0 0]) ?_ 3 _ rfl; (with_reducible repeat (first | refine blk_drewN ?_ _ | refine blk_drew ?_ | refine blk_alloc ?_ _)); refine blk_put (cs := #[.int .i64 a0, .slice Ao60 y168.length co60, .slice none 0 0, .slice none 0 0, .slice none 0 0]) ?_ 2 _ rfl; (with_reducible repeat (first | refine blk_drewN ?_ _ | refine blk_drew ?_ | refine blk_alloc ?_ _)); refine blk_put (cs := #[.int .i64 a0, .slice none 0 0, .slice none 0 0, .slice none 0 0, .slice none 0 0]) ?_ 1 _ rfl; (with_reducible repeat (first | refine blk_drewN ?_ _ | refine blk_drew ?_ | refine blk_alloc ?_ _)); refine blk_put (cs := #[.int .i64 0, .slice none 0 0, .slice none 0 0, .slice none 0 0, .slice none 0 0]) ?_ 0 _ rfl; (with_reducible repeat (first | refine blk_drewN ?_ _ | refine blk_drew ?_ | refine blk_alloc ?_ _)); refine blk_far ?_ NB156_157.out _; (with_reducible repeat (first | refine blk_drewN ?_ _ | refine blk_drew ?_ | refine blk_alloc ?_ _)); exact BK156.out) Tryd.underlying28 rfl (by kernel_rfl)) rfl ?_
          exact ⟨_, _, _, _, ze, by (with_reducible repeat (first | apply Kd.R_alloc | apply Kd.R_drewN | apply Kd.R_drew)); exact Kd.R_mono (Kd.R_far (p := ⟨gb156, 4, none⟩) (Kd.R_far (p := ⟨gb156, 3, none⟩) (Kd.R_far (p := ⟨gb156, 2, none⟩) (Kd.R_far (p := ⟨gb156, 1, none⟩) (Kd.R_far (p := ⟨gb156, 0, none⟩) (Kd.R_far (p := ⟨gb157, 1, none⟩) (Kd.R_types (Kd.R_types HO170.out BK157.out (by decide)) BK156.out (by decide)) (fun _ hk => hk.1.2) (.slice Ao60 y168.length co60)) (fun _ hk => hk.2) (.int .i64 a0)) (fun _ hk => hk.2) (.slice Ao60 y168.length co60)) (fun _ hk => hk.2) (.slice Ao58 x158002_2.length co58)) (fun _ hk => hk.2) (.slice Ao63 x158003_2.length co63)) (fun _ hk => hk.2) (.slice Ao64 x158004_2.length co64)) (fun _ hk => ⟨hk.1.1.1, ⟨hk.1.1.2.1, hk.1.1.2.2⟩⟩), by (with_reducible repeat (first | apply Kd.R_alloc | apply Kd.R_drewN | apply Kd.R_drew)); exact Kd.R_mono (Kd.R_far (p := ⟨gb156, 4, none⟩) (Kd.R_far (p := ⟨gb156, 3, none⟩) (Kd.R_far (p := ⟨gb156, 2, none⟩) (Kd.R_far (p := ⟨gb156, 1, none⟩) (Kd.R_far (p := ⟨gb156, 0, none⟩) (Kd.R_far (p := ⟨gb157, 1, none⟩) (Kd.R_types (Kd.R_types HO_158002.out BK157.out (by decide)) BK156.out (by decide)) (fun _ hk => hk.1.2) (.slice Ao60 y168.length co60)) (fun _ hk => hk.2) (.int .i64 a0)) (fun _ hk => hk.2) (.slice Ao60 y168.length co60)) (fun _ hk => hk.2) (.slice Ao58 x158002_2.length co58)) (fun _ hk => hk.2) (.slice Ao63 x158003_2.length co63)) (fun _ hk => hk.2) (.slice Ao64 x158004_2.length co64)) (fun _ hk => ⟨hk.1.1.2, ⟨hk.1.1.1.1, hk.1.1.1.2⟩⟩), by (with_reducible repeat (first | apply Kd.R_alloc | apply Kd.R_drewN | apply Kd.R_drew)); exact Kd.R_mono (Kd.R_far (p := ⟨gb156, 4, none⟩) (Kd.R_far (p := ⟨gb156, 3, none⟩) (Kd.R_far (p := ⟨gb156, 2, none⟩) (Kd.R_far (p := ⟨gb156, 1, none⟩) (Kd.R_far (p := ⟨gb156, 0, none⟩) (Kd.R_far (p := ⟨gb157, 1, none⟩) (Kd.R_types (Kd.R_types HO_158003.out BK157.out (by decide)) BK156.out (by decide)) (fun _ hk => hk.1.2) (.slice Ao60 y168.length co60)) (fun _ hk => hk.2) (.int .i64 a0)) (fun _ hk => hk.2) (.slice Ao60 y168.length co60)) (fun _ hk => hk.2) (.slice Ao58 x158002_2.length co58)) (fun _ hk => hk.2) (.slice Ao63 x158003_2.length co63)) (fun _ hk => hk.2) (.slice Ao64 x158004_2.length co64)) (fun _ hk => ⟨hk.1.1.2, ⟨hk.1.1.1.1, hk.1.1.1.2⟩⟩), by (with_reducible repeat (first | apply Kd.R_alloc | apply Kd.R_drewN | apply Kd.R_drew)); exact Kd.R_mono (Kd.R_far (p := ⟨gb156, 4, none⟩) (Kd.R_far (p := ⟨gb156, 3, none⟩) (Kd.R_far (p := ⟨gb156, 2, none⟩) (Kd.R_far (p := ⟨gb156, 1, none⟩) (Kd.R_far (p := ⟨gb156, 0, none⟩) (Kd.R_far (p := ⟨gb157, 1, none⟩) (Kd.R_types (Kd.R_types HO_158004.out BK157.out (by decide)) BK156.out (by decide)) (fun _ hk => hk.1.2) (.slice Ao60 y168.length co60)) (fun _ hk => hk.2) (.int .i64 a0)) (fun _ hk => hk.2) (.slice Ao60 y168.length co60)) (fun _ hk => hk.2) (.slice Ao58 x158002_2.length co58)) (fun _ hk => hk.2) (.slice Ao63 x158003_2.length co63)) (fun _ hk => hk.2) (.slice Ao64 x158004_2.length co64)) (fun _ hk => ⟨hk.1.1.2, ⟨hk.1.1.1.1, hk.1.1.1.2⟩⟩), (zs2 GE156.out GE157.out)⟩
         ·rw [if_neg c55] at H
          exact absurd H (by simp)
  ·rw [if_neg c4] at H
   exact absurd H (by simp)
 ·rw [if_neg c3] at H
  exact absurd H (by simp)

end Go.Proofs.YthbeplmihjhoeaaDoor.PFnExactBuildGraph
