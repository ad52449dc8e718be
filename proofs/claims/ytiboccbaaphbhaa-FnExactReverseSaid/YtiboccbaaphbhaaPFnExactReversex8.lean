-- made by wip/tools/myprint.py (this session's own program, over the kit's printer)
import Derived.Test.YtiboccbaaphbhaaPFnExactReversex0
import Derived.Test.YtiboccbaaphbhaaPFnExactReversex6
namespace Go.Proofs.Ytiboccbaaphbhaa.PFnExactReverse
open Go.RowKit Go.Proofs.YtiboccbaaphbhaaW.PrintWords Go.Proofs.YtiboccbaaphbhaaW.PrintLast Go.Proofs.YtiboccbaaphbhaaW.PrintMore
attribute [local go_sem] max2_int min2_int max_two min_two max_three min_three max_four min_four   -- for this text's walks alone
set_option linter.unusedVariables false
set_option linter.unusedSimpArgs false

/-! ### impl_Reverse: function 10 -/
mutual
def impl_Reverse.l0 : Nat → List (List Int) → List Int → Int → Int → Int → List Int → List Int → List Int → List Int → Option (Int × List Int × List Int × List Int × List Int × Int)
 | 0, _, _, _, _, _, _, _, _, _ => none
 | k + 1, x4, x5, x25, x26, x220000, x220001, x220002, x220003, x220004 => if x26 < x25 then (if 0 ≤ x26 then (if x26 < (x220001.length : Int) then (impl_Reverse.l1 k x4 x5 x26 (rd x220001 x26) x25 x26 x220000 x220001 x220002 x220003 x220004) else (none)) else (none)) else (impl_Reverse.l2 k x5 x4 (x4.length : Int) 0 x220000 x220001 x220002 x220003 x220004 x220000 ([] : List Int) ([] : List Int) ([] : List Int) ([] : List Int))
def impl_Reverse.l1 : Nat → List (List Int) → List Int → Int → Int → Int → Int → Int → List Int → List Int → List Int → List Int → Option (Int × List Int × List Int × List Int × List Int × Int)
 | 0, _, _, _, _, _, _, _, _, _, _, _ => none
 | k + 1, x4, x5, x6, x7, x25, x26, x220000, x220001, x220002, x220003, x220004 => if 0 ≤ (wrap64 (x6 + 1)) then (if (wrap64 (x6 + 1)) < (x220001.length : Int) then (if x7 < (rd x220001 (wrap64 (x6 + 1))) then (if 0 ≤ x7 then (if x7 < (x220002.length : Int) then (if 0 ≤ (rd x220002 x7) then (if (rd x220002 x7) < (x4.length : Int) then (if (rd_L3 x4 (rd x220002 x7)).length < 17592186044416 then (if x7 < (x5.length : Int) then (impl_Reverse.l1 k (x4.set ((rd x220002 x7) : Int).toNat ((rd_L3 x4 (rd x220002 x7)) ++ [x7])) (x5.set (x7 : Int).toNat x6) x6 (wrap64 (x7 + 1)) x25 x26 x220000 x220001 x220002 x220003 x220004) else (none)) else (none)) else (none)) else (none)) else (none)) else (none)) else (impl_Reverse.l0 k x4 x5 x25 (wrap64 (x26 + 1)) x220000 x220001 x220002 x220003 x220004)) else (none)) else (none)
def impl_Reverse.l2 : Nat → List Int → List (List Int) → Int → Int → Int → List Int → List Int → List Int → List Int → Int → List Int → List Int → List Int → List Int → Option (Int × List Int × List Int × List Int × List Int × Int)
 | 0, _, _, _, _, _, _, _, _, _, _, _, _, _, _ => none
 | k + 1, x5, x70, x71, x72, x220000, x220001, x220002, x220003, x220004, x239000, x239001, x239002, x239003, x239004 => if x72 < x71 then (if 0 ≤ x72 then (if x72 < (x70.length : Int) then (if x239001.length < 17592186044416 then (impl_Reverse.l3 k x5 x70 x71 x72 (rd_L3 x70 x72) ((rd_L3 x70 x72).length : Int) 0 x220000 x220001 x220002 x220003 x220004 x239000 (x239001 ++ [(x239002.length : Int)]) x239002 x239003 x239004) else (none)) else (none)) else (none)) else (if x239001.length < 17592186044416 then (some (x239000, (x239001 ++ [(x239002.length : Int)]), x239002, x239003, x239004, 0)) else (none))
def impl_Reverse.l3 : Nat → List Int → List (List Int) → Int → Int → List Int → Int → Int → Int → List Int → List Int → List Int → List Int → Int → List Int → List Int → List Int → List Int → Option (Int × List Int × List Int × List Int × List Int × Int)
 | 0, _, _, _, _, _, _, _, _, _, _, _, _, _, _, _, _, _ => none
 | k + 1, x5, x70, x71, x72, x84, x85, x86, x220000, x220001, x220002, x220003, x220004, x239000, x239001, x239002, x239003, x239004 => if x86 < x85 then (if 0 ≤ x86 then (if x86 < (x84.length : Int) then (if 0 ≤ (rd x84 x86) then (if (rd x84 x86) < (x5.length : Int) then (if (rd x84 x86) < (x220003.length : Int) then (if (rd x84 x86) < (x220004.length : Int) then (if x239002.length < 17592186044416 then (if x239003.length < 17592186044416 then (if x239004.length < 17592186044416 then (impl_Reverse.l3 k x5 x70 x71 x72 x84 x85 (wrap64 (x86 + 1)) x220000 x220001 x220002 x220003 x220004 x239000 x239001 (x239002 ++ [rd x5 (rd x84 x86)]) (x239003 ++ [rd x220003 (rd x84 x86)]) (x239004 ++ [rd x220004 (rd x84 x86)])) else (none)) else (none)) else (none)) else (none)) else (none)) else (none)) else (none)) else (none)) else (none)) else (impl_Reverse.l2 k x5 x70 x71 (wrap64 (x72 + 1)) x220000 x220001 x220002 x220003 x220004 x239000 x239001 x239002 x239003 x239004)
end
def impl_Reverse.f (k : Nat) (a0_0 : Int) (l0_1 : List Int) (l0_2 : List Int) (l0_3 : List Int) (l0_4 : List Int) : Option (Int × List Int × List Int × List Int × List Int × Int) := (impl_ValidGraph.f k a0_0 l0_1 l0_2 l0_3 l0_4).bind fun t221 => (if t221 = true then (if 0 ≤ a0_0 then (if (a0_0 : Int).toNat ≤ 11728124029610 then (if 0 ≤ (l0_2.length : Int) then (if ((l0_2.length : Int) : Int).toNat ≤ 35184372088832 then (impl_Reverse.l0 k (List.replicate (a0_0 : Int).toNat []) (List.replicate ((l0_2.length : Int) : Int).toNat 0) a0_0 0 a0_0 l0_1 l0_2 l0_3 l0_4) else (none)) else (none)) else (none)) else (none)) else (some (0, ([] : List Int), ([] : List Int), ([] : List Int), ([] : List Int), 1)))
theorem impl_Reverse.mono_l : ∀ k, (∀ y0 y1 y2 y3 y4 y5 y6 y7 y8, LeO (impl_Reverse.l0 k y0 y1 y2 y3 y4 y5 y6 y7 y8) (impl_Reverse.l0 (k + 1) y0 y1 y2 y3 y4 y5 y6 y7 y8)) ∧ (∀ y0 y1 y2 y3 y4 y5 y6 y7 y8 y9 y10, LeO (impl_Reverse.l1 k y0 y1 y2 y3 y4 y5 y6 y7 y8 y9 y10) (impl_Reverse.l1 (k + 1) y0 y1 y2 y3 y4 y5 y6 y7 y8 y9 y10)) ∧ (∀ y0 y1 y2 y3 y4 y5 y6 y7 y8 y9 y10 y11 y12 y13, LeO (impl_Reverse.l2 k y0 y1 y2 y3 y4 y5 y6 y7 y8 y9 y10 y11 y12 y13) (impl_Reverse.l2 (k + 1) y0 y1 y2 y3 y4 y5 y6 y7 y8 y9 y10 y11 y12 y13)) ∧ (∀ y0 y1 y2 y3 y4 y5 y6 y7 y8 y9 y10 y11 y12 y13 y14 y15 y16, LeO (impl_Reverse.l3 k y0 y1 y2 y3 y4 y5 y6 y7 y8 y9 y10 y11 y12 y13 y14 y15 y16) (impl_Reverse.l3 (k + 1) y0 y1 y2 y3 y4 y5 y6 y7 y8 y9 y10 y11 y12 y13 y14 y15 y16))
 | 0 => ⟨fun _ _ _ _ _ _ _ _ _ r h => by simp [impl_Reverse.l0] at h, fun _ _ _ _ _ _ _ _ _ _ _ r h => by simp [impl_Reverse.l1] at h, fun _ _ _ _ _ _ _ _ _ _ _ _ _ _ r h => by simp [impl_Reverse.l2] at h, fun _ _ _ _ _ _ _ _ _ _ _ _ _ _ _ _ _ r h => by simp [impl_Reverse.l3] at h⟩
 | k + 1 => by
  obtain ⟨ih0, ih1, ih2, ih3⟩ := impl_Reverse.mono_l k
  refine ⟨?_, ?_, ?_, ?_⟩
  ·intro y0 y1 y2 y3 y4 y5 y6 y7 y8
   unfold impl_Reverse.l0
   have m1 := @impl_ValidGraph.mono
   exact zm
  ·intro y0 y1 y2 y3 y4 y5 y6 y7 y8 y9 y10
   unfold impl_Reverse.l1
   have m1 := @impl_ValidGraph.mono
   exact zm
  ·intro y0 y1 y2 y3 y4 y5 y6 y7 y8 y9 y10 y11 y12 y13
   unfold impl_Reverse.l2
   have m1 := @impl_ValidGraph.mono
   exact zm
  ·intro y0 y1 y2 y3 y4 y5 y6 y7 y8 y9 y10 y11 y12 y13 y14 y15 y16
   unfold impl_Reverse.l3
   have m1 := @impl_ValidGraph.mono
   exact zm
theorem impl_Reverse.mono : ∀ a0 a1 a2 a3 a4 k, LeO (impl_Reverse.f k a0 a1 a2 a3 a4) (impl_Reverse.f (k + 1) a0 a1 a2 a3 a4) := by
 intro a0 a1 a2 a3 a4 k
 obtain ⟨ih0, ih1, ih2, ih3⟩ := impl_Reverse.mono_l k
 unfold impl_Reverse.f
 have m1 := @impl_ValidGraph.mono
 exact zm
def impl_Reverse.T11 : Bool × List (List Nat × List Nat) := (true, [([], []), ([], []), ([1], [1]), ([], []), ([2, 3], [2, 3]), ([4], [4]), ([], []), ([], []), ([7], [7]), ([], []), ([8, 9], [8, 9]), ([10], [10]), ([6, 11], [6, 11]), ([12], [12]), ([], []), ([14], [14]), ([13, 15], [13, 15]), ([0, 5, 0, 1, 2, 3, 4, 5, 6, 7, 8, 9, 10, 11, 12, 13, 14, 15, 16], [0, 5]), ([17, 16, 16, 0, 1, 2, 3, 4, 5, 6, 7, 8, 9, 10, 11, 12, 13, 14, 15, 16], [16, 17])])
def impl_Reverse.B11 : List Nat := [0, 0, 2, 0, 14, 30, 0, 0, 128, 0, 896, 1920, 4032, 8128, 0, 16384, 65472, 131071, 262143]
theorem impl_Reverse.tab11 : rtab .any (opsOf Try.f10 11) = impl_Reverse.T11 := by kernel_rfl
theorem impl_Reverse.bits11 : waitsOk impl_Reverse.T11.2 impl_Reverse.B11 = true := by kernel_rfl
set_option maxHeartbeats 8000000 in
set_option maxRecDepth 100000 in
theorem impl_Reverse.calls (k : Nat) (a0_0 : Int) (A0_1 : Option Addr) (c0_1 : Nat) (l0_1 : List Int) (A0_2 : Option Addr) (c0_2 : Nat) (l0_2 : List Int) (A0_3 : Option Addr) (c0_3 : Nat) (l0_3 : List Int) (A0_4 : Option Addr) (c0_4 : Nat) (l0_4 : List Int) (r1 : Int) (r2 : List Int) (r3 : List Int) (r4 : List Int) (r5 : List Int) (r6 : Int) (w : World) (hr0_1 : Kd.C (Kd.int .i64) w A0_1 l0_1.length l0_1) (hc0_1 : l0_1.length ≤ c0_1) (hr0_2 : Kd.C (Kd.int .i64) w A0_2 l0_2.length l0_2) (hc0_2 : l0_2.length ≤ c0_2) (hr0_3 : Kd.C (Kd.int .i64) w A0_3 l0_3.length l0_3) (hc0_3 : l0_3.length ≤ c0_3) (hr0_4 : Kd.C (Kd.int .i64) w A0_4 l0_4.length l0_4) (hc0_4 : l0_4.length ≤ c0_4) (h : impl_Reverse.f k a0_0 l0_1 l0_2 l0_3 l0_4 = some (r1, r2, r3, r4, r5, r6)) :
  Calls Try.prog 10 #[.agg #[.int .i64 a0_0, .slice A0_1 l0_1.length c0_1, .slice A0_2 l0_2.length c0_2, .slice A0_3 l0_3.length c0_3, .slice A0_4 l0_4.length c0_4]] w fun e w' => ∃ v1_ v2_ v3_ v4_ : Value, e = .returned (.tuple #[.agg #[.int .i64 r1, v1_, v2_, v3_, v4_], .int .i64 r6]) ∧ Kd.R (Kd.int .i64) 3 w' w.heap.size (fun k_ => zO k_ (v2_) ∧ zO k_ (v3_) ∧ zO k_ (v4_)) v1_ r2 ∧ Kd.R (Kd.int .i64) 3 w' w.heap.size (fun k_ => zO k_ (v1_) ∧ zO k_ (v3_) ∧ zO k_ (v4_)) v2_ r3 ∧ Kd.R (Kd.int .i64) 3 w' w.heap.size (fun k_ => zO k_ (v1_) ∧ zO k_ (v2_) ∧ zO k_ (v4_)) v3_ r4 ∧ Kd.R (Kd.int .i64) 3 w' w.heap.size (fun k_ => zO k_ (v1_) ∧ zO k_ (v2_) ∧ zO k_ (v3_)) v4_ r5 ∧ Below w.heap.size w w' := by
 have hu26 := Try.underlying26
 have HR0_1 := zA hr0_1
 have HC0_1 := zA hc0_1
 clear hr0_1 hc0_1
 have HR0_2 := zA hr0_2
 have HC0_2 := zA hc0_2
 clear hr0_2 hc0_2
 have HR0_3 := zA hr0_3
 have HC0_3 := zA hc0_3
 clear hr0_3 hc0_3
 have HR0_4 := zA hr0_4
 have HC0_4 := zA hc0_4
 clear hr0_4 hc0_4
 have HB := zA (Below.refl w.heap.size w)
 have H : ((impl_ValidGraph.f k a0_0 l0_1 l0_2 l0_3 l0_4).bind fun t221 => (if t221 = true then (if 0 ≤ a0_0 then (if (a0_0 : Int).toNat ≤ 11728124029610 then (if 0 ≤ (l0_2.length : Int) then (if ((l0_2.length : Int) : Int).toNat ≤ 35184372088832 then (impl_Reverse.l0 k (List.replicate (a0_0 : Int).toNat []) (List.replicate ((l0_2.length : Int) : Int).toNat 0) a0_0 0 a0_0 l0_1 l0_2 l0_3 l0_4) else (none)) else (none)) else (none)) else (none)) else (some (0, ([] : List Int), ([] : List Int), ([] : List Int), ([] : List Int), 1)))) = some (r1, r2, r3, r4, r5, r6) := h
 clear h
 replace H := Option.bind_eq_some_iff.mp H
 obtain ⟨t221, A20, H⟩ := H
 replace H : (if t221 = true then (if 0 ≤ a0_0 then (if (a0_0 : Int).toNat ≤ 11728124029610 then (if 0 ≤ (l0_2.length : Int) then (if ((l0_2.length : Int) : Int).toNat ≤ 35184372088832 then (impl_Reverse.l0 k (List.replicate (a0_0 : Int).toNat []) (List.replicate ((l0_2.length : Int) : Int).toNat 0) a0_0 0 a0_0 l0_1 l0_2 l0_3 l0_4) else (none)) else (none)) else (none)) else (none)) else (some (0, ([] : List Int), ([] : List Int), ([] : List Int), ([] : List Int), 1))) = some (r1, r2, r3, r4, r5, r6) := H
 have A2 := zA A20
 clear A20
 by_cases c3 : t221 = true
 ·subst c3
  have H1 : (if 0 ≤ a0_0 then (if (a0_0 : Int).toNat ≤ 11728124029610 then (if 0 ≤ (l0_2.length : Int) then (if ((l0_2.length : Int) : Int).toNat ≤ 35184372088832 then (impl_Reverse.l0 k (List.replicate (a0_0 : Int).toNat []) (List.replicate ((l0_2.length : Int) : Int).toNat 0) a0_0 0 a0_0 l0_1 l0_2 l0_3 l0_4) else (none)) else (none)) else (none)) else (none)) = some (r1, r2, r3, r4, r5, r6) := by rw [if_pos rfl] at H; exact H
  clear H
  have H := H1
  clear H1
  by_cases c4 : 0 ≤ a0_0
  ·rw [if_pos c4] at H
   have c4b0 := eq_true c4
   have c4b1 : decide (0 ≤ a0_0) = true := decide_eq_true c4
   clear c4
   by_cases c5 : (a0_0 : Int).toNat ≤ 11728124029610
   ·rw [if_pos c5] at H
    have c5b0 := eq_true c5
    have c5b1 : decide ((a0_0 : Int).toNat ≤ 11728124029610) = true := decide_eq_true c5
    clear c5
    obtain ⟨y222, hy222⟩ : ∃ y_ : List (List Int), y_ = (List.replicate (a0_0 : Int).toNat []) := ⟨_, rfl⟩
    replace H : (if 0 ≤ (l0_2.length : Int) then (if ((l0_2.length : Int) : Int).toNat ≤ 35184372088832 then (impl_Reverse.l0 k y222 (List.replicate ((l0_2.length : Int) : Int).toNat 0) a0_0 0 a0_0 l0_1 l0_2 l0_3 l0_4) else (none)) else (none)) = some (r1, r2, r3, r4, r5, r6) := zh hy222
    have Ny222 := zA hy222
    clear hy222
    by_cases c6 : 0 ≤ (l0_2.length : Int)
    ·rw [if_pos c6] at H
     have c6b0 := eq_true c6
     have c6b1 : decide (0 ≤ (l0_2.length : Int)) = true := decide_eq_true c6
     clear c6
     by_cases c7 : ((l0_2.length : Int) : Int).toNat ≤ 35184372088832
     ·rw [if_pos c7] at H
      have c7b0 := eq_true c7
      have c7b1 : decide (((l0_2.length : Int) : Int).toNat ≤ 35184372088832) = true := decide_eq_true c7
      clear c7
      obtain ⟨y225, hy225⟩ : ∃ y_ : List Int, y_ = (List.replicate ((l0_2.length : Int) : Int).toNat 0) := ⟨_, rfl⟩
      replace H : (impl_Reverse.l0 k y222 y225 a0_0 0 a0_0 l0_1 l0_2 l0_3 l0_4) = some (r1, r2, r3, r4, r5, r6) := zh hy225
      have Ny225 := zA hy225
      clear hy225
      have H' := zA H
      clear H
      go_enter Try.func10, Try.ntmps10
      go_wp2_with (first | ((with_reducible refine gate_dst (N := 1) rfl ?_); refine box_event ?hg (N := 1) ?hd (cs := #[.int .i64 a0_0, .slice A0_1 l0_1.length c0_1, .slice A0_2 l0_2.length c0_2, .slice A0_3 l0_3.length c0_3, .slice A0_4 l0_4.length c0_4]) (t := 26) ?hr ?_; (case hd => rfl); (case hg => rfl); (case hr => first | (go_simp; done) | (go_simp; rfl)); intro gb219 hg w8 hbox hb; have n0_ := zA (below_step z_ hb); have n1_ := zA (hbox); have n2_ := zA ((by rw [hg]; exact (below_size z_) : w.heap.size ≤ gb219)); have n3_ := zA ((by rw [hg]; exact (below_size z_) : w.heap.size ≤ gb219)); clear HB; have HB := n0_; have BK219 := n1_; have GW219 := n2_; have GE219 := n3_; clear n0_ n1_ n2_ n3_; clear hb hbox hg) | ((with_reducible refine gate_dst (N := 2) rfl ?_); refine box_event ?hg (N := 2) ?hd (cs := #[.int .i64 0, .slice none 0 0, .slice none 0 0, .slice none 0 0, .slice none 0 0]) (t := 26) ?hr ?_; (case hd => rfl); (case hg => rfl); (case hr => first | (go_simp; done) | (go_simp; rfl)); intro gb220 hg w9 hbox hb; have n0_ := zA (zB BK219.out hb); have n1_ := zA (below_step (zs GE219.out) hb); have n2_ := zA (hbox); have n3_ := zA ((by rw [hg]; exact (below_size (zs GE219.out)) : w.heap.size ≤ gb220)); have n4_ := zA ((by rw [hg]; exact (below_size (zs GE219.out)) : w.heap.size ≤ gb220)); have n5_ := zA ((by rw [hg]; exact Nat.ne_of_lt (zw BK219.out) : gb219 ≠ gb220)); have n6_ := zA ((by rw [hg]; exact Nat.ne_of_gt (zw BK219.out) : gb220 ≠ gb219)); clear BK219 HB; have BK219 := n0_; have HB := n1_; have BK220 := n2_; have GW220 := n3_; have GE220 := n4_; have NB219_220 := n5_; have NB220_219 := n6_; clear n0_ n1_ n2_ n3_ n4_ n5_ n6_; clear hb hbox hg; have hnb10 := NB219_220.out; have hnc10 := NB220_219.out; obtain ⟨hcz11_0, hcz11_1, hcz11_2, hcz11_3, hcz11_4, hfz11_0, hfz11_1, hfz11_2, hfz11_3, hfz11_4⟩ := zh5 BK219.out) | ((with_reducible refine gate_callee (f := 31) rfl ?_); refine goesL_ (some 14) rfl rfl Try.func31 (by kernel_rfl) rfl #[.agg #[.int .i64 a0_0, .slice A0_1 l0_1.length c0_1, .slice A0_2 l0_2.length c0_2, .slice A0_3 l0_3.length c0_3, .slice A0_4 l0_4.length c0_4]] rfl za ?_; (with_reducible refine (impl_ValidGraph.calls k a0_0 _ _ l0_1 _ _ l0_2 _ _ l0_3 _ _ l0_4 true _ ?side1 ?side2 ?side3 ?side4 ?side5 ?side6 ?side7 ?side8 A2.out).mono ?_); (case side1 => exact zc (Kd.C_below HR0_1.out HB.out)); (case side2 => exact HC0_1.out); (case side3 => exact zc (Kd.C_below HR0_2.out HB.out)); (case side4 => exact HC0_2.out); (case side5 => exact zc (Kd.C_below HR0_3.out HB.out)); (case side6 => exact HC0_3.out); (case side7 => exact zc (Kd.C_below HR0_4.out HB.out)); (case side8 => exact HC0_4.out); rintro e w12 ⟨rfl, hb⟩; refine ⟨_, rfl, ?_⟩; have n0_ := zA (zB BK219.out hb); have n1_ := zA (zB BK220.out hb); have n2_ := zA (below_step (zs2 GE219.out GE220.out) hb); clear BK219 BK220 HB; have BK219 := n0_; have BK220 := n1_; have HB := n2_; clear n0_ n1_ n2_; (try clear hb); (try clear hb2); (try clear hk); (try clear hi); obtain ⟨hcz13_0, hcz13_1, hcz13_2, hcz13_3, hcz13_4, hfz13_0, hfz13_1, hfz13_2, hfz13_3, hfz13_4⟩ := zh5 BK219.out) | ((with_reducible refine gate_dst (N := 19) rfl ?_); refine Kd.S_make (Kd.slice 3 (Kd.int .i64)) _ 22 rfl (N := 19) rfl 53 _ _ rfl a0_0 rfl rfl Try.underlying53 (.slice none 0 0) 24 info22 rfl (by decide) (by omega) [] (ok := fun _ => True) (okp := fun _ => True) ⟨_, rfl, Kd.R_nil _ _ _ _ _⟩ (fun _ hk => hk) trivial (zd) (Nat.le_trans (Nat.mul_le_mul_right _ (zd : a0_0.toNat ≤ 11728124029610)) (by omega)) (Below.refl _ _) (Nat.le_refl _) ?_; intro v223 w14 ho15 hb hg_ hnew_; clear hg_ hnew_; (first | rw [← Ny222.out] at ho15 | (simp only [Int.reduceToNat] at ho15; rw [← Ny222.out] at ho15)); have n0_ := zA (Kd.S_lower ho15 (below_size (zs2 GE219.out GE220.out))); have n1_ := zA (zB BK219.out hb); have n2_ := zA (zB BK220.out hb); have n3_ := zA (below_step (zs2 GE219.out GE220.out) hb); clear BK219 BK220 HB; have HO224 := n0_; have BK219 := n1_; have BK220 := n2_; have HB := n3_; clear n0_ n1_ n2_ n3_; clear hb ho15; obtain ⟨hcz16_0, hcz16_1, hcz16_2, hcz16_3, hcz16_4, hfz16_0, hfz16_1, hfz16_2, hfz16_3, hfz16_4⟩ := zh5 BK219.out) | ((with_reducible refine gate_dst (N := 23) rfl ?_); refine Kd.R_make (Kd.int .i64) _ 3 rfl (N := 23) rfl 22 _ _ rfl (l0_2.length : Int) rfl rfl Try.underlying22 (.int .i64 0) 8 info3 rfl (by decide) (by omega) 0 (ok := fun _ => True) (okp := fun _ => True) rfl (fun _ hk => hk) trivial (zd) (Nat.le_trans (Nat.mul_le_mul_right _ (zd : (l0_2.length : Int).toNat ≤ 35184372088832)) (by omega)) (Below.refl _ _) (Nat.le_refl _) ?_; intro v226 w17 ho18 hb hg_ hnew_; clear hg_ hnew_; (first | rw [← Ny225.out] at ho18 | (simp only [Int.reduceToNat] at ho18; rw [← Ny225.out] at ho18)); have n0_ := zA (Kd.S_elder' (zS HO224.out) (Kd.R_base ho18) hb); have n1_ := zA (Kd.R_lower ho18 (below_size (zs2 GE219.out GE220.out))); have n2_ := zA (zB BK219.out hb); have n3_ := zA (zB BK220.out hb); have n4_ := zA (below_step (zs2 GE219.out GE220.out) hb); clear HO224 BK219 BK220 HB; have HO224 := n0_; have HO227 := n1_; have BK219 := n2_; have BK220 := n3_; have HB := n4_; clear n0_ n1_ n2_ n3_ n4_; clear hb ho18; obtain ⟨hcz19_0, hcz19_1, hcz19_2, hcz19_3, hcz19_4, hfz19_0, hfz19_1, hfz19_2, hfz19_3, hfz19_4⟩ := zh5 BK219.out) | (go_at_call 32; go_in) | ((with_reducible refine bodyPost_end (fn := Try.f32) (v := .tuple #[]) ?_ rfl ?_); (exact results_none rfl _ _ _); simp only []) | (go_still_tail 14, (by kernel_rfl)))
      go_loopg [26] k (fun kq v26 w' => ∃ (x4_1 : List (List Int)) (x5_1 : List Int) (x26_1 : Int), v26 = .int .i64 x26_1 ∧ Aside0 (impl_Reverse.l0 kq x4_1 x5_1 a0_0 x26_1 a0_0 l0_1 l0_2 l0_3 l0_4 = some (r1, r2, r3, r4, r5, r6)) ∧ Aside0 (kq ≤ k) ∧ Aside0 (Kd.S (Kd.slice 3 (Kd.int .i64)) 22 w' w.heap.size (fun k_ => zO k_ (v226)) v223 x4_1) ∧ Aside0 (Kd.R (Kd.int .i64) 3 w' w.heap.size (fun _ => True) v226 x5_1) ∧ Aside0 (w'.heap[gb219]? = some (.cells #[.int .i64 a0_0, (.slice A0_1 l0_1.length c0_1), (.slice A0_2 l0_2.length c0_2), (.slice A0_3 l0_3.length c0_3), (.slice A0_4 l0_4.length c0_4)] 26 (0, 0))) ∧ Aside0 (w'.heap[gb220]? = some (.cells #[.int .i64 0, (.slice none 0 0), (.slice none 0 0), (.slice none 0 0), (.slice none 0 0)] 26 (0, 0))) ∧ Aside0 (Below w.heap.size w w'))
      case atStart => exact ⟨(y222), (y225), (0), zr, H', ⟨Nat.le_refl _⟩, ⟨by (with_reducible repeat (first | apply Kd.S_alloc | apply Kd.S_drewN | apply Kd.S_drew)); exact Kd.S_mono HO224.out (fun _ hk => hk.2)⟩, ⟨zR HO227.out⟩, ⟨zb BK219.out⟩, ⟨zb BK220.out⟩, ⟨(zs2 GE219.out GE220.out)⟩⟩
      case round =>
       clear H'
       (try clear c1); (try clear p2); (try clear c3); (try clear c4); (try clear c4b0); (try clear c4b1); (try clear c5); (try clear c5b0); (try clear c5b1); (try clear c6); (try clear c6b0); (try clear c6b1); (try clear c7); (try clear c7b0); (try clear c7b1); (try clear c10); (try clear hcz11_0 hcz11_1 hcz11_2 hcz11_3 hcz11_4); (try clear hcz13_0 hcz13_1 hcz13_2 hcz13_3 hcz13_4); (try clear hcz16_0 hcz16_1 hcz16_2 hcz16_3 hcz16_4); (try clear hcz19_0 hcz19_1 hcz19_2 hcz19_3 hcz19_4); (try clear hfz11_0 hfz11_1 hfz11_2 hfz11_3 hfz11_4); (try clear hfz13_0 hfz13_1 hfz13_2 hfz13_3 hfz13_4); (try clear hfz16_0 hfz16_1 hfz16_2 hfz16_3 hfz16_4); (try clear hfz19_0 hfz19_1 hfz19_2 hfz19_3 hfz19_4)
       obtain ⟨x4_1, x5_1, x26_1, rfl, HA, HK1, HO_4, HO_5, BK219, BK220, HB⟩ := hrel
       cases gk with
       | zero => exact absurd HA.out (by simp [impl_Reverse.l0])
       | succ k1 =>
        have H := HA.out
        clear HA
        simp only [impl_Reverse.l0] at H
        by_cases c20 : x26_1 < a0_0
        ·rw [if_pos c20] at H
         have c20b0 : decide (x26_1 < a0_0) = true := decide_eq_true c20
         clear c20
         by_cases c21 : 0 ≤ x26_1
         ·rw [if_pos c21] at H
          have c21b0 : decide (0 ≤ x26_1) = true := decide_eq_true c21
          clear c21
          by_cases c22 : x26_1 < (l0_1.length : Int)
          ·rw [if_pos c22] at H
           have c22b0 : decide (x26_1 < (l0_1.length : Int)) = true := decide_eq_true c22
           clear c22
           have H' := zA H
           clear H
           have hnb23 := NB219_220.out
           have hnc23 := NB220_219.out
           obtain ⟨hcz24_0, hcz24_1, hcz24_2, hcz24_3, hcz24_4, hfz24_0, hfz24_1, hfz24_2, hfz24_3, hfz24_4⟩ := zh5 BK219.out
           have p228 : 0 ≤ (x26_1 : Int) := zd
           have q228 : x26_1 < (l0_1.length : Int) := zd
           obtain ⟨ad228, e228, hx228_0⟩ := Kd.at_int HR0_1.out x26_1 p228 q228
           cases e228
           replace hx228_0 := zx HB.out hx228_0
           replace p228 := eq_true p228
           replace q228 := eq_true q228
           go_wp2
           go_loopg [7] k1 (fun kq v7 w' => ∃ (x4_2 : List (List Int)) (x5_2 : List Int) (x7_2 : Int), v7 = .int .i64 x7_2 ∧ Aside0 (impl_Reverse.l1 kq x4_2 x5_2 x26_1 x7_2 a0_0 x26_1 a0_0 l0_1 l0_2 l0_3 l0_4 = some (r1, r2, r3, r4, r5, r6)) ∧ Aside0 (kq ≤ k1) ∧ Aside0 (Kd.S (Kd.slice 3 (Kd.int .i64)) 22 w' w.heap.size (fun k_ => zO k_ (v226)) v223 x4_2) ∧ Aside0 (Kd.R (Kd.int .i64) 3 w' w.heap.size (fun _ => True) v226 x5_2) ∧ Aside0 (w'.heap[gb219]? = some (.cells #[.int .i64 a0_0, (.slice (some ad228) l0_1.length c0_1), (.slice A0_2 l0_2.length c0_2), (.slice A0_3 l0_3.length c0_3), (.slice A0_4 l0_4.length c0_4)] 26 (0, 0))) ∧ Aside0 (w'.heap[gb220]? = some (.cells #[.int .i64 0, (.slice none 0 0), (.slice none 0 0), (.slice none 0 0), (.slice none 0 0)] 26 (0, 0))) ∧ Aside0 (Below w.heap.size w w'))
           case atStart => exact ⟨(x4_1), (x5_1), (rd l0_1 x26_1), zr, H', ⟨Nat.le_refl _⟩, ⟨zS HO_4.out⟩, ⟨zR HO_5.out⟩, ⟨zb BK219.out⟩, ⟨zb BK220.out⟩, ⟨(zs2 GE219.out GE220.out)⟩⟩
           case round =>
            clear H'
            (try clear c1); (try clear c2); (try clear p2); (try clear q2); (try clear hx2); (try clear c3); (try clear c4); (try clear c4b0); (try clear c4b1); (try clear c5); (try clear c5b0); (try clear c5b1); (try clear c6); (try clear c6b0); (try clear c6b1); (try clear c7); (try clear c7b0); (try clear c7b1); (try clear c10); (try clear c20); (try clear c20b0); (try clear c21); (try clear c21b0); (try clear c22); (try clear c22b0); (try clear p22); (try clear q22); (try clear hx22); (try clear c23); (try clear hcz11_0 hcz11_1 hcz11_2 hcz11_3 hcz11_4); (try clear hcz13_0 hcz13_1 hcz13_2 hcz13_3 hcz13_4); (try clear hcz16_0 hcz16_1 hcz16_2 hcz16_3 hcz16_4); (try clear hcz19_0 hcz19_1 hcz19_2 hcz19_3 hcz19_4); (try clear hcz24_0 hcz24_1 hcz24_2 hcz24_3 hcz24_4); (try clear hfz11_0 hfz11_1 hfz11_2 hfz11_3 hfz11_4); (try clear hfz13_0 hfz13_1 hfz13_2 hfz13_3 hfz13_4); (try clear hfz16_0 hfz16_1 hfz16_2 hfz16_3 hfz16_4); (try clear hfz19_0 hfz19_1 hfz19_2 hfz19_3 hfz19_4); (try clear hfz24_0 hfz24_1 hfz24_2 hfz24_3 hfz24_4); (try clear hx228_0); (try clear p2); (try clear p228); (try clear q228)
            obtain ⟨x4_2, x5_2, x7_2, rfl, HA, HK2, HO_4, HO_5, BK219, BK220, HB⟩ := hrel
            cases gk with
            | zero => exact absurd HA.out (by simp [impl_Reverse.l1])
            | succ k2 =>
             have H := HA.out
             clear HA
             simp only [impl_Reverse.l1] at H
             obtain ⟨ji25, hji25⟩ : ∃ j_ : Int, (wrap64 (x26_1 + 1)) = j_ := ⟨_, rfl⟩
             replace H : (if 0 ≤ (ji25) then (if (ji25) < (l0_1.length : Int) then (if x7_2 < (rd l0_1 (ji25)) then (if 0 ≤ x7_2 then (if x7_2 < (l0_2.length : Int) then (if 0 ≤ (rd l0_2 x7_2) then (if (rd l0_2 x7_2) < (x4_2.length : Int) then (if (rd_L3 x4_2 (rd l0_2 x7_2)).length < 17592186044416 then (if x7_2 < (x5_2.length : Int) then (impl_Reverse.l1 k2 (x4_2.set ((rd l0_2 x7_2) : Int).toNat ((rd_L3 x4_2 (rd l0_2 x7_2)) ++ [x7_2])) (x5_2.set (x7_2 : Int).toNat x26_1) x26_1 (wrap64 (x7_2 + 1)) a0_0 x26_1 a0_0 l0_1 l0_2 l0_3 l0_4) else (none)) else (none)) else (none)) else (none)) else (none)) else (none)) else (impl_Reverse.l0 k2 x4_2 x5_2 a0_0 ji25 a0_0 l0_1 l0_2 l0_3 l0_4)) else (none)) else (none)) = some (r1, r2, r3, r4, r5, r6) := by first | (rw [hji25] at H; exact H) | (simp only [hji25] at H ⊢; exact H)
             have hji25w : (IntKind.i64.wrap (x26_1 + 1)) = ji25 := (i64_w _).trans hji25
             by_cases c26 : 0 ≤ (ji25)
             ·rw [if_pos c26] at H
              have c26b0 : decide (0 ≤ (ji25)) = true := decide_eq_true c26
              clear c26
              by_cases c27 : (ji25) < (l0_1.length : Int)
              ·rw [if_pos c27] at H
               have c27b0 : decide ((ji25) < (l0_1.length : Int)) = true := decide_eq_true c27
               clear c27
               by_cases c28 : x7_2 < (rd l0_1 (ji25))
               ·rw [if_pos c28] at H
                have c28b0 : decide (x7_2 < (rd l0_1 (ji25))) = true := decide_eq_true c28
                clear c28
                by_cases c29 : 0 ≤ x7_2
                ·rw [if_pos c29] at H
                 have c29b0 : decide (0 ≤ x7_2) = true := decide_eq_true c29
                 clear c29
                 by_cases c30 : x7_2 < (l0_2.length : Int)
                 ·rw [if_pos c30] at H
                  have c30b0 : decide (x7_2 < (l0_2.length : Int)) = true := decide_eq_true c30
                  clear c30
                  by_cases c31 : 0 ≤ (rd l0_2 x7_2)
                  ·rw [if_pos c31] at H
                   have c31b0 : decide (0 ≤ (rd l0_2 x7_2)) = true := decide_eq_true c31
                   clear c31
                   by_cases c32 : (rd l0_2 x7_2) < (x4_2.length : Int)
                   ·rw [if_pos c32] at H
                    have c32b0 : decide ((rd l0_2 x7_2) < (x4_2.length : Int)) = true := decide_eq_true c32
                    clear c32
                    by_cases c33 : (rd_L3 x4_2 (rd l0_2 x7_2)).length < 17592186044416
                    ·rw [if_pos c33] at H
                     have LMc33 := zA c33
                     clear c33
                     obtain ⟨y233, hy233⟩ : ∃ y_ : List Int, y_ = ((rd_L3 x4_2 (rd l0_2 x7_2)) ++ [x7_2]) := ⟨_, rfl⟩
                     replace H : (if x7_2 < (x5_2.length : Int) then (impl_Reverse.l1 k2 (x4_2.set ((rd l0_2 x7_2) : Int).toNat y233) (x5_2.set (x7_2 : Int).toNat x26_1) x26_1 (wrap64 (x7_2 + 1)) a0_0 x26_1 a0_0 l0_1 l0_2 l0_3 l0_4) else (none)) = some (r1, r2, r3, r4, r5, r6) := zh hy233
                     have Ny233 := zA hy233
                     clear hy233
                     obtain ⟨y236, hy236⟩ : ∃ y_ : List (List Int), y_ = (x4_2.set ((rd l0_2 x7_2) : Int).toNat y233) := ⟨_, rfl⟩
                     replace H : (if x7_2 < (x5_2.length : Int) then (impl_Reverse.l1 k2 y236 (x5_2.set (x7_2 : Int).toNat x26_1) x26_1 (wrap64 (x7_2 + 1)) a0_0 x26_1 a0_0 l0_1 l0_2 l0_3 l0_4) else (none)) = some (r1, r2, r3, r4, r5, r6) := zh hy236
                     have Ny236 := zA hy236
                     clear hy236
                     by_cases c35 : x7_2 < (x5_2.length : Int)
                     ·rw [if_pos c35] at H
                      have c35b0 : decide (x7_2 < (x5_2.length : Int)) = true := decide_eq_true c35
                      clear c35
                      obtain ⟨y237, hy237⟩ : ∃ y_ : List Int, y_ = (x5_2.set (x7_2 : Int).toNat x26_1) := ⟨_, rfl⟩
                      replace H : (impl_Reverse.l1 k2 y236 y237 x26_1 (wrap64 (x7_2 + 1)) a0_0 x26_1 a0_0 l0_1 l0_2 l0_3 l0_4) = some (r1, r2, r3, r4, r5, r6) := zh hy237
                      have Ny237 := zA hy237
                      clear hy237
                      have H' := zA H
                      clear H
                      have hnb37 := NB219_220.out
                      have hnc37 := NB220_219.out
                      obtain ⟨hcz38_0, hcz38_1, hcz38_2, hcz38_3, hcz38_4, hfz38_0, hfz38_1, hfz38_2, hfz38_3, hfz38_4⟩ := zh5 BK219.out
                      have p229 : 0 ≤ ((ji25) : Int) := zd
                      have q229 : (ji25) < (l0_1.length : Int) := zd
                      obtain ⟨ad229, e229, hx229_0⟩ := Kd.at_int HR0_1.out (ji25) p229 q229
                      obtain rfl : ad228 = ad229 := (by injection e229)
                      replace hx229_0 := zx HB.out hx229_0
                      replace p229 := eq_true p229
                      replace q229 := eq_true q229
                      try go_wp2
                      have n0_ := zA (Kd.S_drew HO_4.out)
                      have n1_ := zA (Kd.R_drew HO_5.out)
                      have n2_ := zA (blk_drew BK219.out)
                      have n3_ := zA (blk_drew BK220.out)
                      have n4_ := zA (below_drew1 HB.out)
                      clear HO_4
                      clear HO_5
                      clear BK219
                      clear BK220
                      clear HB
                      have HO_4 := n0_
                      have HO_5 := n1_
                      have BK219 := n2_
                      have BK220 := n3_
                      have HB := n4_
                      clear n0_ n1_ n2_ n3_ n4_
                      have p230 : 0 ≤ (x7_2 : Int) := zd
                      have q230 : x7_2 < (l0_2.length : Int) := zd
                      obtain ⟨ad230, e230, hx230_0⟩ := Kd.at_int HR0_2.out x7_2 p230 q230
                      have hw230_0 := hx230_0
                      cases e230
                      replace hx230_0 := zx HB.out hx230_0
                      replace p230 := eq_true p230
                      replace q230 := eq_true q230
                      have p231 : 0 ≤ (x7_2 : Int) := zd
                      have q231 : x7_2 < (l0_2.length : Int) := zd
                      obtain ⟨ad231, e231, hx231_0⟩ := Kd.at_int HR0_2.out x7_2 p231 q231
                      have hw231_0 := hx231_0
                      obtain rfl : ad230 = ad231 := (by injection e231)
                      replace hx231_0 := zx HB.out hx231_0
                      replace p231 := eq_true p231
                      replace q231 := eq_true q231
                      obtain ⟨Ao40, co40, eo40⟩ := Kd.S_slice HO_4.out
                      (first | subst eo40 | (injection eo40 with f1_ f2_ f3_; have f4_ := f1_.symm; have f5_ := f3_.symm; clear f1_ f2_ f3_; subst f4_; subst f5_))
                      have p232 : 0 ≤ ((rd l0_2 x7_2) : Int) := zd
                      have q232 : (rd l0_2 x7_2) < (x4_2.length : Int) := zd
                      obtain ⟨ad232, A232_0, c232_0, e232, hx232_0, hl232_0, hi232_0⟩ := at_L3 (Kd.S_reads' HO_4.out).2.2 (rd l0_2 x7_2) p232 q232
                      cases e232
                      obtain ⟨ce232, hce232, hMe232, hcc232⟩ := Kd.S_get HO_4.out [] (rd l0_2 x7_2) p232 (by first | exact q232 | exact zd | (have e_ := (Kd.S_reads' HO_4.out).1; omega))
                      obtain ⟨ve232_0, rfl, ge232_0⟩ := hMe232
                      have hv232_0 := hcc232 0 _ rfl
                      rw [Nat.add_zero, show ((Kd.slice 3 (Kd.int .i64))).sz = 1 from rfl, Nat.mul_one] at hv232_0
                      replace hv232_0 := Option.some.inj (hv232_0.symm.trans hx232_0)
                      rw [hv232_0] at ge232_0
                      have HL232_0 := zA (show Kd.R (Kd.int .i64) 3 _ _ _ _ (rd_L3 x4_2 (rd l0_2 x7_2)) from ge232_0)
                      clear hv232_0 ge232_0
                      have HX232_0 := zA hx232_0
                      clear hcc232 hce232
                      have HR232_0 := zA hi232_0
                      have HC232_0 := zA hl232_0
                      clear hi232_0 hl232_0
                      replace p232 := eq_true p232
                      replace q232 := eq_true q232
                      obtain ⟨go41, co41, eo41, gb41, gl41, cl41, HG41⟩ := Kd.S_form HO_4.out (by have h_ : ((rd l0_2 x7_2) : Int) < ((x4_2.length : Int) : Int) := zd; have h2_ : 0 ≤ ((rd l0_2 x7_2) : Int) := (zd); omega)
                      (first | cases eo41 | (injection eo41 with ea_ en_ ec_; (first | subst ea_ | (injection ea_ with ea_; subst ea_)); subst ec_; clear en_))
                      have GB41 := zA gb41
                      have GG41 := zA HG41
                      clear gb41 gl41 HG41
                      (first | simp only [add_plain] at hx232_0 | skip)
                      obtain ⟨oki41, ce41, hcl41, hM41, hcc41, _, _, hH41⟩ := Kd.S_elem HO_4.out [] ((rd l0_2 x7_2) : Int) (zd) (by have h_ : ((rd l0_2 x7_2) : Int) < ((x4_2.length : Int) : Int) := zd; first | exact h_ | (have e_ := (Kd.S_reads' HO_4.out).1; omega) | simpa using h_)
                      obtain ⟨ve41_0, rfl, ge41_0⟩ := hM41
                      have hv41 := hcc41 0 _ rfl
                      have hX41 := HX232_0.out
                      (try simp only [add_plain] at hX41)
                      (try simp only [Nat.add_zero] at hv41)
                      (try rw [show ((Kd.slice 3 (Kd.int .i64))).sz = 1 from rfl, Nat.mul_one] at hv41)
                      replace hv41 := Option.some.inj (hv41.symm.trans hX41)
                      subst hv41
                      clear hX41 hcc41 hcl41
                      have UU41 := zA (show Kd.R (Kd.int .i64) 3 _ w.heap.size oki41 (.slice A232_0 (rd_L3 x4_2 (rd l0_2 x7_2)).length c232_0) (rd_L3 x4_2 (rd l0_2 x7_2)) from ge41_0)
                      have HH41 := zA hH41
                      have HN41 := zA (Kd.S_reads' HO_4.out).1
                      clear hH41 ge41_0
                      refine start_ (n := 19) (S := fun w' => w'.cell? ⟨gb219, 0, none⟩ = some (.int .i64 a0_0) ∧ w'.cell? ⟨gb219, 1, none⟩ = some (.slice (some ad228) l0_1.length c0_1) ∧ w'.cell? ⟨gb219, 2, none⟩ = some (.slice (some ad230) l0_2.length c0_2) ∧ w'.cell? ⟨gb219, 3, none⟩ = some (.slice A0_3 l0_3.length c0_3) ∧ w'.cell? ⟨gb219, 4, none⟩ = some (.slice A0_4 l0_4.length c0_4) ∧ w'.cell? (ad230.add (x7_2).toNat) = some (.int .i64 (rd l0_2 x7_2)) ∧ w'.cell? (ad230.add (x7_2).toNat) = some (.int .i64 (rd l0_2 x7_2)) ∧ w'.cell? ⟨go41, ((rd l0_2 x7_2)).toNat, none⟩ = some (.slice A232_0 (rd_L3 x4_2 (rd l0_2 x7_2)).length c232_0)) (ds := [18]) #[false, false, false, false, false, false, false, false, false, false, false, false, false, false, false, false, false, false, false] (by kernel_rfl) rfl rfl ⟨(blk_cell BK219.out 0).trans rfl, (blk_cell BK219.out 1).trans rfl, (blk_cell BK219.out 2).trans rfl, (blk_cell BK219.out 3).trans rfl, (blk_cell BK219.out 4).trans rfl, ((HB.out.cell (World.block_lt_of_cell? w _ hw230_0)).trans hw230_0), ((HB.out.cell (World.block_lt_of_cell? w _ hw231_0)).trans hw231_0), hx232_0⟩ (fun hHeld => ?_); refine with_tabW impl_Reverse.tab11 impl_Reverse.bits11 (fun HT_ HW_ => ?_)
                      generalize wr.drew = w39 at HO_4 HO_5 BK219 BK220 HB GG41 HH41 HL232_0 HR232_0 HX232_0 UU41 hx230_0 hx231_0 hx232_0 hHeld ⊢
                      refine pure_ (i := 0) (N := some 44) (v := ?_) (a' := ?_) #[true, false, false, false, false, false, false, false, false, false, false, false, false, false, false, false, false, false, false] rfl rfl (any_of HT_.out (by kernel_rfl)) (fun _ _ _ h => h) (Or.inl ⟨by rfl, ?_⟩) ?_ ?_
                      rotate_left
                      ·intro w'
                       go_simp
                       with_reducible rfl
                      rotate_left
                      ·simp only [Act.put, List.setIfInBounds_toArray, List.set_cons_zero, List.set_cons_succ, i64_w, i32_w]
                       rfl
                      refine pure_ (i := 1) (N := some 45) (v := ?_) (a' := ?_) #[true, true, false, false, false, false, false, false, false, false, false, false, false, false, false, false, false, false, false] rfl rfl (any_of HT_.out (by kernel_rfl)) (fun _ _ _ h => h) (Or.inl ⟨by rfl, ?_⟩) ?_ ?_
                      rotate_left
                      ·intro w'
                       go_simp
                       with_reducible rfl
                      rotate_left
                      ·simp only [Act.put, List.setIfInBounds_toArray, List.set_cons_zero, List.set_cons_succ, i64_w, i32_w]
                       rfl
                      refine pure_ (i := 3) (N := some 47) (v := ?_) (a' := ?_) #[true, true, false, true, false, false, false, false, false, false, false, false, false, false, false, false, false, false, false] rfl rfl (any_of HT_.out (by kernel_rfl)) (fun _ _ _ h => h) (Or.inl ⟨by rfl, ?_⟩) ?_ ?_
                      rotate_left
                      ·intro w'
                       go_simp
                       with_reducible rfl
                      rotate_left
                      ·simp only [Act.put, List.setIfInBounds_toArray, List.set_cons_zero, List.set_cons_succ, i64_w, i32_w]
                       rfl
                      refine pure_ (i := 6) (N := some 50) (v := ?_) (a' := ?_) #[true, true, false, true, false, false, true, false, false, false, false, false, false, false, false, false, false, false, false] rfl rfl (any_of HT_.out (by kernel_rfl)) (fun _ _ _ h => h) (Or.inl ⟨by rfl, ?_⟩) ?_ ?_
                      rotate_left
                      ·intro w'
                       go_simp
                       with_reducible rfl
                      rotate_left
                      ·simp only [Act.put, List.setIfInBounds_toArray, List.set_cons_zero, List.set_cons_succ, i64_w, i32_w]
                       rfl
                      refine pure_ (i := 7) (N := some 51) (v := ?_) (a' := ?_) #[true, true, false, true, false, false, true, true, false, false, false, false, false, false, false, false, false, false, false] rfl rfl (any_of HT_.out (by kernel_rfl)) (fun _ _ _ h => h) (Or.inl ⟨by rfl, ?_⟩) ?_ ?_
                      rotate_left
                      ·intro w'
                       go_simp
                       with_reducible rfl
                      rotate_left
                      ·simp only [Act.put, List.setIfInBounds_toArray, List.set_cons_zero, List.set_cons_succ, i64_w, i32_w]
                       rfl
                      refine pure_ (i := 9) (N := some 53) (v := ?_) (a' := ?_) #[true, true, false, true, false, false, true, true, false, true, false, false, false, false, false, false, false, false, false] rfl rfl (any_of HT_.out (by kernel_rfl)) (fun _ _ _ h => h) (Or.inl ⟨by rfl, ?_⟩) ?_ ?_
                      rotate_left
                      ·intro w'
                       go_simp
                       with_reducible rfl
                      rotate_left
                      ·simp only [Act.put, List.setIfInBounds_toArray, List.set_cons_zero, List.set_cons_succ, i64_w, i32_w]
                       rfl
                      refine pure_ (i := 14) (N := some 58) (v := ?_) (a' := ?_) #[true, true, false, true, false, false, true, true, false, true, false, false, false, false, true, false, false, false, false] rfl rfl (any_of HT_.out (by kernel_rfl)) (fun _ _ _ h => h) (Or.inl ⟨by rfl, ?_⟩) ?_ ?_
                      rotate_left
                      ·intro w'
                       go_simp
                       with_reducible rfl
                      rotate_left
                      ·simp only [Act.put, List.setIfInBounds_toArray, List.set_cons_zero, List.set_cons_succ, i64_w, i32_w]
                       rfl
                      refine take_ (i := 2) (N := some 46) (v := ?_) (a' := ?_) #[true, true, true, true, false, false, true, true, false, true, false, false, false, false, true, false, false, false, false] rfl rfl (take_ofW HT_.out HW_.out (by kernel_rfl)) (fun _ _ _ h => h) (Or.inl ⟨by rfl, ?_⟩) hHeld ?_ ?_
                      rotate_left
                      ·rintro w' ⟨s0, s1, s2, s3, s4, s5, s6, s7⟩
                       go_simp
                       with_reducible rfl
                      rotate_left
                      ·simp only [Act.put, List.setIfInBounds_toArray, List.set_cons_zero, List.set_cons_succ, i64_w, i32_w]
                       rfl
                      refine pure_ (i := 4) (N := some 48) (v := ?_) (a' := ?_) #[true, true, true, true, true, false, true, true, false, true, false, false, false, false, true, false, false, false, false] rfl rfl (any_of HT_.out (by kernel_rfl)) (fun _ _ _ h => h) (Or.inl ⟨by rfl, ?_⟩) ?_ ?_
                      rotate_left
                      ·intro w'
                       go_simp
                       with_reducible rfl
                      rotate_left
                      ·simp only [Act.put, List.setIfInBounds_toArray, List.set_cons_zero, List.set_cons_succ, i64_w, i32_w]
                       rfl
                      refine take_ (i := 5) (N := some 49) (v := ?_) (a' := ?_) #[true, true, true, true, true, true, true, true, false, true, false, false, false, false, true, false, false, false, false] rfl rfl (take_ofW HT_.out HW_.out (by kernel_rfl)) (fun _ _ _ h => h) (Or.inl ⟨by rfl, ?_⟩) hHeld ?_ ?_
                      rotate_left
                      ·rintro w' ⟨s0, s1, s2, s3, s4, s5, s6, s7⟩
                       go_simp
                       with_reducible rfl
                      rotate_left
                      ·simp only [Act.put, List.setIfInBounds_toArray, List.set_cons_zero, List.set_cons_succ, i64_w, i32_w]
                       rfl
                      refine take_ (i := 8) (N := some 52) (v := ?_) (a' := ?_) #[true, true, true, true, true, true, true, true, true, true, false, false, false, false, true, false, false, false, false] rfl rfl (take_ofW HT_.out HW_.out (by kernel_rfl)) (fun _ _ _ h => h) (Or.inl ⟨by rfl, ?_⟩) hHeld ?_ ?_
                      rotate_left
                      ·rintro w' ⟨s0, s1, s2, s3, s4, s5, s6, s7⟩
                       go_simp
                       with_reducible rfl
                      rotate_left
                      ·simp only [Act.put, List.setIfInBounds_toArray, List.set_cons_zero, List.set_cons_succ, i64_w, i32_w]
                       rfl
                      refine pure_ (i := 10) (N := some 54) (v := ?_) (a' := ?_) #[true, true, true, true, true, true, true, true, true, true, true, false, false, false, true, false, false, false, false] rfl rfl (any_of HT_.out (by kernel_rfl)) (fun _ _ _ h => h) (Or.inl ⟨by rfl, ?_⟩) ?_ ?_
                      rotate_left
                      ·intro w'
                       go_simp
                       with_reducible rfl
                      rotate_left
                      ·simp only [Act.put, List.setIfInBounds_toArray, List.set_cons_zero, List.set_cons_succ, i64_w, i32_w]
                       rfl
                      refine take_ (i := 11) (N := some 55) (v := ?_) (a' := ?_) #[true, true, true, true, true, true, true, true, true, true, true, true, false, false, true, false, false, false, false] rfl rfl (take_ofW HT_.out HW_.out (by kernel_rfl)) (fun _ _ _ h => h) (Or.inl ⟨by rfl, ?_⟩) hHeld ?_ ?_
                      rotate_left
                      ·rintro w' ⟨s0, s1, s2, s3, s4, s5, s6, s7⟩
                       go_simp
                       with_reducible rfl
                      rotate_left
                      ·simp only [Act.put, List.setIfInBounds_toArray, List.set_cons_zero, List.set_cons_succ, i64_w, i32_w]
                       rfl
                      refine pure_ (i := 12) (N := some 56) (v := ?_) (a' := ?_) #[true, true, true, true, true, true, true, true, true, true, true, true, true, false, true, false, false, false, false] rfl rfl (any_of HT_.out (by kernel_rfl)) (fun _ _ _ h => h) (Or.inl ⟨by rfl, ?_⟩) ?_ ?_
                      rotate_left
                      ·intro w'
                       go_simp
                       with_reducible rfl
                      rotate_left
                      ·simp only [Act.put, List.setIfInBounds_toArray, List.set_cons_zero, List.set_cons_succ, i64_w, i32_w]
                       rfl
                      refine take_ (i := 13) (N := some 57) (v := ?_) (a' := ?_) #[true, true, true, true, true, true, true, true, true, true, true, true, true, true, true, false, false, false, false] rfl rfl (take_ofW HT_.out HW_.out (by kernel_rfl)) (fun _ _ _ h => h) (Or.inl ⟨by rfl, ?_⟩) hHeld ?_ ?_
                      rotate_left
                      ·rintro w' ⟨s0, s1, s2, s3, s4, s5, s6, s7⟩
                       go_simp
                       with_reducible rfl
                      rotate_left
                      ·simp only [Act.put, List.setIfInBounds_toArray, List.set_cons_zero, List.set_cons_succ, i64_w, i32_w]
                       rfl
                      refine one_ (i := 15) (N := some 59) #[true, true, true, true, true, true, true, true, true, true, true, true, true, true, true, true, false, false, false] rfl rfl (one_of HT_.out (by kernel_rfl)) (by decide) (fun K hK => ?_)
                      refine value_ (w1 := ?_) (v := ?_) (by rfl) rfl ?_ ?_
                      rotate_left 2
                      ·go_simp
                       constructor
                       ·rfl
                       ·rfl
                      refine hK.out _ _ ⟨(blk_cell (blk_alloc BK219.out _) 0).trans rfl, (blk_cell (blk_alloc BK219.out _) 1).trans rfl, (blk_cell (blk_alloc BK219.out _) 2).trans rfl, (blk_cell (blk_alloc BK219.out _) 3).trans rfl, (blk_cell (blk_alloc BK219.out _) 4).trans rfl, (World.cell?_alloc_lt _ _ _ (World.block_lt_of_cell? _ _ (((HB.out.cell (World.block_lt_of_cell? w _ hw230_0)).trans hw230_0)))).trans (((HB.out.cell (World.block_lt_of_cell? w _ hw230_0)).trans hw230_0)), (World.cell?_alloc_lt _ _ _ (World.block_lt_of_cell? _ _ (((HB.out.cell (World.block_lt_of_cell? w _ hw231_0)).trans hw231_0)))).trans (((HB.out.cell (World.block_lt_of_cell? w _ hw231_0)).trans hw231_0)), (World.cell?_alloc_lt _ _ _ (World.block_lt_of_cell? _ _ (hHeld.2.2.2.2.2.2.2))).trans (hHeld.2.2.2.2.2.2.2)⟩ (fun hHeld => ?_)
                      clear hK K
                      refine norm_ (a' := ?_) ?_ ?_
                      rotate_left
                      ·show Act.put _ (some 59) _ = _
                       simp only [Act.put, List.setIfInBounds_toArray, List.set_cons_zero, List.set_cons_succ, i64_w, i32_w]
                       rfl
                      refine one_ (i := 16) (N := some 60) #[true, true, true, true, true, true, true, true, true, true, true, true, true, true, true, true, true, false, false] rfl rfl (one_of HT_.out (by kernel_rfl)) (by decide) (fun K hK => ?_)
                      refine Kd.R_append_step (Kd.int .i64) (w0 := w) w.heap.size (by rfl) (.tmp 57) (.tmp 59) 22 3 (.int .i64 0) 8 rfl Try.underlying22 info3 rfl (by decide) (by omega) (.slice A232_0 (rd_L3 x4_2 (rd l0_2 x7_2)).length c232_0) (rd_L3 x4_2 (rd l0_2 x7_2)) x7_2 [.int .i64 x7_2] (fun k_ => oki41 k_ ∨ ((fun k_ => zO k_ (v226))) k_ ∧ w39.heap.size ≤ k_) (fun _ => False) rfl rfl ?aP (fun _ hk => hk.elim) ?aF ?aO ?aB ?aS ?aL ?_
                      (case aP => exact rfl)
                      (case aB => exact (zs2 GE219.out GE220.out))
                      (case aF => exact (fun k_ hk => .inr ⟨Kd.fresh' (zl HO_5.out) k_ hk, hk⟩))
                      (case aO => exact (by (with_reducible repeat (first | apply Kd.R_alloc | apply Kd.R_drewN | apply Kd.R_drew)); exact Kd.R_mono UU41.out (fun _ hk => .inl hk)))
                      (case aS => exact (below_size (zs2 GE219.out GE220.out)))
                      (case aL => have := LMc33.out; omega)
                      intro v234 w42 ho hb hg hat
                      (first | have HS7_ := cell_grown hg (hHeld.2.2.2.2.2.2.2) (by first | (rw [add_block]; exact (fun e_ => ((HL232_0.out.1 _ e_.symm).2) rfl)) | (show some (Addr.add _ _).block ≠ _; rw [add_block]; exact (fun e_ => ((HL232_0.out.1 _ e_.symm).2) rfl)) | exact (fun e_ => ((HL232_0.out.1 _ e_.symm).2) rfl)) | have HS7_ := cell_grown hg (cell_unalloc (hHeld.2.2.2.2.2.2.2) (by first | (rw [add_block]; exact Kd.S_lt HO_4.out _ rfl) | (show (Addr.add _ _).block < _; rw [add_block]; exact Kd.S_lt HO_4.out _ rfl) | exact Kd.S_lt HO_4.out _ rfl)) (by first | (rw [add_block]; exact (fun e_ => ((HL232_0.out.1 _ e_.symm).2) rfl)) | (show some (Addr.add _ _).block ≠ _; rw [add_block]; exact (fun e_ => ((HL232_0.out.1 _ e_.symm).2) rfl)) | exact (fun e_ => ((HL232_0.out.1 _ e_.symm).2) rfl)))
                      rw [← Ny233.out] at ho
                      have n0_ := zA (Kd.R_grown2 (zR HO_5.out) rfl hg (fun k_ e_ => (HL232_0.out.1 k_ e_).1))
                      have n1_ := zA (blk_grown (g := gb219) (o := .cells #[.int .i64 a0_0, .slice (some ad228) l0_1.length c0_1, .slice (some ad230) l0_2.length c0_2, .slice A0_3 l0_3.length c0_3, .slice A0_4 l0_4.length c0_4] 26 (0, 0)) (zb BK219.out) hg (Kd.R_ne HL232_0.out BK219.out (by decide)))
                      have n2_ := zA (blk_grown (g := gb220) (o := .cells #[.int .i64 0, .slice none 0 0, .slice none 0 0, .slice none 0 0, .slice none 0 0] 26 (0, 0)) (zb BK220.out) hg (Kd.R_ne HL232_0.out BK220.out (by decide)))
                      have n3_ := zA (hb)
                      have n4_ := zA (Kd.H_grown (Kd.H_widen (by repeat (first | exact HH41.out | refine Kd.H_alloc ?_ _ | refine Kd.H_drewN ?_ _ | refine Kd.H_drew ?_))) hg (fun k_ e_ => .inl (UU41.out.1 k_ e_)))
                      have n5_ := zA (ho)
                      clear HO_5
                      clear BK219
                      clear BK220
                      clear HB
                      clear HH41
                      clear HO_4
                      clear UU41
                      clear HL232_0
                      have HO_5 := n0_
                      have BK219 := n1_
                      have BK220 := n2_
                      have HB := n3_
                      have HH41 := n4_
                      have HO235 := n5_
                      clear n0_ n1_ n2_ n3_ n4_ n5_
                      clear ho hb hg hat
                      have p34 : 0 ≤ ((rd l0_2 x7_2) : Int) := zd
                      have q34 : ((rd l0_2 x7_2) : Int) < ((x4_2.length : Int) : Int) := zd
                      replace p34 := eq_true p34
                      replace q34 := eq_true q34
                      obtain ⟨Ao45, co45, eo45⟩ := Kd.R_slice HO235.out
                      (first | subst eo45 | (injection eo45 with f1_ f2_ f3_; have f4_ := f1_.symm; have f5_ := f3_.symm; clear f1_ f2_ f3_; subst f4_; subst f5_))
                      obtain ⟨_, _, hraw43, _, _, hcc43, _⟩ := Kd.H_raw HH41.out (zd) (by have h_ : ((rd l0_2 x7_2) : Int) < ((x4_2.length : Int) : Int) := zd; first | exact h_ | (have e_ := (HN41.out); omega) | simpa using h_)
                      obtain ⟨_, hfr43⟩ := Kd.H_at HH41.out (zd) (by have h_ : ((rd l0_2 x7_2) : Int) < ((x4_2.length : Int) : Int) := zd; first | exact h_ | (have e_ := (HN41.out); omega) | simpa using h_)
                      have hx43_0 := hcc43 0 _ rfl
                      have hf43_0 := hfr43 0
                      (try simp only [Nat.add_zero] at hx43_0 hf43_0)
                      (try rw [show ((Kd.slice 3 (Kd.int .i64))).sz = 1 from rfl, Nat.mul_one] at hx43_0)
                      (try rw [show ((Kd.slice 3 (Kd.int .i64))).sz = 1 from rfl, Nat.mul_one] at hf43_0)
                      have HP43 := Kd.S_seg0 HH41.out (zd) (by have h_ : ((rd l0_2 x7_2) : Int) < ((x4_2.length : Int) : Int) := zd; first | exact h_ | (have e_ := (HN41.out); omega) | simpa using h_) (seg := [.slice Ao45 y233.length co45]) (j := 0) (show 1 ≤ 1 from by decide) (x' := y233) (Kd.M_row HO235.out) (fun _ hk => hk)
                      (try simp only [show ((Kd.slice 3 (Kd.int .i64))).sz = 1 from rfl, Nat.mul_one, Nat.add_zero] at HP43)
                      clear hcc43 hfr43
                      have HNB219_go41 := zA (show gb219 ≠ go41 from by have h_ := Kd.R_ne hraw43 BK219.out (by decide); intro e_; exact h_ (by rw [e_]; rfl))
                      have HNB220_go41 := zA (show gb220 ≠ go41 from by have h_ := Kd.R_ne hraw43 BK220.out (by decide); intro e_; exact h_ (by rw [e_]; rfl))
                      have HS43 := HP43.1
                      rw [← Ny236.out] at HS43
                      have HQ43 := zA HS43
                      obtain ⟨_, hgg43⟩ := Kd.R_typed hraw43 go41 rfl
                      have GG43_ := zA hgg43
                      clear HP43 HS43 hgg43
                      refine hK.out _ _ ⟨(blk_cell BK219.out 0).trans rfl, (blk_cell BK219.out 1).trans rfl, (blk_cell BK219.out 2).trans rfl, (blk_cell BK219.out 3).trans rfl, (blk_cell BK219.out 4).trans rfl, ((HB.out.cell (World.block_lt_of_cell? w _ hw230_0)).trans hw230_0), ((HB.out.cell (World.block_lt_of_cell? w _ hw231_0)).trans hw231_0), HS7_⟩ (fun hHeld => ?_)
                      clear hK K
                      refine norm_ (a' := ?_) ?_ ?_
                      rotate_left
                      ·show Act.put _ (some 60) _ = _
                       simp only [Act.put, List.setIfInBounds_toArray, List.set_cons_zero, List.set_cons_succ, i64_w, i32_w]
                       rfl
                      refine pure_ (i := 17) (N := some 61) (v := ?_) (a' := ?_) #[true, true, true, true, true, true, true, true, true, true, true, true, true, true, true, true, true, true, false] rfl rfl (any_of HT_.out (by kernel_rfl)) (fun _ _ _ h => h) (Or.inl ⟨by rfl, ?_⟩) ?_ ?_
                      rotate_left
                      ·intro w'
                       go_simp
                       with_reducible rfl
                      rotate_left
                      ·simp only [Act.put, List.setIfInBounds_toArray, List.set_cons_zero, List.set_cons_succ, i64_w, i32_w]
                       rfl
                      refine last_ (i := 18) (N := none) #[true, true, true, true, true, true, true, true, true, true, true, true, true, true, true, true, true, true, true] rfl rfl (one_of HT_.out (by kernel_rfl)) (by decide) (fun K hK => ?_)
                      refine skip_ (w1 := ?_) (by rfl) rfl ?_ ?_
                      rotate_left
                      ·go_simp
                       rfl
                      refine hK.out _ _ ?_
                      clear hK K
                      refine done_ (done_of HT_.out (by kernel_rfl)) ?_
                      have n0_ : Aside0 (Kd.R (Kd.int .i64) 3 (w42.setCell ⟨go41, ((rd l0_2 x7_2) : Int).toNat, none⟩ (.slice Ao45 y233.length co45)) w.heap.size (fun _ => True) v226 x5_2) := ⟨by (with_reducible repeat (first | apply Kd.R_alloc | apply Kd.R_drewN | apply Kd.R_drew)); exact Kd.R_mono (Kd.R_far (p := ⟨go41, ((rd l0_2 x7_2) : Int).toNat, none⟩) (Kd.R_types HO_5.out GG43_.out (by decide)) (fun _ hk => hk.2) (.slice Ao45 y233.length co45)) (fun _ hk => trivial)⟩
                      have n1_ : Aside0 (Kd.S (Kd.slice 3 (Kd.int .i64)) 22 (w42.setCell ⟨go41, ((rd l0_2 x7_2) : Int).toNat, none⟩ (.slice Ao45 y233.length co45)) w.heap.size (fun k_ => zO k_ (v226)) (.slice (some ⟨go41, 0, none⟩) x4_2.length co40) y236) := ⟨by (with_reducible repeat (first | apply Kd.S_alloc | apply Kd.S_drewN | apply Kd.S_drew)); exact HQ43.out⟩
                      have n2_ : Aside0 ((w42.setCell ⟨go41, ((rd l0_2 x7_2) : Int).toNat, none⟩ (.slice Ao45 y233.length co45)).heap[gb219]? = some (.cells #[.int .i64 a0_0, .slice (some ad228) l0_1.length c0_1, .slice (some ad230) l0_2.length c0_2, .slice A0_3 l0_3.length c0_3, .slice A0_4 l0_4.length c0_4] 26 (0, 0))) := ⟨by (with_reducible repeat (first | refine blk_drewN ?_ _ | refine blk_drew ?_ | refine blk_alloc ?_ _)); refine blk_far ?_ HNB219_go41.out _; (with_reducible repeat (first | refine blk_drewN ?_ _ | refine blk_drew ?_ | refine blk_alloc ?_ _)); exact BK219.out⟩
                      have n3_ : Aside0 ((w42.setCell ⟨go41, ((rd l0_2 x7_2) : Int).toNat, none⟩ (.slice Ao45 y233.length co45)).heap[gb220]? = some (.cells #[.int .i64 0, .slice none 0 0, .slice none 0 0, .slice none 0 0, .slice none 0 0] 26 (0, 0))) := ⟨by (with_reducible repeat (first | refine blk_drewN ?_ _ | refine blk_drew ?_ | refine blk_alloc ?_ _)); refine blk_far ?_ HNB220_go41.out _; (with_reducible repeat (first | refine blk_drewN ?_ _ | refine blk_drew ?_ | refine blk_alloc ?_ _)); exact BK220.out⟩
                      have n4_ : Aside0 (Below w.heap.size w (w42.setCell ⟨go41, ((rd l0_2 x7_2) : Int).toNat, none⟩ (.slice Ao45 y233.length co45))) := ⟨by repeat (first | (with_reducible first | exact HB.out | apply below_alloc | apply pw_below_drewN | apply below_drew1 | refine below_set ?_ GB41.out | refine below_set ?_ GE219.out | refine below_set ?_ GE220.out) | exact HB.out)⟩
                      (try clear HO_5)
                      (try clear HO_4)
                      (try clear BK219)
                      (try clear BK220)
                      (try clear HB)
                      generalize (w42.setCell ⟨go41, ((rd l0_2 x7_2) : Int).toNat, none⟩ (.slice Ao45 y233.length co45)) = w46 at n0_ n1_ n2_ n3_ n4_ ⊢
                      have HO_5 := n0_
                      have HO_4 := n1_
                      have BK219 := n2_
                      have BK220 := n3_
                      have HB := n4_
                      clear n0_ n1_ n2_ n3_ n4_
                      have p36 : 0 ≤ (x7_2 : Int) := zd
                      have q36 : (x7_2 : Int) < ((x5_2.length : Int) : Int) := zd
                      obtain ⟨go36, co36, eo36, gb36, gl36, cl36, HG36⟩ := Kd.R_form HO_5.out (by omega)
                      (first | cases eo36 | (injection eo36 with ea_ en_ ec_; (first | subst ea_ | (injection ea_ with ea_; subst ea_)); subst ec_; clear en_))
                      have GB36 := zA gb36
                      have GG36 := zA HG36
                      clear gb36 gl36 HG36
                      obtain ⟨hx36_0, hf36_0⟩ := Kd.R_celln 0 HO_5.out (x7_2 : Int) p36 q36
                      replace p36 := eq_true p36
                      replace q36 := eq_true q36
                      obtain ⟨hy47_, hz47_⟩ := Kd.R_celln 0 HO_5.out (x7_2 : Int) (zd) (zd)
                      have HP47 := Kd.R_putg HO_5.out (x7_2 : Int) x26_1
                      try go_wp2_with (first | ((with_reducible refine gate_store (t := 3) (p := 65) rfl ?_); refine store_event (t := 3) (p := 65) (v := ?vo_w48) (w1 := (w46.setCell ⟨go36, (x7_2 : Int).toNat, none⟩ (.int .i64 x26_1))) ?hg ?ho ?hn ?hr ?_; (case ho => rfl); (case hg => rfl); (case hn => rfl); (case hr => first | (go_simp; done) | (go_simp; rfl)); intro w48 hw; have hg : w46.grownBy w48 (some go36) := (by rw [hw]; exact HP47.2); have hp_ : Kd.R (Kd.int .i64) 3 w48 w.heap.size (fun _ => True) (.slice (some ⟨go36, 0, none⟩) x5_2.length co36) y237 := (by rw [hw, Ny237.out]; exact HP47.1); clear HP47; have n0_ := zA (hp_); have n1_ := zA (blk_grown (g := gb219) (o := .cells #[.int .i64 a0_0, .slice (some ad228) l0_1.length c0_1, .slice (some ad230) l0_2.length c0_2, .slice A0_3 l0_3.length c0_3, .slice A0_4 l0_4.length c0_4] 26 (0, 0)) (zb BK219.out) hg (Kd.R_ne HO_5.out BK219.out (by decide))); have n2_ := zA (blk_grown (g := gb220) (o := .cells #[.int .i64 0, .slice none 0 0, .slice none 0 0, .slice none 0 0, .slice none 0 0] 26 (0, 0)) (zb BK220.out) hg (Kd.R_ne HO_5.out BK220.out (by decide))); have n3_ := zA (Kd.S_after (v := (.slice (some ⟨go36, 0, none⟩) x5_2.length co36)) (v1 := (.slice (some ⟨go36, 0, none⟩) x5_2.length co36)) (ok := (fun _ => True)) (by (with_reducible repeat (first | apply Kd.S_alloc | apply Kd.S_drewN | apply Kd.S_drew)); exact Kd.S_mono HO_4.out (fun _ hk => ⟨trivial, hk⟩)) hg (.inl rfl)); have n4_ := zA ((by rw [hw]; exact below_set (HB.out) GB36.out : Below w.heap.size w w48)); clear HO_5 BK219 BK220 HO_4 HB; have HO_5 := n0_; have BK219 := n1_; have BK220 := n2_; have HO_4 := n3_; have HB := n4_; clear n0_ n1_ n2_ n3_ n4_; clear hg hw hp_))
                      go_roundg k2
                      case measure => have := HK1.out; have := HK2.out; omega
                      case rel => exact ⟨(y236), (y237), (wrap64 (x7_2 + 1)), zr, H', ⟨by have := HK1.out; have := HK2.out; omega⟩, ⟨by (with_reducible repeat (first | apply Kd.S_alloc | apply Kd.S_drewN | apply Kd.S_drew)); exact Kd.S_mono HO_4.out (fun _ hk => hk.2)⟩, ⟨zR HO_5.out⟩, ⟨zb BK219.out⟩, ⟨zb BK220.out⟩, ⟨(zs2 GE219.out GE220.out)⟩⟩
                     ·rw [if_neg c35] at H
                      exact absurd H (by simp)
                    ·rw [if_neg c33] at H
                     exact absurd H (by simp)
                   ·rw [if_neg c32] at H
                    exact absurd H (by simp)
                  ·rw [if_neg c31] at H
                   exact absurd H (by simp)
                 ·rw [if_neg c30] at H
                  exact absurd H (by simp)
                ·rw [if_neg c29] at H
                 exact absurd H (by simp)
               ·rw [if_neg c28] at H
                have c28b0 : decide (x7_2 < (rd l0_1 (ji25))) = false := decide_eq_false c28
                clear c28
                have H' := zA H
                clear H
                have hnb49 := NB219_220.out
                have hnc49 := NB220_219.out
                obtain ⟨hcz50_0, hcz50_1, hcz50_2, hcz50_3, hcz50_4, hfz50_0, hfz50_1, hfz50_2, hfz50_3, hfz50_4⟩ := zh5 BK219.out
                have p229 : 0 ≤ ((ji25) : Int) := zd
                have q229 : (ji25) < (l0_1.length : Int) := zd
                obtain ⟨ad229, e229, hx229_0⟩ := Kd.at_int HR0_1.out (ji25) p229 q229
                obtain rfl : ad228 = ad229 := (by injection e229)
                replace hx229_0 := zx HB.out hx229_0
                replace p229 := eq_true p229
                replace q229 := eq_true q229
                go_wp2
                go_roundg k2
                case measure => have := HK1.out; have := HK2.out; omega
                case rel => exact ⟨(x4_2), (x5_2), (ji25), (by first | rfl | (simp; done) | (simp only [← hji25] <;> (first | rfl | simp)) | (simp [*]; done)), H', ⟨by have := HK1.out; have := HK2.out; omega⟩, ⟨zS HO_4.out⟩, ⟨zR HO_5.out⟩, ⟨zb BK219.out⟩, ⟨zb BK220.out⟩, ⟨(zs2 GE219.out GE220.out)⟩⟩
              ·rw [if_neg c27] at H
               exact absurd H (by simp)
             ·rw [if_neg c26] at H
              exact absurd H (by simp)
          ·rw [if_neg c22] at H
           exact absurd H (by simp)
         ·rw [if_neg c21] at H
          exact absurd H (by simp)
        ·rw [if_neg c20] at H
         have c20b0 : decide (x26_1 < a0_0) = false := decide_eq_false c20
         clear c20
         have H' := zA H
         clear H
         have hnb51 := NB219_220.out
         have hnc51 := NB220_219.out
         obtain ⟨hcz52_0, hcz52_1, hcz52_2, hcz52_3, hcz52_4, hfz52_0, hfz52_1, hfz52_2, hfz52_3, hfz52_4⟩ := zh5 BK219.out
         go_wp2_with (first | ((with_reducible refine gate_dst (N := 8) rfl ?_); refine box_event ?hg (N := 8) ?hd (cs := #[.int .i64 0, .slice none 0 0, .slice none 0 0, .slice none 0 0, .slice none 0 0]) (t := 26) ?hr ?_; (case hd => rfl); (case hg => rfl); (case hr => first | (go_simp; done) | (go_simp; rfl)); intro gb238 hg w53 hbox hb; have n0_ := zA (Kd.S_below (zS HO_4.out) hb); have n1_ := zA (Kd.R_below (zR HO_5.out) hb); have n2_ := zA (zB BK219.out hb); have n3_ := zA (zB BK220.out hb); have n4_ := zA (below_step (zs2 GE219.out GE220.out) hb); have n5_ := zA (hbox); have n6_ := zA ((by rw [hg]; exact (below_size (zs2 GE219.out GE220.out)) : w.heap.size ≤ gb238)); have n7_ := zA ((by rw [hg]; exact (below_size (zs2 GE219.out GE220.out)) : w.heap.size ≤ gb238)); have n8_ := zA ((by rw [hg]; exact Nat.ne_of_lt (zw BK219.out) : gb219 ≠ gb238)); have n9_ := zA ((by rw [hg]; exact Nat.ne_of_gt (zw BK219.out) : gb238 ≠ gb219)); have n10_ := zA ((by rw [hg]; exact Nat.ne_of_lt (zw BK220.out) : gb220 ≠ gb238)); have n11_ := zA ((by rw [hg]; exact Nat.ne_of_gt (zw BK220.out) : gb238 ≠ gb220)); clear HO_4 HO_5 BK219 BK220 HB; have HO_4 := n0_; have HO_5 := n1_; have BK219 := n2_; have BK220 := n3_; have HB := n4_; have BK238 := n5_; have GW238 := n6_; have GE238 := n7_; have NB219_238 := n8_; have NB238_219 := n9_; have NB220_238 := n10_; have NB238_220 := n11_; clear n0_ n1_ n2_ n3_ n4_ n5_ n6_ n7_ n8_ n9_ n10_ n11_; clear hb hbox hg; have hnb54 := NB238_219.out; have hnc54 := NB219_238.out; have hnb55 := NB238_220.out; have hnc55 := NB220_238.out; obtain ⟨hcz56_0, hcz56_1, hcz56_2, hcz56_3, hcz56_4, hfz56_0, hfz56_1, hfz56_2, hfz56_3, hfz56_4⟩ := zh5 BK238.out; obtain ⟨Ao57, co57, eo57⟩ := Kd.S_slice HO_4.out; subst eo57) | (go_at_call 32; go_in) | ((with_reducible refine bodyPost_end (fn := Try.f32) (v := .tuple #[]) ?_ rfl ?_); (exact results_none rfl _ _ _); simp only []) | (go_still_tail 14, (by kernel_rfl)))
         go_loopg [72] k1 (fun kq v72 w' => ∃ (x72_2 : Int) (x239001_2 : List Int) (x239002_2 : List Int) (x239003_2 : List Int) (x239004_2 : List Int) (u239001 : Value) (u239002 : Value) (u239003 : Value) (u239004 : Value), v72 = .int .i64 x72_2 ∧ Aside0 (impl_Reverse.l2 kq x5_1 x4_1 (x4_1.length : Int) x72_2 a0_0 l0_1 l0_2 l0_3 l0_4 a0_0 x239001_2 x239002_2 x239003_2 x239004_2 = some (r1, r2, r3, r4, r5, r6)) ∧ Aside0 (kq ≤ k1) ∧ Aside0 (Kd.R (Kd.int .i64) 3 w' w.heap.size (fun k_ => zO k_ (u239001) ∧ zO k_ (u239002) ∧ zO k_ (u239003) ∧ zO k_ (u239004)) v226 x5_1) ∧ Aside0 (Kd.S (Kd.slice 3 (Kd.int .i64)) 22 w' w.heap.size (fun k_ => zO k_ (v226) ∧ zO k_ (u239001) ∧ zO k_ (u239002) ∧ zO k_ (u239003) ∧ zO k_ (u239004)) (.slice Ao57 x4_1.length co57) x4_1) ∧ Aside0 (Kd.R (Kd.int .i64) 3 w' w.heap.size (fun k_ => zO k_ (v226) ∧ zO k_ (u239002) ∧ zO k_ (u239003) ∧ zO k_ (u239004)) u239001 x239001_2) ∧ Aside0 (Kd.R (Kd.int .i64) 3 w' w.heap.size (fun k_ => zO k_ (v226) ∧ zO k_ (u239001) ∧ zO k_ (u239003) ∧ zO k_ (u239004)) u239002 x239002_2) ∧ Aside0 (Kd.R (Kd.int .i64) 3 w' w.heap.size (fun k_ => zO k_ (v226) ∧ zO k_ (u239001) ∧ zO k_ (u239002) ∧ zO k_ (u239004)) u239003 x239003_2) ∧ Aside0 (Kd.R (Kd.int .i64) 3 w' w.heap.size (fun k_ => zO k_ (v226) ∧ zO k_ (u239001) ∧ zO k_ (u239002) ∧ zO k_ (u239003)) u239004 x239004_2) ∧ Aside0 (w'.heap[gb219]? = some (.cells #[.int .i64 a0_0, (.slice A0_1 l0_1.length c0_1), (.slice A0_2 l0_2.length c0_2), (.slice A0_3 l0_3.length c0_3), (.slice A0_4 l0_4.length c0_4)] 26 (0, 0))) ∧ Aside0 (w'.heap[gb220]? = some (.cells #[.int .i64 0, (.slice none 0 0), (.slice none 0 0), (.slice none 0 0), (.slice none 0 0)] 26 (0, 0))) ∧ Aside0 (w'.heap[gb238]? = some (.cells #[.int .i64 a0_0, u239001, u239002, u239003, u239004] 26 (0, 0))) ∧ Aside0 (Below w.heap.size w w'))
         case atStart => exact ⟨(0), (([] : List Int)), (([] : List Int)), (([] : List Int)), (([] : List Int)), (.slice none 0 0), (.slice none 0 0), (.slice none 0 0), (.slice none 0 0), zr, H', ⟨Nat.le_refl _⟩, ⟨by (with_reducible repeat (first | apply Kd.R_alloc | apply Kd.R_drewN | apply Kd.R_drew)); exact Kd.R_mono (zK HO_5.out BK238.out) (fun _ hk => ⟨(by simp [Value.ownBlock]), ⟨(by simp [Value.ownBlock]), ⟨(by simp [Value.ownBlock]), (by simp [Value.ownBlock])⟩⟩⟩)⟩, ⟨by (with_reducible repeat (first | apply Kd.S_alloc | apply Kd.S_drewN | apply Kd.S_drew)); exact Kd.S_mono (Kd.S_far (p := ⟨gb238, 4, none⟩) (Kd.S_far (p := ⟨gb238, 3, none⟩) (Kd.S_far (p := ⟨gb238, 2, none⟩) (Kd.S_far (p := ⟨gb238, 1, none⟩) (Kd.S_far (p := ⟨gb238, 0, none⟩) (Kd.S_types HO_4.out BK238.out (by decide)) (fun _ hk => hk.2) (.int .i64 a0_0)) (fun _ hk => hk.2) (.slice none 0 0)) (fun _ hk => hk.2) (.slice none 0 0)) (fun _ hk => hk.2) (.slice none 0 0)) (fun _ hk => hk.2) (.slice none 0 0)) (fun _ hk => ⟨hk.1, ⟨(by simp [Value.ownBlock]), ⟨(by simp [Value.ownBlock]), ⟨(by simp [Value.ownBlock]), (by simp [Value.ownBlock])⟩⟩⟩⟩)⟩, ⟨by first | exact Kd.R_nil _ _ _ _ _ | exact Kd.N_nil _ _ _ _ _ | exact Kd.V_nil _ _ _ _ _ | exact Kd.Q_nil _ _ _ _ _ | exact Kd.S_nil _ _ _ _ _⟩, ⟨by first | exact Kd.R_nil _ _ _ _ _ | exact Kd.N_nil _ _ _ _ _ | exact Kd.V_nil _ _ _ _ _ | exact Kd.Q_nil _ _ _ _ _ | exact Kd.S_nil _ _ _ _ _⟩, ⟨by first | exact Kd.R_nil _ _ _ _ _ | exact Kd.N_nil _ _ _ _ _ | exact Kd.V_nil _ _ _ _ _ | exact Kd.Q_nil _ _ _ _ _ | exact Kd.S_nil _ _ _ _ _⟩, ⟨by first | exact Kd.R_nil _ _ _ _ _ | exact Kd.N_nil _ _ _ _ _ | exact Kd.V_nil _ _ _ _ _ | exact Kd.Q_nil _ _ _ _ _ | exact Kd.S_nil _ _ _ _ _⟩, ⟨by (with_reducible repeat (first | refine blk_drewN ?_ _ | refine blk_drew ?_ | refine blk_alloc ?_ _)); refine blk_far ?_ NB219_238.out _; (with_reducible repeat (first | refine blk_drewN ?_ _ | refine blk_drew ?_ | refine blk_alloc ?_ _)); refine blk_far ?_ NB219_238.out _; (with_reducible repeat (first | refine blk_drewN ?_ _ | refine blk_drew ?_ | refine blk_alloc ?_ _)); refine blk_far ?_ NB219_238.out _; (with_reducible repeat (first | refine blk_drewN ?_ _ | refine blk_drew ?_ | refine blk_alloc ?_ _)); refine blk_far ?_ NB219_238.out _; (with_reducible repeat (first | refine blk_drewN ?_ _ | refine blk_drew ?_ | refine blk_alloc ?_ _)); refine blk_far ?_ NB219_238.out _; (with_reducible repeat (first | refine blk_drewN ?_ _ | refine blk_drew ?_ | refine blk_alloc ?_ _)); exact BK219.out⟩, ⟨by (with_reducible repeat (first | refine blk_drewN ?_ _ | refine blk_drew ?_ | refine blk_alloc ?_ _)); refine blk_far ?_ NB220_238.out _; (with_reducible repeat (first | refine blk_drewN ?_ _ | refine blk_drew ?_ | refine blk_alloc ?_ _)); refine blk_far ?_ NB220_238.out _; (with_reducible repeat (first | refine blk_drewN ?_ _ | refine blk_drew ?_ | refine blk_alloc ?_ _)); refine blk_far ?_ NB220_238.out _; (with_reducible repeat (first | refine blk_drewN ?_ _ | refine blk_drew ?_ | refine blk_alloc ?_ _)); refine blk_far ?_ NB220_238.out _; (with_reducible repeat (first | refine blk_drewN ?_ _ | refine blk_drew ?_ | refine blk_alloc ?_ _)); refine blk_far ?_ NB220_238.out _; (with_reducible repeat (first | refine blk_drewN ?_ _ | refine blk_drew ?_ | refine blk_alloc ?_ _)); exact BK220.out⟩, ⟨by (with_reducible repeat (first | refine blk_drewN ?_ _ | refine blk_drew ?_ | refine blk_alloc ?_ _)); refine blk_put (cs := #[.int .i64 a0_0, .slice none 0 0, .slice none 0 0, .slice none 0 0, .slice none 0 0]) ?_ 4 _ rfl; (with_reducible repeat (first | refine blk_drewN ?_ _ | refine blk_drew ?_ | refine blk_alloc ?_ _)); refine blk_put (cs := #[.int .i64 a0_0, .slice none 0 0, .slice none 0 0, .slice none 0 0, .slice none 0 0]) ?_ 3 _ rfl; (with_reducible repeat (first | refine blk_drewN ?_ _ | refine blk_drew ?_ | refine blk_alloc ?_ _)); refine blk_put (cs := #[.int .i64 a0_0, .slice none 0 0, .slice none 0 0, .slice none 0 0, .slice none 0 0]) ?_ 2 _ rfl; (with_reducible repeat (first | refine blk_drewN ?_ _ | refine blk_drew ?_ | refine blk_alloc ?_ _)); refine blk_put (cs := #[.int .i64 a0_0, .slice none 0 0, .slice none 0 0, .slice none 0 0, .slice none 0 0]) ?_ 1 _ rfl; (with_reducible repeat (first | refine blk_drewN ?_ _ | refine blk_drew ?_ | refine blk_alloc ?_ _)); refine blk_put (cs := #[.int .i64 0, .slice none 0 0, .slice none 0 0, .slice none 0 0, .slice none 0 0]) ?_ 0 _ rfl; (with_reducible repeat (first | refine blk_drewN ?_ _ | refine blk_drew ?_ | refine blk_alloc ?_ _)); exact BK238.out⟩, ⟨(zs3 GE219.out GE220.out GE238.out)⟩⟩
         case round =>
          clear H'
          (try clear c1); (try clear c2); (try clear p2); (try clear q2); (try clear hx2); (try clear c3); (try clear p3); (try clear q3); (try clear hx3); (try clear hf3); (try clear c4); (try clear c4b0); (try clear c4b1); (try clear hx4); (try clear hf4); (try clear c5); (try clear c5b0); (try clear c5b1); (try clear c6); (try clear c6b0); (try clear c6b1); (try clear p6); (try clear c7); (try clear c7b0); (try clear c7b1); (try clear c10); (try clear c20); (try clear c20b0); (try clear c21); (try clear c21b0); (try clear c22); (try clear c22b0); (try clear p22); (try clear q22); (try clear hx22); (try clear c23); (try clear p23); (try clear q23); (try clear hx23); (try clear c26); (try clear c26b0); (try clear c27); (try clear c27b0); (try clear c28); (try clear c28b0); (try clear c29); (try clear c29b0); (try clear c30); (try clear c30b0); (try clear c31); (try clear c31b0); (try clear c32); (try clear c32b0); (try clear c33); (try clear p34); (try clear q34); (try clear c35); (try clear c35b0); (try clear p36); (try clear q36); (try clear hx36); (try clear hf36); (try clear c37); (try clear c41); (try clear c43); (try clear hx43); (try clear hf43); (try clear c49); (try clear c51); (try clear c54); (try clear c55); (try clear hcz11_0 hcz11_1 hcz11_2 hcz11_3 hcz11_4); (try clear hcz13_0 hcz13_1 hcz13_2 hcz13_3 hcz13_4); (try clear hcz16_0 hcz16_1 hcz16_2 hcz16_3 hcz16_4); (try clear hcz19_0 hcz19_1 hcz19_2 hcz19_3 hcz19_4); (try clear hcz24_0 hcz24_1 hcz24_2 hcz24_3 hcz24_4); (try clear hcz38_0 hcz38_1 hcz38_2 hcz38_3 hcz38_4); (try clear hcz50_0 hcz50_1 hcz50_2 hcz50_3 hcz50_4); (try clear hcz52_0 hcz52_1 hcz52_2 hcz52_3 hcz52_4); (try clear hcz56_0 hcz56_1 hcz56_2 hcz56_3 hcz56_4); (try clear hfz11_0 hfz11_1 hfz11_2 hfz11_3 hfz11_4); (try clear hfz13_0 hfz13_1 hfz13_2 hfz13_3 hfz13_4); (try clear hfz16_0 hfz16_1 hfz16_2 hfz16_3 hfz16_4); (try clear hfz19_0 hfz19_1 hfz19_2 hfz19_3 hfz19_4); (try clear hfz24_0 hfz24_1 hfz24_2 hfz24_3 hfz24_4); (try clear hfz38_0 hfz38_1 hfz38_2 hfz38_3 hfz38_4); (try clear hfz50_0 hfz50_1 hfz50_2 hfz50_3 hfz50_4); (try clear hfz52_0 hfz52_1 hfz52_2 hfz52_3 hfz52_4); (try clear hfz56_0 hfz56_1 hfz56_2 hfz56_3 hfz56_4); (try clear hx228_0); (try clear hx229_0); (try clear hx230_0); (try clear hx231_0); (try clear hx232_0); (try clear hx36_0); (try clear hx43_0); (try clear p2); (try clear p22); (try clear p228); (try clear p229); (try clear p230); (try clear p231); (try clear p232); (try clear p34); (try clear p36); (try clear q2); (try clear q22); (try clear q228); (try clear q229); (try clear q230); (try clear q231); (try clear q232); (try clear q34); (try clear q36)
          obtain ⟨x72_2, x239001_2, x239002_2, x239003_2, x239004_2, u239001, u239002, u239003, u239004, rfl, HA, HK2, HO_5, HO_70, HO_239001, HO_239002, HO_239003, HO_239004, BK219, BK220, BK238, HB⟩ := hrel
          cases gk with
          | zero => exact absurd HA.out (by simp [impl_Reverse.l2])
          | succ k2 =>
           have H := HA.out
           clear HA
           simp only [impl_Reverse.l2] at H
           by_cases c58 : x72_2 < (x4_1.length : Int)
           ·rw [if_pos c58] at H
            have c58b0 : decide (x72_2 < (x4_1.length : Int)) = true := decide_eq_true c58
            clear c58
            by_cases c59 : 0 ≤ x72_2
            ·rw [if_pos c59] at H
             have c59b0 : decide (0 ≤ x72_2) = true := decide_eq_true c59
             clear c59
             by_cases c60 : x72_2 < (x4_1.length : Int)
             ·rw [if_pos c60] at H
              have c60b0 : decide (x72_2 < (x4_1.length : Int)) = true := decide_eq_true c60
              clear c60
              by_cases c61 : x239001_2.length < 17592186044416
              ·rw [if_pos c61] at H
               have LMc61 := zA c61
               clear c61
               obtain ⟨y243, hy243⟩ : ∃ y_ : List Int, y_ = (x239001_2 ++ [(x239002_2.length : Int)]) := ⟨_, rfl⟩
               replace H : (impl_Reverse.l3 k2 x5_1 x4_1 (x4_1.length : Int) x72_2 (rd_L3 x4_1 x72_2) ((rd_L3 x4_1 x72_2).length : Int) 0 a0_0 l0_1 l0_2 l0_3 l0_4 a0_0 y243 x239002_2 x239003_2 x239004_2) = some (r1, r2, r3, r4, r5, r6) := zh hy243
               have Ny243 := zA hy243
               clear hy243
               have H' := zA H
               clear H
               have p242 : 0 ≤ (x72_2 : Int) := zd
               have q242 : x72_2 < (x4_1.length : Int) := zd
               obtain ⟨ad242, A242_0, c242_0, e242, hx242_0, hl242_0, hi242_0⟩ := at_L3 (Kd.S_reads' HO_70.out).2.2 x72_2 p242 q242
               cases e242
               obtain ⟨ce242, hce242, hMe242, hcc242⟩ := Kd.S_get HO_70.out [] x72_2 p242 (by first | exact q242 | exact zd | (have e_ := (Kd.S_reads' HO_70.out).1; omega))
               obtain ⟨ve242_0, rfl, ge242_0⟩ := hMe242
               have hv242_0 := hcc242 0 _ rfl
               rw [Nat.add_zero, show ((Kd.slice 3 (Kd.int .i64))).sz = 1 from rfl, Nat.mul_one] at hv242_0
               replace hv242_0 := Option.some.inj (hv242_0.symm.trans hx242_0)
               rw [hv242_0] at ge242_0
               have HL242_0 := zA (show Kd.R (Kd.int .i64) 3 _ _ _ _ (rd_L3 x4_1 x72_2) from ge242_0)
               clear hv242_0 ge242_0
               have HX242_0 := zA hx242_0
               clear hcc242 hce242
               have HR242_0 := zA hi242_0
               have HC242_0 := zA hl242_0
               clear hi242_0 hl242_0
               replace p242 := eq_true p242
               replace q242 := eq_true q242
               have hnb62 := NB238_219.out
               have hnc62 := NB219_238.out
               have hnb63 := NB238_220.out
               have hnc63 := NB220_238.out
               obtain ⟨hcz64_0, hcz64_1, hcz64_2, hcz64_3, hcz64_4, hfz64_0, hfz64_1, hfz64_2, hfz64_3, hfz64_4⟩ := zh5 BK238.out
               obtain ⟨Ao65, co65, eo65⟩ := Kd.R_slice HO_239002.out
               subst eo65
               have HO_L := zA (show Kd.R (Kd.int .i64) 3 _ w.heap.size (fun k_ => zO k_ (u239001) ∧ zO k_ (.slice Ao65 x239002_2.length co65) ∧ zO k_ (u239003) ∧ zO k_ (u239004)) (.slice A242_0 (rd_L3 x4_1 x72_2).length c242_0) (rd_L3 x4_1 x72_2) from Kd.R_mono HL242_0.out zy)
               go_wp2_with (first | ((with_reducible refine gate_builtin (b := .append) (xs := #[.tmp 77, .tmp 81]) rfl ?_); at_builtin; refine Kd.R_append (Kd.int .i64) (w0 := w) w.heap.size rfl (.tmp 77) (.tmp 81) 22 3 (.int .i64 0) 8 rfl Try.underlying22 info3 rfl (by decide) (by omega) u239001 x239001_2 (x239002_2.length : Int) [.int .i64 (x239002_2.length : Int)] (fun k_ => zO k_ (v226) ∧ zO k_ (.slice Ao65 x239002_2.length co65) ∧ zO k_ (u239003) ∧ zO k_ (u239004)) (fun _ => False) rfl rfl ?aP (fun _ hk => hk.elim) ?aF ?aO ?aB ?aS ?aL ?_; (case aP => exact rfl); (case aB => exact (zs3 GE219.out GE220.out GE238.out)); (case aF => exact (fun k_ hk => ⟨Kd.fresh' (zl HO_5.out) k_ hk, Kd.fresh' (zl HO_239002.out) k_ hk, Kd.fresh' (zl HO_239003.out) k_ hk, Kd.fresh' (zl HO_239004.out) k_ hk⟩)); (case aO => exact (zR HO_239001.out)); (case aS => exact (below_size (zs3 GE219.out GE220.out GE238.out))); (case aL => have := LMc61.out; omega); intro v244 w66 ho hb hg hat; rw [← Ny243.out] at ho; have n0_ := zA (Kd.R_after (ok := (fun k_ => zO k_ (.slice Ao65 x239002_2.length co65) ∧ zO k_ (u239003) ∧ zO k_ (u239004))) (by (with_reducible repeat (first | apply Kd.R_alloc | apply Kd.R_drewN | apply Kd.R_drew)); exact Kd.R_mono HO_5.out zy) hg hat); have mL_ := zA (Kd.R_after (ok := (fun k_ => zO k_ (.slice Ao65 x239002_2.length co65) ∧ zO k_ (u239003) ∧ zO k_ (u239004))) (by (with_reducible repeat (first | apply Kd.R_alloc | apply Kd.R_drewN | apply Kd.R_drew)); exact Kd.R_mono HO_L.out zy) hg hat); have n1_ := zA (Kd.S_after (ok := (fun k_ => zO k_ (v226) ∧ zO k_ (.slice Ao65 x239002_2.length co65) ∧ zO k_ (u239003) ∧ zO k_ (u239004))) (by (with_reducible repeat (first | apply Kd.S_alloc | apply Kd.S_drewN | apply Kd.S_drew)); exact Kd.S_mono HO_70.out zy) hg hat); have n2_ := zA (Kd.R_after (ok := (fun k_ => zO k_ (v226) ∧ zO k_ (u239003) ∧ zO k_ (u239004))) (by (with_reducible repeat (first | apply Kd.R_alloc | apply Kd.R_drewN | apply Kd.R_drew)); exact Kd.R_mono HO_239002.out zy) hg hat); have n3_ := zA (Kd.R_after (ok := (fun k_ => zO k_ (v226) ∧ zO k_ (.slice Ao65 x239002_2.length co65) ∧ zO k_ (u239004))) (by (with_reducible repeat (first | apply Kd.R_alloc | apply Kd.R_drewN | apply Kd.R_drew)); exact Kd.R_mono HO_239003.out zy) hg hat); have n4_ := zA (Kd.R_after (ok := (fun k_ => zO k_ (v226) ∧ zO k_ (.slice Ao65 x239002_2.length co65) ∧ zO k_ (u239003))) (by (with_reducible repeat (first | apply Kd.R_alloc | apply Kd.R_drewN | apply Kd.R_drew)); exact Kd.R_mono HO_239004.out zy) hg hat); have n5_ := zA (blk_grown (g := gb219) (o := .cells #[.int .i64 a0_0, .slice A0_1 l0_1.length c0_1, .slice A0_2 l0_2.length c0_2, .slice A0_3 l0_3.length c0_3, .slice A0_4 l0_4.length c0_4] 26 (0, 0)) (zb BK219.out) hg (Kd.R_ne HO_239001.out BK219.out (by decide))); have n6_ := zA (blk_grown (g := gb220) (o := .cells #[.int .i64 0, .slice none 0 0, .slice none 0 0, .slice none 0 0, .slice none 0 0] 26 (0, 0)) (zb BK220.out) hg (Kd.R_ne HO_239001.out BK220.out (by decide))); have n7_ := zA (blk_grown (g := gb238) (o := .cells #[.int .i64 a0_0, u239001, .slice Ao65 x239002_2.length co65, u239003, u239004] 26 (0, 0)) (zb BK238.out) hg (Kd.R_ne HO_239001.out BK238.out (by decide))); have n8_ := zA (Kd.R_after (ok := (fun k_ => zO k_ (v226) ∧ zO k_ (.slice (some ad242) x4_1.length co57) ∧ zO k_ (.slice Ao65 x239002_2.length co65) ∧ zO k_ (u239003) ∧ zO k_ (u239004))) (by (with_reducible repeat (first | apply Kd.R_alloc | apply Kd.R_drewN | apply Kd.R_drew)); exact Kd.R_mono HL242_0.out zy) hg hat); have n9_ := zA (hb); have n10_ := zA (ho); clear HO_L HO_5 HO_70 HO_239002 HO_239003 HO_239004 BK219 BK220 BK238 HL242_0 HB HO_239001; have HO_5 := n0_; have HO_L := mL_; have HO_70 := n1_; have HO_239002 := n2_; have HO_239003 := n3_; have HO_239004 := n4_; have BK219 := n5_; have BK220 := n6_; have BK238 := n7_; have HL242_0 := n8_; have HB := n9_; have HO245 := n10_; clear mL_ n0_ n1_ n2_ n3_ n4_ n5_ n6_ n7_ n8_ n9_ n10_; clear ho hb hg hat; obtain ⟨Ao67, co67, eo67⟩ := Kd.R_slice HO245.out; subst eo67; obtain ⟨hcz68_0, hcz68_1, hcz68_2, hcz68_3, hcz68_4, hfz68_0, hfz68_1, hfz68_2, hfz68_3, hfz68_4⟩ := zh5 BK238.out) | (go_at_call 32; go_in) | ((with_reducible refine bodyPost_end (fn := Try.f32) (v := .tuple #[]) ?_ rfl ?_); (exact results_none rfl _ _ _); simp only []) | (go_still_tail 14, (by kernel_rfl)))
               go_loopg [86] k2 (fun kq v86 w' => ∃ (x86_3 : Int) (x239002_3 : List Int) (x239003_3 : List Int) (x239004_3 : List Int) (u239002 : Value) (u239003 : Value) (u239004 : Value), v86 = .int .i64 x86_3 ∧ Aside0 (impl_Reverse.l3 kq x5_1 x4_1 (x4_1.length : Int) x72_2 (rd_L3 x4_1 x72_2) ((rd_L3 x4_1 x72_2).length : Int) x86_3 a0_0 l0_1 l0_2 l0_3 l0_4 a0_0 y243 x239002_3 x239003_3 x239004_3 = some (r1, r2, r3, r4, r5, r6)) ∧ Aside0 (kq ≤ k2) ∧ Aside0 (Kd.R (Kd.int .i64) 3 w' w.heap.size (fun k_ => zO k_ ((.slice Ao67 y243.length co67)) ∧ zO k_ (u239002) ∧ zO k_ (u239003) ∧ zO k_ (u239004)) v226 x5_1) ∧ Aside0 (Kd.R (Kd.int .i64) 3 w' w.heap.size (fun k_ => zO k_ ((.slice Ao67 y243.length co67)) ∧ zO k_ (u239002) ∧ zO k_ (u239003) ∧ zO k_ (u239004)) (.slice A242_0 (rd_L3 x4_1 x72_2).length c242_0) (rd_L3 x4_1 x72_2)) ∧ Aside0 (Kd.S (Kd.slice 3 (Kd.int .i64)) 22 w' w.heap.size (fun k_ => zO k_ (v226) ∧ zO k_ ((.slice Ao67 y243.length co67)) ∧ zO k_ (u239002) ∧ zO k_ (u239003) ∧ zO k_ (u239004)) (.slice (some ad242) x4_1.length co57) x4_1) ∧ Aside0 (Kd.R (Kd.int .i64) 3 w' w.heap.size (fun k_ => zO k_ (v226) ∧ zO k_ (u239002) ∧ zO k_ (u239003) ∧ zO k_ (u239004)) (.slice Ao67 y243.length co67) y243) ∧ Aside0 (Kd.R (Kd.int .i64) 3 w' w.heap.size (fun k_ => zO k_ (v226) ∧ zO k_ ((.slice Ao67 y243.length co67)) ∧ zO k_ (u239003) ∧ zO k_ (u239004)) u239002 x239002_3) ∧ Aside0 (Kd.R (Kd.int .i64) 3 w' w.heap.size (fun k_ => zO k_ (v226) ∧ zO k_ ((.slice Ao67 y243.length co67)) ∧ zO k_ (u239002) ∧ zO k_ (u239004)) u239003 x239003_3) ∧ Aside0 (Kd.R (Kd.int .i64) 3 w' w.heap.size (fun k_ => zO k_ (v226) ∧ zO k_ ((.slice Ao67 y243.length co67)) ∧ zO k_ (u239002) ∧ zO k_ (u239003)) u239004 x239004_3) ∧ Aside0 (w'.heap[gb219]? = some (.cells #[.int .i64 a0_0, (.slice A0_1 l0_1.length c0_1), (.slice A0_2 l0_2.length c0_2), (.slice A0_3 l0_3.length c0_3), (.slice A0_4 l0_4.length c0_4)] 26 (0, 0))) ∧ Aside0 (w'.heap[gb220]? = some (.cells #[.int .i64 0, (.slice none 0 0), (.slice none 0 0), (.slice none 0 0), (.slice none 0 0)] 26 (0, 0))) ∧ Aside0 (w'.heap[gb238]? = some (.cells #[.int .i64 a0_0, (.slice Ao67 y243.length co67), u239002, u239003, u239004] 26 (0, 0))) ∧ Aside0 (Below w.heap.size w w'))
               case atStart => exact ⟨(0), (x239002_2), (x239003_2), (x239004_2), (.slice Ao65 x239002_2.length co65), (u239003), (u239004), zr, H', ⟨Nat.le_refl _⟩, ⟨by (with_reducible repeat (first | apply Kd.R_alloc | apply Kd.R_drewN | apply Kd.R_drew)); exact Kd.R_mono (zK HO_5.out BK238.out) zy⟩, ⟨by (with_reducible repeat (first | apply Kd.R_alloc | apply Kd.R_drewN | apply Kd.R_drew)); exact Kd.R_mono (zK HO_L.out BK238.out) zy⟩, ⟨by (with_reducible repeat (first | apply Kd.S_alloc | apply Kd.S_drewN | apply Kd.S_drew)); exact Kd.S_mono (Kd.S_far (p := ⟨gb238, 1, none⟩) (Kd.S_types HO_70.out BK238.out (by decide)) (fun _ hk => hk.2) (.slice Ao67 y243.length co67)) zy⟩, ⟨by (with_reducible repeat (first | apply Kd.R_alloc | apply Kd.R_drewN | apply Kd.R_drew)); exact Kd.R_mono (zK HO245.out BK238.out) zy⟩, ⟨by (with_reducible repeat (first | apply Kd.R_alloc | apply Kd.R_drewN | apply Kd.R_drew)); exact Kd.R_mono (zK HO_239002.out BK238.out) zy⟩, ⟨by (with_reducible repeat (first | apply Kd.R_alloc | apply Kd.R_drewN | apply Kd.R_drew)); exact Kd.R_mono (zK HO_239003.out BK238.out) zy⟩, ⟨by (with_reducible repeat (first | apply Kd.R_alloc | apply Kd.R_drewN | apply Kd.R_drew)); exact Kd.R_mono (zK HO_239004.out BK238.out) zy⟩, ⟨by (with_reducible repeat (first | refine blk_drewN ?_ _ | refine blk_drew ?_ | refine blk_alloc ?_ _)); refine blk_far ?_ NB219_238.out _; (with_reducible repeat (first | refine blk_drewN ?_ _ | refine blk_drew ?_ | refine blk_alloc ?_ _)); exact BK219.out⟩, ⟨by (with_reducible repeat (first | refine blk_drewN ?_ _ | refine blk_drew ?_ | refine blk_alloc ?_ _)); refine blk_far ?_ NB220_238.out _; (with_reducible repeat (first | refine blk_drewN ?_ _ | refine blk_drew ?_ | refine blk_alloc ?_ _)); exact BK220.out⟩, ⟨by (with_reducible repeat (first | refine blk_drewN ?_ _ | refine blk_drew ?_ | refine blk_alloc ?_ _)); refine blk_put (cs := #[.int .i64 a0_0, u239001, .slice Ao65 x239002_2.length co65, u239003, u239004]) ?_ 1 _ rfl; (with_reducible repeat (first | refine blk_drewN ?_ _ | refine blk_drew ?_ | refine blk_alloc ?_ _)); exact BK238.out⟩, ⟨(zs3 GE219.out GE220.out GE238.out)⟩⟩
               case round =>
                clear H'
                (try clear c1); (try clear c2); (try clear p2); (try clear q2); (try clear hx2); (try clear c3); (try clear p3); (try clear q3); (try clear hx3); (try clear hf3); (try clear c4); (try clear c4b0); (try clear c4b1); (try clear hx4); (try clear hf4); (try clear c5); (try clear c5b0); (try clear c5b1); (try clear c6); (try clear c6b0); (try clear c6b1); (try clear p6); (try clear c7); (try clear c7b0); (try clear c7b1); (try clear c10); (try clear c20); (try clear c20b0); (try clear c21); (try clear c21b0); (try clear c22); (try clear c22b0); (try clear p22); (try clear q22); (try clear hx22); (try clear c23); (try clear p23); (try clear q23); (try clear hx23); (try clear c24); (try clear p24); (try clear q24); (try clear hx24); (try clear c26); (try clear c26b0); (try clear c27); (try clear c27b0); (try clear c28); (try clear c28b0); (try clear c29); (try clear c29b0); (try clear c30); (try clear c30b0); (try clear c31); (try clear c31b0); (try clear c32); (try clear c32b0); (try clear c33); (try clear p34); (try clear q34); (try clear c35); (try clear c35b0); (try clear p36); (try clear q36); (try clear hx36); (try clear hf36); (try clear c37); (try clear c41); (try clear c43); (try clear hx43); (try clear hf43); (try clear c49); (try clear c51); (try clear c54); (try clear c55); (try clear c58); (try clear c58b0); (try clear c59); (try clear c59b0); (try clear c60); (try clear c60b0); (try clear c61); (try clear c62); (try clear c63); (try clear p64); (try clear hcz11_0 hcz11_1 hcz11_2 hcz11_3 hcz11_4); (try clear hcz13_0 hcz13_1 hcz13_2 hcz13_3 hcz13_4); (try clear hcz16_0 hcz16_1 hcz16_2 hcz16_3 hcz16_4); (try clear hcz19_0 hcz19_1 hcz19_2 hcz19_3 hcz19_4); (try clear hcz24_0 hcz24_1 hcz24_2 hcz24_3 hcz24_4); (try clear hcz38_0 hcz38_1 hcz38_2 hcz38_3 hcz38_4); (try clear hcz50_0 hcz50_1 hcz50_2 hcz50_3 hcz50_4); (try clear hcz52_0 hcz52_1 hcz52_2 hcz52_3 hcz52_4); (try clear hcz56_0 hcz56_1 hcz56_2 hcz56_3 hcz56_4); (try clear hcz64_0 hcz64_1 hcz64_2 hcz64_3 hcz64_4); (try clear hcz68_0 hcz68_1 hcz68_2 hcz68_3 hcz68_4); (try clear hfz11_0 hfz11_1 hfz11_2 hfz11_3 hfz11_4); (try clear hfz13_0 hfz13_1 hfz13_2 hfz13_3 hfz13_4); (try clear hfz16_0 hfz16_1 hfz16_2 hfz16_3 hfz16_4); (try clear hfz19_0 hfz19_1 hfz19_2 hfz19_3 hfz19_4); (try clear hfz24_0 hfz24_1 hfz24_2 hfz24_3 hfz24_4); (try clear hfz38_0 hfz38_1 hfz38_2 hfz38_3 hfz38_4); (try clear hfz50_0 hfz50_1 hfz50_2 hfz50_3 hfz50_4); (try clear hfz52_0 hfz52_1 hfz52_2 hfz52_3 hfz52_4); (try clear hfz56_0 hfz56_1 hfz56_2 hfz56_3 hfz56_4); (try clear hfz64_0 hfz64_1 hfz64_2 hfz64_3 hfz64_4); (try clear hfz68_0 hfz68_1 hfz68_2 hfz68_3 hfz68_4); (try clear hx228_0); (try clear hx229_0); (try clear hx230_0); (try clear hx231_0); (try clear hx232_0); (try clear hx242_0); (try clear hx36_0); (try clear hx43_0); (try clear p2); (try clear p22); (try clear p228); (try clear p229); (try clear p23); (try clear p230); (try clear p231); (try clear p232); (try clear p242); (try clear p3); (try clear p34); (try clear p36); (try clear p6); (try clear q2); (try clear q22); (try clear q228); (try clear q229); (try clear q23); (try clear q230); (try clear q231); (try clear q232); (try clear q242); (try clear q3); (try clear q34); (try clear q36)
                obtain ⟨x86_3, x239002_3, x239003_3, x239004_3, u239002, u239003, u239004, rfl, HA, HK3, HO_5, HO_L, HO_70, HO_239001, HO_239002, HO_239003, HO_239004, BK219, BK220, BK238, HB⟩ := hrel
                cases gk with
                | zero => exact absurd HA.out (by simp [impl_Reverse.l3])
                | succ k3 =>
                 have H := HA.out
                 clear HA
                 simp only [impl_Reverse.l3] at H
                 by_cases c69 : x86_3 < ((rd_L3 x4_1 x72_2).length : Int)
                 ·rw [if_pos c69] at H
                  have c69b0 : decide (x86_3 < ((rd_L3 x4_1 x72_2).length : Int)) = true := decide_eq_true c69
                  clear c69
                  by_cases c70 : 0 ≤ x86_3
                  ·rw [if_pos c70] at H
                   have c70b0 : decide (0 ≤ x86_3) = true := decide_eq_true c70
                   clear c70
                   by_cases c71 : x86_3 < ((rd_L3 x4_1 x72_2).length : Int)
                   ·rw [if_pos c71] at H
                    have c71b0 : decide (x86_3 < ((rd_L3 x4_1 x72_2).length : Int)) = true := decide_eq_true c71
                    clear c71
                    by_cases c72 : 0 ≤ (rd (rd_L3 x4_1 x72_2) x86_3)
                    ·rw [if_pos c72] at H
                     have c72b0 : decide (0 ≤ (rd (rd_L3 x4_1 x72_2) x86_3)) = true := decide_eq_true c72
                     clear c72
                     by_cases c73 : (rd (rd_L3 x4_1 x72_2) x86_3) < (x5_1.length : Int)
                     ·rw [if_pos c73] at H
                      have c73b0 : decide ((rd (rd_L3 x4_1 x72_2) x86_3) < (x5_1.length : Int)) = true := decide_eq_true c73
                      clear c73
                      by_cases c74 : (rd (rd_L3 x4_1 x72_2) x86_3) < (l0_3.length : Int)
                      ·rw [if_pos c74] at H
                       have c74b0 : decide ((rd (rd_L3 x4_1 x72_2) x86_3) < (l0_3.length : Int)) = true := decide_eq_true c74
                       clear c74
                       by_cases c75 : (rd (rd_L3 x4_1 x72_2) x86_3) < (l0_4.length : Int)
                       ·rw [if_pos c75] at H
                        have c75b0 : decide ((rd (rd_L3 x4_1 x72_2) x86_3) < (l0_4.length : Int)) = true := decide_eq_true c75
                        clear c75
                        by_cases c76 : x239002_3.length < 17592186044416
                        ·rw [if_pos c76] at H
                         have LMc76 := zA c76
                         clear c76
                         obtain ⟨y250, hy250⟩ : ∃ y_ : List Int, y_ = (x239002_3 ++ [rd x5_1 (rd (rd_L3 x4_1 x72_2) x86_3)]) := ⟨_, rfl⟩
                         replace H : (if x239003_3.length < 17592186044416 then (if x239004_3.length < 17592186044416 then (impl_Reverse.l3 k3 x5_1 x4_1 (x4_1.length : Int) x72_2 (rd_L3 x4_1 x72_2) ((rd_L3 x4_1 x72_2).length : Int) (wrap64 (x86_3 + 1)) a0_0 l0_1 l0_2 l0_3 l0_4 a0_0 y243 y250 (x239003_3 ++ [rd l0_3 (rd (rd_L3 x4_1 x72_2) x86_3)]) (x239004_3 ++ [rd l0_4 (rd (rd_L3 x4_1 x72_2) x86_3)])) else (none)) else (none)) = some (r1, r2, r3, r4, r5, r6) := zh hy250
                         have Ny250 := zA hy250
                         clear hy250
                         by_cases c77 : x239003_3.length < 17592186044416
                         ·rw [if_pos c77] at H
                          have LMc77 := zA c77
                          clear c77
                          obtain ⟨y253, hy253⟩ : ∃ y_ : List Int, y_ = (x239003_3 ++ [rd l0_3 (rd (rd_L3 x4_1 x72_2) x86_3)]) := ⟨_, rfl⟩
                          replace H : (if x239004_3.length < 17592186044416 then (impl_Reverse.l3 k3 x5_1 x4_1 (x4_1.length : Int) x72_2 (rd_L3 x4_1 x72_2) ((rd_L3 x4_1 x72_2).length : Int) (wrap64 (x86_3 + 1)) a0_0 l0_1 l0_2 l0_3 l0_4 a0_0 y243 y250 y253 (x239004_3 ++ [rd l0_4 (rd (rd_L3 x4_1 x72_2) x86_3)])) else (none)) = some (r1, r2, r3, r4, r5, r6) := zh hy253
                          have Ny253 := zA hy253
                          clear hy253
                          by_cases c78 : x239004_3.length < 17592186044416
                          ·rw [if_pos c78] at H
                           have LMc78 := zA c78
                           clear c78
                           obtain ⟨y256, hy256⟩ : ∃ y_ : List Int, y_ = (x239004_3 ++ [rd l0_4 (rd (rd_L3 x4_1 x72_2) x86_3)]) := ⟨_, rfl⟩
                           replace H : (impl_Reverse.l3 k3 x5_1 x4_1 (x4_1.length : Int) x72_2 (rd_L3 x4_1 x72_2) ((rd_L3 x4_1 x72_2).length : Int) (wrap64 (x86_3 + 1)) a0_0 l0_1 l0_2 l0_3 l0_4 a0_0 y243 y250 y253 y256) = some (r1, r2, r3, r4, r5, r6) := zh hy256
                           have Ny256 := zA hy256
                           clear hy256
                           have H' := zA H
                           clear H
                           have p246 : 0 ≤ (x86_3 : Int) := zd
                           have q246 : x86_3 < ((rd_L3 x4_1 x72_2).length : Int) := zd
                           obtain ⟨ad246, e246, hx246_0⟩ := Kd.at_int (Kd.R_reads' HO_L.out).2.2 x86_3 p246 q246
                           cases e246
                           replace p246 := eq_true p246
                           replace q246 := eq_true q246
                           obtain ⟨Ao79, co79, eo79⟩ := Kd.R_slice HO_5.out
                           subst eo79
                           have p247 : 0 ≤ ((rd (rd_L3 x4_1 x72_2) x86_3) : Int) := zd
                           have q247 : (rd (rd_L3 x4_1 x72_2) x86_3) < (x5_1.length : Int) := zd
                           obtain ⟨ad247, e247, hx247_0⟩ := Kd.at_int (Kd.R_reads' HO_5.out).2.2 (rd (rd_L3 x4_1 x72_2) x86_3) p247 q247
                           cases e247
                           replace p247 := eq_true p247
                           replace q247 := eq_true q247
                           have hnb80 := NB219_220.out
                           have hnc80 := NB220_219.out
                           have hnb81 := NB219_238.out
                           have hnc81 := NB238_219.out
                           obtain ⟨hcz82_0, hcz82_1, hcz82_2, hcz82_3, hcz82_4, hfz82_0, hfz82_1, hfz82_2, hfz82_3, hfz82_4⟩ := zh5 BK219.out
                           have p248 : 0 ≤ ((rd (rd_L3 x4_1 x72_2) x86_3) : Int) := zd
                           have q248 : (rd (rd_L3 x4_1 x72_2) x86_3) < (l0_3.length : Int) := zd
                           obtain ⟨ad248, e248, hx248_0⟩ := Kd.at_int HR0_3.out (rd (rd_L3 x4_1 x72_2) x86_3) p248 q248
                           cases e248
                           replace hx248_0 := zx HB.out hx248_0
                           replace p248 := eq_true p248
                           replace q248 := eq_true q248
                           have p249 : 0 ≤ ((rd (rd_L3 x4_1 x72_2) x86_3) : Int) := zd
                           have q249 : (rd (rd_L3 x4_1 x72_2) x86_3) < (l0_4.length : Int) := zd
                           obtain ⟨ad249, e249, hx249_0⟩ := Kd.at_int HR0_4.out (rd (rd_L3 x4_1 x72_2) x86_3) p249 q249
                           cases e249
                           replace hx249_0 := zx HB.out hx249_0
                           replace p249 := eq_true p249
                           replace q249 := eq_true q249
                           have hnb83 := NB238_220.out
                           have hnc83 := NB220_238.out
                           obtain ⟨hcz84_0, hcz84_1, hcz84_2, hcz84_3, hcz84_4, hfz84_0, hfz84_1, hfz84_2, hfz84_3, hfz84_4⟩ := zh5 BK238.out
                           go_wp2_with (first | ((with_reducible refine gate_builtin (b := .append) (xs := #[.tmp 12, .tmp 14]) rfl ?_); at_builtin; (try rw [← World.alloc_drew]); refine Kd.R_append (Kd.int .i64) (w0 := w) w.heap.size rfl (.tmp 12) (.tmp 14) 22 3 (.int .i64 0) 8 rfl Try.underlying22 info3 rfl (by decide) (by omega) u239002 x239002_3 (rd x5_1 (rd (rd_L3 x4_1 x72_2) x86_3)) [.int .i64 (rd x5_1 (rd (rd_L3 x4_1 x72_2) x86_3))] (fun k_ => zO k_ (.slice (some ad247) x5_1.length co79) ∧ zO k_ (.slice Ao67 y243.length co67) ∧ zO k_ (u239003) ∧ zO k_ (u239004)) (fun _ => False) rfl rfl ?aP (fun _ hk => hk.elim) ?aF ?aO ?aB ?aS ?aL ?_; (case aP => exact rfl); (case aB => exact (zs3 GE219.out GE220.out GE238.out)); (case aF => exact (fun k_ hk => ⟨Kd.fresh' (zl HO_5.out) k_ hk, Kd.fresh' (zl HO_239001.out) k_ hk, Kd.fresh' (zl HO_239003.out) k_ hk, Kd.fresh' (zl HO_239004.out) k_ hk⟩)); (case aO => exact (zR HO_239002.out)); (case aS => exact (below_size (zs3 GE219.out GE220.out GE238.out))); (case aL => have := LMc76.out; omega); intro v251 w85 ho hb hg hat; rw [← Ny250.out] at ho; have n0_ := zA (Kd.R_after (ok := (fun k_ => zO k_ (.slice Ao67 y243.length co67) ∧ zO k_ (u239003) ∧ zO k_ (u239004))) (by (with_reducible repeat (first | apply Kd.R_alloc | apply Kd.R_drewN | apply Kd.R_drew)); exact Kd.R_mono HO_5.out zy) hg hat); have mL_ := zA (Kd.R_after (ok := (fun k_ => zO k_ (.slice Ao67 y243.length co67) ∧ zO k_ (u239003) ∧ zO k_ (u239004))) (by (with_reducible repeat (first | apply Kd.R_alloc | apply Kd.R_drewN | apply Kd.R_drew)); exact Kd.R_mono HO_L.out zy) hg hat); have n1_ := zA (Kd.S_after (ok := (fun k_ => zO k_ (.slice (some ad247) x5_1.length co79) ∧ zO k_ (.slice Ao67 y243.length co67) ∧ zO k_ (u239003) ∧ zO k_ (u239004))) (by (with_reducible repeat (first | apply Kd.S_alloc | apply Kd.S_drewN | apply Kd.S_drew)); exact Kd.S_mono HO_70.out zy) hg hat); have n2_ := zA (Kd.R_after (ok := (fun k_ => zO k_ (.slice (some ad247) x5_1.length co79) ∧ zO k_ (u239003) ∧ zO k_ (u239004))) (by (with_reducible repeat (first | apply Kd.R_alloc | apply Kd.R_drewN | apply Kd.R_drew)); exact Kd.R_mono HO_239001.out zy) hg hat); have n3_ := zA (Kd.R_after (ok := (fun k_ => zO k_ (.slice (some ad247) x5_1.length co79) ∧ zO k_ (.slice Ao67 y243.length co67) ∧ zO k_ (u239004))) (by (with_reducible repeat (first | apply Kd.R_alloc | apply Kd.R_drewN | apply Kd.R_drew)); exact Kd.R_mono HO_239003.out zy) hg hat); have n4_ := zA (Kd.R_after (ok := (fun k_ => zO k_ (.slice (some ad247) x5_1.length co79) ∧ zO k_ (.slice Ao67 y243.length co67) ∧ zO k_ (u239003))) (by (with_reducible repeat (first | apply Kd.R_alloc | apply Kd.R_drewN | apply Kd.R_drew)); exact Kd.R_mono HO_239004.out zy) hg hat); have n5_ := zA (blk_grown (g := gb219) (o := .cells #[.int .i64 a0_0, .slice A0_1 l0_1.length c0_1, .slice A0_2 l0_2.length c0_2, .slice (some ad248) l0_3.length c0_3, .slice (some ad249) l0_4.length c0_4] 26 (0, 0)) (zb BK219.out) hg (Kd.R_ne HO_239002.out BK219.out (by decide))); have n6_ := zA (blk_grown (g := gb220) (o := .cells #[.int .i64 0, .slice none 0 0, .slice none 0 0, .slice none 0 0, .slice none 0 0] 26 (0, 0)) (zb BK220.out) hg (Kd.R_ne HO_239002.out BK220.out (by decide))); have n7_ := zA (blk_grown (g := gb238) (o := .cells #[.int .i64 a0_0, .slice Ao67 y243.length co67, u239002, u239003, u239004] 26 (0, 0)) (zb BK238.out) hg (Kd.R_ne HO_239002.out BK238.out (by decide))); have n8_ := zA (hb); have n9_ := zA (ho); clear HO_L HO_5 HO_70 HO_239001 HO_239003 HO_239004 BK219 BK220 BK238 HB HO_239002; have HO_5 := n0_; have HO_L := mL_; have HO_70 := n1_; have HO_239001 := n2_; have HO_239003 := n3_; have HO_239004 := n4_; have BK219 := n5_; have BK220 := n6_; have BK238 := n7_; have HB := n8_; have HO252 := n9_; clear mL_ n0_ n1_ n2_ n3_ n4_ n5_ n6_ n7_ n8_ n9_; clear ho hb hg hat; obtain ⟨Ao86, co86, eo86⟩ := Kd.R_slice HO252.out; subst eo86; obtain ⟨hcz87_0, hcz87_1, hcz87_2, hcz87_3, hcz87_4, hfz87_0, hfz87_1, hfz87_2, hfz87_3, hfz87_4⟩ := zh5 BK238.out) | ((with_reducible refine gate_builtin (b := .append) (xs := #[.tmp 22, .tmp 24]) rfl ?_); at_builtin; (try rw [← World.alloc_drew]); refine Kd.R_append (Kd.int .i64) (w0 := w) w.heap.size rfl (.tmp 22) (.tmp 24) 22 3 (.int .i64 0) 8 rfl Try.underlying22 info3 rfl (by decide) (by omega) u239003 x239003_3 (rd l0_3 (rd (rd_L3 x4_1 x72_2) x86_3)) [.int .i64 (rd l0_3 (rd (rd_L3 x4_1 x72_2) x86_3))] (fun k_ => zO k_ (.slice (some ad247) x5_1.length co79) ∧ zO k_ (.slice Ao67 y243.length co67) ∧ zO k_ (u239004) ∧ zO k_ (.slice Ao86 y250.length co86)) (fun _ => False) rfl (by first | (go_simp; done) | (go_simp; rfl)) ?aP (fun _ hk => hk.elim) ?aF ?aO ?aB ?aS ?aL ?_; (case aP => exact rfl); (case aB => exact (zs3 GE219.out GE220.out GE238.out)); (case aF => exact (fun k_ hk => ⟨Kd.fresh' (zl HO_5.out) k_ hk, Kd.fresh' (zl HO_239001.out) k_ hk, Kd.fresh' (zl HO_239004.out) k_ hk, Kd.fresh' (zl HO252.out) k_ hk⟩)); (case aO => exact (by (with_reducible repeat (first | apply Kd.R_alloc | apply Kd.R_drewN | apply Kd.R_drew)); exact Kd.R_mono (Kd.R_far (p := ⟨gb238, 2, none⟩) (Kd.R_types HO_239003.out BK238.out (by decide)) (fun _ hk => hk.2) (.slice Ao86 y250.length co86)) zy)); (case aS => exact (below_size (zs3 GE219.out GE220.out GE238.out))); (case aL => have := LMc77.out; omega); intro v254 w88 ho hb hg hat; rw [← Ny253.out] at ho; have n0_ := zA (Kd.R_after (ok := (fun k_ => zO k_ (.slice Ao67 y243.length co67) ∧ zO k_ (u239004) ∧ zO k_ (.slice Ao86 y250.length co86))) (by (with_reducible repeat (first | apply Kd.R_alloc | apply Kd.R_drewN | apply Kd.R_drew)); exact Kd.R_mono (Kd.R_far (p := ⟨gb238, 2, none⟩) (Kd.R_types HO_5.out BK238.out (by decide)) (fun _ hk => hk.2) (.slice Ao86 y250.length co86)) zy) hg hat); have mL_ := zA (Kd.R_after (ok := (fun k_ => zO k_ (.slice Ao67 y243.length co67) ∧ zO k_ (u239004) ∧ zO k_ (.slice Ao86 y250.length co86))) (by (with_reducible repeat (first | apply Kd.R_alloc | apply Kd.R_drewN | apply Kd.R_drew)); exact Kd.R_mono (Kd.R_far (p := ⟨gb238, 2, none⟩) (Kd.R_types HO_L.out BK238.out (by decide)) (fun _ hk => hk.2) (.slice Ao86 y250.length co86)) zy) hg hat); have n1_ := zA (Kd.S_after (ok := (fun k_ => zO k_ (.slice (some ad247) x5_1.length co79) ∧ zO k_ (.slice Ao67 y243.length co67) ∧ zO k_ (u239004) ∧ zO k_ (.slice Ao86 y250.length co86))) (by (with_reducible repeat (first | apply Kd.S_alloc | apply Kd.S_drewN | apply Kd.S_drew)); exact Kd.S_mono (Kd.S_far (p := ⟨gb238, 2, none⟩) (Kd.S_types HO_70.out BK238.out (by decide)) (fun _ hk => hk.2) (.slice Ao86 y250.length co86)) zy) hg hat); have n2_ := zA (Kd.R_after (ok := (fun k_ => zO k_ (.slice (some ad247) x5_1.length co79) ∧ zO k_ (u239004) ∧ zO k_ (.slice Ao86 y250.length co86))) (by (with_reducible repeat (first | apply Kd.R_alloc | apply Kd.R_drewN | apply Kd.R_drew)); exact Kd.R_mono (Kd.R_far (p := ⟨gb238, 2, none⟩) (Kd.R_types HO_239001.out BK238.out (by decide)) (fun _ hk => hk.2) (.slice Ao86 y250.length co86)) zy) hg hat); have n3_ := zA (Kd.R_after (ok := (fun k_ => zO k_ (.slice (some ad247) x5_1.length co79) ∧ zO k_ (.slice Ao67 y243.length co67) ∧ zO k_ (.slice Ao86 y250.length co86))) (by (with_reducible repeat (first | apply Kd.R_alloc | apply Kd.R_drewN | apply Kd.R_drew)); exact Kd.R_mono (Kd.R_far (p := ⟨gb238, 2, none⟩) (Kd.R_types HO_239004.out BK238.out (by decide)) (fun _ hk => hk.2) (.slice Ao86 y250.length co86)) zy) hg hat); have n4_ := zA (blk_grown (g := gb219) (o := .cells #[.int .i64 a0_0, .slice A0_1 l0_1.length c0_1, .slice A0_2 l0_2.length c0_2, .slice (some ad248) l0_3.length c0_3, .slice (some ad249) l0_4.length c0_4] 26 (0, 0)) (zf BK219.out NB219_238.out) hg (Kd.R_ne HO_239003.out BK219.out (by decide))); have n5_ := zA (blk_grown (g := gb220) (o := .cells #[.int .i64 0, .slice none 0 0, .slice none 0 0, .slice none 0 0, .slice none 0 0] 26 (0, 0)) (zf BK220.out NB220_238.out) hg (Kd.R_ne HO_239003.out BK220.out (by decide))); have n6_ := zA (blk_grown (g := gb238) (o := .cells #[.int .i64 a0_0, .slice Ao67 y243.length co67, .slice Ao86 y250.length co86, u239003, u239004] 26 (0, 0)) (zq BK238.out) hg (Kd.R_ne HO_239003.out BK238.out (by decide))); have n7_ := zA (Kd.R_after (ok := (fun k_ => zO k_ (.slice (some ad247) x5_1.length co79) ∧ zO k_ (.slice Ao67 y243.length co67) ∧ zO k_ (u239004))) (by (with_reducible repeat (first | apply Kd.R_alloc | apply Kd.R_drewN | apply Kd.R_drew)); exact Kd.R_mono (Kd.R_far (p := ⟨gb238, 2, none⟩) (Kd.R_types HO252.out BK238.out (by decide)) (fun _ hk => hk.2) (.slice Ao86 y250.length co86)) zy) hg hat); have n8_ := zA (hb); have n9_ := zA (ho); clear HO_L HO_5 HO_70 HO_239001 HO_239004 BK219 BK220 BK238 HO252 HB HO_239003; have HO_5 := n0_; have HO_L := mL_; have HO_70 := n1_; have HO_239001 := n2_; have HO_239004 := n3_; have BK219 := n4_; have BK220 := n5_; have BK238 := n6_; have HO252 := n7_; have HB := n8_; have HO255 := n9_; clear mL_ n0_ n1_ n2_ n3_ n4_ n5_ n6_ n7_ n8_ n9_; clear ho hb hg hat; obtain ⟨Ao89, co89, eo89⟩ := Kd.R_slice HO255.out; subst eo89; obtain ⟨hcz90_0, hcz90_1, hcz90_2, hcz90_3, hcz90_4, hfz90_0, hfz90_1, hfz90_2, hfz90_3, hfz90_4⟩ := zh5 BK238.out) | ((with_reducible refine gate_builtin (b := .append) (xs := #[.tmp 32, .tmp 34]) rfl ?_); at_builtin; (try rw [← World.alloc_drew]); refine Kd.R_append (Kd.int .i64) (w0 := w) w.heap.size rfl (.tmp 32) (.tmp 34) 22 3 (.int .i64 0) 8 rfl Try.underlying22 info3 rfl (by decide) (by omega) u239004 x239004_3 (rd l0_4 (rd (rd_L3 x4_1 x72_2) x86_3)) [.int .i64 (rd l0_4 (rd (rd_L3 x4_1 x72_2) x86_3))] (fun k_ => zO k_ (.slice (some ad247) x5_1.length co79) ∧ zO k_ (.slice Ao67 y243.length co67) ∧ zO k_ (.slice Ao86 y250.length co86) ∧ zO k_ (.slice Ao89 y253.length co89)) (fun _ => False) rfl (by first | (go_simp; done) | (go_simp; rfl)) ?aP (fun _ hk => hk.elim) ?aF ?aO ?aB ?aS ?aL ?_; (case aP => exact rfl); (case aB => exact (zs3 GE219.out GE220.out GE238.out)); (case aF => exact (fun k_ hk => ⟨Kd.fresh' (zl HO_5.out) k_ hk, Kd.fresh' (zl HO_239001.out) k_ hk, Kd.fresh' (zl HO252.out) k_ hk, Kd.fresh' (zl HO255.out) k_ hk⟩)); (case aO => exact (by (with_reducible repeat (first | apply Kd.R_alloc | apply Kd.R_drewN | apply Kd.R_drew)); exact Kd.R_mono (Kd.R_far (p := ⟨gb238, 3, none⟩) (Kd.R_types HO_239004.out BK238.out (by decide)) (fun _ hk => hk.2) (.slice Ao89 y253.length co89)) zy)); (case aS => exact (below_size (zs3 GE219.out GE220.out GE238.out))); (case aL => have := LMc78.out; omega); intro v257 w91 ho hb hg hat; rw [← Ny256.out] at ho; have n0_ := zA (Kd.R_after (ok := (fun k_ => zO k_ (.slice Ao67 y243.length co67) ∧ zO k_ (.slice Ao86 y250.length co86) ∧ zO k_ (.slice Ao89 y253.length co89))) (by (with_reducible repeat (first | apply Kd.R_alloc | apply Kd.R_drewN | apply Kd.R_drew)); exact Kd.R_mono (Kd.R_far (p := ⟨gb238, 3, none⟩) (Kd.R_types HO_5.out BK238.out (by decide)) (fun _ hk => hk.2) (.slice Ao89 y253.length co89)) zy) hg hat); have mL_ := zA (Kd.R_after (ok := (fun k_ => zO k_ (.slice Ao67 y243.length co67) ∧ zO k_ (.slice Ao86 y250.length co86) ∧ zO k_ (.slice Ao89 y253.length co89))) (by (with_reducible repeat (first | apply Kd.R_alloc | apply Kd.R_drewN | apply Kd.R_drew)); exact Kd.R_mono (Kd.R_far (p := ⟨gb238, 3, none⟩) (Kd.R_types HO_L.out BK238.out (by decide)) (fun _ hk => hk.2) (.slice Ao89 y253.length co89)) zy) hg hat); have n1_ := zA (Kd.S_after (ok := (fun k_ => zO k_ (.slice (some ad247) x5_1.length co79) ∧ zO k_ (.slice Ao67 y243.length co67) ∧ zO k_ (.slice Ao86 y250.length co86) ∧ zO k_ (.slice Ao89 y253.length co89))) (by (with_reducible repeat (first | apply Kd.S_alloc | apply Kd.S_drewN | apply Kd.S_drew)); exact Kd.S_mono (Kd.S_far (p := ⟨gb238, 3, none⟩) (Kd.S_types HO_70.out BK238.out (by decide)) (fun _ hk => hk.2) (.slice Ao89 y253.length co89)) zy) hg hat); have n2_ := zA (Kd.R_after (ok := (fun k_ => zO k_ (.slice (some ad247) x5_1.length co79) ∧ zO k_ (.slice Ao86 y250.length co86) ∧ zO k_ (.slice Ao89 y253.length co89))) (by (with_reducible repeat (first | apply Kd.R_alloc | apply Kd.R_drewN | apply Kd.R_drew)); exact Kd.R_mono (Kd.R_far (p := ⟨gb238, 3, none⟩) (Kd.R_types HO_239001.out BK238.out (by decide)) (fun _ hk => hk.2) (.slice Ao89 y253.length co89)) zy) hg hat); have n3_ := zA (blk_grown (g := gb219) (o := .cells #[.int .i64 a0_0, .slice A0_1 l0_1.length c0_1, .slice A0_2 l0_2.length c0_2, .slice (some ad248) l0_3.length c0_3, .slice (some ad249) l0_4.length c0_4] 26 (0, 0)) (zf BK219.out NB219_238.out) hg (Kd.R_ne HO_239004.out BK219.out (by decide))); have n4_ := zA (blk_grown (g := gb220) (o := .cells #[.int .i64 0, .slice none 0 0, .slice none 0 0, .slice none 0 0, .slice none 0 0] 26 (0, 0)) (zf BK220.out NB220_238.out) hg (Kd.R_ne HO_239004.out BK220.out (by decide))); have n5_ := zA (blk_grown (g := gb238) (o := .cells #[.int .i64 a0_0, .slice Ao67 y243.length co67, .slice Ao86 y250.length co86, .slice Ao89 y253.length co89, u239004] 26 (0, 0)) (zq BK238.out) hg (Kd.R_ne HO_239004.out BK238.out (by decide))); have n6_ := zA (Kd.R_after (ok := (fun k_ => zO k_ (.slice (some ad247) x5_1.length co79) ∧ zO k_ (.slice Ao67 y243.length co67) ∧ zO k_ (.slice Ao89 y253.length co89))) (by (with_reducible repeat (first | apply Kd.R_alloc | apply Kd.R_drewN | apply Kd.R_drew)); exact Kd.R_mono (Kd.R_far (p := ⟨gb238, 3, none⟩) (Kd.R_types HO252.out BK238.out (by decide)) (fun _ hk => hk.2) (.slice Ao89 y253.length co89)) zy) hg hat); have n7_ := zA (Kd.R_after (ok := (fun k_ => zO k_ (.slice (some ad247) x5_1.length co79) ∧ zO k_ (.slice Ao67 y243.length co67) ∧ zO k_ (.slice Ao86 y250.length co86))) (by (with_reducible repeat (first | apply Kd.R_alloc | apply Kd.R_drewN | apply Kd.R_drew)); exact Kd.R_mono (Kd.R_far (p := ⟨gb238, 3, none⟩) (Kd.R_types HO255.out BK238.out (by decide)) (fun _ hk => hk.2) (.slice Ao89 y253.length co89)) zy) hg hat); have n8_ := zA (hb); have n9_ := zA (ho); clear HO_L HO_5 HO_70 HO_239001 BK219 BK220 BK238 HO252 HO255 HB HO_239004; have HO_5 := n0_; have HO_L := mL_; have HO_70 := n1_; have HO_239001 := n2_; have BK219 := n3_; have BK220 := n4_; have BK238 := n5_; have HO252 := n6_; have HO255 := n7_; have HB := n8_; have HO258 := n9_; clear mL_ n0_ n1_ n2_ n3_ n4_ n5_ n6_ n7_ n8_ n9_; clear ho hb hg hat; obtain ⟨Ao92, co92, eo92⟩ := Kd.R_slice HO258.out; subst eo92; obtain ⟨hcz93_0, hcz93_1, hcz93_2, hcz93_3, hcz93_4, hfz93_0, hfz93_1, hfz93_2, hfz93_3, hfz93_4⟩ := zh5 BK238.out) | (go_at_call 32; go_in) | ((with_reducible refine bodyPost_end (fn := Try.f32) (v := .tuple #[]) ?_ rfl ?_); (exact results_none rfl _ _ _); simp only []) | (go_still_tail 14, (by kernel_rfl)))
                           go_roundg k3
                           case measure => have := HK1.out; have := HK2.out; have := HK3.out; omega
                           case rel => exact ⟨(wrap64 (x86_3 + 1)), (y250), (y253), (y256), (.slice Ao86 y250.length co86), (.slice Ao89 y253.length co89), (.slice Ao92 y256.length co92), zr, H', ⟨by have := HK1.out; have := HK2.out; have := HK3.out; omega⟩, ⟨by (with_reducible repeat (first | apply Kd.R_alloc | apply Kd.R_drewN | apply Kd.R_drew)); exact Kd.R_mono (zK HO_5.out BK238.out) zy⟩, ⟨by (with_reducible repeat (first | apply Kd.R_alloc | apply Kd.R_drewN | apply Kd.R_drew)); exact Kd.R_mono (zK HO_L.out BK238.out) zy⟩, ⟨by (with_reducible repeat (first | apply Kd.S_alloc | apply Kd.S_drewN | apply Kd.S_drew)); exact Kd.S_mono (Kd.S_far (p := ⟨gb238, 4, none⟩) (Kd.S_types HO_70.out BK238.out (by decide)) (fun _ hk => hk.2) (.slice Ao92 y256.length co92)) zy⟩, ⟨by (with_reducible repeat (first | apply Kd.R_alloc | apply Kd.R_drewN | apply Kd.R_drew)); exact Kd.R_mono (zK HO_239001.out BK238.out) zy⟩, ⟨by (with_reducible repeat (first | apply Kd.R_alloc | apply Kd.R_drewN | apply Kd.R_drew)); exact Kd.R_mono (zK HO252.out BK238.out) zy⟩, ⟨by (with_reducible repeat (first | apply Kd.R_alloc | apply Kd.R_drewN | apply Kd.R_drew)); exact Kd.R_mono (zK HO255.out BK238.out) zy⟩, ⟨by (with_reducible repeat (first | apply Kd.R_alloc | apply Kd.R_drewN | apply Kd.R_drew)); exact Kd.R_mono (zK HO258.out BK238.out) zy⟩, ⟨by (with_reducible repeat (first | refine blk_drewN ?_ _ | refine blk_drew ?_ | refine blk_alloc ?_ _)); refine blk_far ?_ NB219_238.out _; (with_reducible repeat (first | refine blk_drewN ?_ _ | refine blk_drew ?_ | refine blk_alloc ?_ _)); exact BK219.out⟩, ⟨by (with_reducible repeat (first | refine blk_drewN ?_ _ | refine blk_drew ?_ | refine blk_alloc ?_ _)); refine blk_far ?_ NB220_238.out _; (with_reducible repeat (first | refine blk_drewN ?_ _ | refine blk_drew ?_ | refine blk_alloc ?_ _)); exact BK220.out⟩, ⟨by (with_reducible repeat (first | refine blk_drewN ?_ _ | refine blk_drew ?_ | refine blk_alloc ?_ _)); refine blk_put (cs := #[.int .i64 a0_0, .slice Ao67 y243.length co67, .slice Ao86 y250.length co86, .slice Ao89 y253.length co89, u239004]) ?_ 4 _ rfl; (with_reducible repeat (first | refine blk_drewN ?_ _ | refine blk_drew ?_ | refine blk_alloc ?_ _)); exact BK238.out⟩, ⟨(zs3 GE219.out GE220.out GE238.out)⟩⟩
                          ·rw [if_neg c78] at H
                           exact absurd H (by simp)
                         ·rw [if_neg c77] at H
                          exact absurd H (by simp)
                        ·rw [if_neg c76] at H
                         exact absurd H (by simp)
                       ·rw [if_neg c75] at H
                        exact absurd H (by simp)
                      ·rw [if_neg c74] at H
                       exact absurd H (by simp)
                     ·rw [if_neg c73] at H
                      exact absurd H (by simp)
                    ·rw [if_neg c72] at H
                     exact absurd H (by simp)
                   ·rw [if_neg c71] at H
                    exact absurd H (by simp)
                  ·rw [if_neg c70] at H
                   exact absurd H (by simp)
                 ·rw [if_neg c69] at H
                  have c69b0 : decide (x86_3 < ((rd_L3 x4_1 x72_2).length : Int)) = false := decide_eq_false c69
                  clear c69
                  have H' := zA H
                  clear H
                  go_wp2
                  go_roundg k3
                  case measure => have := HK1.out; have := HK2.out; have := HK3.out; omega
                  case rel => exact ⟨(wrap64 (x72_2 + 1)), (y243), (x239002_3), (x239003_3), (x239004_3), (.slice Ao67 y243.length co67), (u239002), (u239003), (u239004), zr, H', ⟨by have := HK1.out; have := HK2.out; have := HK3.out; omega⟩, ⟨zR HO_5.out⟩, ⟨zS HO_70.out⟩, ⟨zR HO_239001.out⟩, ⟨zR HO_239002.out⟩, ⟨zR HO_239003.out⟩, ⟨zR HO_239004.out⟩, ⟨zb BK219.out⟩, ⟨zb BK220.out⟩, ⟨zb BK238.out⟩, ⟨(zs3 GE219.out GE220.out GE238.out)⟩⟩
              ·rw [if_neg c61] at H
               exact absurd H (by simp)
             ·rw [if_neg c60] at H
              exact absurd H (by simp)
            ·rw [if_neg c59] at H
             exact absurd H (by simp)
           ·rw [if_neg c58] at H
            have c58b0 : decide (x72_2 < (x4_1.length : Int)) = false := decide_eq_false c58
            clear c58
            by_cases c94 : x239001_2.length < 17592186044416
            ·rw [if_pos c94] at H
             have LMc94 := zA c94
             clear c94
             obtain ⟨y239, hy239⟩ : ∃ y_ : List Int, y_ = (x239001_2 ++ [(x239002_2.length : Int)]) := ⟨_, rfl⟩
             replace H : (some (a0_0, y239, x239002_2, x239003_2, x239004_2, 0)) = some (r1, r2, r3, r4, r5, r6) := zh hy239
             have Ny239 := zA hy239
             clear hy239
             simp only [Option.some.injEq, Prod.mk.injEq] at H
             obtain ⟨rfl, rfl, rfl, rfl, rfl, rfl⟩ := H
             have hnb95 := NB238_219.out
             have hnc95 := NB219_238.out
             have hnb96 := NB238_220.out
             have hnc96 := NB220_238.out
             obtain ⟨hcz97_0, hcz97_1, hcz97_2, hcz97_3, hcz97_4, hfz97_0, hfz97_1, hfz97_2, hfz97_3, hfz97_4⟩ := zh5 BK238.out
             obtain ⟨Ao98, co98, eo98⟩ := Kd.R_slice HO_239002.out
             subst eo98
             go_wp2_with (first | ((with_reducible refine gate_builtin (b := .append) (xs := #[.tmp 108, .tmp 112]) rfl ?_); at_builtin; refine Kd.R_append (Kd.int .i64) (w0 := w) w.heap.size rfl (.tmp 108) (.tmp 112) 22 3 (.int .i64 0) 8 rfl Try.underlying22 info3 rfl (by decide) (by omega) u239001 x239001_2 (x239002_2.length : Int) [.int .i64 (x239002_2.length : Int)] (fun k_ => zO k_ (v226) ∧ zO k_ (.slice Ao98 x239002_2.length co98) ∧ zO k_ (u239003) ∧ zO k_ (u239004)) (fun _ => False) rfl rfl ?aP (fun _ hk => hk.elim) ?aF ?aO ?aB ?aS ?aL ?_; (case aP => exact rfl); (case aB => exact (zs3 GE219.out GE220.out GE238.out)); (case aF => exact (fun k_ hk => ⟨Kd.fresh' (zl HO_5.out) k_ hk, Kd.fresh' (zl HO_239002.out) k_ hk, Kd.fresh' (zl HO_239003.out) k_ hk, Kd.fresh' (zl HO_239004.out) k_ hk⟩)); (case aO => exact (zR HO_239001.out)); (case aS => exact (below_size (zs3 GE219.out GE220.out GE238.out))); (case aL => have := LMc94.out; omega); intro v240 w99 ho hb hg hat; rw [← Ny239.out] at ho; have n0_ := zA (Kd.R_after (ok := (fun k_ => zO k_ (.slice Ao98 x239002_2.length co98) ∧ zO k_ (u239003) ∧ zO k_ (u239004))) (by (with_reducible repeat (first | apply Kd.R_alloc | apply Kd.R_drewN | apply Kd.R_drew)); exact Kd.R_mono HO_5.out zy) hg hat); have n1_ := zA (Kd.S_after (ok := (fun k_ => zO k_ (v226) ∧ zO k_ (.slice Ao98 x239002_2.length co98) ∧ zO k_ (u239003) ∧ zO k_ (u239004))) (by (with_reducible repeat (first | apply Kd.S_alloc | apply Kd.S_drewN | apply Kd.S_drew)); exact Kd.S_mono HO_70.out zy) hg hat); have n2_ := zA (Kd.R_after (ok := (fun k_ => zO k_ (v226) ∧ zO k_ (u239003) ∧ zO k_ (u239004))) (by (with_reducible repeat (first | apply Kd.R_alloc | apply Kd.R_drewN | apply Kd.R_drew)); exact Kd.R_mono HO_239002.out zy) hg hat); have n3_ := zA (Kd.R_after (ok := (fun k_ => zO k_ (v226) ∧ zO k_ (.slice Ao98 x239002_2.length co98) ∧ zO k_ (u239004))) (by (with_reducible repeat (first | apply Kd.R_alloc | apply Kd.R_drewN | apply Kd.R_drew)); exact Kd.R_mono HO_239003.out zy) hg hat); have n4_ := zA (Kd.R_after (ok := (fun k_ => zO k_ (v226) ∧ zO k_ (.slice Ao98 x239002_2.length co98) ∧ zO k_ (u239003))) (by (with_reducible repeat (first | apply Kd.R_alloc | apply Kd.R_drewN | apply Kd.R_drew)); exact Kd.R_mono HO_239004.out zy) hg hat); have n5_ := zA (blk_grown (g := gb219) (o := .cells #[.int .i64 a0_0, .slice A0_1 l0_1.length c0_1, .slice A0_2 l0_2.length c0_2, .slice A0_3 l0_3.length c0_3, .slice A0_4 l0_4.length c0_4] 26 (0, 0)) (zb BK219.out) hg (Kd.R_ne HO_239001.out BK219.out (by decide))); have n6_ := zA (blk_grown (g := gb220) (o := .cells #[.int .i64 0, .slice none 0 0, .slice none 0 0, .slice none 0 0, .slice none 0 0] 26 (0, 0)) (zb BK220.out) hg (Kd.R_ne HO_239001.out BK220.out (by decide))); have n7_ := zA (blk_grown (g := gb238) (o := .cells #[.int .i64 a0_0, u239001, .slice Ao98 x239002_2.length co98, u239003, u239004] 26 (0, 0)) (zb BK238.out) hg (Kd.R_ne HO_239001.out BK238.out (by decide))); have n8_ := zA (hb); have n9_ := zA (ho); clear HO_5 HO_70 HO_239002 HO_239003 HO_239004 BK219 BK220 BK238 HB HO_239001; have HO_5 := n0_; have HO_70 := n1_; have HO_239002 := n2_; have HO_239003 := n3_; have HO_239004 := n4_; have BK219 := n5_; have BK220 := n6_; have BK238 := n7_; have HB := n8_; have HO241 := n9_; clear n0_ n1_ n2_ n3_ n4_ n5_ n6_ n7_ n8_ n9_; clear ho hb hg hat; obtain ⟨Ao100, co100, eo100⟩ := Kd.R_slice HO241.out; subst eo100; obtain ⟨hcz101_0, hcz101_1, hcz101_2, hcz101_3, hcz101_4, hfz101_0, hfz101_1, hfz101_2, hfz101_3, hfz101_4⟩ := zh5 BK238.out; have hnb102 := NB220_219.out; have hnc102 := NB219_220.out; obtain ⟨hcz103_0, hcz103_1, hcz103_2, hcz103_3, hcz103_4, hfz103_0, hfz103_1, hfz103_2, hfz103_3, hfz103_4⟩ := zh5 BK220.out; obtain ⟨Ao104, co104, eo104⟩ := Kd.R_slice HO_239003.out; subst eo104; obtain ⟨Ao105, co105, eo105⟩ := Kd.R_slice HO_239004.out; subst eo105) | (go_at_call 32; go_in) | ((with_reducible refine bodyPost_end (fn := Try.f32) (v := .tuple #[]) ?_ rfl ?_); (exact results_none rfl _ _ _); simp only []) | (go_still_tail 14, (by kernel_rfl)))
             refine bodyPost_ret (results_ct rfl _ _ gb220 26 #[.int .i64 a0_0, .slice Ao100 y239.length co100, .slice Ao98 x239002_2.length co98, .slice Ao104 x239003_2.length co104, .slice Ao105 x239004_2.length co105] (0, 0) _ rfl (by (with_reducible repeat (first | refine blk_drewN ?_ _ | refine blk_drew ?_ | refine blk_alloc ?_ _)); refine blk_put (cs := #[.int .i64 a0_0, .slice Ao100 y239.length co100, .slice Ao98 x239002_2.length co98, .slice Ao104 x239003_2.length co104, .slice none 0 0]) ?_ 4 _ rfl; (with_reducible repeat (first | refine blk_drewN ?_ _ | refine blk_drew ?_ | refine blk_alloc ?_ _)); refine blk_put (cs := #[.int .i64 a0_0, .slice Ao100 y239.length co100, .slice Ao98 x239002_2.length co98, .slice none 0 0, .slice none 0 0]) ?_ 3 _ rfl; (with_reducible repeat (first | refine blk_drewN ?_ _ | refine blk_drew ?_ | refine blk_alloc ?_ _)); refine blk_put (cs := #[.int .i64 a0_0, .slice Ao100 y239.length co100, .slice none 0 0, .slice none 0 0, .slice none 0 0]) ?_ 2 _ rfl; (with_reducible repeat (first | refine blk_drewN ?_ _ | refine blk_drew ?_ | refine blk_alloc ?_ _)); refine blk_put (cs := #[.int .i64 a0_0, .slice none 0 0, .slice none 0 0, .slice none 0 0, .slice none 0 0]) ?_ 1 _ rfl; (with_reducible repeat (first | refine blk_drewN ?_ _ | refine blk_drew ?_ | refine blk_alloc ?_ _)); refine blk_put (cs := #[.int .i64 0, .slice none 0 0, .slice none 0 0, .slice none 0 0, .slice none 0 0]) ?_ 0 _ rfl; (with_reducible repeat (first | refine blk_drewN ?_ _ | refine blk_drew ?_ | refine blk_alloc ?_ _)); refine blk_far ?_ NB220_238.out _; (with_reducible repeat (first | refine blk_drewN ?_ _ | refine blk_drew ?_ | refine blk_alloc ?_ _)); exact BK220.out) Try.underlying26 rfl (by kernel_rfl)) rfl ?_
             exact ⟨_, _, _, _, ze, by (with_reducible repeat (first | apply Kd.R_alloc | apply Kd.R_drewN | apply Kd.R_drew)); exact Kd.R_mono (Kd.R_far (p := ⟨gb220, 4, none⟩) (Kd.R_far (p := ⟨gb220, 3, none⟩) (Kd.R_far (p := ⟨gb220, 2, none⟩) (Kd.R_far (p := ⟨gb220, 1, none⟩) (Kd.R_far (p := ⟨gb220, 0, none⟩) (Kd.R_far (p := ⟨gb238, 1, none⟩) (Kd.R_types (Kd.R_types HO241.out BK238.out (by decide)) BK220.out (by decide)) (fun _ hk => hk.1.2) (.slice Ao100 y239.length co100)) (fun _ hk => hk.2) (.int .i64 a0_0)) (fun _ hk => hk.2) (.slice Ao100 y239.length co100)) (fun _ hk => hk.2) (.slice Ao98 x239002_2.length co98)) (fun _ hk => hk.2) (.slice Ao104 x239003_2.length co104)) (fun _ hk => hk.2) (.slice Ao105 x239004_2.length co105)) zy, by (with_reducible repeat (first | apply Kd.R_alloc | apply Kd.R_drewN | apply Kd.R_drew)); exact Kd.R_mono (Kd.R_far (p := ⟨gb220, 4, none⟩) (Kd.R_far (p := ⟨gb220, 3, none⟩) (Kd.R_far (p := ⟨gb220, 2, none⟩) (Kd.R_far (p := ⟨gb220, 1, none⟩) (Kd.R_far (p := ⟨gb220, 0, none⟩) (Kd.R_far (p := ⟨gb238, 1, none⟩) (Kd.R_types (Kd.R_types HO_239002.out BK238.out (by decide)) BK220.out (by decide)) (fun _ hk => hk.1.2) (.slice Ao100 y239.length co100)) (fun _ hk => hk.2) (.int .i64 a0_0)) (fun _ hk => hk.2) (.slice Ao100 y239.length co100)) (fun _ hk => hk.2) (.slice Ao98 x239002_2.length co98)) (fun _ hk => hk.2) (.slice Ao104 x239003_2.length co104)) (fun _ hk => hk.2) (.slice Ao105 x239004_2.length co105)) zy, by (with_reducible repeat (first | apply Kd.R_alloc | apply Kd.R_drewN | apply Kd.R_drew)); exact Kd.R_mono (Kd.R_far (p := ⟨gb220, 4, none⟩) (Kd.R_far (p := ⟨gb220, 3, none⟩) (Kd.R_far (p := ⟨gb220, 2, none⟩) (Kd.R_far (p := ⟨gb220, 1, none⟩) (Kd.R_far (p := ⟨gb220, 0, none⟩) (Kd.R_far (p := ⟨gb238, 1, none⟩) (Kd.R_types (Kd.R_types HO_239003.out BK238.out (by decide)) BK220.out (by decide)) (fun _ hk => hk.1.2) (.slice Ao100 y239.length co100)) (fun _ hk => hk.2) (.int .i64 a0_0)) (fun _ hk => hk.2) (.slice Ao100 y239.length co100)) (fun _ hk => hk.2) (.slice Ao98 x239002_2.length co98)) (fun _ hk => hk.2) (.slice Ao104 x239003_2.length co104)) (fun _ hk => hk.2) (.slice Ao105 x239004_2.length co105)) zy, by (with_reducible repeat (first | apply Kd.R_alloc | apply Kd.R_drewN | apply Kd.R_drew)); exact Kd.R_mono (Kd.R_far (p := ⟨gb220, 4, none⟩) (Kd.R_far (p := ⟨gb220, 3, none⟩) (Kd.R_far (p := ⟨gb220, 2, none⟩) (Kd.R_far (p := ⟨gb220, 1, none⟩) (Kd.R_far (p := ⟨gb220, 0, none⟩) (Kd.R_far (p := ⟨gb238, 1, none⟩) (Kd.R_types (Kd.R_types HO_239004.out BK238.out (by decide)) BK220.out (by decide)) (fun _ hk => hk.1.2) (.slice Ao100 y239.length co100)) (fun _ hk => hk.2) (.int .i64 a0_0)) (fun _ hk => hk.2) (.slice Ao100 y239.length co100)) (fun _ hk => hk.2) (.slice Ao98 x239002_2.length co98)) (fun _ hk => hk.2) (.slice Ao104 x239003_2.length co104)) (fun _ hk => hk.2) (.slice Ao105 x239004_2.length co105)) zy, (zs3 GE219.out GE220.out GE238.out)⟩
            ·rw [if_neg c94] at H
             exact absurd H (by simp)
     ·rw [if_neg c7] at H
      exact absurd H (by simp)
    ·rw [if_neg c6] at H
     exact absurd H (by simp)
   ·rw [if_neg c5] at H
    exact absurd H (by simp)
  ·rw [if_neg c4] at H
   exact absurd H (by simp)
 ·replace c3 := Bool.eq_false_iff.mpr c3
  subst c3
  have H1 : (some (0, ([] : List Int), ([] : List Int), ([] : List Int), ([] : List Int), 1)) = some (r1, r2, r3, r4, r5, r6) := by rw [if_neg (show ¬ (false = true) by decide)] at H; exact H
  clear H
  have H := H1
  clear H1
  simp only [Option.some.injEq, Prod.mk.injEq] at H
  obtain ⟨rfl, rfl, rfl, rfl, rfl, rfl⟩ := H
  go_enter Try.func10, Try.ntmps10
  go_wp2_with (first | ((with_reducible refine gate_dst (N := 1) rfl ?_); refine box_event ?hg (N := 1) ?hd (cs := #[.int .i64 a0_0, .slice A0_1 l0_1.length c0_1, .slice A0_2 l0_2.length c0_2, .slice A0_3 l0_3.length c0_3, .slice A0_4 l0_4.length c0_4]) (t := 26) ?hr ?_; (case hd => rfl); (case hg => rfl); (case hr => first | (go_simp; done) | (go_simp; rfl)); intro gb219 hg w106 hbox hb; have n0_ := zA (below_step z_ hb); have n1_ := zA (hbox); have n2_ := zA ((by rw [hg]; exact (below_size z_) : w.heap.size ≤ gb219)); have n3_ := zA ((by rw [hg]; exact (below_size z_) : w.heap.size ≤ gb219)); clear HB; have HB := n0_; have BK219 := n1_; have GW219 := n2_; have GE219 := n3_; clear n0_ n1_ n2_ n3_; clear hb hbox hg) | ((with_reducible refine gate_dst (N := 2) rfl ?_); refine box_event ?hg (N := 2) ?hd (cs := #[.int .i64 0, .slice none 0 0, .slice none 0 0, .slice none 0 0, .slice none 0 0]) (t := 26) ?hr ?_; (case hd => rfl); (case hg => rfl); (case hr => first | (go_simp; done) | (go_simp; rfl)); intro gb220 hg w107 hbox hb; have n0_ := zA (zB BK219.out hb); have n1_ := zA (below_step (zs GE219.out) hb); have n2_ := zA (hbox); have n3_ := zA ((by rw [hg]; exact (below_size (zs GE219.out)) : w.heap.size ≤ gb220)); have n4_ := zA ((by rw [hg]; exact (below_size (zs GE219.out)) : w.heap.size ≤ gb220)); have n5_ := zA ((by rw [hg]; exact Nat.ne_of_lt (zw BK219.out) : gb219 ≠ gb220)); have n6_ := zA ((by rw [hg]; exact Nat.ne_of_gt (zw BK219.out) : gb220 ≠ gb219)); clear BK219 HB; have BK219 := n0_; have HB := n1_; have BK220 := n2_; have GW220 := n3_; have GE220 := n4_; have NB219_220 := n5_; have NB220_219 := n6_; clear n0_ n1_ n2_ n3_ n4_ n5_ n6_; clear hb hbox hg; have hnb108 := NB219_220.out; have hnc108 := NB220_219.out; obtain ⟨hcz109_0, hcz109_1, hcz109_2, hcz109_3, hcz109_4, hfz109_0, hfz109_1, hfz109_2, hfz109_3, hfz109_4⟩ := zh5 BK219.out) | ((with_reducible refine gate_callee (f := 31) rfl ?_); refine goesL_ (some 14) rfl rfl Try.func31 (by kernel_rfl) rfl #[.agg #[.int .i64 a0_0, .slice A0_1 l0_1.length c0_1, .slice A0_2 l0_2.length c0_2, .slice A0_3 l0_3.length c0_3, .slice A0_4 l0_4.length c0_4]] rfl za ?_; (with_reducible refine (impl_ValidGraph.calls k a0_0 _ _ l0_1 _ _ l0_2 _ _ l0_3 _ _ l0_4 false _ ?side1 ?side2 ?side3 ?side4 ?side5 ?side6 ?side7 ?side8 A2.out).mono ?_); (case side1 => exact zc (Kd.C_below HR0_1.out HB.out)); (case side2 => exact HC0_1.out); (case side3 => exact zc (Kd.C_below HR0_2.out HB.out)); (case side4 => exact HC0_2.out); (case side5 => exact zc (Kd.C_below HR0_3.out HB.out)); (case side6 => exact HC0_3.out); (case side7 => exact zc (Kd.C_below HR0_4.out HB.out)); (case side8 => exact HC0_4.out); rintro e w110 ⟨rfl, hb⟩; refine ⟨_, rfl, ?_⟩; have n0_ := zA (zB BK219.out hb); have n1_ := zA (zB BK220.out hb); have n2_ := zA (below_step (zs2 GE219.out GE220.out) hb); clear BK219 BK220 HB; have BK219 := n0_; have BK220 := n1_; have HB := n2_; clear n0_ n1_ n2_; (try clear hb); (try clear hb2); (try clear hk); (try clear hi); obtain ⟨hcz111_0, hcz111_1, hcz111_2, hcz111_3, hcz111_4, hfz111_0, hfz111_1, hfz111_2, hfz111_3, hfz111_4⟩ := zh5 BK220.out) | (go_at_call 32; go_in) | ((with_reducible refine bodyPost_end (fn := Try.f32) (v := .tuple #[]) ?_ rfl ?_); (exact results_none rfl _ _ _); simp only []) | (go_still_tail 14, (by kernel_rfl)))
  refine bodyPost_ret (results_ct rfl _ _ gb220 26 #[.int .i64 0, .slice none 0 0, .slice none 0 0, .slice none 0 0, .slice none 0 0] (0, 0) _ rfl (zq BK220.out) Try.underlying26 rfl (by kernel_rfl)) rfl ?_
  exact ⟨_, _, _, _, ze, by first | exact Kd.R_nil _ _ _ _ _ | exact Kd.N_nil _ _ _ _ _ | exact Kd.V_nil _ _ _ _ _ | exact Kd.Q_nil _ _ _ _ _ | exact Kd.S_nil _ _ _ _ _, by first | exact Kd.R_nil _ _ _ _ _ | exact Kd.N_nil _ _ _ _ _ | exact Kd.V_nil _ _ _ _ _ | exact Kd.Q_nil _ _ _ _ _ | exact Kd.S_nil _ _ _ _ _, by first | exact Kd.R_nil _ _ _ _ _ | exact Kd.N_nil _ _ _ _ _ | exact Kd.V_nil _ _ _ _ _ | exact Kd.Q_nil _ _ _ _ _ | exact Kd.S_nil _ _ _ _ _, by first | exact Kd.R_nil _ _ _ _ _ | exact Kd.N_nil _ _ _ _ _ | exact Kd.V_nil _ _ _ _ _ | exact Kd.Q_nil _ _ _ _ _ | exact Kd.S_nil _ _ _ _ _, (zs2 GE219.out GE220.out)⟩

end Go.Proofs.Ytiboccbaaphbhaa.PFnExactReverse
