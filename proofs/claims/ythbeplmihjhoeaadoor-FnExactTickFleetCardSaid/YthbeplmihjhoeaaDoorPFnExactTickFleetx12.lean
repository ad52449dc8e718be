-- made by wip/tools/myprint.py (this session's own program, over the kit's printer)
import Derived.Test.YthbeplmihjhoeaaDoorPFnExactTickFleetx0
import Derived.Test.YthbeplmihjhoeaaDoorPFnExactTickFleetx11
namespace Go.Proofs.YthbeplmihjhoeaaDoor.PFnExactTickFleet
open Go.RowKit Go.Proofs.YthbeplmihjhoeaaDoorW.PrintWords Go.Proofs.YthbeplmihjhoeaaDoorW.PrintLast Go.Proofs.YthbeplmihjhoeaaDoorW.PrintMore
attribute [local go_sem] max2_int min2_int max_two min_two max_three min_three max_four min_four   -- for this text's walks alone
set_option linter.unusedVariables false
set_option linter.unusedSimpArgs false

/-! ### spec_l8tick: function 99 -/
mutual
def spec_l8tick.l0 : Nat → List (S134) → Bool → Int → Int → Int → List (S120) → List (List Int) → List (List Int) → Option ((List (S134)) × Bool)
 | 0, _, _, _, _, _, _, _, _ => none
 | k + 1, x6, x7, x8, x242000, x242001, x242002, x242003, x242004 => if x8 < (x6.length : Int) then (if 0 ≤ x8 then (if (rd_T134 x6 x8).f4 = true then (spec_l8tick.l0 k x6 x7 (wrap64 (x8 + 1)) x242000 x242001 x242002 x242003 x242004) else ((spec_l8next.f x242000 x242001 x242002 x242003 x242004 ((rd_T134 x6 x8).f1) ((rd_T134 x6 x8).f0)).bind fun bt248 => (if bt248.2 = 11 then (spec_l8tick.l0 k (x6.set (x8 : Int).toNat (⟨(rd_T134 x6 x8).f0, (rd_T134 x6 x8).f1, (rd_T134 x6 x8).f2, (rd_T134 x6 x8).f3, true⟩ : S134)) true (wrap64 (x8 + 1)) x242000 x242001 x242002 x242003 x242004) else (spec_l8tick.l1 k x6 x7 x8 bt248.1 (bt248.2 == 0) 0 x242000 x242001 x242002 x242003 x242004)))) else (none)) else (some (x6, x7))
def spec_l8tick.l1 : Nat → List (S134) → Bool → Int → Int → Bool → Int → Int → Int → List (S120) → List (List Int) → List (List Int) → Option ((List (S134)) × Bool)
 | 0, _, _, _, _, _, _, _, _, _, _, _ => none
 | k + 1, x6, x7, x8, x9, x11, x12, x242000, x242001, x242002, x242003, x242004 => if x12 < (x6.length : Int) then (if x12 = x8 then (spec_l8tick.l1 k x6 x7 x8 x9 x11 (wrap64 (x12 + 1)) x242000 x242001 x242002 x242003 x242004) else (if 0 ≤ x12 then (if ((rd_T134 x6 x12).f4 = true) then (spec_l8tick.l1 k x6 x7 x8 x9 x11 (wrap64 (x12 + 1)) x242000 x242001 x242002 x242003 x242004) else (if ((rd_T134 x6 x12).f0) = x9 then (spec_l8tick.l1 k x6 x7 x8 x9 false (wrap64 (x12 + 1)) x242000 x242001 x242002 x242003 x242004) else (spec_l8tick.l1 k x6 x7 x8 x9 x11 (wrap64 (x12 + 1)) x242000 x242001 x242002 x242003 x242004))) else (none))) else (if x11 = true then (if 0 ≤ x8 then (if x8 < (x6.length : Int) then ((some (x6.set (x8 : Int).toNat (⟨x9, (rd_T134 x6 x8).f1, (rd_T134 x6 x8).f2, (rd_T134 x6 x8).f3, (rd_T134 x6 x8).f4⟩ : S134) : List (S134))).bind fun y253 => ((spec_l8more.f ((rd_T134 y253 x8).f2)).bind fun t255 => (spec_l8tick.l0 k (y253.set (x8 : Int).toNat (⟨(rd_T134 y253 x8).f0, (rd_T134 y253 x8).f1, t255, (rd_T134 y253 x8).f3, (rd_T134 y253 x8).f4⟩ : S134)) true (wrap64 (x8 + 1)) x242000 x242001 x242002 x242003 x242004))) else (none)) else (none)) else (if 0 ≤ x8 then (if x8 < (x6.length : Int) then ((spec_l8more.f ((rd_T134 x6 x8).f3)).bind fun t258 => (spec_l8tick.l0 k (x6.set (x8 : Int).toNat (⟨(rd_T134 x6 x8).f0, (rd_T134 x6 x8).f1, (rd_T134 x6 x8).f2, t258, (rd_T134 x6 x8).f4⟩ : S134)) x7 (wrap64 (x8 + 1)) x242000 x242001 x242002 x242003 x242004)) else (none)) else (none)))
end
def spec_l8tick.f (k : Nat) (a0_0 : Int) (a0_1 : Int) (l0_2 : List (S120)) (l0_3 : List (List Int)) (l0_4 : List (List Int)) (l1 : List (S134)) : Option ((List (S134)) × Bool) := if ([] : List (S134)).length + l1.length < 3518437208883 then (spec_l8tick.l0 k (([] : List (S134)) ++ l1) false 0 a0_0 a0_1 l0_2 l0_3 l0_4) else (none)
theorem spec_l8tick.mono_l : ∀ k, (∀ y0 y1 y2 y3 y4 y5 y6 y7, LeO (spec_l8tick.l0 k y0 y1 y2 y3 y4 y5 y6 y7) (spec_l8tick.l0 (k + 1) y0 y1 y2 y3 y4 y5 y6 y7)) ∧ (∀ y0 y1 y2 y3 y4 y5 y6 y7 y8 y9 y10, LeO (spec_l8tick.l1 k y0 y1 y2 y3 y4 y5 y6 y7 y8 y9 y10) (spec_l8tick.l1 (k + 1) y0 y1 y2 y3 y4 y5 y6 y7 y8 y9 y10))
 | 0 => ⟨fun _ _ _ _ _ _ _ _ r h => by simp [spec_l8tick.l0] at h, fun _ _ _ _ _ _ _ _ _ _ _ r h => by simp [spec_l8tick.l1] at h⟩
 | k + 1 => by
  obtain ⟨ih0, ih1⟩ := spec_l8tick.mono_l k; refine ⟨?_, ?_⟩
  ·intro y0 y1 y2 y3 y4 y5 y6 y7; unfold spec_l8tick.l0; exact zm
  ·intro y0 y1 y2 y3 y4 y5 y6 y7 y8 y9 y10; unfold spec_l8tick.l1; exact zm
theorem spec_l8tick.mono : ∀ a0 a1 a2 a3 a4 a5 k, LeO (spec_l8tick.f k a0 a1 a2 a3 a4 a5) (spec_l8tick.f (k + 1) a0 a1 a2 a3 a4 a5) := by
 intro a0 a1 a2 a3 a4 a5 k; obtain ⟨ih0, ih1⟩ := spec_l8tick.mono_l k; unfold spec_l8tick.f; exact zm
def spec_l8tick.T8 : Bool × List (List Nat × List Nat) := (true, [([], []), ([], []), ([], []), ([1, 2], [1, 2]), ([3], [3]), ([4], [4]), ([], []), ([], []), ([6, 7], [6, 7]), ([8], [8]), ([9], [9]), ([0, 5, 10], [0, 5, 10]), ([11], [11]), ([12], [12]), ([12], [12]), ([13, 11, 0, 1, 2, 3, 4, 5, 6, 7, 8, 9, 10, 11, 12, 13], [13]), ([14, 15, 0, 1, 2, 3, 4, 5, 6, 7, 8, 9, 10, 11, 12, 13, 14, 15], [14])])
def spec_l8tick.B8 : List Nat := [0, 0, 0, 6, 14, 30, 0, 0, 192, 448, 960, 2047, 4095, 8191, 8191, 16383, 65535]
theorem spec_l8tick.tab8 : rtab .any (opsOf Tryd.f99 8) = spec_l8tick.T8 := by kernel_rfl
theorem spec_l8tick.bits8 : waitsOk spec_l8tick.T8.2 spec_l8tick.B8 = true := by kernel_rfl
set_option maxHeartbeats 8000000 in
set_option maxRecDepth 100000 in
theorem spec_l8tick.calls (k : Nat) (a0_0 : Int) (a0_1 : Int) (A0_2 : Option Addr) (c0_2 : Nat) (l0_2 : List (S120)) (A0_3 : Option Addr) (c0_3 : Nat) (l0_3 : List (List Int)) (A0_4 : Option Addr) (c0_4 : Nat) (l0_4 : List (List Int)) (A1 : Option Addr) (c1 : Nat) (l1 : List (S134)) (r1 : List (S134)) (r2 : Bool) (w : World) (hr0_2 : Kd.C k120 w A0_2 l0_2.length l0_2) (hc0_2 : l0_2.length ≤ c0_2) (hr0_3 : Kd.C (Kd.slice 3 (Kd.int .i64)) w A0_3 l0_3.length l0_3) (hc0_3 : l0_3.length ≤ c0_3) (hr0_4 : Kd.C (Kd.slice 3 (Kd.int .i64)) w A0_4 l0_4.length l0_4) (hc0_4 : l0_4.length ≤ c0_4) (hr1 : Kd.C k134 w A1 l1.length l1) (hc1 : l1.length ≤ c1) (h : spec_l8tick.f k a0_0 a0_1 l0_2 l0_3 l0_4 l1 = some (r1, r2)) :
  Calls Tryd.prog 99 #[.agg #[.int .i64 a0_0, .int .i64 a0_1, .slice A0_2 l0_2.length c0_2, .slice A0_3 l0_3.length c0_3, .slice A0_4 l0_4.length c0_4], .slice A1 l1.length c1] w fun e w' => ∃ v0_ : Value, e = .returned (.tuple #[v0_, .bool r2]) ∧ Kd.R k134 134 w' w.heap.size (fun _ => True) v0_ r1 ∧ Below w.heap.size w w' := by
 have hu47 := Tryd.underlying47; have HR0_2 := zA hr0_2; have HC0_2 := zA hc0_2; clear hr0_2 hc0_2; have HR0_3 := zA hr0_3; have HC0_3 := zA hc0_3; clear hr0_3 hc0_3; have HR0_4 := zA hr0_4; have HC0_4 := zA hc0_4; clear hr0_4 hc0_4; have HR1 := zA hr1; have HC1 := zA hc1; clear hr1 hc1; have HB := zA (Below.refl w.heap.size w); have H : (if ([] : List (S134)).length + l1.length < 3518437208883 then (spec_l8tick.l0 k (([] : List (S134)) ++ l1) false 0 a0_0 a0_1 l0_2 l0_3 l0_4) else (none)) = some (r1, r2) := h; clear h
 by_cases c3 : ([] : List (S134)).length + l1.length < 3518437208883
 ·rw [if_pos c3] at H; have LMc3 := zA c3; clear c3; obtain ⟨y242, hy242⟩ : ∃ y_ : List (S134), y_ = (([] : List (S134)) ++ l1) := ⟨_, rfl⟩; replace H : (spec_l8tick.l0 k y242 false 0 a0_0 a0_1 l0_2 l0_3 l0_4) = some (r1, r2) := zh hy242; have Ny242 := zA hy242; clear hy242; have H' := zA H; clear H; go_enter Tryd.func99, Tryd.ntmps99; go_wp2_with (first | ((with_reducible refine gate_dst (N := 2) rfl ?_); refine zbx (N := 2) (cs := #[.int .i64 a0_0, .int .i64 a0_1, .slice A0_2 l0_2.length c0_2, .slice A0_3 l0_3.length c0_3, .slice A0_4 l0_4.length c0_4]) (t := 47) ?_; intro gb241 hg w4 hbox hb; have BK241 := zA (hbox); have GW241 := zA (zg hg : w.heap.size ≤ gb241); have GE241 := zA (zg hg : w.heap.size ≤ gb241); replace HB := zA (below_step z_ hb); clear hb hbox hg) | ((with_reducible refine gate_builtin (b := .append) (xs := #[.tmp 13, .tmp 14]) rfl ?_); at_builtin; refine Kd.R_append_rows k134 (w0 := w) w.heap.size rfl (.tmp 13) (.tmp 14) 65 134 (.agg #[(.int .i64 0), (.int .i64 0), (.int .i64 0), (.int .i64 0), (.bool false)]) 40 rfl Tryd.underlying65 info134 rfl (by decide) (by omega) (.slice none 0 0) ([] : List (S134)) l1 _ _ _ (fun _ => True) (fun _ => False) rfl rfl ?aO ?aR (fun _ _ h => h) (fun _ h => h.elim) ?aF ?aB ?aS ?aL ?_; (case aR => exact zc (Kd.C_below HR1.out HB.out)); (case aB => exact (zs GE241.out)); (case aF => exact (fun _ _ => trivial)); (case aO => exact ((Kd.R_nil _ _ _ _ (fun _ => True)))); (case aS => exact (below_size (zs GE241.out))); (case aL => have := LMc3.out; omega); intro v243 w5 ho hb hg hat; rw [← Ny242.out] at ho; replace BK241 := zA (blk_grown (g := gb241) (o := .cells #[.int .i64 a0_0, .int .i64 a0_1, .slice A0_2 l0_2.length c0_2, .slice A0_3 l0_3.length c0_3, .slice A0_4 l0_4.length c0_4] 47 (0, 0)) (zb BK241.out) hg (by simp [Value.ownBlock])); replace HB := zA (hb); have HO244 := zA (ho); clear ho hb hg hat))
  go_loopg [7, 8] k (fun kq v7 v8 w' => ∃ (x6_1 : List (S134)) (x7_1 : Bool) (x8_1 : Int), v7 = .bool x7_1 ∧ v8 = .int .i64 x8_1 ∧ Aside0 (spec_l8tick.l0 kq x6_1 x7_1 x8_1 a0_0 a0_1 l0_2 l0_3 l0_4 = some (r1, r2)) ∧ Aside0 (kq ≤ k) ∧ Aside0 (Kd.R k134 134 w' w.heap.size (fun _ => True) v243 x6_1) ∧ Aside0 (w'.heap[gb241]? = some (.cells #[.int .i64 a0_0, .int .i64 a0_1, (.slice A0_2 l0_2.length c0_2), (.slice A0_3 l0_3.length c0_3), (.slice A0_4 l0_4.length c0_4)] 47 (0, 0))) ∧ Aside0 (Below w.heap.size w w'))
  case atStart => exact ⟨(y242), (false), (0), zr, zr, H', ⟨Nat.le_refl _⟩, ⟨zR HO244.out⟩, ⟨zb BK241.out⟩, ⟨zs GE241.out⟩⟩
  case round =>
   clear H'; (try clear c1); (try clear p2); (try clear c3); obtain ⟨x6_1, x7_1, x8_1, rfl, rfl, HA, HK1, HO_6, BK241, HB⟩ := hrel; cases gk with
   | zero => exact absurd HA.out (by simp [spec_l8tick.l0])
   | succ k1 =>
    have H := HA.out; clear HA; simp only [spec_l8tick.l0] at H
    by_cases c6 : x8_1 < (x6_1.length : Int)
    ·rw [if_pos c6] at H; have c6b0 : decide (x8_1 < (x6_1.length : Int)) = true := decide_eq_true c6; clear c6
     by_cases c7 : 0 ≤ x8_1
     ·rw [if_pos c7] at H; have c7b0 : decide (0 ≤ x8_1) = true := decide_eq_true c7; clear c7; obtain ⟨bq8, hbq8⟩ : ∃ b_ : Bool, b_ = ((rd_T134 x6_1 x8_1).f4) := ⟨_, rfl⟩; replace H : (if bq8 = true then (spec_l8tick.l0 k1 x6_1 x7_1 (wrap64 (x8_1 + 1)) a0_0 a0_1 l0_2 l0_3 l0_4) else ((spec_l8next.f a0_0 a0_1 l0_2 l0_3 l0_4 ((rd_T134 x6_1 x8_1).f1) ((rd_T134 x6_1 x8_1).f0)).bind fun bt248 => (if bt248.2 = 11 then (spec_l8tick.l0 k1 (x6_1.set (x8_1 : Int).toNat (⟨(rd_T134 x6_1 x8_1).f0, (rd_T134 x6_1 x8_1).f1, (rd_T134 x6_1 x8_1).f2, (rd_T134 x6_1 x8_1).f3, true⟩ : S134)) true (wrap64 (x8_1 + 1)) a0_0 a0_1 l0_2 l0_3 l0_4) else (spec_l8tick.l1 k1 x6_1 x7_1 x8_1 bt248.1 (bt248.2 == 0) 0 a0_0 a0_1 l0_2 l0_3 l0_4)))) = some (r1, r2) := by rw [← hbq8] at H; exact H
      have Nbq8 := zA hbq8; clear hbq8
      by_cases c9 : bq8 = true
      ·subst c9; have H1 : (spec_l8tick.l0 k1 x6_1 x7_1 (wrap64 (x8_1 + 1)) a0_0 a0_1 l0_2 l0_3 l0_4) = some (r1, r2) := by rw [if_pos rfl] at H; exact H
       clear H; have H := H1; clear H1; have H' := zA H; clear H; obtain ⟨Ao10, co10, eo10⟩ := Kd.R_slice HO_6.out; subst eo10; have p245 : 0 ≤ (x8_1 : Int) := zd; have q245 : x8_1 < (x6_1.length : Int) := zd; obtain ⟨ad245, e245, hx245_0, hx245_1, hx245_2, hx245_3, hx245_4⟩ := at_T134 (Kd.R_reads' HO_6.out).2.2 x8_1 p245 q245; (try rw [← Nbq8.out] at hx245_4); cases e245; replace p245 := eq_true p245; replace q245 := eq_true q245; go_wp2; go_roundg k1
       case measure => have := HK1.out; omega
       case rel => exact ⟨(x6_1), (x7_1), (wrap64 (x8_1 + 1)), zr, zr, H', ⟨by have := HK1.out; omega⟩, ⟨zR HO_6.out⟩, ⟨zb BK241.out⟩, ⟨zs GE241.out⟩⟩
      ·replace c9 := Bool.eq_false_iff.mpr c9; subst c9; have H1 : ((spec_l8next.f a0_0 a0_1 l0_2 l0_3 l0_4 ((rd_T134 x6_1 x8_1).f1) ((rd_T134 x6_1 x8_1).f0)).bind fun bt248 => (if bt248.2 = 11 then (spec_l8tick.l0 k1 (x6_1.set (x8_1 : Int).toNat (⟨(rd_T134 x6_1 x8_1).f0, (rd_T134 x6_1 x8_1).f1, (rd_T134 x6_1 x8_1).f2, (rd_T134 x6_1 x8_1).f3, true⟩ : S134)) true (wrap64 (x8_1 + 1)) a0_0 a0_1 l0_2 l0_3 l0_4) else (spec_l8tick.l1 k1 x6_1 x7_1 x8_1 bt248.1 (bt248.2 == 0) 0 a0_0 a0_1 l0_2 l0_3 l0_4))) = some (r1, r2) := by rw [if_neg (show ¬ (false = true) by decide)] at H; exact H
       clear H; have H := H1; clear H1; replace H := Option.bind_eq_some_iff.mp H; obtain ⟨⟨t248, t249⟩, A110, H⟩ := H; replace H : (if t249 = 11 then (spec_l8tick.l0 k1 (x6_1.set (x8_1 : Int).toNat (⟨(rd_T134 x6_1 x8_1).f0, (rd_T134 x6_1 x8_1).f1, (rd_T134 x6_1 x8_1).f2, (rd_T134 x6_1 x8_1).f3, true⟩ : S134)) true (wrap64 (x8_1 + 1)) a0_0 a0_1 l0_2 l0_3 l0_4) else (spec_l8tick.l1 k1 x6_1 x7_1 x8_1 t248 (t249 == 0) 0 a0_0 a0_1 l0_2 l0_3 l0_4)) = some (r1, r2) := H; have A11 := zA A110; clear A110
       by_cases c12 : t249 = 11
       ·rw [if_pos c12] at H; have c12b0 : (t249 == 11) = true := beq_iff_eq.mpr c12; have c12b1 : (t249 != 11) = false := bne_eq_false_iff_eq.mpr c12; clear c12; obtain ⟨y250, hy250⟩ : ∃ y_ : List (S134), y_ = (x6_1.set (x8_1 : Int).toNat (⟨(rd_T134 x6_1 x8_1).f0, (rd_T134 x6_1 x8_1).f1, (rd_T134 x6_1 x8_1).f2, (rd_T134 x6_1 x8_1).f3, true⟩ : S134)) := ⟨_, rfl⟩; replace H : (spec_l8tick.l0 k1 y250 true (wrap64 (x8_1 + 1)) a0_0 a0_1 l0_2 l0_3 l0_4) = some (r1, r2) := zh hy250; have Ny250 := zA hy250; clear hy250; have H' := zA H; clear H; obtain ⟨Ao14, co14, eo14⟩ := Kd.R_slice HO_6.out; subst eo14; have p245 : 0 ≤ (x8_1 : Int) := zd; have q245 : x8_1 < (x6_1.length : Int) := zd; obtain ⟨ad245, e245, hx245_0, hx245_1, hx245_2, hx245_3, hx245_4⟩ := at_T134 (Kd.R_reads' HO_6.out).2.2 x8_1 p245 q245; (try rw [← Nbq8.out] at hx245_4); cases e245; replace p245 := eq_true p245; replace q245 := eq_true q245; try go_wp2
        have n0_ := zA (Kd.R_drew HO_6.out); have n1_ := zA (blk_drew BK241.out); have n2_ := zA (below_drew1 HB.out); clear HO_6; clear BK241; clear HB; have HO_6 := n0_; have BK241 := n1_; have HB := n2_; clear n0_ n1_ n2_; have p246 : 0 ≤ (x8_1 : Int) := zd; have q246 : x8_1 < (x6_1.length : Int) := zd; obtain ⟨ad246, e246, hx246_0, hx246_1, hx246_2, hx246_3, hx246_4⟩ := at_T134 (Kd.R_reads' HO_6.out).2.2 x8_1 p246 q246; (try rw [← Nbq8.out] at hx246_4); obtain rfl : ad245 = ad246 := (by injection e246); replace p246 := eq_true p246; replace q246 := eq_true q246; have p247 : 0 ≤ (x8_1 : Int) := zd; have q247 : x8_1 < (x6_1.length : Int) := zd; obtain ⟨ad247, e247, hx247_0, hx247_1, hx247_2, hx247_3, hx247_4⟩ := at_T134 (Kd.R_reads' HO_6.out).2.2 x8_1 p247 q247; (try rw [← Nbq8.out] at hx247_4); obtain rfl : ad245 = ad247 := (by injection e247); replace p247 := eq_true p247; replace q247 := eq_true q247; refine start_ (n := 17) (S := fun w' => w'.cell? ⟨gb241, 0, none⟩ = some (.int .i64 a0_0) ∧ w'.cell? ⟨gb241, 1, none⟩ = some (.int .i64 a0_1) ∧ w'.cell? ⟨gb241, 2, none⟩ = some (.slice A0_2 l0_2.length c0_2) ∧ w'.cell? ⟨gb241, 3, none⟩ = some (.slice A0_3 l0_3.length c0_3) ∧ w'.cell? ⟨gb241, 4, none⟩ = some (.slice A0_4 l0_4.length c0_4) ∧ w'.cell? (ad245.add ((x8_1).toNat * 5)) = some (.int .i64 ((rd_T134 x6_1 x8_1).f0)) ∧ w'.cell? ⟨(ad245.add ((x8_1).toNat * 5)).block, (ad245.add ((x8_1).toNat * 5)).off + 1, none⟩ = some (.int .i64 ((rd_T134 x6_1 x8_1).f1)) ∧ w'.cell? ⟨(ad245.add ((x8_1).toNat * 5)).block, (ad245.add ((x8_1).toNat * 5)).off + 2, none⟩ = some (.int .i64 ((rd_T134 x6_1 x8_1).f2)) ∧ w'.cell? ⟨(ad245.add ((x8_1).toNat * 5)).block, (ad245.add ((x8_1).toNat * 5)).off + 3, none⟩ = some (.int .i64 ((rd_T134 x6_1 x8_1).f3)) ∧ w'.cell? ⟨(ad245.add ((x8_1).toNat * 5)).block, (ad245.add ((x8_1).toNat * 5)).off + 4, none⟩ = some (.bool (false)) ∧ w'.cell? (ad245.add ((x8_1).toNat * 5)) = some (.int .i64 ((rd_T134 x6_1 x8_1).f0)) ∧ w'.cell? ⟨(ad245.add ((x8_1).toNat * 5)).block, (ad245.add ((x8_1).toNat * 5)).off + 1, none⟩ = some (.int .i64 ((rd_T134 x6_1 x8_1).f1)) ∧ w'.cell? ⟨(ad245.add ((x8_1).toNat * 5)).block, (ad245.add ((x8_1).toNat * 5)).off + 2, none⟩ = some (.int .i64 ((rd_T134 x6_1 x8_1).f2)) ∧ w'.cell? ⟨(ad245.add ((x8_1).toNat * 5)).block, (ad245.add ((x8_1).toNat * 5)).off + 3, none⟩ = some (.int .i64 ((rd_T134 x6_1 x8_1).f3)) ∧ w'.cell? ⟨(ad245.add ((x8_1).toNat * 5)).block, (ad245.add ((x8_1).toNat * 5)).off + 4, none⟩ = some (.bool (false))) (ds := []) #[false, false, false, false, false, false, false, false, false, false, false, false, false, false, false, false, false] (by kernel_rfl) rfl rfl ⟨(blk_cell BK241.out 0).trans rfl, (blk_cell BK241.out 1).trans rfl, (blk_cell BK241.out 2).trans rfl, (blk_cell BK241.out 3).trans rfl, (blk_cell BK241.out 4).trans rfl, hx246_0, hx246_1, hx246_2, hx246_3, hx246_4, hx247_0, hx247_1, hx247_2, hx247_3, hx247_4⟩ (fun hHeld => ?_); refine with_tabW spec_l8tick.tab8 spec_l8tick.bits8 (fun HT_ HW_ => ?_)
        generalize wr.drew = w15 at HO_6 BK241 HB hx246_0 hx246_1 hx246_2 hx246_3 hx246_4 hx247_0 hx247_1 hx247_2 hx247_3 hx247_4 hHeld ⊢; refine pure_ (i := 1) (N := some 29) (v := ?_) (a' := ?_) #[false, true, false, false, false, false, false, false, false, false, false, false, false, false, false, false, false] rfl rfl (any_of HT_.out (by kernel_rfl)) (fun _ _ _ h => h) (Or.inl ⟨by rfl, ?_⟩) ?_ ?_; rotate_left
        ·intro w'
         go_simp
         with_reducible rfl
        rotate_left
        ·simp only [Act.put, List.setIfInBounds_toArray, List.set_cons_zero, List.set_cons_succ, i64_w, i32_w]
         rfl
        refine pure_ (i := 2) (N := some 30) (v := ?_) (a' := ?_) #[false, true, true, false, false, false, false, false, false, false, false, false, false, false, false, false, false] rfl rfl (any_of HT_.out (by kernel_rfl)) (fun _ _ _ h => h) (Or.inl ⟨by rfl, ?_⟩) ?_ ?_; rotate_left
        ·intro w'
         go_simp
         with_reducible rfl
        rotate_left
        ·simp only [Act.put, List.setIfInBounds_toArray, List.set_cons_zero, List.set_cons_succ, i64_w, i32_w]
         rfl
        refine pure_ (i := 3) (N := some 31) (v := ?_) (a' := ?_) #[false, true, true, true, false, false, false, false, false, false, false, false, false, false, false, false, false] rfl rfl (any_of HT_.out (by kernel_rfl)) (fun _ _ _ h => h) (Or.inl ⟨by rfl, ?_⟩) ?_ ?_; rotate_left
        ·intro w'
         go_simp
         with_reducible rfl
        rotate_left
        ·simp only [Act.put, List.setIfInBounds_toArray, List.set_cons_zero, List.set_cons_succ, i64_w, i32_w]
         rfl
        refine pure_ (i := 4) (N := some 32) (v := ?_) (a' := ?_) #[false, true, true, true, true, false, false, false, false, false, false, false, false, false, false, false, false] rfl rfl (any_of HT_.out (by kernel_rfl)) (fun _ _ _ h => h) (Or.inl ⟨by rfl, ?_⟩) ?_ ?_; rotate_left
        ·intro w'
         go_simp
         with_reducible rfl
        rotate_left
        ·simp only [Act.put, List.setIfInBounds_toArray, List.set_cons_zero, List.set_cons_succ, i64_w, i32_w]
         rfl
        refine pure_ (i := 6) (N := some 34) (v := ?_) (a' := ?_) #[false, true, true, true, true, false, true, false, false, false, false, false, false, false, false, false, false] rfl rfl (any_of HT_.out (by kernel_rfl)) (fun _ _ _ h => h) (Or.inl ⟨by rfl, ?_⟩) ?_ ?_; rotate_left
        ·intro w'
         go_simp
         with_reducible rfl
        rotate_left
        ·simp only [Act.put, List.setIfInBounds_toArray, List.set_cons_zero, List.set_cons_succ, i64_w, i32_w]
         rfl
        refine pure_ (i := 7) (N := some 35) (v := ?_) (a' := ?_) #[false, true, true, true, true, false, true, true, false, false, false, false, false, false, false, false, false] rfl rfl (any_of HT_.out (by kernel_rfl)) (fun _ _ _ h => h) (Or.inl ⟨by rfl, ?_⟩) ?_ ?_; rotate_left
        ·intro w'
         go_simp
         with_reducible rfl
        rotate_left
        ·simp only [Act.put, List.setIfInBounds_toArray, List.set_cons_zero, List.set_cons_succ, i64_w, i32_w]
         rfl
        refine pure_ (i := 8) (N := some 36) (v := ?_) (a' := ?_) #[false, true, true, true, true, false, true, true, true, false, false, false, false, false, false, false, false] rfl rfl (any_of HT_.out (by kernel_rfl)) (fun _ _ _ h => h) (Or.inl ⟨by rfl, ?_⟩) ?_ ?_; rotate_left
        ·intro w'
         go_simp
         with_reducible rfl
        rotate_left
        ·simp only [Act.put, List.setIfInBounds_toArray, List.set_cons_zero, List.set_cons_succ, i64_w, i32_w]
         rfl
        refine pure_ (i := 9) (N := some 37) (v := ?_) (a' := ?_) #[false, true, true, true, true, false, true, true, true, true, false, false, false, false, false, false, false] rfl rfl (any_of HT_.out (by kernel_rfl)) (fun _ _ _ h => h) (Or.inl ⟨by rfl, ?_⟩) ?_ ?_; rotate_left
        ·intro w'
         go_simp
         with_reducible rfl
        rotate_left
        ·simp only [Act.put, List.setIfInBounds_toArray, List.set_cons_zero, List.set_cons_succ, i64_w, i32_w]
         rfl
        refine take_ (i := 0) (N := some 28) (v := ?_) (a' := ?_) #[true, true, true, true, true, false, true, true, true, true, false, false, false, false, false, false, false] rfl rfl (take_ofW HT_.out HW_.out (by kernel_rfl)) (fun _ _ _ h => h) (Or.inl ⟨by rfl, ?_⟩) hHeld ?_ ?_; rotate_left
        ·rintro w' ⟨s0, s1, s2, s3, s4, s5, s6, s7, s8, s9, s10, s11, s12, s13, s14⟩
         go_simp
         with_reducible rfl
        rotate_left
        ·simp only [Act.put, List.setIfInBounds_toArray, List.set_cons_zero, List.set_cons_succ, i64_w, i32_w]
         rfl
        refine take_ (i := 5) (N := some 33) (v := ?_) (a' := ?_) #[true, true, true, true, true, true, true, true, true, true, false, false, false, false, false, false, false] rfl rfl (take_ofW HT_.out HW_.out (by kernel_rfl)) (fun _ _ _ h => h) (Or.inl ⟨by rfl, ?_⟩) hHeld ?_ ?_; rotate_left
        ·rintro w' ⟨s0, s1, s2, s3, s4, s5, s6, s7, s8, s9, s10, s11, s12, s13, s14⟩
         go_simp
         with_reducible rfl
        rotate_left
        ·simp only [Act.put, List.setIfInBounds_toArray, List.set_cons_zero, List.set_cons_succ, i64_w, i32_w]
         rfl
        refine take_ (i := 10) (N := some 38) (v := ?_) (a' := ?_) #[true, true, true, true, true, true, true, true, true, true, true, false, false, false, false, false, false] rfl rfl (take_ofW HT_.out HW_.out (by kernel_rfl)) (fun _ _ _ h => h) (Or.inl ⟨by rfl, ?_⟩) hHeld ?_ ?_; rotate_left
        ·rintro w' ⟨s0, s1, s2, s3, s4, s5, s6, s7, s8, s9, s10, s11, s12, s13, s14⟩
         go_simp
         with_reducible rfl
        rotate_left
        ·simp only [Act.put, List.setIfInBounds_toArray, List.set_cons_zero, List.set_cons_succ, i64_w, i32_w]
         rfl
        refine one_ (i := 11) (N := some 39) #[true, true, true, true, true, true, true, true, true, true, true, true, false, false, false, false, false] rfl rfl (one_of HT_.out (by kernel_rfl)) (by decide) (fun K hK => ?_); refine goes_ Tryd.func82 (by kernel_rfl) rfl #[.agg #[.int .i64 a0_0, .int .i64 a0_1, .slice A0_2 l0_2.length c0_2, .slice A0_3 l0_3.length c0_3, .slice A0_4 l0_4.length c0_4], .int .i64 ((rd_T134 x6_1 x8_1).f1), .int .i64 ((rd_T134 x6_1 x8_1).f0)] (by rfl) rfl rfl za ?_
        with_reducible refine (spec_l8next.calls a0_0 a0_1 _ _ l0_2 _ _ l0_3 _ _ l0_4 ((rd_T134 x6_1 x8_1).f1) ((rd_T134 x6_1 x8_1).f0) t248 t249 _ ?side1 ?side2 ?side3 ?side4 ?side5 ?side6 A11.out).mono ?_
        (case side1 => exact zC HR0_2.out)
        (case side2 => exact HC0_2.out)
        (case side3 => exact zC HR0_3.out)
        (case side4 => exact HC0_3.out)
        (case side5 => exact zC HR0_4.out)
        (case side6 => exact HC0_4.out)
        rintro e w16 ⟨rfl, hb⟩; have HS5_ := (hb.cell (World.block_lt_of_cell? _ _ (hHeld.2.2.2.2.2.1))).trans (hHeld.2.2.2.2.2.1); have HS6_ := (hb.cell (World.block_lt_of_cell? _ _ (hHeld.2.2.2.2.2.2.1))).trans (hHeld.2.2.2.2.2.2.1); have HS7_ := (hb.cell (World.block_lt_of_cell? _ _ (hHeld.2.2.2.2.2.2.2.1))).trans (hHeld.2.2.2.2.2.2.2.1); have HS8_ := (hb.cell (World.block_lt_of_cell? _ _ (hHeld.2.2.2.2.2.2.2.2.1))).trans (hHeld.2.2.2.2.2.2.2.2.1); have HS9_ := (hb.cell (World.block_lt_of_cell? _ _ (hHeld.2.2.2.2.2.2.2.2.2.1))).trans (hHeld.2.2.2.2.2.2.2.2.2.1); have HS10_ := (hb.cell (World.block_lt_of_cell? _ _ (hHeld.2.2.2.2.2.2.2.2.2.2.1))).trans (hHeld.2.2.2.2.2.2.2.2.2.2.1); have HS11_ := (hb.cell (World.block_lt_of_cell? _ _ (hHeld.2.2.2.2.2.2.2.2.2.2.2.1))).trans (hHeld.2.2.2.2.2.2.2.2.2.2.2.1); have HS12_ := (hb.cell (World.block_lt_of_cell? _ _ (hHeld.2.2.2.2.2.2.2.2.2.2.2.2.1))).trans (hHeld.2.2.2.2.2.2.2.2.2.2.2.2.1); have HS13_ := (hb.cell (World.block_lt_of_cell? _ _ (hHeld.2.2.2.2.2.2.2.2.2.2.2.2.2.1))).trans (hHeld.2.2.2.2.2.2.2.2.2.2.2.2.2.1); have HS14_ := (hb.cell (World.block_lt_of_cell? _ _ (hHeld.2.2.2.2.2.2.2.2.2.2.2.2.2.2))).trans (hHeld.2.2.2.2.2.2.2.2.2.2.2.2.2.2); refine ⟨_, rfl, ?_⟩; have n0_ := zA (Kd.R_below (zR HO_6.out) hb); have n1_ := zA (zB BK241.out hb); have n2_ := zA (below_step (zs GE241.out) hb); clear HO_6; clear BK241; clear HB; have HO_6 := n0_; have BK241 := n1_; have HB := n2_; clear n0_ n1_ n2_; (try clear hb); (try clear hb2); (try clear hk)
        (try clear hi); refine hK.out _ _ ⟨(blk_cell BK241.out 0).trans rfl, (blk_cell BK241.out 1).trans rfl, (blk_cell BK241.out 2).trans rfl, (blk_cell BK241.out 3).trans rfl, (blk_cell BK241.out 4).trans rfl, HS5_, HS6_, HS7_, HS8_, HS9_, HS10_, HS11_, HS12_, HS13_, HS14_⟩ (fun hHeld => ?_); clear hK K; refine norm_ (a' := ?_) ?_ ?_; rotate_left
        ·show Act.put _ (some 39) _ = _; simp only [Act.put, List.setIfInBounds_toArray, List.set_cons_zero, List.set_cons_succ, i64_w, i32_w]
         rfl
        refine pure_ (i := 12) (N := some 27) (v := ?_) (a' := ?_) #[true, true, true, true, true, true, true, true, true, true, true, true, true, false, false, false, false] rfl rfl (any_of HT_.out (by kernel_rfl)) (fun _ _ _ h => h) (Or.inl ⟨by rfl, ?_⟩) ?_ ?_; rotate_left
        ·intro w'
         go_simp
         with_reducible rfl
        rotate_left
        ·simp only [Act.put, List.setIfInBounds_toArray, List.set_cons_zero, List.set_cons_succ, i64_w, i32_w]
         rfl
        refine pure_ (i := 13) (N := some 40) (v := ?_) (a' := ?_) #[true, true, true, true, true, true, true, true, true, true, true, true, true, true, false, false, false] rfl rfl (any_of HT_.out (by kernel_rfl)) (fun _ _ _ h => h) (Or.inl ⟨by rfl, ?_⟩) ?_ ?_; rotate_left
        ·intro w'
         go_simp
         with_reducible rfl
        rotate_left
        ·simp only [Act.put, List.setIfInBounds_toArray, List.set_cons_zero, List.set_cons_succ, i64_w, i32_w]
         rfl
        refine pure_ (i := 14) (N := some 41) (v := ?_) (a' := ?_) #[true, true, true, true, true, true, true, true, true, true, true, true, true, true, true, false, false] rfl rfl (any_of HT_.out (by kernel_rfl)) (fun _ _ _ h => h) (Or.inl ⟨by rfl, ?_⟩) ?_ ?_; rotate_left
        ·intro w'
         go_simp
         with_reducible rfl
        rotate_left
        ·simp only [Act.put, List.setIfInBounds_toArray, List.set_cons_zero, List.set_cons_succ, i64_w, i32_w]
         rfl
        refine pure_ (i := 15) (N := some 9) (v := ?_) (a' := ?_) #[true, true, true, true, true, true, true, true, true, true, true, true, true, true, true, true, false] rfl rfl (any_of HT_.out (by kernel_rfl)) (fun _ _ _ h => h) (Or.inl ⟨by rfl, ?_⟩) ?_ ?_; rotate_left
        ·intro w'
         go_simp
         with_reducible rfl
        rotate_left
        ·simp only [Act.put, List.setIfInBounds_toArray, List.set_cons_zero, List.set_cons_succ, i64_w, i32_w]
         rfl
        refine pure_ (i := 16) (N := some 10) (v := ?_) (a' := ?_) #[true, true, true, true, true, true, true, true, true, true, true, true, true, true, true, true, true] rfl rfl (any_of HT_.out (by kernel_rfl)) (fun _ _ _ h => h) (Or.inl ⟨by rfl, ?_⟩) ?_ ?_; rotate_left
        ·intro w'
         go_simp
         with_reducible rfl
        rotate_left
        ·simp only [Act.put, List.setIfInBounds_toArray, List.set_cons_zero, List.set_cons_succ, i64_w, i32_w]
         rfl
        refine done_ (done_of HT_.out (by kernel_rfl)) ?_; have p13 : 0 ≤ (x8_1 : Int) := zd; have q13 : (x8_1 : Int) < ((x6_1.length : Int) : Int) := zd; obtain ⟨go13, co13, eo13, gb13, gl13, cl13, HG13⟩ := Kd.R_form HO_6.out (by omega)
        (first | cases eo13 | (injection eo13 with ea_ en_ ec_; (first | subst ea_ | (injection ea_ with ea_; subst ea_)); subst ec_; clear en_))
        have GB13 := zA gb13; have GG13 := zA HG13; clear gb13 gl13 HG13
        (first | simp only [add_plain] at hx245_0 | skip)
        (first | simp only [add_plain] at hx245_1 | skip)
        (first | simp only [add_plain] at hx245_2 | skip)
        (first | simp only [add_plain] at hx245_3 | skip)
        (first | simp only [add_plain] at hx245_4 | skip)
        (first | simp only [add_plain] at hx246_0 | skip)
        (first | simp only [add_plain] at hx246_1 | skip)
        (first | simp only [add_plain] at hx246_2 | skip)
        (first | simp only [add_plain] at hx246_3 | skip)
        (first | simp only [add_plain] at hx246_4 | skip)
        (first | simp only [add_plain] at hx247_0 | skip)
        (first | simp only [add_plain] at hx247_1 | skip)
        (first | simp only [add_plain] at hx247_2 | skip)
        (first | simp only [add_plain] at hx247_3 | skip)
        (first | simp only [add_plain] at hx247_4 | skip)
        obtain ⟨ce13, hcl13, hM13, hcc13, hfr13⟩ := Kd.R_elem HO_6.out z134 (x8_1 : Int) p13 q13; obtain rfl := k134_openM hM13; have hx13_0 : w16.cell? ⟨go13, (x8_1 : Int).toNat * 5, none⟩ = some (.int .i64 ((rd_T134 x6_1 x8_1).f0)) := hcc13 0 _ rfl; have hx13_1 : w16.cell? ⟨go13, (x8_1 : Int).toNat * 5 + 1, none⟩ = some (.int .i64 ((rd_T134 x6_1 x8_1).f1)) := hcc13 1 _ rfl; have hx13_2 : w16.cell? ⟨go13, (x8_1 : Int).toNat * 5 + 2, none⟩ = some (.int .i64 ((rd_T134 x6_1 x8_1).f2)) := hcc13 2 _ rfl; have hx13_3 : w16.cell? ⟨go13, (x8_1 : Int).toNat * 5 + 3, none⟩ = some (.int .i64 ((rd_T134 x6_1 x8_1).f3)) := hcc13 3 _ rfl; have hx13_4 : w16.cell? ⟨go13, (x8_1 : Int).toNat * 5 + 4, none⟩ = some (.bool ((rd_T134 x6_1 x8_1).f4)) := hcc13 4 _ rfl; have hf13_0 : w16.frozen? ⟨go13, (x8_1 : Int).toNat * 5, none⟩ = false := hfr13 0; have hf13_1 : w16.frozen? ⟨go13, (x8_1 : Int).toNat * 5 + 1, none⟩ = false := hfr13 1; have hf13_2 : w16.frozen? ⟨go13, (x8_1 : Int).toNat * 5 + 2, none⟩ = false := hfr13 2; have hf13_3 : w16.frozen? ⟨go13, (x8_1 : Int).toNat * 5 + 3, none⟩ = false := hfr13 3; have hf13_4 : w16.frozen? ⟨go13, (x8_1 : Int).toNat * 5 + 4, none⟩ = false := hfr13 4; clear hcl13 hcc13 hfr13 hM13; replace p13 := eq_true p13; replace q13 := eq_true q13; have HX17 := zA (show Kd.R k134 134 w16 w.heap.size (fun _ => True) (.slice (some ⟨go13, 0, none⟩) x6_1.length co14) x6_1 from (zR HO_6.out)); obtain ⟨ce17, hcl17, hM17, hcc17, hfr17⟩ := Kd.R_elem HX17.out z134 (x8_1 : Int) (zd) (by have h_ : (x8_1 : Int) < ((x6_1.length : Int) : Int) := zd; first | exact h_ | (have e_ := (Kd.R_reads' HO_6.out).1; omega) | simpa using h_)
        obtain rfl := k134_openM hM17; have HP17 := Kd.R_seg HX17.out (x8_1 : Int) (zd) (by have h_ : (x8_1 : Int) < ((x6_1.length : Int) : Int) := zd; first | exact h_ | (have e_ := (Kd.R_reads' HO_6.out).1; omega) | simpa using h_) (seg := [.bool true]) (j := 4) hcl17 hcc17 (show 5 ≤ 5 from by decide) (x' := (⟨(rd_T134 x6_1 x8_1).f0, (rd_T134 x6_1 x8_1).f1, (rd_T134 x6_1 x8_1).f2, (rd_T134 x6_1 x8_1).f3, true⟩ : S134)) (k134_mkM _ _ _ (⟨(rd_T134 x6_1 x8_1).f0, (rd_T134 x6_1 x8_1).f1, (rd_T134 x6_1 x8_1).f2, (rd_T134 x6_1 x8_1).f3, true⟩ : S134) ) (fun _ hk => hk); have hx17_4 := hcc17 4 _ rfl; (try simp only [show (k134).sz = 5 from rfl, Nat.mul_one, Nat.add_zero] at hx17_4); have hf17_4 := hfr17 4; (try simp only [show (k134).sz = 5 from rfl, Nat.mul_one, Nat.add_zero] at hf17_4); clear hcl17 hcc17 hfr17 hM17; try go_wp2_with (first | ((with_reducible refine gate_store (t := 4) (p := 47) rfl ?_); refine store_event (t := 4) (p := 47) (v := ?vo_w18) (w1 := (w16.setCell ⟨go13, (x8_1 : Int).toNat * 5 + 4, none⟩ (.bool true))) ?hg ?ho ?hn ?hr ?_; (case ho => rfl); (case hg => rfl); (case hn => rfl); (case hr => first | (go_simp; done) | (go_simp; rfl)); intro w18 hw; have hg : w16.grownBy w18 (some go13) := (by rw [hw]; exact HP17.2); have hp_ : Kd.R k134 134 w18 w.heap.size (fun _ => True) (.slice (some ⟨go13, 0, none⟩) x6_1.length co14) y250 := (by rw [hw, Ny250.out]; exact HP17.1); clear HP17; replace BK241 := zA (blk_grown (g := gb241) (o := .cells #[.int .i64 a0_0, .int .i64 a0_1, .slice A0_2 l0_2.length c0_2, .slice A0_3 l0_3.length c0_3, .slice A0_4 l0_4.length c0_4] 47 (0, 0)) (zb BK241.out) hg (Kd.R_ne HO_6.out BK241.out (by decide))); replace HO_6 := zA (hp_); replace HB := zA ((by rw [hw]; exact below_set (HB.out) GB13.out : Below w.heap.size w w18)); clear hg hw hp_))
        go_roundg k1
        case measure => have := HK1.out; omega
        case rel => exact ⟨(y250), (true), (wrap64 (x8_1 + 1)), zr, zr, H', ⟨by have := HK1.out; omega⟩, ⟨zR HO_6.out⟩, ⟨zb BK241.out⟩, ⟨zs GE241.out⟩⟩
       ·rw [if_neg c12] at H; have c12b0 : (t249 == 11) = false := beq_eq_false_iff_ne.mpr c12; have c12b1 : (t249 != 11) = true := bne_iff_ne.mpr c12; have H' := zA H; clear H; obtain ⟨Ao19, co19, eo19⟩ := Kd.R_slice HO_6.out; subst eo19; have p245 : 0 ≤ (x8_1 : Int) := zd; have q245 : x8_1 < (x6_1.length : Int) := zd; obtain ⟨ad245, e245, hx245_0, hx245_1, hx245_2, hx245_3, hx245_4⟩ := at_T134 (Kd.R_reads' HO_6.out).2.2 x8_1 p245 q245; (try rw [← Nbq8.out] at hx245_4); cases e245; replace p245 := eq_true p245; replace q245 := eq_true q245; try go_wp2
        have n0_ := zA (Kd.R_drew HO_6.out); have n1_ := zA (blk_drew BK241.out); have n2_ := zA (below_drew1 HB.out); clear HO_6; clear BK241; clear HB; have HO_6 := n0_; have BK241 := n1_; have HB := n2_; clear n0_ n1_ n2_; have p246 : 0 ≤ (x8_1 : Int) := zd; have q246 : x8_1 < (x6_1.length : Int) := zd; obtain ⟨ad246, e246, hx246_0, hx246_1, hx246_2, hx246_3, hx246_4⟩ := at_T134 (Kd.R_reads' HO_6.out).2.2 x8_1 p246 q246; (try rw [← Nbq8.out] at hx246_4); obtain rfl : ad245 = ad246 := (by injection e246); replace p246 := eq_true p246; replace q246 := eq_true q246; have p247 : 0 ≤ (x8_1 : Int) := zd; have q247 : x8_1 < (x6_1.length : Int) := zd; obtain ⟨ad247, e247, hx247_0, hx247_1, hx247_2, hx247_3, hx247_4⟩ := at_T134 (Kd.R_reads' HO_6.out).2.2 x8_1 p247 q247; (try rw [← Nbq8.out] at hx247_4); obtain rfl : ad245 = ad247 := (by injection e247); replace p247 := eq_true p247; replace q247 := eq_true q247; refine start_ (n := 17) (S := fun w' => w'.cell? ⟨gb241, 0, none⟩ = some (.int .i64 a0_0) ∧ w'.cell? ⟨gb241, 1, none⟩ = some (.int .i64 a0_1) ∧ w'.cell? ⟨gb241, 2, none⟩ = some (.slice A0_2 l0_2.length c0_2) ∧ w'.cell? ⟨gb241, 3, none⟩ = some (.slice A0_3 l0_3.length c0_3) ∧ w'.cell? ⟨gb241, 4, none⟩ = some (.slice A0_4 l0_4.length c0_4) ∧ w'.cell? (ad245.add ((x8_1).toNat * 5)) = some (.int .i64 ((rd_T134 x6_1 x8_1).f0)) ∧ w'.cell? ⟨(ad245.add ((x8_1).toNat * 5)).block, (ad245.add ((x8_1).toNat * 5)).off + 1, none⟩ = some (.int .i64 ((rd_T134 x6_1 x8_1).f1)) ∧ w'.cell? ⟨(ad245.add ((x8_1).toNat * 5)).block, (ad245.add ((x8_1).toNat * 5)).off + 2, none⟩ = some (.int .i64 ((rd_T134 x6_1 x8_1).f2)) ∧ w'.cell? ⟨(ad245.add ((x8_1).toNat * 5)).block, (ad245.add ((x8_1).toNat * 5)).off + 3, none⟩ = some (.int .i64 ((rd_T134 x6_1 x8_1).f3)) ∧ w'.cell? ⟨(ad245.add ((x8_1).toNat * 5)).block, (ad245.add ((x8_1).toNat * 5)).off + 4, none⟩ = some (.bool (false)) ∧ w'.cell? (ad245.add ((x8_1).toNat * 5)) = some (.int .i64 ((rd_T134 x6_1 x8_1).f0)) ∧ w'.cell? ⟨(ad245.add ((x8_1).toNat * 5)).block, (ad245.add ((x8_1).toNat * 5)).off + 1, none⟩ = some (.int .i64 ((rd_T134 x6_1 x8_1).f1)) ∧ w'.cell? ⟨(ad245.add ((x8_1).toNat * 5)).block, (ad245.add ((x8_1).toNat * 5)).off + 2, none⟩ = some (.int .i64 ((rd_T134 x6_1 x8_1).f2)) ∧ w'.cell? ⟨(ad245.add ((x8_1).toNat * 5)).block, (ad245.add ((x8_1).toNat * 5)).off + 3, none⟩ = some (.int .i64 ((rd_T134 x6_1 x8_1).f3)) ∧ w'.cell? ⟨(ad245.add ((x8_1).toNat * 5)).block, (ad245.add ((x8_1).toNat * 5)).off + 4, none⟩ = some (.bool (false))) (ds := []) #[false, false, false, false, false, false, false, false, false, false, false, false, false, false, false, false, false] (by kernel_rfl) rfl rfl ⟨(blk_cell BK241.out 0).trans rfl, (blk_cell BK241.out 1).trans rfl, (blk_cell BK241.out 2).trans rfl, (blk_cell BK241.out 3).trans rfl, (blk_cell BK241.out 4).trans rfl, hx246_0, hx246_1, hx246_2, hx246_3, hx246_4, hx247_0, hx247_1, hx247_2, hx247_3, hx247_4⟩ (fun hHeld => ?_); refine with_tabW spec_l8tick.tab8 spec_l8tick.bits8 (fun HT_ HW_ => ?_)
        generalize wr.drew = w20 at HO_6 BK241 HB hx246_0 hx246_1 hx246_2 hx246_3 hx246_4 hx247_0 hx247_1 hx247_2 hx247_3 hx247_4 hHeld ⊢; refine pure_ (i := 1) (N := some 29) (v := ?_) (a' := ?_) #[false, true, false, false, false, false, false, false, false, false, false, false, false, false, false, false, false] rfl rfl (any_of HT_.out (by kernel_rfl)) (fun _ _ _ h => h) (Or.inl ⟨by rfl, ?_⟩) ?_ ?_; rotate_left
        ·intro w'
         go_simp
         with_reducible rfl
        rotate_left
        ·simp only [Act.put, List.setIfInBounds_toArray, List.set_cons_zero, List.set_cons_succ, i64_w, i32_w]
         rfl
        refine pure_ (i := 2) (N := some 30) (v := ?_) (a' := ?_) #[false, true, true, false, false, false, false, false, false, false, false, false, false, false, false, false, false] rfl rfl (any_of HT_.out (by kernel_rfl)) (fun _ _ _ h => h) (Or.inl ⟨by rfl, ?_⟩) ?_ ?_; rotate_left
        ·intro w'
         go_simp
         with_reducible rfl
        rotate_left
        ·simp only [Act.put, List.setIfInBounds_toArray, List.set_cons_zero, List.set_cons_succ, i64_w, i32_w]
         rfl
        refine pure_ (i := 3) (N := some 31) (v := ?_) (a' := ?_) #[false, true, true, true, false, false, false, false, false, false, false, false, false, false, false, false, false] rfl rfl (any_of HT_.out (by kernel_rfl)) (fun _ _ _ h => h) (Or.inl ⟨by rfl, ?_⟩) ?_ ?_; rotate_left
        ·intro w'
         go_simp
         with_reducible rfl
        rotate_left
        ·simp only [Act.put, List.setIfInBounds_toArray, List.set_cons_zero, List.set_cons_succ, i64_w, i32_w]
         rfl
        refine pure_ (i := 4) (N := some 32) (v := ?_) (a' := ?_) #[false, true, true, true, true, false, false, false, false, false, false, false, false, false, false, false, false] rfl rfl (any_of HT_.out (by kernel_rfl)) (fun _ _ _ h => h) (Or.inl ⟨by rfl, ?_⟩) ?_ ?_; rotate_left
        ·intro w'
         go_simp
         with_reducible rfl
        rotate_left
        ·simp only [Act.put, List.setIfInBounds_toArray, List.set_cons_zero, List.set_cons_succ, i64_w, i32_w]
         rfl
        refine pure_ (i := 6) (N := some 34) (v := ?_) (a' := ?_) #[false, true, true, true, true, false, true, false, false, false, false, false, false, false, false, false, false] rfl rfl (any_of HT_.out (by kernel_rfl)) (fun _ _ _ h => h) (Or.inl ⟨by rfl, ?_⟩) ?_ ?_; rotate_left
        ·intro w'
         go_simp
         with_reducible rfl
        rotate_left
        ·simp only [Act.put, List.setIfInBounds_toArray, List.set_cons_zero, List.set_cons_succ, i64_w, i32_w]
         rfl
        refine pure_ (i := 7) (N := some 35) (v := ?_) (a' := ?_) #[false, true, true, true, true, false, true, true, false, false, false, false, false, false, false, false, false] rfl rfl (any_of HT_.out (by kernel_rfl)) (fun _ _ _ h => h) (Or.inl ⟨by rfl, ?_⟩) ?_ ?_; rotate_left
        ·intro w'
         go_simp
         with_reducible rfl
        rotate_left
        ·simp only [Act.put, List.setIfInBounds_toArray, List.set_cons_zero, List.set_cons_succ, i64_w, i32_w]
         rfl
        refine pure_ (i := 8) (N := some 36) (v := ?_) (a' := ?_) #[false, true, true, true, true, false, true, true, true, false, false, false, false, false, false, false, false] rfl rfl (any_of HT_.out (by kernel_rfl)) (fun _ _ _ h => h) (Or.inl ⟨by rfl, ?_⟩) ?_ ?_; rotate_left
        ·intro w'
         go_simp
         with_reducible rfl
        rotate_left
        ·simp only [Act.put, List.setIfInBounds_toArray, List.set_cons_zero, List.set_cons_succ, i64_w, i32_w]
         rfl
        refine pure_ (i := 9) (N := some 37) (v := ?_) (a' := ?_) #[false, true, true, true, true, false, true, true, true, true, false, false, false, false, false, false, false] rfl rfl (any_of HT_.out (by kernel_rfl)) (fun _ _ _ h => h) (Or.inl ⟨by rfl, ?_⟩) ?_ ?_; rotate_left
        ·intro w'
         go_simp
         with_reducible rfl
        rotate_left
        ·simp only [Act.put, List.setIfInBounds_toArray, List.set_cons_zero, List.set_cons_succ, i64_w, i32_w]
         rfl
        refine take_ (i := 0) (N := some 28) (v := ?_) (a' := ?_) #[true, true, true, true, true, false, true, true, true, true, false, false, false, false, false, false, false] rfl rfl (take_ofW HT_.out HW_.out (by kernel_rfl)) (fun _ _ _ h => h) (Or.inl ⟨by rfl, ?_⟩) hHeld ?_ ?_; rotate_left
        ·rintro w' ⟨s0, s1, s2, s3, s4, s5, s6, s7, s8, s9, s10, s11, s12, s13, s14⟩
         go_simp
         with_reducible rfl
        rotate_left
        ·simp only [Act.put, List.setIfInBounds_toArray, List.set_cons_zero, List.set_cons_succ, i64_w, i32_w]
         rfl
        refine take_ (i := 5) (N := some 33) (v := ?_) (a' := ?_) #[true, true, true, true, true, true, true, true, true, true, false, false, false, false, false, false, false] rfl rfl (take_ofW HT_.out HW_.out (by kernel_rfl)) (fun _ _ _ h => h) (Or.inl ⟨by rfl, ?_⟩) hHeld ?_ ?_; rotate_left
        ·rintro w' ⟨s0, s1, s2, s3, s4, s5, s6, s7, s8, s9, s10, s11, s12, s13, s14⟩
         go_simp
         with_reducible rfl
        rotate_left
        ·simp only [Act.put, List.setIfInBounds_toArray, List.set_cons_zero, List.set_cons_succ, i64_w, i32_w]
         rfl
        refine take_ (i := 10) (N := some 38) (v := ?_) (a' := ?_) #[true, true, true, true, true, true, true, true, true, true, true, false, false, false, false, false, false] rfl rfl (take_ofW HT_.out HW_.out (by kernel_rfl)) (fun _ _ _ h => h) (Or.inl ⟨by rfl, ?_⟩) hHeld ?_ ?_; rotate_left
        ·rintro w' ⟨s0, s1, s2, s3, s4, s5, s6, s7, s8, s9, s10, s11, s12, s13, s14⟩
         go_simp
         with_reducible rfl
        rotate_left
        ·simp only [Act.put, List.setIfInBounds_toArray, List.set_cons_zero, List.set_cons_succ, i64_w, i32_w]
         rfl
        refine one_ (i := 11) (N := some 39) #[true, true, true, true, true, true, true, true, true, true, true, true, false, false, false, false, false] rfl rfl (one_of HT_.out (by kernel_rfl)) (by decide) (fun K hK => ?_); refine goes_ Tryd.func82 (by kernel_rfl) rfl #[.agg #[.int .i64 a0_0, .int .i64 a0_1, .slice A0_2 l0_2.length c0_2, .slice A0_3 l0_3.length c0_3, .slice A0_4 l0_4.length c0_4], .int .i64 ((rd_T134 x6_1 x8_1).f1), .int .i64 ((rd_T134 x6_1 x8_1).f0)] (by rfl) rfl rfl za ?_
        with_reducible refine (spec_l8next.calls a0_0 a0_1 _ _ l0_2 _ _ l0_3 _ _ l0_4 ((rd_T134 x6_1 x8_1).f1) ((rd_T134 x6_1 x8_1).f0) t248 t249 _ ?side1 ?side2 ?side3 ?side4 ?side5 ?side6 A11.out).mono ?_
        (case side1 => exact zC HR0_2.out)
        (case side2 => exact HC0_2.out)
        (case side3 => exact zC HR0_3.out)
        (case side4 => exact HC0_3.out)
        (case side5 => exact zC HR0_4.out)
        (case side6 => exact HC0_4.out)
        rintro e w21 ⟨rfl, hb⟩; have HS5_ := (hb.cell (World.block_lt_of_cell? _ _ (hHeld.2.2.2.2.2.1))).trans (hHeld.2.2.2.2.2.1); have HS6_ := (hb.cell (World.block_lt_of_cell? _ _ (hHeld.2.2.2.2.2.2.1))).trans (hHeld.2.2.2.2.2.2.1); have HS7_ := (hb.cell (World.block_lt_of_cell? _ _ (hHeld.2.2.2.2.2.2.2.1))).trans (hHeld.2.2.2.2.2.2.2.1); have HS8_ := (hb.cell (World.block_lt_of_cell? _ _ (hHeld.2.2.2.2.2.2.2.2.1))).trans (hHeld.2.2.2.2.2.2.2.2.1); have HS9_ := (hb.cell (World.block_lt_of_cell? _ _ (hHeld.2.2.2.2.2.2.2.2.2.1))).trans (hHeld.2.2.2.2.2.2.2.2.2.1); have HS10_ := (hb.cell (World.block_lt_of_cell? _ _ (hHeld.2.2.2.2.2.2.2.2.2.2.1))).trans (hHeld.2.2.2.2.2.2.2.2.2.2.1); have HS11_ := (hb.cell (World.block_lt_of_cell? _ _ (hHeld.2.2.2.2.2.2.2.2.2.2.2.1))).trans (hHeld.2.2.2.2.2.2.2.2.2.2.2.1); have HS12_ := (hb.cell (World.block_lt_of_cell? _ _ (hHeld.2.2.2.2.2.2.2.2.2.2.2.2.1))).trans (hHeld.2.2.2.2.2.2.2.2.2.2.2.2.1); have HS13_ := (hb.cell (World.block_lt_of_cell? _ _ (hHeld.2.2.2.2.2.2.2.2.2.2.2.2.2.1))).trans (hHeld.2.2.2.2.2.2.2.2.2.2.2.2.2.1); have HS14_ := (hb.cell (World.block_lt_of_cell? _ _ (hHeld.2.2.2.2.2.2.2.2.2.2.2.2.2.2))).trans (hHeld.2.2.2.2.2.2.2.2.2.2.2.2.2.2); refine ⟨_, rfl, ?_⟩; have n0_ := zA (Kd.R_below (zR HO_6.out) hb); have n1_ := zA (zB BK241.out hb); have n2_ := zA (below_step (zs GE241.out) hb); clear HO_6; clear BK241; clear HB; have HO_6 := n0_; have BK241 := n1_; have HB := n2_; clear n0_ n1_ n2_; (try clear hb); (try clear hb2); (try clear hk)
        (try clear hi); refine hK.out _ _ ⟨(blk_cell BK241.out 0).trans rfl, (blk_cell BK241.out 1).trans rfl, (blk_cell BK241.out 2).trans rfl, (blk_cell BK241.out 3).trans rfl, (blk_cell BK241.out 4).trans rfl, HS5_, HS6_, HS7_, HS8_, HS9_, HS10_, HS11_, HS12_, HS13_, HS14_⟩ (fun hHeld => ?_); clear hK K; refine norm_ (a' := ?_) ?_ ?_; rotate_left
        ·show Act.put _ (some 39) _ = _; simp only [Act.put, List.setIfInBounds_toArray, List.set_cons_zero, List.set_cons_succ, i64_w, i32_w]
         rfl
        refine pure_ (i := 12) (N := some 27) (v := ?_) (a' := ?_) #[true, true, true, true, true, true, true, true, true, true, true, true, true, false, false, false, false] rfl rfl (any_of HT_.out (by kernel_rfl)) (fun _ _ _ h => h) (Or.inl ⟨by rfl, ?_⟩) ?_ ?_; rotate_left
        ·intro w'
         go_simp
         with_reducible rfl
        rotate_left
        ·simp only [Act.put, List.setIfInBounds_toArray, List.set_cons_zero, List.set_cons_succ, i64_w, i32_w]
         rfl
        refine pure_ (i := 13) (N := some 40) (v := ?_) (a' := ?_) #[true, true, true, true, true, true, true, true, true, true, true, true, true, true, false, false, false] rfl rfl (any_of HT_.out (by kernel_rfl)) (fun _ _ _ h => h) (Or.inl ⟨by rfl, ?_⟩) ?_ ?_; rotate_left
        ·intro w'
         go_simp
         with_reducible rfl
        rotate_left
        ·simp only [Act.put, List.setIfInBounds_toArray, List.set_cons_zero, List.set_cons_succ, i64_w, i32_w]
         rfl
        refine pure_ (i := 14) (N := some 41) (v := ?_) (a' := ?_) #[true, true, true, true, true, true, true, true, true, true, true, true, true, true, true, false, false] rfl rfl (any_of HT_.out (by kernel_rfl)) (fun _ _ _ h => h) (Or.inl ⟨by rfl, ?_⟩) ?_ ?_; rotate_left
        ·intro w'
         go_simp
         with_reducible rfl
        rotate_left
        ·simp only [Act.put, List.setIfInBounds_toArray, List.set_cons_zero, List.set_cons_succ, i64_w, i32_w]
         rfl
        refine pure_ (i := 15) (N := some 9) (v := ?_) (a' := ?_) #[true, true, true, true, true, true, true, true, true, true, true, true, true, true, true, true, false] rfl rfl (any_of HT_.out (by kernel_rfl)) (fun _ _ _ h => h) (Or.inl ⟨by rfl, ?_⟩) ?_ ?_; rotate_left
        ·intro w'
         go_simp
         with_reducible rfl
        rotate_left
        ·simp only [Act.put, List.setIfInBounds_toArray, List.set_cons_zero, List.set_cons_succ, i64_w, i32_w]
         rfl
        refine pure_ (i := 16) (N := some 10) (v := ?_) (a' := ?_) #[true, true, true, true, true, true, true, true, true, true, true, true, true, true, true, true, true] rfl rfl (any_of HT_.out (by kernel_rfl)) (fun _ _ _ h => h) (Or.inl ⟨by rfl, ?_⟩) ?_ ?_; rotate_left
        ·intro w'
         go_simp
         with_reducible rfl
        rotate_left
        ·simp only [Act.put, List.setIfInBounds_toArray, List.set_cons_zero, List.set_cons_succ, i64_w, i32_w]
         rfl
        refine done_ (done_of HT_.out (by kernel_rfl)) ?_; try go_wp2
        go_loopg [11, 12] k1 (fun kq v11 v12 w' => ∃ (x11_2 : Bool) (x12_2 : Int), v11 = .bool x11_2 ∧ v12 = .int .i64 x12_2 ∧ Aside0 (spec_l8tick.l1 kq x6_1 x7_1 x8_1 t248 x11_2 x12_2 a0_0 a0_1 l0_2 l0_3 l0_4 = some (r1, r2)) ∧ Aside0 (kq ≤ k1) ∧ Aside0 (Kd.R k134 134 w' w.heap.size (fun _ => True) (.slice (some ad245) x6_1.length co19) x6_1) ∧ Aside0 (w'.heap[gb241]? = some (.cells #[.int .i64 a0_0, .int .i64 a0_1, (.slice A0_2 l0_2.length c0_2), (.slice A0_3 l0_3.length c0_3), (.slice A0_4 l0_4.length c0_4)] 47 (0, 0))) ∧ Aside0 (Below w.heap.size w w'))
        case atStart => exact ⟨((t249 == 0)), (0), zr, zr, H', ⟨Nat.le_refl _⟩, ⟨zR HO_6.out⟩, ⟨zb BK241.out⟩, ⟨zs GE241.out⟩⟩
        case round =>
         clear H'; (try clear c1); (try clear p1); (try clear q1); (try clear hx1); (try clear p2); (try clear q2); (try clear hx2); (try clear c3); (try clear c6); (try clear c6b0); (try clear p6); (try clear c7); (try clear c7b0); (try clear c8); (try clear q8); (try clear c9); (try clear c12); (try clear c12b0); (try clear c12b1); (try clear c13); (try clear p13); (try clear q13); (try clear hx13); (try clear hf13); (try clear c17); (try clear hx17); (try clear hf17); (try clear hx13_0); (try clear hx13_1); (try clear hx13_2); (try clear hx13_3); (try clear hx13_4); (try clear hx17_4); (try clear hx245_0); (try clear hx245_1); (try clear hx245_2); (try clear hx245_3); (try clear hx245_4); (try clear hx246_0); (try clear hx246_1); (try clear hx246_2); (try clear hx246_3); (try clear hx246_4); (try clear hx247_0); (try clear hx247_1); (try clear hx247_2); (try clear hx247_3); (try clear hx247_4); (try clear p13); (try clear p2); (try clear p245); (try clear p246); (try clear p247); (try clear q13); (try clear q245); (try clear q246); (try clear q247); obtain ⟨x11_2, x12_2, rfl, rfl, HA, HK2, HO_6, BK241, HB⟩ := hrel; cases gk with
         | zero => exact absurd HA.out (by simp [spec_l8tick.l1])
         | succ k2 =>
          have H := HA.out; clear HA; simp only [spec_l8tick.l1] at H
          by_cases c22 : x12_2 < (x6_1.length : Int)
          ·rw [if_pos c22] at H; have c22b0 : decide (x12_2 < (x6_1.length : Int)) = true := decide_eq_true c22; clear c22
           by_cases c23 : x12_2 = x8_1
           ·rw [if_pos c23] at H; have c23b0 : (x12_2 == x8_1) = true := beq_iff_eq.mpr c23; have c23b1 : (x12_2 != x8_1) = false := bne_eq_false_iff_eq.mpr c23; clear c23; have H' := zA H; clear H; go_wp2; go_roundg k2
            case measure => have := HK1.out; have := HK2.out; omega
            case rel => exact ⟨(x11_2), (wrap64 (x12_2 + 1)), zr, zr, H', ⟨by have := HK1.out; have := HK2.out; omega⟩, ⟨zR HO_6.out⟩, ⟨zb BK241.out⟩, ⟨zs GE241.out⟩⟩
           ·rw [if_neg c23] at H; have c23b0 : (x12_2 == x8_1) = false := beq_eq_false_iff_ne.mpr c23; have c23b1 : (x12_2 != x8_1) = true := bne_iff_ne.mpr c23
            by_cases c24 : 0 ≤ x12_2
            ·rw [if_pos c24] at H; have c24b0 : decide (0 ≤ x12_2) = true := decide_eq_true c24; clear c24; obtain ⟨bq25, hbq25⟩ : ∃ b_ : Bool, b_ = ((rd_T134 x6_1 x12_2).f4) := ⟨_, rfl⟩; replace H : (if (bq25 = true) then (spec_l8tick.l1 k2 x6_1 x7_1 x8_1 t248 x11_2 (wrap64 (x12_2 + 1)) a0_0 a0_1 l0_2 l0_3 l0_4) else (if ((rd_T134 x6_1 x12_2).f0) = t248 then (spec_l8tick.l1 k2 x6_1 x7_1 x8_1 t248 false (wrap64 (x12_2 + 1)) a0_0 a0_1 l0_2 l0_3 l0_4) else (spec_l8tick.l1 k2 x6_1 x7_1 x8_1 t248 x11_2 (wrap64 (x12_2 + 1)) a0_0 a0_1 l0_2 l0_3 l0_4))) = some (r1, r2) := by rw [← hbq25] at H; exact H
             have Nbq25 := zA hbq25; clear hbq25
             by_cases c26 : (bq25 = true)
             ·subst c26; have H1 : (spec_l8tick.l1 k2 x6_1 x7_1 x8_1 t248 x11_2 (wrap64 (x12_2 + 1)) a0_0 a0_1 l0_2 l0_3 l0_4) = some (r1, r2) := by rw [if_pos rfl] at H; exact H
              clear H; have H := H1; clear H1; have H' := zA H; clear H; have p251 : 0 ≤ (x12_2 : Int) := zd; have q251 : x12_2 < (x6_1.length : Int) := zd; obtain ⟨ad251, e251, hx251_0, hx251_1, hx251_2, hx251_3, hx251_4⟩ := at_T134 (Kd.R_reads' HO_6.out).2.2 x12_2 p251 q251; (try rw [← Nbq8.out] at hx251_4); (try rw [← Nbq25.out] at hx251_4); obtain rfl : ad245 = ad251 := (by injection e251); replace p251 := eq_true p251; replace q251 := eq_true q251; go_wp2; go_roundg k2
              case measure => have := HK1.out; have := HK2.out; omega
              case rel => exact ⟨(x11_2), (wrap64 (x12_2 + 1)), zr, zr, H', ⟨by have := HK1.out; have := HK2.out; omega⟩, ⟨zR HO_6.out⟩, ⟨zb BK241.out⟩, ⟨zs GE241.out⟩⟩
             ·replace c26 := Bool.eq_false_iff.mpr c26; subst c26; have H1 : (if ((rd_T134 x6_1 x12_2).f0) = t248 then (spec_l8tick.l1 k2 x6_1 x7_1 x8_1 t248 false (wrap64 (x12_2 + 1)) a0_0 a0_1 l0_2 l0_3 l0_4) else (spec_l8tick.l1 k2 x6_1 x7_1 x8_1 t248 x11_2 (wrap64 (x12_2 + 1)) a0_0 a0_1 l0_2 l0_3 l0_4)) = some (r1, r2) := by rw [if_neg (show ¬ (false = true) by decide)] at H; exact H
              clear H; have H := H1; clear H1
              by_cases c27 : ((rd_T134 x6_1 x12_2).f0) = t248
              ·rw [if_pos c27] at H; have c27b0 : (((rd_T134 x6_1 x12_2).f0) == t248) = true := beq_iff_eq.mpr c27; have c27b1 : (((rd_T134 x6_1 x12_2).f0) != t248) = false := bne_eq_false_iff_eq.mpr c27; clear c27; have H' := zA H; clear H; have p251 : 0 ≤ (x12_2 : Int) := zd; have q251 : x12_2 < (x6_1.length : Int) := zd; obtain ⟨ad251, e251, hx251_0, hx251_1, hx251_2, hx251_3, hx251_4⟩ := at_T134 (Kd.R_reads' HO_6.out).2.2 x12_2 p251 q251; (try rw [← Nbq8.out] at hx251_4); (try rw [← Nbq25.out] at hx251_4); obtain rfl : ad245 = ad251 := (by injection e251); replace p251 := eq_true p251; replace q251 := eq_true q251; have p252 : 0 ≤ (x12_2 : Int) := zd; have q252 : x12_2 < (x6_1.length : Int) := zd; obtain ⟨ad252, e252, hx252_0, hx252_1, hx252_2, hx252_3, hx252_4⟩ := at_T134 (Kd.R_reads' HO_6.out).2.2 x12_2 p252 q252; (try rw [← Nbq8.out] at hx252_4); (try rw [← Nbq25.out] at hx252_4); obtain rfl : ad245 = ad252 := (by injection e252); replace p252 := eq_true p252; replace q252 := eq_true q252; go_wp2; go_roundg k2
               case measure => have := HK1.out; have := HK2.out; omega
               case rel => exact ⟨(false), (wrap64 (x12_2 + 1)), zr, zr, H', ⟨by have := HK1.out; have := HK2.out; omega⟩, ⟨zR HO_6.out⟩, ⟨zb BK241.out⟩, ⟨zs GE241.out⟩⟩
              ·rw [if_neg c27] at H; have c27b0 : (((rd_T134 x6_1 x12_2).f0) == t248) = false := beq_eq_false_iff_ne.mpr c27; have c27b1 : (((rd_T134 x6_1 x12_2).f0) != t248) = true := bne_iff_ne.mpr c27; have H' := zA H; clear H; have p251 : 0 ≤ (x12_2 : Int) := zd; have q251 : x12_2 < (x6_1.length : Int) := zd; obtain ⟨ad251, e251, hx251_0, hx251_1, hx251_2, hx251_3, hx251_4⟩ := at_T134 (Kd.R_reads' HO_6.out).2.2 x12_2 p251 q251; (try rw [← Nbq8.out] at hx251_4); (try rw [← Nbq25.out] at hx251_4); obtain rfl : ad245 = ad251 := (by injection e251); replace p251 := eq_true p251; replace q251 := eq_true q251; have p252 : 0 ≤ (x12_2 : Int) := zd; have q252 : x12_2 < (x6_1.length : Int) := zd; obtain ⟨ad252, e252, hx252_0, hx252_1, hx252_2, hx252_3, hx252_4⟩ := at_T134 (Kd.R_reads' HO_6.out).2.2 x12_2 p252 q252; (try rw [← Nbq8.out] at hx252_4); (try rw [← Nbq25.out] at hx252_4); obtain rfl : ad245 = ad252 := (by injection e252); replace p252 := eq_true p252; replace q252 := eq_true q252; go_wp2; go_roundg k2
               case measure => have := HK1.out; have := HK2.out; omega
               case rel => exact ⟨(x11_2), (wrap64 (x12_2 + 1)), zr, zr, H', ⟨by have := HK1.out; have := HK2.out; omega⟩, ⟨zR HO_6.out⟩, ⟨zb BK241.out⟩, ⟨zs GE241.out⟩⟩
            ·rw [if_neg c24] at H; exact absurd H (by simp)
          ·rw [if_neg c22] at H; have c22b0 : decide (x12_2 < (x6_1.length : Int)) = false := decide_eq_false c22; clear c22
           by_cases c28 : x11_2 = true
           ·subst c28; have H1 : (if 0 ≤ x8_1 then (if x8_1 < (x6_1.length : Int) then ((some (x6_1.set (x8_1 : Int).toNat (⟨t248, (rd_T134 x6_1 x8_1).f1, (rd_T134 x6_1 x8_1).f2, (rd_T134 x6_1 x8_1).f3, (rd_T134 x6_1 x8_1).f4⟩ : S134) : List (S134))).bind fun y253 => ((spec_l8more.f ((rd_T134 y253 x8_1).f2)).bind fun t255 => (spec_l8tick.l0 k2 (y253.set (x8_1 : Int).toNat (⟨(rd_T134 y253 x8_1).f0, (rd_T134 y253 x8_1).f1, t255, (rd_T134 y253 x8_1).f3, (rd_T134 y253 x8_1).f4⟩ : S134)) true (wrap64 (x8_1 + 1)) a0_0 a0_1 l0_2 l0_3 l0_4))) else (none)) else (none)) = some (r1, r2) := by rw [if_pos rfl] at H; exact H
            clear H; have H := H1; clear H1
            by_cases c29 : 0 ≤ x8_1
            ·rw [if_pos c29] at H; have c29b0 : decide (0 ≤ x8_1) = true := decide_eq_true c29; clear c29
             by_cases c30 : x8_1 < (x6_1.length : Int)
             ·rw [if_pos c30] at H; have c30b0 : decide (x8_1 < (x6_1.length : Int)) = true := decide_eq_true c30; clear c30; obtain ⟨y253, hy253⟩ : ∃ y_ : List (S134), y_ = (x6_1.set (x8_1 : Int).toNat (⟨t248, (rd_T134 x6_1 x8_1).f1, (rd_T134 x6_1 x8_1).f2, (rd_T134 x6_1 x8_1).f3, (rd_T134 x6_1 x8_1).f4⟩ : S134)) := ⟨_, rfl⟩; replace H : ((spec_l8more.f ((rd_T134 y253 x8_1).f2)).bind fun t255 => (spec_l8tick.l0 k2 (y253.set (x8_1 : Int).toNat (⟨(rd_T134 y253 x8_1).f0, (rd_T134 y253 x8_1).f1, t255, (rd_T134 y253 x8_1).f3, (rd_T134 y253 x8_1).f4⟩ : S134)) true (wrap64 (x8_1 + 1)) a0_0 a0_1 l0_2 l0_3 l0_4)) = some (r1, r2) := zh hy253; have Ny253 := zA hy253; clear hy253; replace H := Option.bind_eq_some_iff.mp H; obtain ⟨t255, A320, H⟩ := H; replace H : (spec_l8tick.l0 k2 (y253.set (x8_1 : Int).toNat (⟨(rd_T134 y253 x8_1).f0, (rd_T134 y253 x8_1).f1, t255, (rd_T134 y253 x8_1).f3, (rd_T134 y253 x8_1).f4⟩ : S134)) true (wrap64 (x8_1 + 1)) a0_0 a0_1 l0_2 l0_3 l0_4) = some (r1, r2) := H; have A32 := zA A320; clear A320; obtain ⟨y256, hy256⟩ : ∃ y_ : List (S134), y_ = (y253.set (x8_1 : Int).toNat (⟨(rd_T134 y253 x8_1).f0, (rd_T134 y253 x8_1).f1, t255, (rd_T134 y253 x8_1).f3, (rd_T134 y253 x8_1).f4⟩ : S134)) := ⟨_, rfl⟩; replace H : (spec_l8tick.l0 k2 y256 true (wrap64 (x8_1 + 1)) a0_0 a0_1 l0_2 l0_3 l0_4) = some (r1, r2) := zh hy256; have Ny256 := zA hy256; clear hy256; have H' := zA H; clear H; have p31 : 0 ≤ (x8_1 : Int) := zd; have q31 : (x8_1 : Int) < ((x6_1.length : Int) : Int) := zd
              obtain ⟨go31, co31, eo31, gb31, gl31, cl31, HG31⟩ := Kd.R_form HO_6.out (by omega)
              (first | cases eo31 | (injection eo31 with ea_ en_ ec_; (first | subst ea_ | (injection ea_ with ea_; subst ea_)); subst ec_; clear en_))
              have GB31 := zA gb31; have GG31 := zA HG31; clear gb31 gl31 HG31
              (first | simp only [add_plain] at hx245_0 | skip)
              (first | simp only [add_plain] at hx245_1 | skip)
              (first | simp only [add_plain] at hx245_2 | skip)
              (first | simp only [add_plain] at hx245_3 | skip)
              (first | simp only [add_plain] at hx245_4 | skip)
              (first | simp only [add_plain] at hx246_0 | skip)
              (first | simp only [add_plain] at hx246_1 | skip)
              (first | simp only [add_plain] at hx246_2 | skip)
              (first | simp only [add_plain] at hx246_3 | skip)
              (first | simp only [add_plain] at hx246_4 | skip)
              (first | simp only [add_plain] at hx247_0 | skip)
              (first | simp only [add_plain] at hx247_1 | skip)
              (first | simp only [add_plain] at hx247_2 | skip)
              (first | simp only [add_plain] at hx247_3 | skip)
              (first | simp only [add_plain] at hx247_4 | skip)
              (first | simp only [add_plain] at hx251_0 | skip)
              (first | simp only [add_plain] at hx251_1 | skip)
              (first | simp only [add_plain] at hx251_2 | skip)
              (first | simp only [add_plain] at hx251_3 | skip)
              (first | simp only [add_plain] at hx251_4 | skip)
              (first | simp only [add_plain] at hx252_0 | skip)
              (first | simp only [add_plain] at hx252_1 | skip)
              (first | simp only [add_plain] at hx252_2 | skip)
              (first | simp only [add_plain] at hx252_3 | skip)
              (first | simp only [add_plain] at hx252_4 | skip)
              obtain ⟨ce31, hcl31, hM31, hcc31, hfr31⟩ := Kd.R_elem HO_6.out z134 (x8_1 : Int) p31 q31; obtain rfl := k134_openM hM31; have hx31_0 : wr.cell? ⟨go31, (x8_1 : Int).toNat * 5, none⟩ = some (.int .i64 ((rd_T134 x6_1 x8_1).f0)) := hcc31 0 _ rfl; have hx31_1 : wr.cell? ⟨go31, (x8_1 : Int).toNat * 5 + 1, none⟩ = some (.int .i64 ((rd_T134 x6_1 x8_1).f1)) := hcc31 1 _ rfl; have hx31_2 : wr.cell? ⟨go31, (x8_1 : Int).toNat * 5 + 2, none⟩ = some (.int .i64 ((rd_T134 x6_1 x8_1).f2)) := hcc31 2 _ rfl; have hx31_3 : wr.cell? ⟨go31, (x8_1 : Int).toNat * 5 + 3, none⟩ = some (.int .i64 ((rd_T134 x6_1 x8_1).f3)) := hcc31 3 _ rfl; have hx31_4 : wr.cell? ⟨go31, (x8_1 : Int).toNat * 5 + 4, none⟩ = some (.bool ((rd_T134 x6_1 x8_1).f4)) := hcc31 4 _ rfl; have hf31_0 : wr.frozen? ⟨go31, (x8_1 : Int).toNat * 5, none⟩ = false := hfr31 0; have hf31_1 : wr.frozen? ⟨go31, (x8_1 : Int).toNat * 5 + 1, none⟩ = false := hfr31 1; have hf31_2 : wr.frozen? ⟨go31, (x8_1 : Int).toNat * 5 + 2, none⟩ = false := hfr31 2; have hf31_3 : wr.frozen? ⟨go31, (x8_1 : Int).toNat * 5 + 3, none⟩ = false := hfr31 3; have hf31_4 : wr.frozen? ⟨go31, (x8_1 : Int).toNat * 5 + 4, none⟩ = false := hfr31 4; clear hcl31 hcc31 hfr31 hM31; replace p31 := eq_true p31; replace q31 := eq_true q31; have HX34 := zA (show Kd.R k134 134 wr w.heap.size (fun _ => True) (.slice (some ⟨go31, 0, none⟩) x6_1.length co19) x6_1 from (zR HO_6.out)); obtain ⟨ce34, hcl34, hM34, hcc34, hfr34⟩ := Kd.R_elem HX34.out z134 (x8_1 : Int) (zd) (by have h_ : (x8_1 : Int) < ((x6_1.length : Int) : Int) := zd; first | exact h_ | (have e_ := (Kd.R_reads' HO_6.out).1; omega) | simpa using h_)
              obtain rfl := k134_openM hM34; have HP34 := Kd.R_seg HX34.out (x8_1 : Int) (zd) (by have h_ : (x8_1 : Int) < ((x6_1.length : Int) : Int) := zd; first | exact h_ | (have e_ := (Kd.R_reads' HO_6.out).1; omega) | simpa using h_) (seg := [.int .i64 t248]) (j := 0) hcl34 hcc34 (show 1 ≤ 5 from by decide) (x' := (⟨t248, (rd_T134 x6_1 x8_1).f1, (rd_T134 x6_1 x8_1).f2, (rd_T134 x6_1 x8_1).f3, (rd_T134 x6_1 x8_1).f4⟩ : S134)) (k134_mkM _ _ _ (⟨t248, (rd_T134 x6_1 x8_1).f1, (rd_T134 x6_1 x8_1).f2, (rd_T134 x6_1 x8_1).f3, (rd_T134 x6_1 x8_1).f4⟩ : S134) ) (fun _ hk => hk); have hx34_0 := hcc34 0 _ rfl; (try simp only [show (k134).sz = 5 from rfl, Nat.mul_one, Nat.add_zero] at hx34_0); have hf34_0 := hfr34 0; (try simp only [show (k134).sz = 5 from rfl, Nat.mul_one, Nat.add_zero] at hf34_0); clear hcl34 hcc34 hfr34 hM34; go_wp2_with (first | ((with_reducible refine gate_store (t := 3) (p := 81) rfl ?_); refine store_event (t := 3) (p := 81) (v := ?vo_w35) (w1 := (wr.setCell ⟨go31, (x8_1 : Int).toNat * 5, none⟩ (.int .i64 t248))) ?hg ?ho ?hn ?hr ?_; (case ho => rfl); (case hg => rfl); (case hn => rfl); (case hr => first | (go_simp; done) | (go_simp; rfl)); intro w35 hw; have hg : wr.grownBy w35 (some go31) := (by rw [hw]; exact HP34.2); have hp_ : Kd.R k134 134 w35 w.heap.size (fun _ => True) (.slice (some ⟨go31, 0, none⟩) x6_1.length co19) y253 := (by rw [hw, Ny253.out]; exact HP34.1); clear HP34; replace BK241 := zA (blk_grown (g := gb241) (o := .cells #[.int .i64 a0_0, .int .i64 a0_1, .slice A0_2 l0_2.length c0_2, .slice A0_3 l0_3.length c0_3, .slice A0_4 l0_4.length c0_4] 47 (0, 0)) (zb BK241.out) hg (Kd.R_ne HO_6.out BK241.out (by decide))); replace HO_6 := zA (hp_); replace HB := zA ((by rw [hw]; exact below_set (HB.out) GB31.out : Below w.heap.size w w35)); clear hg hw hp_; have p254 : 0 ≤ (x8_1 : Int) := zd; have q254 : x8_1 < (y253.length : Int) := (by have h_ : (x8_1 : Int) < ((x6_1.length : Int) : Int) := zd; first | (have e_ := (Kd.R_reads' HO_6.out).1; omega) | simpa only [Ny253.out, List.length_set] using h_); have ql254 : ((x8_1 : Int) < ((x6_1.length : Int) : Int)) = True := eq_true (zd); obtain ⟨ad254, e254, hx254_0, hx254_1, hx254_2, hx254_3, hx254_4⟩ := at_T134 (Kd.R_reads' HO_6.out).2.2 x8_1 p254 q254; (try rw [← Nbq8.out] at hx254_4); obtain rfl : (⟨go31, 0, none⟩ : Addr) = ad254 := (by injection e254); (first | simp only [add_plain] at hx254_0 | simp only [add_at] at hx254_0 | simp only [Addr.add, Nat.zero_add] at hx254_0 | skip); (first | simp only [add_plain] at hx254_1 | simp only [add_at] at hx254_1 | simp only [Addr.add, Nat.zero_add] at hx254_1 | skip); (first | simp only [add_plain] at hx254_2 | simp only [add_at] at hx254_2 | simp only [Addr.add, Nat.zero_add] at hx254_2 | skip); (first | simp only [add_plain] at hx254_3 | simp only [add_at] at hx254_3 | simp only [Addr.add, Nat.zero_add] at hx254_3 | skip); (first | simp only [add_plain] at hx254_4 | simp only [add_at] at hx254_4 | simp only [Addr.add, Nat.zero_add] at hx254_4 | skip); replace p254 := eq_true p254; replace q254 := eq_true q254) | ((with_reducible refine gate_callee (f := 149) rfl ?_); refine goesL_ (some 89) rfl rfl Tryd.func149 (by kernel_rfl) rfl #[.int .i64 ((rd_T134 y253 x8_1).f2)] rfl za ?_; (with_reducible refine (spec_l8more.calls ((rd_T134 y253 x8_1).f2) t255 _ A32.out).mono ?_); rintro e w' ⟨rfl, ⟨nd, rfl⟩⟩; refine ⟨_, rfl, ?_⟩; (try (rw [drewN_self w35]; generalize hq_ : World.drewN w35 _ = w35; have n0_ : Aside0 (Kd.R k134 134 w35 w.heap.size (fun _ => True) (.slice (some ⟨go31, 0, none⟩) x6_1.length co19) y253) := ⟨by rw [← hq_]; exact (zR HO_6.out)⟩; have n1_ : Aside0 (w35.heap[gb241]? = some (.cells #[.int .i64 a0_0, .int .i64 a0_1, .slice A0_2 l0_2.length c0_2, .slice A0_3 l0_3.length c0_3, .slice A0_4 l0_4.length c0_4] 47 (0, 0))) := ⟨by rw [← hq_]; exact (zb BK241.out)⟩; have n2_ : Aside0 (Below w.heap.size w w35) := ⟨by rw [← hq_]; exact (zs GE241.out)⟩; clear HO_6 BK241 HB hq_; have HO_6 := n0_; have BK241 := n1_; have HB := n2_; clear n0_ n1_ n2_)); have p33 : 0 ≤ (x8_1 : Int) := zd; have q33 : (x8_1 : Int) < ((x6_1.length : Int) : Int) := zd; obtain ⟨ce33, hcl33, hM33, hcc33, hfr33⟩ := Kd.R_elem HO_6.out z134 (x8_1 : Int) p33 q33; obtain rfl := k134_openM hM33; have hx33_0 : w35.cell? ⟨go31, (x8_1 : Int).toNat * 5, none⟩ = some (.int .i64 ((rd_T134 y253 x8_1).f0)) := hcc33 0 _ rfl; have hx33_1 : w35.cell? ⟨go31, (x8_1 : Int).toNat * 5 + 1, none⟩ = some (.int .i64 ((rd_T134 y253 x8_1).f1)) := hcc33 1 _ rfl; have hx33_2 : w35.cell? ⟨go31, (x8_1 : Int).toNat * 5 + 2, none⟩ = some (.int .i64 ((rd_T134 y253 x8_1).f2)) := hcc33 2 _ rfl; have hx33_3 : w35.cell? ⟨go31, (x8_1 : Int).toNat * 5 + 3, none⟩ = some (.int .i64 ((rd_T134 y253 x8_1).f3)) := hcc33 3 _ rfl; have hx33_4 : w35.cell? ⟨go31, (x8_1 : Int).toNat * 5 + 4, none⟩ = some (.bool ((rd_T134 y253 x8_1).f4)) := hcc33 4 _ rfl; have hf33_0 : w35.frozen? ⟨go31, (x8_1 : Int).toNat * 5, none⟩ = false := hfr33 0; have hf33_1 : w35.frozen? ⟨go31, (x8_1 : Int).toNat * 5 + 1, none⟩ = false := hfr33 1; have hf33_2 : w35.frozen? ⟨go31, (x8_1 : Int).toNat * 5 + 2, none⟩ = false := hfr33 2; have hf33_3 : w35.frozen? ⟨go31, (x8_1 : Int).toNat * 5 + 3, none⟩ = false := hfr33 3; have hf33_4 : w35.frozen? ⟨go31, (x8_1 : Int).toNat * 5 + 4, none⟩ = false := hfr33 4; (try clear hcl33); (try clear hcc33); (try clear hfr33); (try clear hM33); replace p33 := eq_true p33; replace q33 := eq_true q33; have HX36 := zA (show Kd.R k134 134 w35 w.heap.size (fun _ => True) (.slice (some ⟨go31, 0, none⟩) x6_1.length co19) y253 from (zR HO_6.out)); obtain ⟨ce36, hcl36, hM36, hcc36, hfr36⟩ := Kd.R_elem HX36.out z134 (x8_1 : Int) (zd) (by have h_ : (x8_1 : Int) < ((x6_1.length : Int) : Int) := zd; first | exact h_ | (have e_ := (Kd.R_reads' HO_6.out).1; omega) | simpa using h_); obtain rfl := k134_openM hM36; have HP36 := Kd.R_seg HX36.out (x8_1 : Int) (zd) (by have h_ : (x8_1 : Int) < ((x6_1.length : Int) : Int) := zd; first | exact h_ | (have e_ := (Kd.R_reads' HO_6.out).1; omega) | simpa using h_) (seg := [.int .i64 t255]) (j := 2) hcl36 hcc36 (show 3 ≤ 5 from by decide) (x' := (⟨(rd_T134 y253 x8_1).f0, (rd_T134 y253 x8_1).f1, t255, (rd_T134 y253 x8_1).f3, (rd_T134 y253 x8_1).f4⟩ : S134)) (k134_mkM _ _ _ (⟨(rd_T134 y253 x8_1).f0, (rd_T134 y253 x8_1).f1, t255, (rd_T134 y253 x8_1).f3, (rd_T134 y253 x8_1).f4⟩ : S134) ) (fun _ hk => hk); have hx36_2 := hcc36 2 _ rfl; (try simp only [show (k134).sz = 5 from rfl, Nat.mul_one, Nat.add_zero] at hx36_2); have hf36_2 := hfr36 2; (try simp only [show (k134).sz = 5 from rfl, Nat.mul_one, Nat.add_zero] at hf36_2); (try clear hcl36); (try clear hcc36); (try clear hfr36); (try clear hM36)) | ((with_reducible refine gate_store (t := 3) (p := 91) rfl ?_); refine store_event (t := 3) (p := 91) (v := ?vo_w37) (w1 := (w35.setCell ⟨go31, (x8_1 : Int).toNat * 5 + 2, none⟩ (.int .i64 t255))) ?hg ?ho ?hn ?hr ?_; (case ho => rfl); (case hg => rfl); (case hn => rfl); (case hr => first | (go_simp; done) | (go_simp; rfl)); intro w37 hw; have hg : w35.grownBy w37 (some go31) := (by rw [hw]; exact HP36.2); have hp_ : Kd.R k134 134 w37 w.heap.size (fun _ => True) (.slice (some ⟨go31, 0, none⟩) x6_1.length co19) y256 := (by rw [hw, Ny256.out]; exact HP36.1); clear HP36; replace BK241 := zA (blk_grown (g := gb241) (o := .cells #[.int .i64 a0_0, .int .i64 a0_1, .slice A0_2 l0_2.length c0_2, .slice A0_3 l0_3.length c0_3, .slice A0_4 l0_4.length c0_4] 47 (0, 0)) (zb BK241.out) hg (Kd.R_ne HO_6.out BK241.out (by decide))); replace HO_6 := zA (hp_); replace HB := zA ((by rw [hw]; exact below_set (HB.out) GB31.out : Below w.heap.size w w37)); clear hg hw hp_))
              go_roundg k2
              case measure => have := HK1.out; have := HK2.out; omega
              case rel => exact ⟨(y256), (true), (wrap64 (x8_1 + 1)), zr, zr, H', ⟨by have := HK1.out; have := HK2.out; omega⟩, ⟨zR HO_6.out⟩, ⟨zb BK241.out⟩, ⟨zs GE241.out⟩⟩
             ·rw [if_neg c30] at H; exact absurd H (by simp)
            ·rw [if_neg c29] at H; exact absurd H (by simp)
           ·replace c28 := Bool.eq_false_iff.mpr c28; subst c28; have H1 : (if 0 ≤ x8_1 then (if x8_1 < (x6_1.length : Int) then ((spec_l8more.f ((rd_T134 x6_1 x8_1).f3)).bind fun t258 => (spec_l8tick.l0 k2 (x6_1.set (x8_1 : Int).toNat (⟨(rd_T134 x6_1 x8_1).f0, (rd_T134 x6_1 x8_1).f1, (rd_T134 x6_1 x8_1).f2, t258, (rd_T134 x6_1 x8_1).f4⟩ : S134)) x7_1 (wrap64 (x8_1 + 1)) a0_0 a0_1 l0_2 l0_3 l0_4)) else (none)) else (none)) = some (r1, r2) := by rw [if_neg (show ¬ (false = true) by decide)] at H; exact H
            clear H; have H := H1; clear H1
            by_cases c38 : 0 ≤ x8_1
            ·rw [if_pos c38] at H; have c38b0 : decide (0 ≤ x8_1) = true := decide_eq_true c38; clear c38
             by_cases c39 : x8_1 < (x6_1.length : Int)
             ·rw [if_pos c39] at H; have c39b0 : decide (x8_1 < (x6_1.length : Int)) = true := decide_eq_true c39; clear c39; replace H := Option.bind_eq_some_iff.mp H; obtain ⟨t258, A400, H⟩ := H; replace H : (spec_l8tick.l0 k2 (x6_1.set (x8_1 : Int).toNat (⟨(rd_T134 x6_1 x8_1).f0, (rd_T134 x6_1 x8_1).f1, (rd_T134 x6_1 x8_1).f2, t258, (rd_T134 x6_1 x8_1).f4⟩ : S134)) x7_1 (wrap64 (x8_1 + 1)) a0_0 a0_1 l0_2 l0_3 l0_4) = some (r1, r2) := H; have A40 := zA A400; clear A400; obtain ⟨y259, hy259⟩ : ∃ y_ : List (S134), y_ = (x6_1.set (x8_1 : Int).toNat (⟨(rd_T134 x6_1 x8_1).f0, (rd_T134 x6_1 x8_1).f1, (rd_T134 x6_1 x8_1).f2, t258, (rd_T134 x6_1 x8_1).f4⟩ : S134)) := ⟨_, rfl⟩; replace H : (spec_l8tick.l0 k2 y259 x7_1 (wrap64 (x8_1 + 1)) a0_0 a0_1 l0_2 l0_3 l0_4) = some (r1, r2) := zh hy259; have Ny259 := zA hy259; clear hy259; have H' := zA H; clear H; have p257 : 0 ≤ (x8_1 : Int) := zd; have q257 : x8_1 < (x6_1.length : Int) := zd; obtain ⟨ad257, e257, hx257_0, hx257_1, hx257_2, hx257_3, hx257_4⟩ := at_T134 (Kd.R_reads' HO_6.out).2.2 x8_1 p257 q257; (try rw [← Nbq8.out] at hx257_4); obtain rfl : ad245 = ad257 := (by injection e257); replace p257 := eq_true p257; replace q257 := eq_true q257; go_wp2_with (first | ((with_reducible refine gate_callee (f := 149) rfl ?_); refine goesL_ (some 99) rfl rfl Tryd.func149 (by kernel_rfl) rfl #[.int .i64 ((rd_T134 x6_1 x8_1).f3)] rfl za ?_; (with_reducible refine (spec_l8more.calls ((rd_T134 x6_1 x8_1).f3) t258 _ A40.out).mono ?_); rintro e w' ⟨rfl, ⟨nd, rfl⟩⟩; refine ⟨_, rfl, ?_⟩; (try (rw [drewN_self wr]; generalize hq_ : World.drewN wr _ = wr; have n0_ : Aside0 (Kd.R k134 134 wr w.heap.size (fun _ => True) (.slice (some ad245) x6_1.length co19) x6_1) := ⟨by rw [← hq_]; exact (zR HO_6.out)⟩; have n1_ : Aside0 (wr.heap[gb241]? = some (.cells #[.int .i64 a0_0, .int .i64 a0_1, .slice A0_2 l0_2.length c0_2, .slice A0_3 l0_3.length c0_3, .slice A0_4 l0_4.length c0_4] 47 (0, 0))) := ⟨by rw [← hq_]; exact (zb BK241.out)⟩; have n2_ : Aside0 (Below w.heap.size w wr) := ⟨by rw [← hq_]; exact (zs GE241.out)⟩; clear HO_6 BK241 HB hq_; have HO_6 := n0_; have BK241 := n1_; have HB := n2_; clear n0_ n1_ n2_)); have p41 : 0 ≤ (x8_1 : Int) := zd; have q41 : (x8_1 : Int) < ((x6_1.length : Int) : Int) := zd; obtain ⟨go41, co41, eo41, gb41, gl41, cl41, HG41⟩ := Kd.R_form HO_6.out (by omega); (first | cases eo41 | (injection eo41 with ea_ en_ ec_; (first | subst ea_ | (injection ea_ with ea_; subst ea_)); subst ec_; clear en_)); have GB41 := zA gb41; have GG41 := zA HG41; clear gb41 gl41 HG41; (first | simp only [add_plain] at hx257_0 | skip); (first | simp only [add_plain] at hx257_1 | skip); (first | simp only [add_plain] at hx257_2 | skip); (first | simp only [add_plain] at hx257_3 | skip); (first | simp only [add_plain] at hx257_4 | skip); obtain ⟨ce41, hcl41, hM41, hcc41, hfr41⟩ := Kd.R_elem HO_6.out z134 (x8_1 : Int) p41 q41; obtain rfl := k134_openM hM41; have hx41_0 : wr.cell? ⟨go41, (x8_1 : Int).toNat * 5, none⟩ = some (.int .i64 ((rd_T134 x6_1 x8_1).f0)) := hcc41 0 _ rfl; have hx41_1 : wr.cell? ⟨go41, (x8_1 : Int).toNat * 5 + 1, none⟩ = some (.int .i64 ((rd_T134 x6_1 x8_1).f1)) := hcc41 1 _ rfl; have hx41_2 : wr.cell? ⟨go41, (x8_1 : Int).toNat * 5 + 2, none⟩ = some (.int .i64 ((rd_T134 x6_1 x8_1).f2)) := hcc41 2 _ rfl; have hx41_3 : wr.cell? ⟨go41, (x8_1 : Int).toNat * 5 + 3, none⟩ = some (.int .i64 ((rd_T134 x6_1 x8_1).f3)) := hcc41 3 _ rfl; have hx41_4 : wr.cell? ⟨go41, (x8_1 : Int).toNat * 5 + 4, none⟩ = some (.bool ((rd_T134 x6_1 x8_1).f4)) := hcc41 4 _ rfl; have hf41_0 : wr.frozen? ⟨go41, (x8_1 : Int).toNat * 5, none⟩ = false := hfr41 0; have hf41_1 : wr.frozen? ⟨go41, (x8_1 : Int).toNat * 5 + 1, none⟩ = false := hfr41 1; have hf41_2 : wr.frozen? ⟨go41, (x8_1 : Int).toNat * 5 + 2, none⟩ = false := hfr41 2; have hf41_3 : wr.frozen? ⟨go41, (x8_1 : Int).toNat * 5 + 3, none⟩ = false := hfr41 3; have hf41_4 : wr.frozen? ⟨go41, (x8_1 : Int).toNat * 5 + 4, none⟩ = false := hfr41 4; (try clear hcl41); (try clear hcc41); (try clear hfr41); (try clear hM41); replace p41 := eq_true p41; replace q41 := eq_true q41; have HX42 := zA (show Kd.R k134 134 wr w.heap.size (fun _ => True) (.slice (some ⟨go41, 0, none⟩) x6_1.length co19) x6_1 from (zR HO_6.out)); obtain ⟨ce42, hcl42, hM42, hcc42, hfr42⟩ := Kd.R_elem HX42.out z134 (x8_1 : Int) (zd) (by have h_ : (x8_1 : Int) < ((x6_1.length : Int) : Int) := zd; first | exact h_ | (have e_ := (Kd.R_reads' HO_6.out).1; omega) | simpa using h_); obtain rfl := k134_openM hM42; have HP42 := Kd.R_seg HX42.out (x8_1 : Int) (zd) (by have h_ : (x8_1 : Int) < ((x6_1.length : Int) : Int) := zd; first | exact h_ | (have e_ := (Kd.R_reads' HO_6.out).1; omega) | simpa using h_) (seg := [.int .i64 t258]) (j := 3) hcl42 hcc42 (show 4 ≤ 5 from by decide) (x' := (⟨(rd_T134 x6_1 x8_1).f0, (rd_T134 x6_1 x8_1).f1, (rd_T134 x6_1 x8_1).f2, t258, (rd_T134 x6_1 x8_1).f4⟩ : S134)) (k134_mkM _ _ _ (⟨(rd_T134 x6_1 x8_1).f0, (rd_T134 x6_1 x8_1).f1, (rd_T134 x6_1 x8_1).f2, t258, (rd_T134 x6_1 x8_1).f4⟩ : S134) ) (fun _ hk => hk); have hx42_3 := hcc42 3 _ rfl; (try simp only [show (k134).sz = 5 from rfl, Nat.mul_one, Nat.add_zero] at hx42_3); have hf42_3 := hfr42 3; (try simp only [show (k134).sz = 5 from rfl, Nat.mul_one, Nat.add_zero] at hf42_3); (try clear hcl42); (try clear hcc42); (try clear hfr42); (try clear hM42)) | ((with_reducible refine gate_store (t := 3) (p := 101) rfl ?_); refine store_event (t := 3) (p := 101) (v := ?vo_w43) (w1 := (wr.setCell ⟨go41, (x8_1 : Int).toNat * 5 + 3, none⟩ (.int .i64 t258))) ?hg ?ho ?hn ?hr ?_; (case ho => rfl); (case hg => rfl); (case hn => rfl); (case hr => first | (go_simp; done) | (go_simp; rfl)); intro w43 hw; have hg : wr.grownBy w43 (some go41) := (by rw [hw]; exact HP42.2); have hp_ : Kd.R k134 134 w43 w.heap.size (fun _ => True) (.slice (some ⟨go41, 0, none⟩) x6_1.length co19) y259 := (by rw [hw, Ny259.out]; exact HP42.1); clear HP42; replace BK241 := zA (blk_grown (g := gb241) (o := .cells #[.int .i64 a0_0, .int .i64 a0_1, .slice A0_2 l0_2.length c0_2, .slice A0_3 l0_3.length c0_3, .slice A0_4 l0_4.length c0_4] 47 (0, 0)) (zb BK241.out) hg (Kd.R_ne HO_6.out BK241.out (by decide))); replace HO_6 := zA (hp_); replace HB := zA ((by rw [hw]; exact below_set (HB.out) GB41.out : Below w.heap.size w w43)); clear hg hw hp_))
              go_roundg k2
              case measure => have := HK1.out; have := HK2.out; omega
              case rel => exact ⟨(y259), (x7_1), (wrap64 (x8_1 + 1)), zr, zr, H', ⟨by have := HK1.out; have := HK2.out; omega⟩, ⟨zR HO_6.out⟩, ⟨zb BK241.out⟩, ⟨zs GE241.out⟩⟩
             ·rw [if_neg c39] at H; exact absurd H (by simp)
            ·rw [if_neg c38] at H; exact absurd H (by simp)
     ·rw [if_neg c7] at H; exact absurd H (by simp)
    ·rw [if_neg c6] at H; have c6b0 : decide (x8_1 < (x6_1.length : Int)) = false := decide_eq_false c6; clear c6; simp only [Option.some.injEq, Prod.mk.injEq] at H; obtain ⟨rfl, rfl⟩ := H; obtain ⟨Ao44, co44, eo44⟩ := Kd.R_slice HO_6.out; subst eo44; go_wp2; go_ret2; exact ⟨_, ze, by (with_reducible repeat (first | apply Kd.R_alloc | apply Kd.R_drewN | apply Kd.R_drew)); exact HO_6.out, (zs GE241.out)⟩
 ·rw [if_neg c3] at H; exact absurd H (by simp)

end Go.Proofs.YthbeplmihjhoeaaDoor.PFnExactTickFleet
