-- made by wip/tools/myprint.py (this session's own program, over the kit's printer)
import Derived.Test.YthbeplmihjhoeaaDoorPFnExactEncodeImagex0
import Derived.Test.YthbeplmihjhoeaaDoorPFnExactEncodeImagex5
namespace Go.Proofs.YthbeplmihjhoeaaDoor.PFnExactEncodeImage
open Go.RowKit Go.Proofs.YthbeplmihjhoeaaDoorW.PrintWords Go.Proofs.YthbeplmihjhoeaaDoorW.PrintLast Go.Proofs.YthbeplmihjhoeaaDoorW.PrintMore
attribute [local go_sem] max2_int min2_int max_two min_two max_three min_three max_four min_four   -- for this text's walks alone
set_option linter.unusedVariables false
set_option linter.unusedSimpArgs false

/-! ### spec_l4targetsOK: function 136 -/
mutual
def spec_l4targetsOK.l0 : Nat → List (S120) → Int → Int → Option (Bool)
 | 0, _, _, _ => none
 | k + 1, x0, x1, x5 => if x5 < (x0.length : Int) then (if 0 ≤ x5 then (if (((rd_T120 x0 x5).f0).length : Int) < 1 then (spec_l4targetsOK.j1 k x0 x1 x5 true ((rd_T120 x0 x5).f0) ((rd_T120 x0 x5).f1) ((rd_T120 x0 x5).f2)) else (if (((rd_T120 x0 x5).f0).length : Int) > 60 then (spec_l4targetsOK.j1 k x0 x1 x5 true ((rd_T120 x0 x5).f0) ((rd_T120 x0 x5).f1) ((rd_T120 x0 x5).f2)) else ((spec_l1good.f k ((rd_T120 x0 x5).f0)).bind fun t201 => (if t201 = true then (if ((rd_T120 x0 x5).f1) < 0 then (spec_l4targetsOK.j1 k x0 x1 x5 true ((rd_T120 x0 x5).f0) ((rd_T120 x0 x5).f1) ((rd_T120 x0 x5).f2)) else (if ((rd_T120 x0 x5).f1) > 1 then (spec_l4targetsOK.j1 k x0 x1 x5 true ((rd_T120 x0 x5).f0) ((rd_T120 x0 x5).f1) ((rd_T120 x0 x5).f2)) else (if ((rd_T120 x0 x5).f2) < 0 then (spec_l4targetsOK.j1 k x0 x1 x5 true ((rd_T120 x0 x5).f0) ((rd_T120 x0 x5).f1) ((rd_T120 x0 x5).f2)) else (spec_l4targetsOK.j1 k x0 x1 x5 (decide (((rd_T120 x0 x5).f2) ≥ x1)) ((rd_T120 x0 x5).f0) ((rd_T120 x0 x5).f1) ((rd_T120 x0 x5).f2))))) else (spec_l4targetsOK.j1 k x0 x1 x5 true ((rd_T120 x0 x5).f0) ((rd_T120 x0 x5).f1) ((rd_T120 x0 x5).f2)))))) else (none)) else (some true)
def spec_l4targetsOK.j1 : Nat → List (S120) → Int → Int → Bool → List Int → Int → Int → Option (Bool)
 | 0, _, _, _, _, _, _, _ => none
 | k + 1, x0, x1, x5, x57, x201000, x201001, x201002 => if x57 = true then (some false) else (if x5 > 0 then (if 0 ≤ (wrap64 (x5 - 1)) then (if (wrap64 (x5 - 1)) < (x0.length : Int) then (spec_l4targetsOK.j2 k x0 x1 x5 (!(Op.bytesLess ((strOfNums ((rd_T120 x0 (wrap64 (x5 - 1))).f0)).toList) ((strOfNums x201000).toList))) x201000 x201001 x201002) else (none)) else (none)) else (spec_l4targetsOK.j2 k x0 x1 x5 false x201000 x201001 x201002))
def spec_l4targetsOK.j2 : Nat → List (S120) → Int → Int → Bool → List Int → Int → Int → Option (Bool)
 | 0, _, _, _, _, _, _, _ => none
 | k + 1, x0, x1, x5, x72, x201000, x201001, x201002 => if x72 = true then (some false) else (spec_l4targetsOK.l1 k x0 x1 x5 0 x201000 x201001 x201002)
def spec_l4targetsOK.l1 : Nat → List (S120) → Int → Int → Int → List Int → Int → Int → Option (Bool)
 | 0, _, _, _, _, _, _, _ => none
 | k + 1, x0, x1, x5, x7, x201000, x201001, x201002 => if x7 < x5 then (if 0 ≤ x7 then (if x7 < (x0.length : Int) then (if ((rd_T120 x0 x7).f2) = x201002 then (some false) else (spec_l4targetsOK.l1 k x0 x1 x5 (wrap64 (x7 + 1)) x201000 x201001 x201002)) else (none)) else (none)) else (spec_l4targetsOK.l0 k x0 x1 (wrap64 (x5 + 1)))
end
def spec_l4targetsOK.f (k : Nat) (l0 : List (S120)) (a1 : Int) : Option (Bool) := if (l0.length : Int) > 30 then (some false) else (spec_l4targetsOK.l0 k l0 a1 0)
theorem spec_l4targetsOK.mono_l : ∀ k, (∀ y0 y1 y2, LeO (spec_l4targetsOK.l0 k y0 y1 y2) (spec_l4targetsOK.l0 (k + 1) y0 y1 y2)) ∧ (∀ y0 y1 y2 y3 y4 y5 y6, LeO (spec_l4targetsOK.j1 k y0 y1 y2 y3 y4 y5 y6) (spec_l4targetsOK.j1 (k + 1) y0 y1 y2 y3 y4 y5 y6)) ∧ (∀ y0 y1 y2 y3 y4 y5 y6, LeO (spec_l4targetsOK.j2 k y0 y1 y2 y3 y4 y5 y6) (spec_l4targetsOK.j2 (k + 1) y0 y1 y2 y3 y4 y5 y6)) ∧ (∀ y0 y1 y2 y3 y4 y5 y6, LeO (spec_l4targetsOK.l1 k y0 y1 y2 y3 y4 y5 y6) (spec_l4targetsOK.l1 (k + 1) y0 y1 y2 y3 y4 y5 y6))
 | 0 => ⟨fun _ _ _ r h => by simp [spec_l4targetsOK.l0] at h, fun _ _ _ _ _ _ _ r h => by simp [spec_l4targetsOK.j1] at h, fun _ _ _ _ _ _ _ r h => by simp [spec_l4targetsOK.j2] at h, fun _ _ _ _ _ _ _ r h => by simp [spec_l4targetsOK.l1] at h⟩
 | k + 1 => by
  obtain ⟨ih0, ih1, ih2, ih3⟩ := spec_l4targetsOK.mono_l k
  refine ⟨?_, ?_, ?_, ?_⟩
  ·intro y0 y1 y2
   unfold spec_l4targetsOK.l0
   have m1 := @spec_l1good.mono
   exact zm
  ·intro y0 y1 y2 y3 y4 y5 y6
   unfold spec_l4targetsOK.j1
   have m1 := @spec_l1good.mono
   exact zm
  ·intro y0 y1 y2 y3 y4 y5 y6
   unfold spec_l4targetsOK.j2
   have m1 := @spec_l1good.mono
   exact zm
  ·intro y0 y1 y2 y3 y4 y5 y6
   unfold spec_l4targetsOK.l1
   have m1 := @spec_l1good.mono
   exact zm
theorem spec_l4targetsOK.mono : ∀ a0 a1 k, LeO (spec_l4targetsOK.f k a0 a1) (spec_l4targetsOK.f (k + 1) a0 a1) := by
 intro a0 a1 k
 obtain ⟨ih0, ih1, ih2, ih3⟩ := spec_l4targetsOK.mono_l k
 unfold spec_l4targetsOK.f
 have m1 := @spec_l1good.mono
 exact zm
set_option maxHeartbeats 8000000 in
set_option maxRecDepth 100000 in
theorem spec_l4targetsOK.calls (k : Nat) (A0 : Option Addr) (c0 : Nat) (l0 : List (S120)) (a1 : Int) (r : Bool) (w : World) (hr0 : Kd.C k120 w A0 l0.length l0) (hc0 : l0.length ≤ c0) (h : spec_l4targetsOK.f k l0 a1 = some r) :
  Calls Tryd.prog 136 #[.slice A0 l0.length c0, .int .i64 a1] w fun e w' => e = .returned (.bool r) ∧ Below w.heap.size w w' := by
 have hu120 := Tryd.underlying120
 have HR0 := zA hr0
 have HC0 := zA hc0
 clear hr0 hc0
 have HB := zA (Below.refl w.heap.size w)
 have H : (if (l0.length : Int) > 30 then (some false) else (spec_l4targetsOK.l0 k l0 a1 0)) = some r := h
 clear h
 by_cases c3 : (l0.length : Int) > 30
 ·rw [if_pos c3] at H
  have c3b0 : decide (30 < (l0.length : Int)) = true := decide_eq_true c3
  have c3b1 : decide (30 < l0.length) = true := decide_eq_true (by omega)
  clear c3
  obtain rfl := Option.some.inj H
  go_enter Tryd.func136, Tryd.ntmps136
  go_wp2
  repeat (go_quiet (fail); try go_wp2)
  go_ret
  exact ⟨ze, z_⟩
 ·rw [if_neg c3] at H
  have c3b0 : decide (30 < (l0.length : Int)) = false := decide_eq_false c3
  have c3b1 : decide (30 < l0.length) = false := decide_eq_false (by omega)
  clear c3
  have H' := zA H
  clear H
  go_enter Tryd.func136, Tryd.ntmps136
  go_wp2
  repeat (go_quiet (fail); try go_wp2)
  go_loopg [5] k (fun kq v5 w' => ∃ (x5_1 : Int), v5 = .int .i64 x5_1 ∧ Aside0 (spec_l4targetsOK.l0 kq l0 a1 x5_1 = some r) ∧ Aside0 (kq ≤ k) ∧ Aside0 (Below w.heap.size w w'))
  case atStart => exact ⟨(0), zr, H', ⟨Nat.le_refl _⟩, ⟨z_⟩⟩
  case round =>
   clear H'
   (try clear c1); (try clear p2); (try clear c3); (try clear c3b0); (try clear c3b1)
   obtain ⟨x5_1, rfl, HA, HK1, HB⟩ := hrel
   cases gk with
   | zero => exact absurd HA.out (by simp [spec_l4targetsOK.l0])
   | succ k1 =>
    have H := HA.out
    clear HA
    simp only [spec_l4targetsOK.l0] at H
    by_cases c4 : x5_1 < (l0.length : Int)
    ·rw [if_pos c4] at H
     have c4b0 : decide (x5_1 < (l0.length : Int)) = true := decide_eq_true c4
     clear c4
     by_cases c5 : 0 ≤ x5_1
     ·rw [if_pos c5] at H
      have c5b0 : decide (0 ≤ x5_1) = true := decide_eq_true c5
      clear c5
      have HC6 := zA H
      clear H
      have p199 : 0 ≤ (x5_1 : Int) := zd
      have q199 : x5_1 < (l0.length : Int) := zd
      obtain ⟨ad199, A199_0, c199_0, e199, hx199_0, hx199_1, hx199_2, hl199_0, hi199_0⟩ := at_T120 HR0.out x5_1 p199 q199
      cases e199
      replace hx199_0 := zx HB.out hx199_0
      replace hx199_1 := zx HB.out hx199_1
      replace hx199_2 := zx HB.out hx199_2
      have HR199_0 := zA hi199_0
      have HC199_0 := zA hl199_0
      clear hi199_0 hl199_0
      replace p199 := eq_true p199
      replace q199 := eq_true q199
      go_upto_region 7 with (first | ((with_reducible refine gate_dst (N := 6) rfl ?_); (try (refine gate_guard (by rfl) ?_; dsimp only)); refine box_event ?hg (N := 6) ?hd (cs := #[.slice none 0 0, .int .i64 0, .int .i64 0]) (t := 120) ?hr ?_; (case hd => rfl); (case hg => rfl); (case hr => first | (go_simp; done) | (go_simp; rfl)); intro gb200 hg w7 hbox hb; have n0_ := zA (below_step z_ hb); have n1_ := zA (hbox); have n2_ := zA ((by rw [hg]; exact (below_size z_) : w.heap.size ≤ gb200)); have n3_ := zA ((by rw [hg]; exact (below_size z_) : w.heap.size ≤ gb200)); clear HB; have HB := n0_; have BK200 := n1_; have GW200 := n2_; have GE200 := n3_; clear n0_ n1_ n2_ n3_; clear hb hbox hg; obtain ⟨hcz8_0, hcz8_1, hcz8_2, hfz8_0, hfz8_1, hfz8_2⟩ := zh3 BK200.out))
      repeat (go_quiet (first | ((with_reducible refine gate_dst (N := 6) rfl ?_); (try (refine gate_guard (by rfl) ?_; dsimp only)); refine box_event ?hg (N := 6) ?hd (cs := #[.slice none 0 0, .int .i64 0, .int .i64 0]) (t := 120) ?hr ?_; (case hd => rfl); (case hg => rfl); (case hr => first | (go_simp; done) | (go_simp; rfl)); intro gb200 hg w7 hbox hb; have n0_ := zA (below_step z_ hb); have n1_ := zA (hbox); have n2_ := zA ((by rw [hg]; exact (below_size z_) : w.heap.size ≤ gb200)); have n3_ := zA ((by rw [hg]; exact (below_size z_) : w.heap.size ≤ gb200)); clear HB; have HB := n0_; have BK200 := n1_; have GW200 := n2_; have GE200 := n3_; clear n0_ n1_ n2_ n3_; clear hb hbox hg; obtain ⟨hcz8_0, hcz8_1, hcz8_2, hfz8_0, hfz8_1, hfz8_2⟩ := zh3 BK200.out)); go_upto_region 7 with (first | ((with_reducible refine gate_dst (N := 6) rfl ?_); (try (refine gate_guard (by rfl) ?_; dsimp only)); refine box_event ?hg (N := 6) ?hd (cs := #[.slice none 0 0, .int .i64 0, .int .i64 0]) (t := 120) ?hr ?_; (case hd => rfl); (case hg => rfl); (case hr => first | (go_simp; done) | (go_simp; rfl)); intro gb200 hg w7 hbox hb; have n0_ := zA (below_step z_ hb); have n1_ := zA (hbox); have n2_ := zA ((by rw [hg]; exact (below_size z_) : w.heap.size ≤ gb200)); have n3_ := zA ((by rw [hg]; exact (below_size z_) : w.heap.size ≤ gb200)); clear HB; have HB := n0_; have BK200 := n1_; have GW200 := n2_; have GE200 := n3_; clear n0_ n1_ n2_ n3_; clear hb hbox hg; obtain ⟨hcz8_0, hcz8_1, hcz8_2, hfz8_0, hfz8_1, hfz8_2⟩ := zh3 BK200.out)))
      (try simp only [Act.put, List.setIfInBounds_toArray, List.set_cons_zero, List.set_cons_succ])
      go_cut [57] (fun v57 wc => ∃ (kq : Nat) (x57_5 : Bool), v57 = .bool x57_5 ∧ Aside0 (spec_l4targetsOK.j1 kq l0 a1 x5_1 x57_5 ((rd_T120 l0 x5_1).f0) ((rd_T120 l0 x5_1).f1) ((rd_T120 l0 x5_1).f2) = some r) ∧ Aside0 (kq ≤ k1) ∧ Aside0 (wc.heap[gb200]? = some (.cells #[(.slice A199_0 ((rd_T120 l0 x5_1).f0).length c199_0), .int .i64 ((rd_T120 l0 x5_1).f1), .int .i64 ((rd_T120 l0 x5_1).f2)] 120 (0, 0))) ∧ Aside0 (Below w.heap.size w wc))
      case first =>
       have H := HC6.out
       clear HC6
       by_cases c9 : (((rd_T120 l0 x5_1).f0).length : Int) < 1
       ·rw [if_pos c9] at H
        have c9b0 : decide ((((rd_T120 l0 x5_1).f0).length : Int) < 1) = true := decide_eq_true c9
        have c9b1 : decide (((rd_T120 l0 x5_1).f0).length < 1) = true := decide_eq_true (by omega)
        clear c9
        (first | rw [c9b0] | (simp only [i64_w, i32_w]; rw [c9b0]) | skip)
        have H' := zA H
        clear H
        obtain ⟨hcz10_0, hcz10_1, hcz10_2, hfz10_0, hfz10_1, hfz10_2⟩ := zh3 BK200.out
        go_wp2
        repeat (go_quiet (fail); try go_wp2)
        go_meet
        case rel => exact ⟨_, (true), zr, H', ⟨by have := HK1.out; first | omega | exact Nat.le_refl _⟩, ⟨by (with_reducible repeat (first | refine blk_drewN ?_ _ | refine blk_drew ?_ | refine blk_alloc ?_ _)); refine blk_put (cs := #[.slice A199_0 ((rd_T120 l0 x5_1).f0).length c199_0, .int .i64 ((rd_T120 l0 x5_1).f1), .int .i64 0]) ?_ 2 _ rfl; (with_reducible repeat (first | refine blk_drewN ?_ _ | refine blk_drew ?_ | refine blk_alloc ?_ _)); refine blk_put (cs := #[.slice A199_0 ((rd_T120 l0 x5_1).f0).length c199_0, .int .i64 0, .int .i64 0]) ?_ 1 _ rfl; (with_reducible repeat (first | refine blk_drewN ?_ _ | refine blk_drew ?_ | refine blk_alloc ?_ _)); refine blk_put (cs := #[.slice none 0 0, .int .i64 0, .int .i64 0]) ?_ 0 _ rfl; (with_reducible repeat (first | refine blk_drewN ?_ _ | refine blk_drew ?_ | refine blk_alloc ?_ _)); exact BK200.out⟩, ⟨zs GE200.out⟩⟩
       ·rw [if_neg c9] at H
        have c9b0 : decide ((((rd_T120 l0 x5_1).f0).length : Int) < 1) = false := decide_eq_false c9
        have c9b1 : decide (((rd_T120 l0 x5_1).f0).length < 1) = false := decide_eq_false (by omega)
        clear c9
        (first | rw [c9b0] | (simp only [i64_w, i32_w]; rw [c9b0]) | skip)
        by_cases c11 : (((rd_T120 l0 x5_1).f0).length : Int) > 60
        ·rw [if_pos c11] at H
         have c11b0 : decide (60 < (((rd_T120 l0 x5_1).f0).length : Int)) = true := decide_eq_true c11
         have c11b1 : decide (60 < ((rd_T120 l0 x5_1).f0).length) = true := decide_eq_true (by omega)
         clear c11
         have H' := zA H
         clear H
         obtain ⟨hcz12_0, hcz12_1, hcz12_2, hfz12_0, hfz12_1, hfz12_2⟩ := zh3 BK200.out
         go_wp2
         repeat (go_quiet (fail); try go_wp2)
         go_meet
         case rel => exact ⟨_, (true), zr, H', ⟨by have := HK1.out; first | omega | exact Nat.le_refl _⟩, ⟨by (with_reducible repeat (first | refine blk_drewN ?_ _ | refine blk_drew ?_ | refine blk_alloc ?_ _)); refine blk_put (cs := #[.slice A199_0 ((rd_T120 l0 x5_1).f0).length c199_0, .int .i64 ((rd_T120 l0 x5_1).f1), .int .i64 0]) ?_ 2 _ rfl; (with_reducible repeat (first | refine blk_drewN ?_ _ | refine blk_drew ?_ | refine blk_alloc ?_ _)); refine blk_put (cs := #[.slice A199_0 ((rd_T120 l0 x5_1).f0).length c199_0, .int .i64 0, .int .i64 0]) ?_ 1 _ rfl; (with_reducible repeat (first | refine blk_drewN ?_ _ | refine blk_drew ?_ | refine blk_alloc ?_ _)); refine blk_put (cs := #[.slice none 0 0, .int .i64 0, .int .i64 0]) ?_ 0 _ rfl; (with_reducible repeat (first | refine blk_drewN ?_ _ | refine blk_drew ?_ | refine blk_alloc ?_ _)); exact BK200.out⟩, ⟨zs GE200.out⟩⟩
        ·rw [if_neg c11] at H
         have c11b0 : decide (60 < (((rd_T120 l0 x5_1).f0).length : Int)) = false := decide_eq_false c11
         have c11b1 : decide (60 < ((rd_T120 l0 x5_1).f0).length) = false := decide_eq_false (by omega)
         clear c11
         replace H := Option.bind_eq_some_iff.mp H
         obtain ⟨t201, A130, H⟩ := H
         replace H : (if t201 = true then (if ((rd_T120 l0 x5_1).f1) < 0 then (spec_l4targetsOK.j1 k1 l0 a1 x5_1 true ((rd_T120 l0 x5_1).f0) ((rd_T120 l0 x5_1).f1) ((rd_T120 l0 x5_1).f2)) else (if ((rd_T120 l0 x5_1).f1) > 1 then (spec_l4targetsOK.j1 k1 l0 a1 x5_1 true ((rd_T120 l0 x5_1).f0) ((rd_T120 l0 x5_1).f1) ((rd_T120 l0 x5_1).f2)) else (if ((rd_T120 l0 x5_1).f2) < 0 then (spec_l4targetsOK.j1 k1 l0 a1 x5_1 true ((rd_T120 l0 x5_1).f0) ((rd_T120 l0 x5_1).f1) ((rd_T120 l0 x5_1).f2)) else (spec_l4targetsOK.j1 k1 l0 a1 x5_1 (decide (((rd_T120 l0 x5_1).f2) ≥ a1)) ((rd_T120 l0 x5_1).f0) ((rd_T120 l0 x5_1).f1) ((rd_T120 l0 x5_1).f2))))) else (spec_l4targetsOK.j1 k1 l0 a1 x5_1 true ((rd_T120 l0 x5_1).f0) ((rd_T120 l0 x5_1).f1) ((rd_T120 l0 x5_1).f2))) = some r := H
         have A13 := zA A130
         clear A130
         by_cases c14 : t201 = true
         ·subst c14
          have H1 : (if ((rd_T120 l0 x5_1).f1) < 0 then (spec_l4targetsOK.j1 k1 l0 a1 x5_1 true ((rd_T120 l0 x5_1).f0) ((rd_T120 l0 x5_1).f1) ((rd_T120 l0 x5_1).f2)) else (if ((rd_T120 l0 x5_1).f1) > 1 then (spec_l4targetsOK.j1 k1 l0 a1 x5_1 true ((rd_T120 l0 x5_1).f0) ((rd_T120 l0 x5_1).f1) ((rd_T120 l0 x5_1).f2)) else (if ((rd_T120 l0 x5_1).f2) < 0 then (spec_l4targetsOK.j1 k1 l0 a1 x5_1 true ((rd_T120 l0 x5_1).f0) ((rd_T120 l0 x5_1).f1) ((rd_T120 l0 x5_1).f2)) else (spec_l4targetsOK.j1 k1 l0 a1 x5_1 (decide (((rd_T120 l0 x5_1).f2) ≥ a1)) ((rd_T120 l0 x5_1).f0) ((rd_T120 l0 x5_1).f1) ((rd_T120 l0 x5_1).f2))))) = some r := by rw [if_pos rfl] at H; exact H
          clear H
          have H := H1
          clear H1
          by_cases c15 : ((rd_T120 l0 x5_1).f1) < 0
          ·rw [if_pos c15] at H
           have c15b0 : decide (((rd_T120 l0 x5_1).f1) < 0) = true := decide_eq_true c15
           clear c15
           have H' := zA H
           clear H
           obtain ⟨hcz16_0, hcz16_1, hcz16_2, hfz16_0, hfz16_1, hfz16_2⟩ := zh3 BK200.out
           go_wp2_with (first | (go_at_call 105; (with_reducible refine (spec_l1good.calls k1 _ _ ((rd_T120 l0 x5_1).f0) true _ ?side1 ?side2 A13.out).mono ?_); (case side1 => exact Kd.C_below HR199_0.out (zs GE200.out)); (case side2 => exact HC199_0.out); rintro e w17 ⟨rfl, hb⟩; have n0_ := zA (blk_below (g := gb200) (o := .cells #[.slice A199_0 ((rd_T120 l0 x5_1).f0).length c199_0, .int .i64 ((rd_T120 l0 x5_1).f1), .int .i64 ((rd_T120 l0 x5_1).f2)] 120 (0, 0)) (zq BK200.out) hb); have n1_ := zA (below_step (zs GE200.out) hb); clear BK200 HB; have BK200 := n0_; have HB := n1_; clear n0_ n1_; (try clear hb); (try clear hb2); (try clear hk); (try clear hi); obtain ⟨hcz18_0, hcz18_1, hcz18_2, hfz18_0, hfz18_1, hfz18_2⟩ := zh3 BK200.out))
           repeat (go_quiet (first | (go_at_call 105; (with_reducible refine (spec_l1good.calls k1 _ _ ((rd_T120 l0 x5_1).f0) true _ ?side1 ?side2 A13.out).mono ?_); (case side1 => exact Kd.C_below HR199_0.out (zs GE200.out)); (case side2 => exact HC199_0.out); rintro e w17 ⟨rfl, hb⟩; have n0_ := zA (blk_below (g := gb200) (o := .cells #[.slice A199_0 ((rd_T120 l0 x5_1).f0).length c199_0, .int .i64 ((rd_T120 l0 x5_1).f1), .int .i64 ((rd_T120 l0 x5_1).f2)] 120 (0, 0)) (zq BK200.out) hb); have n1_ := zA (below_step (zs GE200.out) hb); clear BK200 HB; have BK200 := n0_; have HB := n1_; clear n0_ n1_; (try clear hb); (try clear hb2); (try clear hk); (try clear hi); obtain ⟨hcz18_0, hcz18_1, hcz18_2, hfz18_0, hfz18_1, hfz18_2⟩ := zh3 BK200.out)); try go_wp2_with (first | (go_at_call 105; (with_reducible refine (spec_l1good.calls k1 _ _ ((rd_T120 l0 x5_1).f0) true _ ?side1 ?side2 A13.out).mono ?_); (case side1 => exact Kd.C_below HR199_0.out (zs GE200.out)); (case side2 => exact HC199_0.out); rintro e w17 ⟨rfl, hb⟩; have n0_ := zA (blk_below (g := gb200) (o := .cells #[.slice A199_0 ((rd_T120 l0 x5_1).f0).length c199_0, .int .i64 ((rd_T120 l0 x5_1).f1), .int .i64 ((rd_T120 l0 x5_1).f2)] 120 (0, 0)) (zq BK200.out) hb); have n1_ := zA (below_step (zs GE200.out) hb); clear BK200 HB; have BK200 := n0_; have HB := n1_; clear n0_ n1_; (try clear hb); (try clear hb2); (try clear hk); (try clear hi); obtain ⟨hcz18_0, hcz18_1, hcz18_2, hfz18_0, hfz18_1, hfz18_2⟩ := zh3 BK200.out)))
           go_meet
           case rel => exact ⟨_, (true), zr, H', ⟨by have := HK1.out; first | omega | exact Nat.le_refl _⟩, ⟨zb BK200.out⟩, ⟨zs GE200.out⟩⟩
          ·rw [if_neg c15] at H
           have c15b0 : decide (((rd_T120 l0 x5_1).f1) < 0) = false := decide_eq_false c15
           clear c15
           by_cases c19 : ((rd_T120 l0 x5_1).f1) > 1
           ·rw [if_pos c19] at H
            have c19b0 : decide (1 < ((rd_T120 l0 x5_1).f1)) = true := decide_eq_true c19
            clear c19
            have H' := zA H
            clear H
            obtain ⟨hcz20_0, hcz20_1, hcz20_2, hfz20_0, hfz20_1, hfz20_2⟩ := zh3 BK200.out
            go_wp2_with (first | (go_at_call 105; (with_reducible refine (spec_l1good.calls k1 _ _ ((rd_T120 l0 x5_1).f0) true _ ?side1 ?side2 A13.out).mono ?_); (case side1 => exact Kd.C_below HR199_0.out (zs GE200.out)); (case side2 => exact HC199_0.out); rintro e w21 ⟨rfl, hb⟩; have n0_ := zA (blk_below (g := gb200) (o := .cells #[.slice A199_0 ((rd_T120 l0 x5_1).f0).length c199_0, .int .i64 ((rd_T120 l0 x5_1).f1), .int .i64 ((rd_T120 l0 x5_1).f2)] 120 (0, 0)) (zq BK200.out) hb); have n1_ := zA (below_step (zs GE200.out) hb); clear BK200 HB; have BK200 := n0_; have HB := n1_; clear n0_ n1_; (try clear hb); (try clear hb2); (try clear hk); (try clear hi); obtain ⟨hcz22_0, hcz22_1, hcz22_2, hfz22_0, hfz22_1, hfz22_2⟩ := zh3 BK200.out))
            repeat (go_quiet (first | (go_at_call 105; (with_reducible refine (spec_l1good.calls k1 _ _ ((rd_T120 l0 x5_1).f0) true _ ?side1 ?side2 A13.out).mono ?_); (case side1 => exact Kd.C_below HR199_0.out (zs GE200.out)); (case side2 => exact HC199_0.out); rintro e w21 ⟨rfl, hb⟩; have n0_ := zA (blk_below (g := gb200) (o := .cells #[.slice A199_0 ((rd_T120 l0 x5_1).f0).length c199_0, .int .i64 ((rd_T120 l0 x5_1).f1), .int .i64 ((rd_T120 l0 x5_1).f2)] 120 (0, 0)) (zq BK200.out) hb); have n1_ := zA (below_step (zs GE200.out) hb); clear BK200 HB; have BK200 := n0_; have HB := n1_; clear n0_ n1_; (try clear hb); (try clear hb2); (try clear hk); (try clear hi); obtain ⟨hcz22_0, hcz22_1, hcz22_2, hfz22_0, hfz22_1, hfz22_2⟩ := zh3 BK200.out)); try go_wp2_with (first | (go_at_call 105; (with_reducible refine (spec_l1good.calls k1 _ _ ((rd_T120 l0 x5_1).f0) true _ ?side1 ?side2 A13.out).mono ?_); (case side1 => exact Kd.C_below HR199_0.out (zs GE200.out)); (case side2 => exact HC199_0.out); rintro e w21 ⟨rfl, hb⟩; have n0_ := zA (blk_below (g := gb200) (o := .cells #[.slice A199_0 ((rd_T120 l0 x5_1).f0).length c199_0, .int .i64 ((rd_T120 l0 x5_1).f1), .int .i64 ((rd_T120 l0 x5_1).f2)] 120 (0, 0)) (zq BK200.out) hb); have n1_ := zA (below_step (zs GE200.out) hb); clear BK200 HB; have BK200 := n0_; have HB := n1_; clear n0_ n1_; (try clear hb); (try clear hb2); (try clear hk); (try clear hi); obtain ⟨hcz22_0, hcz22_1, hcz22_2, hfz22_0, hfz22_1, hfz22_2⟩ := zh3 BK200.out)))
            go_meet
            case rel => exact ⟨_, (true), zr, H', ⟨by have := HK1.out; first | omega | exact Nat.le_refl _⟩, ⟨zb BK200.out⟩, ⟨zs GE200.out⟩⟩
           ·rw [if_neg c19] at H
            have c19b0 : decide (1 < ((rd_T120 l0 x5_1).f1)) = false := decide_eq_false c19
            clear c19
            by_cases c23 : ((rd_T120 l0 x5_1).f2) < 0
            ·rw [if_pos c23] at H
             have c23b0 : decide (((rd_T120 l0 x5_1).f2) < 0) = true := decide_eq_true c23
             clear c23
             have H' := zA H
             clear H
             obtain ⟨hcz24_0, hcz24_1, hcz24_2, hfz24_0, hfz24_1, hfz24_2⟩ := zh3 BK200.out
             go_wp2_with (first | (go_at_call 105; (with_reducible refine (spec_l1good.calls k1 _ _ ((rd_T120 l0 x5_1).f0) true _ ?side1 ?side2 A13.out).mono ?_); (case side1 => exact Kd.C_below HR199_0.out (zs GE200.out)); (case side2 => exact HC199_0.out); rintro e w25 ⟨rfl, hb⟩; have n0_ := zA (blk_below (g := gb200) (o := .cells #[.slice A199_0 ((rd_T120 l0 x5_1).f0).length c199_0, .int .i64 ((rd_T120 l0 x5_1).f1), .int .i64 ((rd_T120 l0 x5_1).f2)] 120 (0, 0)) (zq BK200.out) hb); have n1_ := zA (below_step (zs GE200.out) hb); clear BK200 HB; have BK200 := n0_; have HB := n1_; clear n0_ n1_; (try clear hb); (try clear hb2); (try clear hk); (try clear hi); obtain ⟨hcz26_0, hcz26_1, hcz26_2, hfz26_0, hfz26_1, hfz26_2⟩ := zh3 BK200.out))
             repeat (go_quiet (first | (go_at_call 105; (with_reducible refine (spec_l1good.calls k1 _ _ ((rd_T120 l0 x5_1).f0) true _ ?side1 ?side2 A13.out).mono ?_); (case side1 => exact Kd.C_below HR199_0.out (zs GE200.out)); (case side2 => exact HC199_0.out); rintro e w25 ⟨rfl, hb⟩; have n0_ := zA (blk_below (g := gb200) (o := .cells #[.slice A199_0 ((rd_T120 l0 x5_1).f0).length c199_0, .int .i64 ((rd_T120 l0 x5_1).f1), .int .i64 ((rd_T120 l0 x5_1).f2)] 120 (0, 0)) (zq BK200.out) hb); have n1_ := zA (below_step (zs GE200.out) hb); clear BK200 HB; have BK200 := n0_; have HB := n1_; clear n0_ n1_; (try clear hb); (try clear hb2); (try clear hk); (try clear hi); obtain ⟨hcz26_0, hcz26_1, hcz26_2, hfz26_0, hfz26_1, hfz26_2⟩ := zh3 BK200.out)); try go_wp2_with (first | (go_at_call 105; (with_reducible refine (spec_l1good.calls k1 _ _ ((rd_T120 l0 x5_1).f0) true _ ?side1 ?side2 A13.out).mono ?_); (case side1 => exact Kd.C_below HR199_0.out (zs GE200.out)); (case side2 => exact HC199_0.out); rintro e w25 ⟨rfl, hb⟩; have n0_ := zA (blk_below (g := gb200) (o := .cells #[.slice A199_0 ((rd_T120 l0 x5_1).f0).length c199_0, .int .i64 ((rd_T120 l0 x5_1).f1), .int .i64 ((rd_T120 l0 x5_1).f2)] 120 (0, 0)) (zq BK200.out) hb); have n1_ := zA (below_step (zs GE200.out) hb); clear BK200 HB; have BK200 := n0_; have HB := n1_; clear n0_ n1_; (try clear hb); (try clear hb2); (try clear hk); (try clear hi); obtain ⟨hcz26_0, hcz26_1, hcz26_2, hfz26_0, hfz26_1, hfz26_2⟩ := zh3 BK200.out)))
             go_meet
             case rel => exact ⟨_, (true), zr, H', ⟨by have := HK1.out; first | omega | exact Nat.le_refl _⟩, ⟨zb BK200.out⟩, ⟨zs GE200.out⟩⟩
            ·rw [if_neg c23] at H
             have c23b0 : decide (((rd_T120 l0 x5_1).f2) < 0) = false := decide_eq_false c23
             clear c23
             have H' := zA H
             clear H
             obtain ⟨hcz27_0, hcz27_1, hcz27_2, hfz27_0, hfz27_1, hfz27_2⟩ := zh3 BK200.out
             go_wp2_with (first | (go_at_call 105; (with_reducible refine (spec_l1good.calls k1 _ _ ((rd_T120 l0 x5_1).f0) true _ ?side1 ?side2 A13.out).mono ?_); (case side1 => exact Kd.C_below HR199_0.out (zs GE200.out)); (case side2 => exact HC199_0.out); rintro e w28 ⟨rfl, hb⟩; have n0_ := zA (blk_below (g := gb200) (o := .cells #[.slice A199_0 ((rd_T120 l0 x5_1).f0).length c199_0, .int .i64 ((rd_T120 l0 x5_1).f1), .int .i64 ((rd_T120 l0 x5_1).f2)] 120 (0, 0)) (zq BK200.out) hb); have n1_ := zA (below_step (zs GE200.out) hb); clear BK200 HB; have BK200 := n0_; have HB := n1_; clear n0_ n1_; (try clear hb); (try clear hb2); (try clear hk); (try clear hi); obtain ⟨hcz29_0, hcz29_1, hcz29_2, hfz29_0, hfz29_1, hfz29_2⟩ := zh3 BK200.out))
             repeat (go_quiet (first | (go_at_call 105; (with_reducible refine (spec_l1good.calls k1 _ _ ((rd_T120 l0 x5_1).f0) true _ ?side1 ?side2 A13.out).mono ?_); (case side1 => exact Kd.C_below HR199_0.out (zs GE200.out)); (case side2 => exact HC199_0.out); rintro e w28 ⟨rfl, hb⟩; have n0_ := zA (blk_below (g := gb200) (o := .cells #[.slice A199_0 ((rd_T120 l0 x5_1).f0).length c199_0, .int .i64 ((rd_T120 l0 x5_1).f1), .int .i64 ((rd_T120 l0 x5_1).f2)] 120 (0, 0)) (zq BK200.out) hb); have n1_ := zA (below_step (zs GE200.out) hb); clear BK200 HB; have BK200 := n0_; have HB := n1_; clear n0_ n1_; (try clear hb); (try clear hb2); (try clear hk); (try clear hi); obtain ⟨hcz29_0, hcz29_1, hcz29_2, hfz29_0, hfz29_1, hfz29_2⟩ := zh3 BK200.out)); try go_wp2_with (first | (go_at_call 105; (with_reducible refine (spec_l1good.calls k1 _ _ ((rd_T120 l0 x5_1).f0) true _ ?side1 ?side2 A13.out).mono ?_); (case side1 => exact Kd.C_below HR199_0.out (zs GE200.out)); (case side2 => exact HC199_0.out); rintro e w28 ⟨rfl, hb⟩; have n0_ := zA (blk_below (g := gb200) (o := .cells #[.slice A199_0 ((rd_T120 l0 x5_1).f0).length c199_0, .int .i64 ((rd_T120 l0 x5_1).f1), .int .i64 ((rd_T120 l0 x5_1).f2)] 120 (0, 0)) (zq BK200.out) hb); have n1_ := zA (below_step (zs GE200.out) hb); clear BK200 HB; have BK200 := n0_; have HB := n1_; clear n0_ n1_; (try clear hb); (try clear hb2); (try clear hk); (try clear hi); obtain ⟨hcz29_0, hcz29_1, hcz29_2, hfz29_0, hfz29_1, hfz29_2⟩ := zh3 BK200.out)))
             go_meet
             case rel => exact ⟨_, (decide (((rd_T120 l0 x5_1).f2) ≥ a1)), zr, H', ⟨by have := HK1.out; first | omega | exact Nat.le_refl _⟩, ⟨zb BK200.out⟩, ⟨zs GE200.out⟩⟩
         ·replace c14 := Bool.eq_false_iff.mpr c14
          subst c14
          have H1 : (spec_l4targetsOK.j1 k1 l0 a1 x5_1 true ((rd_T120 l0 x5_1).f0) ((rd_T120 l0 x5_1).f1) ((rd_T120 l0 x5_1).f2)) = some r := by rw [if_neg (show ¬ (false = true) by decide)] at H; exact H
          clear H
          have H := H1
          clear H1
          have H' := zA H
          clear H
          obtain ⟨hcz30_0, hcz30_1, hcz30_2, hfz30_0, hfz30_1, hfz30_2⟩ := zh3 BK200.out
          go_wp2_with (first | (go_at_call 105; (with_reducible refine (spec_l1good.calls k1 _ _ ((rd_T120 l0 x5_1).f0) false _ ?side1 ?side2 A13.out).mono ?_); (case side1 => exact Kd.C_below HR199_0.out (zs GE200.out)); (case side2 => exact HC199_0.out); rintro e w31 ⟨rfl, hb⟩; have n0_ := zA (blk_below (g := gb200) (o := .cells #[.slice A199_0 ((rd_T120 l0 x5_1).f0).length c199_0, .int .i64 ((rd_T120 l0 x5_1).f1), .int .i64 ((rd_T120 l0 x5_1).f2)] 120 (0, 0)) (zq BK200.out) hb); have n1_ := zA (below_step (zs GE200.out) hb); clear BK200 HB; have BK200 := n0_; have HB := n1_; clear n0_ n1_; (try clear hb); (try clear hb2); (try clear hk); (try clear hi)))
          repeat (go_quiet (first | (go_at_call 105; (with_reducible refine (spec_l1good.calls k1 _ _ ((rd_T120 l0 x5_1).f0) false _ ?side1 ?side2 A13.out).mono ?_); (case side1 => exact Kd.C_below HR199_0.out (zs GE200.out)); (case side2 => exact HC199_0.out); rintro e w31 ⟨rfl, hb⟩; have n0_ := zA (blk_below (g := gb200) (o := .cells #[.slice A199_0 ((rd_T120 l0 x5_1).f0).length c199_0, .int .i64 ((rd_T120 l0 x5_1).f1), .int .i64 ((rd_T120 l0 x5_1).f2)] 120 (0, 0)) (zq BK200.out) hb); have n1_ := zA (below_step (zs GE200.out) hb); clear BK200 HB; have BK200 := n0_; have HB := n1_; clear n0_ n1_; (try clear hb); (try clear hb2); (try clear hk); (try clear hi))); try go_wp2_with (first | (go_at_call 105; (with_reducible refine (spec_l1good.calls k1 _ _ ((rd_T120 l0 x5_1).f0) false _ ?side1 ?side2 A13.out).mono ?_); (case side1 => exact Kd.C_below HR199_0.out (zs GE200.out)); (case side2 => exact HC199_0.out); rintro e w31 ⟨rfl, hb⟩; have n0_ := zA (blk_below (g := gb200) (o := .cells #[.slice A199_0 ((rd_T120 l0 x5_1).f0).length c199_0, .int .i64 ((rd_T120 l0 x5_1).f1), .int .i64 ((rd_T120 l0 x5_1).f2)] 120 (0, 0)) (zq BK200.out) hb); have n1_ := zA (below_step (zs GE200.out) hb); clear BK200 HB; have BK200 := n0_; have HB := n1_; clear n0_ n1_; (try clear hb); (try clear hb2); (try clear hk); (try clear hi))))
          go_meet
          case rel => exact ⟨_, (true), zr, H', ⟨by have := HK1.out; first | omega | exact Nat.le_refl _⟩, ⟨zb BK200.out⟩, ⟨zs GE200.out⟩⟩
      case rest =>
       clear HC6
       (try clear c1); (try clear p1); (try clear q1); (try clear hx1); (try clear c2); (try clear p2); (try clear c3); (try clear c3b0); (try clear c3b1); (try clear c4); (try clear c4b0); (try clear c5); (try clear c5b0); (try clear c9); (try clear c9b0); (try clear c9b1); (try clear c11); (try clear c11b0); (try clear c11b1); (try clear c13); (try clear c14); (try clear c15); (try clear c15b0); (try clear c19); (try clear c19b0); (try clear p19); (try clear q19); (try clear hx19); (try clear c23); (try clear c23b0); (try clear hcz10_0 hcz10_1 hcz10_2); (try clear hcz12_0 hcz12_1 hcz12_2); (try clear hcz16_0 hcz16_1 hcz16_2); (try clear hcz18_0 hcz18_1 hcz18_2); (try clear hcz20_0 hcz20_1 hcz20_2); (try clear hcz22_0 hcz22_1 hcz22_2); (try clear hcz24_0 hcz24_1 hcz24_2); (try clear hcz26_0 hcz26_1 hcz26_2); (try clear hcz27_0 hcz27_1 hcz27_2); (try clear hcz29_0 hcz29_1 hcz29_2); (try clear hcz30_0 hcz30_1 hcz30_2); (try clear hcz8_0 hcz8_1 hcz8_2); (try clear hfz10_0 hfz10_1 hfz10_2); (try clear hfz12_0 hfz12_1 hfz12_2); (try clear hfz16_0 hfz16_1 hfz16_2); (try clear hfz18_0 hfz18_1 hfz18_2); (try clear hfz20_0 hfz20_1 hfz20_2); (try clear hfz22_0 hfz22_1 hfz22_2); (try clear hfz24_0 hfz24_1 hfz24_2); (try clear hfz26_0 hfz26_1 hfz26_2); (try clear hfz27_0 hfz27_1 hfz27_2); (try clear hfz29_0 hfz29_1 hfz29_2); (try clear hfz30_0 hfz30_1 hfz30_2); (try clear hfz8_0 hfz8_1 hfz8_2); (try clear hx199_0); (try clear hx199_1); (try clear hx199_2); (try clear p199); (try clear p2); (try clear q199)
       obtain ⟨kq, x57_5, rfl, HA, HJ5, BK200, HB⟩ := hcut
       cases kq with
       | zero => exact absurd HA.out (by simp [spec_l4targetsOK.j1])
       | succ kj5 =>
        have H := HA.out
        clear HA
        simp only [spec_l4targetsOK.j1] at H
        by_cases c32 : x57_5 = true
        ·subst c32
         have H1 : (some false) = some r := by rw [if_pos rfl] at H; exact H
         clear H
         have H := H1
         clear H1
         obtain rfl := Option.some.inj H
         go_wp2
         repeat (go_quiet (fail); try go_wp2)
         go_ret
         exact ⟨ze, (zs GE200.out)⟩
        ·replace c32 := Bool.eq_false_iff.mpr c32
         subst c32
         have H1 : (if x5_1 > 0 then (if 0 ≤ (wrap64 (x5_1 - 1)) then (if (wrap64 (x5_1 - 1)) < (l0.length : Int) then (spec_l4targetsOK.j2 kj5 l0 a1 x5_1 (!(Op.bytesLess ((strOfNums ((rd_T120 l0 (wrap64 (x5_1 - 1))).f0)).toList) ((strOfNums ((rd_T120 l0 x5_1).f0)).toList))) ((rd_T120 l0 x5_1).f0) ((rd_T120 l0 x5_1).f1) ((rd_T120 l0 x5_1).f2)) else (none)) else (none)) else (spec_l4targetsOK.j2 kj5 l0 a1 x5_1 false ((rd_T120 l0 x5_1).f0) ((rd_T120 l0 x5_1).f1) ((rd_T120 l0 x5_1).f2))) = some r := by rw [if_neg (show ¬ (false = true) by decide)] at H; exact H
         clear H
         have H := H1
         clear H1
         have HC33 := zA H
         clear H
         go_upto_region 9 with (fail)
         repeat (go_quiet (fail); go_upto_region 9 with (fail))
         go_cut [72] (fun v72 wc => ∃ (kq : Nat) (x72_32 : Bool), v72 = .bool x72_32 ∧ Aside0 (spec_l4targetsOK.j2 kq l0 a1 x5_1 x72_32 ((rd_T120 l0 x5_1).f0) ((rd_T120 l0 x5_1).f1) ((rd_T120 l0 x5_1).f2) = some r) ∧ Aside0 (kq ≤ kj5) ∧ Aside0 (wc.heap[gb200]? = some (.cells #[(.slice A199_0 ((rd_T120 l0 x5_1).f0).length c199_0), .int .i64 ((rd_T120 l0 x5_1).f1), .int .i64 ((rd_T120 l0 x5_1).f2)] 120 (0, 0))) ∧ Aside0 (Below w.heap.size w wc))
         case first =>
          have H := HC33.out
          clear HC33
          by_cases c34 : x5_1 > 0
          ·rw [if_pos c34] at H
           have c34b0 : decide (0 < x5_1) = true := decide_eq_true c34
           clear c34
           (first | rw [c34b0] | (simp only [i64_w, i32_w]; rw [c34b0]) | skip)
           obtain ⟨ji35, hji35⟩ : ∃ j_ : Int, (wrap64 (x5_1 - 1)) = j_ := ⟨_, rfl⟩
           replace H : (if 0 ≤ (ji35) then (if (ji35) < (l0.length : Int) then (spec_l4targetsOK.j2 kj5 l0 a1 x5_1 (!(Op.bytesLess ((strOfNums ((rd_T120 l0 (ji35)).f0)).toList) ((strOfNums ((rd_T120 l0 x5_1).f0)).toList))) ((rd_T120 l0 x5_1).f0) ((rd_T120 l0 x5_1).f1) ((rd_T120 l0 x5_1).f2)) else (none)) else (none)) = some r := by first | (rw [hji35] at H; exact H) | (simp only [hji35] at H ⊢; exact H)
           have hji35w : (IntKind.i64.wrap (x5_1 - 1)) = ji35 := (i64_w _).trans hji35
           by_cases c36 : 0 ≤ (ji35)
           ·rw [if_pos c36] at H
            have c36b0 : decide (0 ≤ (ji35)) = true := decide_eq_true c36
            clear c36
            by_cases c37 : (ji35) < (l0.length : Int)
            ·rw [if_pos c37] at H
             have c37b0 : decide ((ji35) < (l0.length : Int)) = true := decide_eq_true c37
             clear c37
             have H' := zA H
             clear H
             have p202 : 0 ≤ ((ji35) : Int) := zd
             have q202 : (ji35) < (l0.length : Int) := zd
             obtain ⟨ad202, A202_0, c202_0, e202, hx202_0, hx202_1, hx202_2, hl202_0, hi202_0⟩ := at_T120 HR0.out (ji35) p202 q202
             obtain rfl : ad199 = ad202 := (by injection e202)
             replace hx202_0 := zx HB.out hx202_0
             replace hx202_1 := zx HB.out hx202_1
             replace hx202_2 := zx HB.out hx202_2
             have HR202_0 := zA hi202_0
             have HC202_0 := zA hl202_0
             clear hi202_0 hl202_0
             replace p202 := eq_true p202
             replace q202 := eq_true q202
             have hcv38 := Kd.C_string (P := Tryd.prog) (A := A202_0) (c := c202_0) Tryd.underlying54 Tryd.underlying5 Tryd.underlying9 (Kd.C_below HR202_0.out HB.out)
             have hcv38q := fun n => Kd.C_string (P := Tryd.prog) (A := A202_0) (c := c202_0) Tryd.underlying54 Tryd.underlying5 Tryd.underlying9 (Kd.C_drewN (Kd.C_below HR202_0.out HB.out) n)
             obtain ⟨hcz39_0, hcz39_1, hcz39_2, hfz39_0, hfz39_1, hfz39_2⟩ := zh3 BK200.out
             have hcv40 := Kd.C_string (P := Tryd.prog) (A := A199_0) (c := c199_0) Tryd.underlying54 Tryd.underlying5 Tryd.underlying9 (Kd.C_below HR199_0.out HB.out)
             have hcv40q := fun n => Kd.C_string (P := Tryd.prog) (A := A199_0) (c := c199_0) Tryd.underlying54 Tryd.underlying5 Tryd.underlying9 (Kd.C_drewN (Kd.C_below HR199_0.out HB.out) n)
             go_wp2
             repeat (go_quiet (fail); try go_wp2)
             go_meet
             case rel => exact ⟨_, (!(Op.bytesLess ((strOfNums ((rd_T120 l0 (ji35)).f0)).toList) ((strOfNums ((rd_T120 l0 x5_1).f0)).toList))), (by first | rfl | (simp; done) | (simp only [← hji35] <;> (first | rfl | simp)) | (simp [*]; done)), H', ⟨by have := HK1.out; have := HJ5.out; first | omega | exact Nat.le_refl _⟩, ⟨zb BK200.out⟩, ⟨zs GE200.out⟩⟩
            ·rw [if_neg c37] at H
             exact absurd H (by simp)
           ·rw [if_neg c36] at H
            exact absurd H (by simp)
          ·rw [if_neg c34] at H
           have c34b0 : decide (0 < x5_1) = false := decide_eq_false c34
           clear c34
           (first | rw [c34b0] | (simp only [i64_w, i32_w]; rw [c34b0]) | skip)
           have H' := zA H
           clear H
           go_wp2
           repeat (go_quiet (fail); try go_wp2)
           go_meet
           case rel => exact ⟨_, (false), zr, H', ⟨by have := HK1.out; have := HJ5.out; first | omega | exact Nat.le_refl _⟩, ⟨zb BK200.out⟩, ⟨zs GE200.out⟩⟩
         case rest =>
          clear HC33
          (try clear c1); (try clear p1); (try clear q1); (try clear hx1); (try clear c2); (try clear p2); (try clear q2); (try clear hx2); (try clear c3); (try clear c3b0); (try clear c3b1); (try clear hcv3); (try clear c4); (try clear c4b0); (try clear hcv4); (try clear c5); (try clear c5b0); (try clear p6); (try clear c9); (try clear c9b0); (try clear c9b1); (try clear c11); (try clear c11b0); (try clear c11b1); (try clear c13); (try clear c14); (try clear c15); (try clear c15b0); (try clear c19); (try clear c19b0); (try clear p19); (try clear q19); (try clear hx19); (try clear c20); (try clear p20); (try clear q20); (try clear hx20); (try clear c23); (try clear c23b0); (try clear c32); (try clear c34); (try clear c34b0); (try clear c36); (try clear c36b0); (try clear c37); (try clear c37b0); (try clear hcv38); (try clear hcv40); (try clear hcz10_0 hcz10_1 hcz10_2); (try clear hcz12_0 hcz12_1 hcz12_2); (try clear hcz16_0 hcz16_1 hcz16_2); (try clear hcz18_0 hcz18_1 hcz18_2); (try clear hcz20_0 hcz20_1 hcz20_2); (try clear hcz22_0 hcz22_1 hcz22_2); (try clear hcz24_0 hcz24_1 hcz24_2); (try clear hcz26_0 hcz26_1 hcz26_2); (try clear hcz27_0 hcz27_1 hcz27_2); (try clear hcz29_0 hcz29_1 hcz29_2); (try clear hcz30_0 hcz30_1 hcz30_2); (try clear hcz39_0 hcz39_1 hcz39_2); (try clear hcz8_0 hcz8_1 hcz8_2); (try clear hfz10_0 hfz10_1 hfz10_2); (try clear hfz12_0 hfz12_1 hfz12_2); (try clear hfz16_0 hfz16_1 hfz16_2); (try clear hfz18_0 hfz18_1 hfz18_2); (try clear hfz20_0 hfz20_1 hfz20_2); (try clear hfz22_0 hfz22_1 hfz22_2); (try clear hfz24_0 hfz24_1 hfz24_2); (try clear hfz26_0 hfz26_1 hfz26_2); (try clear hfz27_0 hfz27_1 hfz27_2); (try clear hfz29_0 hfz29_1 hfz29_2); (try clear hfz30_0 hfz30_1 hfz30_2); (try clear hfz39_0 hfz39_1 hfz39_2); (try clear hfz8_0 hfz8_1 hfz8_2); (try clear hx199_0); (try clear hx199_1); (try clear hx199_2); (try clear hx202_0); (try clear hx202_1); (try clear hx202_2); (try clear p1); (try clear p19); (try clear p199); (try clear p2); (try clear p202); (try clear q1); (try clear q19); (try clear q199); (try clear q202)
          obtain ⟨kq, x72_32, rfl, HA, HJ32, BK200, HB⟩ := hcut
          cases kq with
          | zero => exact absurd HA.out (by simp [spec_l4targetsOK.j2])
          | succ kj32 =>
           have H := HA.out
           clear HA
           simp only [spec_l4targetsOK.j2] at H
           by_cases c41 : x72_32 = true
           ·subst c41
            have H1 : (some false) = some r := by rw [if_pos rfl] at H; exact H
            clear H
            have H := H1
            clear H1
            obtain rfl := Option.some.inj H
            go_wp2
            repeat (go_quiet (fail); try go_wp2)
            go_ret
            exact ⟨ze, (zs GE200.out)⟩
           ·replace c41 := Bool.eq_false_iff.mpr c41
            subst c41
            have H1 : (spec_l4targetsOK.l1 kj32 l0 a1 x5_1 0 ((rd_T120 l0 x5_1).f0) ((rd_T120 l0 x5_1).f1) ((rd_T120 l0 x5_1).f2)) = some r := by rw [if_neg (show ¬ (false = true) by decide)] at H; exact H
            clear H
            have H := H1
            clear H1
            have H' := zA H
            clear H
            go_wp2
            repeat (go_quiet (fail); try go_wp2)
            go_loopg [7] kj32 (fun kq v7 w' => ∃ (x7_4 : Int), v7 = .int .i64 x7_4 ∧ Aside0 (spec_l4targetsOK.l1 kq l0 a1 x5_1 x7_4 ((rd_T120 l0 x5_1).f0) ((rd_T120 l0 x5_1).f1) ((rd_T120 l0 x5_1).f2) = some r) ∧ Aside0 (kq ≤ kj32) ∧ Aside0 (w'.heap[gb200]? = some (.cells #[(.slice A199_0 ((rd_T120 l0 x5_1).f0).length c199_0), .int .i64 ((rd_T120 l0 x5_1).f1), .int .i64 ((rd_T120 l0 x5_1).f2)] 120 (0, 0))) ∧ Aside0 (Below w.heap.size w w'))
            case atStart => exact ⟨(0), zr, H', ⟨Nat.le_refl _⟩, ⟨zb BK200.out⟩, ⟨zs GE200.out⟩⟩
            case round =>
             clear H'
             (try clear c1); (try clear p1); (try clear q1); (try clear hx1); (try clear c2); (try clear p2); (try clear q2); (try clear hx2); (try clear c3); (try clear c3b0); (try clear c3b1); (try clear hcv3); (try clear c4); (try clear c4b0); (try clear hcv4); (try clear c5); (try clear c5b0); (try clear p6); (try clear c9); (try clear c9b0); (try clear c9b1); (try clear c11); (try clear c11b0); (try clear c11b1); (try clear c13); (try clear c14); (try clear c15); (try clear c15b0); (try clear c19); (try clear c19b0); (try clear p19); (try clear q19); (try clear hx19); (try clear c20); (try clear p20); (try clear q20); (try clear hx20); (try clear c23); (try clear c23b0); (try clear c32); (try clear c34); (try clear c34b0); (try clear c36); (try clear c36b0); (try clear c37); (try clear c37b0); (try clear hcv38); (try clear hcv40); (try clear c41); (try clear hcz10_0 hcz10_1 hcz10_2); (try clear hcz12_0 hcz12_1 hcz12_2); (try clear hcz16_0 hcz16_1 hcz16_2); (try clear hcz18_0 hcz18_1 hcz18_2); (try clear hcz20_0 hcz20_1 hcz20_2); (try clear hcz22_0 hcz22_1 hcz22_2); (try clear hcz24_0 hcz24_1 hcz24_2); (try clear hcz26_0 hcz26_1 hcz26_2); (try clear hcz27_0 hcz27_1 hcz27_2); (try clear hcz29_0 hcz29_1 hcz29_2); (try clear hcz30_0 hcz30_1 hcz30_2); (try clear hcz39_0 hcz39_1 hcz39_2); (try clear hcz8_0 hcz8_1 hcz8_2); (try clear hfz10_0 hfz10_1 hfz10_2); (try clear hfz12_0 hfz12_1 hfz12_2); (try clear hfz16_0 hfz16_1 hfz16_2); (try clear hfz18_0 hfz18_1 hfz18_2); (try clear hfz20_0 hfz20_1 hfz20_2); (try clear hfz22_0 hfz22_1 hfz22_2); (try clear hfz24_0 hfz24_1 hfz24_2); (try clear hfz26_0 hfz26_1 hfz26_2); (try clear hfz27_0 hfz27_1 hfz27_2); (try clear hfz29_0 hfz29_1 hfz29_2); (try clear hfz30_0 hfz30_1 hfz30_2); (try clear hfz39_0 hfz39_1 hfz39_2); (try clear hfz8_0 hfz8_1 hfz8_2); (try clear hx199_0); (try clear hx199_1); (try clear hx199_2); (try clear hx202_0); (try clear hx202_1); (try clear hx202_2); (try clear p1); (try clear p19); (try clear p199); (try clear p2); (try clear p20); (try clear p202); (try clear p6); (try clear q1); (try clear q19); (try clear q199); (try clear q2); (try clear q20); (try clear q202)
             obtain ⟨x7_4, rfl, HA, HK4, BK200, HB⟩ := hrel
             cases gk with
             | zero => exact absurd HA.out (by simp [spec_l4targetsOK.l1])
             | succ k4 =>
              have H := HA.out
              clear HA
              simp only [spec_l4targetsOK.l1] at H
              by_cases c42 : x7_4 < x5_1
              ·rw [if_pos c42] at H
               have c42b0 : decide (x7_4 < x5_1) = true := decide_eq_true c42
               clear c42
               by_cases c43 : 0 ≤ x7_4
               ·rw [if_pos c43] at H
                have c43b0 : decide (0 ≤ x7_4) = true := decide_eq_true c43
                clear c43
                by_cases c44 : x7_4 < (l0.length : Int)
                ·rw [if_pos c44] at H
                 have c44b0 : decide (x7_4 < (l0.length : Int)) = true := decide_eq_true c44
                 clear c44
                 by_cases c45 : ((rd_T120 l0 x7_4).f2) = ((rd_T120 l0 x5_1).f2)
                 ·rw [if_pos c45] at H
                  have c45b0 : (((rd_T120 l0 x7_4).f2) == ((rd_T120 l0 x5_1).f2)) = true := beq_iff_eq.mpr c45
                  have c45b1 : (((rd_T120 l0 x7_4).f2) != ((rd_T120 l0 x5_1).f2)) = false := bne_eq_false_iff_eq.mpr c45
                  clear c45
                  obtain rfl := Option.some.inj H
                  have p203 : 0 ≤ (x7_4 : Int) := zd
                  have q203 : x7_4 < (l0.length : Int) := zd
                  obtain ⟨ad203, A203_0, c203_0, e203, hx203_0, hx203_1, hx203_2, hl203_0, hi203_0⟩ := at_T120 HR0.out x7_4 p203 q203
                  obtain rfl : ad199 = ad203 := (by injection e203)
                  replace hx203_0 := zx HB.out hx203_0
                  replace hx203_1 := zx HB.out hx203_1
                  replace hx203_2 := zx HB.out hx203_2
                  have HR203_0 := zA hi203_0
                  have HC203_0 := zA hl203_0
                  clear hi203_0 hl203_0
                  replace p203 := eq_true p203
                  replace q203 := eq_true q203
                  obtain ⟨hcz46_0, hcz46_1, hcz46_2, hfz46_0, hfz46_1, hfz46_2⟩ := zh3 BK200.out
                  go_wp2
                  repeat (go_quiet (fail); try go_wp2)
                  go_ret
                  exact ⟨ze, (zs GE200.out)⟩
                 ·rw [if_neg c45] at H
                  have c45b0 : (((rd_T120 l0 x7_4).f2) == ((rd_T120 l0 x5_1).f2)) = false := beq_eq_false_iff_ne.mpr c45
                  have c45b1 : (((rd_T120 l0 x7_4).f2) != ((rd_T120 l0 x5_1).f2)) = true := bne_iff_ne.mpr c45
                  have H' := zA H
                  clear H
                  have p203 : 0 ≤ (x7_4 : Int) := zd
                  have q203 : x7_4 < (l0.length : Int) := zd
                  obtain ⟨ad203, A203_0, c203_0, e203, hx203_0, hx203_1, hx203_2, hl203_0, hi203_0⟩ := at_T120 HR0.out x7_4 p203 q203
                  obtain rfl : ad199 = ad203 := (by injection e203)
                  replace hx203_0 := zx HB.out hx203_0
                  replace hx203_1 := zx HB.out hx203_1
                  replace hx203_2 := zx HB.out hx203_2
                  have HR203_0 := zA hi203_0
                  have HC203_0 := zA hl203_0
                  clear hi203_0 hl203_0
                  replace p203 := eq_true p203
                  replace q203 := eq_true q203
                  obtain ⟨hcz47_0, hcz47_1, hcz47_2, hfz47_0, hfz47_1, hfz47_2⟩ := zh3 BK200.out
                  go_wp2
                  repeat (go_quiet (fail); try go_wp2)
                  go_roundg k4
                  case measure => have := HK1.out; have := HJ5.out; have := HJ32.out; have := HK4.out; omega
                  case rel => exact ⟨(wrap64 (x7_4 + 1)), zr, H', ⟨by have := HK1.out; have := HJ5.out; have := HJ32.out; have := HK4.out; omega⟩, ⟨zb BK200.out⟩, ⟨zs GE200.out⟩⟩
                ·rw [if_neg c44] at H
                 exact absurd H (by simp)
               ·rw [if_neg c43] at H
                exact absurd H (by simp)
              ·rw [if_neg c42] at H
               have c42b0 : decide (x7_4 < x5_1) = false := decide_eq_false c42
               clear c42
               have H' := zA H
               clear H
               go_wp2
               repeat (go_quiet (fail); try go_wp2)
               go_roundg k4
               case measure => have := HK1.out; have := HJ5.out; have := HJ32.out; have := HK4.out; omega
               case rel => exact ⟨(wrap64 (x5_1 + 1)), zr, H', ⟨by have := HK1.out; have := HJ5.out; have := HJ32.out; have := HK4.out; omega⟩, ⟨zs GE200.out⟩⟩
     ·rw [if_neg c5] at H
      exact absurd H (by simp)
    ·rw [if_neg c4] at H
     have c4b0 : decide (x5_1 < (l0.length : Int)) = false := decide_eq_false c4
     clear c4
     obtain rfl := Option.some.inj H
     go_wp2
     repeat (go_quiet (fail); try go_wp2)
     go_ret
     exact ⟨ze, z_⟩

end Go.Proofs.YthbeplmihjhoeaaDoor.PFnExactEncodeImage
