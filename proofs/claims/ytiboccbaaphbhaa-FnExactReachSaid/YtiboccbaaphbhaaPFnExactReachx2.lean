-- made by wip/tools/myprint.py (this session's own program, over the kit's printer)
import Derived.Test.YtiboccbaaphbhaaPFnExactReachx0
namespace Go.Proofs.Ytiboccbaaphbhaa.PFnExactReach
open Go.RowKit Go.Proofs.YtiboccbaaphbhaaW.PrintWords Go.Proofs.YtiboccbaaphbhaaW.PrintLast Go.Proofs.YtiboccbaaphbhaaW.PrintMore
attribute [local go_sem] max2_int min2_int max_two min_two max_three min_three max_four min_four   -- for this text's walks alone
set_option linter.unusedVariables false
set_option linter.unusedSimpArgs false

/-! ### spec_ValidGraph: function 28 -/
mutual
def spec_ValidGraph.j0 : Nat → Bool → Int → List Int → List Int → List Int → List Int → Option (Bool)
 | 0, _, _, _, _, _, _ => none
 | k + 1, x29, x145000, x145001, x145002, x145003, x145004 => if x29 = true then (some false) else (if 0 ≤ x145000 then (if x145000 < (x145001.length : Int) then (if (rd x145001 x145000) > 6400 then (spec_ValidGraph.j1 k (rd x145001 x145000) true x145000 x145001 x145002 x145003 x145004) else (if (x145002.length : Int) = (rd x145001 x145000) then (if (x145003.length : Int) = (rd x145001 x145000) then (spec_ValidGraph.j1 k (rd x145001 x145000) ((x145004.length : Int) != (rd x145001 x145000)) x145000 x145001 x145002 x145003 x145004) else (spec_ValidGraph.j1 k (rd x145001 x145000) true x145000 x145001 x145002 x145003 x145004)) else (spec_ValidGraph.j1 k (rd x145001 x145000) true x145000 x145001 x145002 x145003 x145004))) else (none)) else (none))
def spec_ValidGraph.j1 : Nat → Int → Bool → Int → List Int → List Int → List Int → List Int → Option (Bool)
 | 0, _, _, _, _, _, _, _ => none
 | k + 1, x3, x58, x145000, x145001, x145002, x145003, x145004 => if x58 = true then (some false) else (spec_ValidGraph.l0 k x3 0 x145000 x145001 x145002 x145003 x145004)
def spec_ValidGraph.l0 : Nat → Int → Int → Int → List Int → List Int → List Int → List Int → Option (Bool)
 | 0, _, _, _, _, _, _, _ => none
 | k + 1, x3, x4, x145000, x145001, x145002, x145003, x145004 => if x4 < x145000 then (if 0 ≤ (wrap64 (x4 + 1)) then (if (wrap64 (x4 + 1)) < (x145001.length : Int) then (if 0 ≤ x4 then (if x4 < (x145001.length : Int) then (if (rd x145001 (wrap64 (x4 + 1))) < (rd x145001 x4) then (some false) else (spec_ValidGraph.l0 k x3 (wrap64 (x4 + 1)) x145000 x145001 x145002 x145003 x145004)) else (none)) else (none)) else (none)) else (none)) else (spec_ValidGraph.l1 k x3 0 x145000 x145001 x145002 x145003 x145004)
def spec_ValidGraph.l1 : Nat → Int → Int → Int → List Int → List Int → List Int → List Int → Option (Bool)
 | 0, _, _, _, _, _, _, _ => none
 | k + 1, x3, x5, x145000, x145001, x145002, x145003, x145004 => if x5 < x3 then (if 0 ≤ x5 then (if x5 < (x145002.length : Int) then (if (rd x145002 x5) < 0 then (some false) else (if (rd x145002 x5) ≥ x145000 then (some false) else (if x5 < (x145003.length : Int) then (if (rd x145003 x5) < 0 then (some false) else (if (rd x145003 x5) > 3 then (some false) else (if x5 < (x145004.length : Int) then (if (rd x145004 x5) < 1 then (some false) else (if (rd x145004 x5) > 9 then (some false) else (spec_ValidGraph.l1 k x3 (wrap64 (x5 + 1)) x145000 x145001 x145002 x145003 x145004))) else (none)))) else (none)))) else (none)) else (none)) else (some true)
end
def spec_ValidGraph.f (k : Nat) (a0_0 : Int) (l0_1 : List Int) (l0_2 : List Int) (l0_3 : List Int) (l0_4 : List Int) : Option (Bool) := if a0_0 < 1 then (spec_ValidGraph.j0 k true a0_0 l0_1 l0_2 l0_3 l0_4) else (if a0_0 > 1600 then (spec_ValidGraph.j0 k true a0_0 l0_1 l0_2 l0_3 l0_4) else (if (l0_1.length : Int) = (wrap64 (a0_0 + 1)) then (if 0 < (l0_1.length : Int) then (spec_ValidGraph.j0 k ((rd l0_1 0) != 0) a0_0 l0_1 l0_2 l0_3 l0_4) else (none)) else (spec_ValidGraph.j0 k true a0_0 l0_1 l0_2 l0_3 l0_4)))
theorem spec_ValidGraph.mono_l : ∀ k, (∀ y0 y1 y2 y3 y4 y5, LeO (spec_ValidGraph.j0 k y0 y1 y2 y3 y4 y5) (spec_ValidGraph.j0 (k + 1) y0 y1 y2 y3 y4 y5)) ∧ (∀ y0 y1 y2 y3 y4 y5 y6, LeO (spec_ValidGraph.j1 k y0 y1 y2 y3 y4 y5 y6) (spec_ValidGraph.j1 (k + 1) y0 y1 y2 y3 y4 y5 y6)) ∧ (∀ y0 y1 y2 y3 y4 y5 y6, LeO (spec_ValidGraph.l0 k y0 y1 y2 y3 y4 y5 y6) (spec_ValidGraph.l0 (k + 1) y0 y1 y2 y3 y4 y5 y6)) ∧ (∀ y0 y1 y2 y3 y4 y5 y6, LeO (spec_ValidGraph.l1 k y0 y1 y2 y3 y4 y5 y6) (spec_ValidGraph.l1 (k + 1) y0 y1 y2 y3 y4 y5 y6))
 | 0 => ⟨fun _ _ _ _ _ _ r h => by simp [spec_ValidGraph.j0] at h, fun _ _ _ _ _ _ _ r h => by simp [spec_ValidGraph.j1] at h, fun _ _ _ _ _ _ _ r h => by simp [spec_ValidGraph.l0] at h, fun _ _ _ _ _ _ _ r h => by simp [spec_ValidGraph.l1] at h⟩
 | k + 1 => by
  obtain ⟨ih0, ih1, ih2, ih3⟩ := spec_ValidGraph.mono_l k
  refine ⟨?_, ?_, ?_, ?_⟩
  ·intro y0 y1 y2 y3 y4 y5
   unfold spec_ValidGraph.j0
   exact zm
  ·intro y0 y1 y2 y3 y4 y5 y6
   unfold spec_ValidGraph.j1
   exact zm
  ·intro y0 y1 y2 y3 y4 y5 y6
   unfold spec_ValidGraph.l0
   exact zm
  ·intro y0 y1 y2 y3 y4 y5 y6
   unfold spec_ValidGraph.l1
   exact zm
theorem spec_ValidGraph.mono : ∀ a0 a1 a2 a3 a4 k, LeO (spec_ValidGraph.f k a0 a1 a2 a3 a4) (spec_ValidGraph.f (k + 1) a0 a1 a2 a3 a4) := by
 intro a0 a1 a2 a3 a4 k
 obtain ⟨ih0, ih1, ih2, ih3⟩ := spec_ValidGraph.mono_l k
 unfold spec_ValidGraph.f
 exact zm
set_option maxHeartbeats 8000000 in
set_option maxRecDepth 100000 in
theorem spec_ValidGraph.calls (k : Nat) (a0_0 : Int) (A0_1 : Option Addr) (c0_1 : Nat) (l0_1 : List Int) (A0_2 : Option Addr) (c0_2 : Nat) (l0_2 : List Int) (A0_3 : Option Addr) (c0_3 : Nat) (l0_3 : List Int) (A0_4 : Option Addr) (c0_4 : Nat) (l0_4 : List Int) (r : Bool) (w : World) (hr0_1 : Kd.C (Kd.int .i64) w A0_1 l0_1.length l0_1) (hc0_1 : l0_1.length ≤ c0_1) (hr0_2 : Kd.C (Kd.int .i64) w A0_2 l0_2.length l0_2) (hc0_2 : l0_2.length ≤ c0_2) (hr0_3 : Kd.C (Kd.int .i64) w A0_3 l0_3.length l0_3) (hc0_3 : l0_3.length ≤ c0_3) (hr0_4 : Kd.C (Kd.int .i64) w A0_4 l0_4.length l0_4) (hc0_4 : l0_4.length ≤ c0_4) (h : spec_ValidGraph.f k a0_0 l0_1 l0_2 l0_3 l0_4 = some r) :
  Calls Try.prog 28 #[.agg #[.int .i64 a0_0, .slice A0_1 l0_1.length c0_1, .slice A0_2 l0_2.length c0_2, .slice A0_3 l0_3.length c0_3, .slice A0_4 l0_4.length c0_4]] w fun e w' => e = .returned (.bool r) ∧ Below w.heap.size w w' := by
 have hu26 := Try.underlying26
 have HR0_1 := zA hr0_1
 have HC0_1 := zA hc0_1
 clear hr0_1 hc0_1
 have HR0_2 := zA hr0_2
 have HC0_2 := zA hc0_2
 clear hr0_2 hc0_2
 have HR0_3 := zA hr0_3
 have HC0_3 := zA hc0_3
 clear hr0_3 hc0_3
 have HR0_4 := zA hr0_4
 have HC0_4 := zA hc0_4
 clear hr0_4 hc0_4
 have HB := zA (Below.refl w.heap.size w)
 have H : (if a0_0 < 1 then (spec_ValidGraph.j0 k true a0_0 l0_1 l0_2 l0_3 l0_4) else (if a0_0 > 1600 then (spec_ValidGraph.j0 k true a0_0 l0_1 l0_2 l0_3 l0_4) else (if (l0_1.length : Int) = (wrap64 (a0_0 + 1)) then (if 0 < (l0_1.length : Int) then (spec_ValidGraph.j0 k ((rd l0_1 0) != 0) a0_0 l0_1 l0_2 l0_3 l0_4) else (none)) else (spec_ValidGraph.j0 k true a0_0 l0_1 l0_2 l0_3 l0_4)))) = some r := h
 clear h
 have HC2 := zA H
 clear H
 go_enter Try.func28, Try.ntmps28
 go_upto_region 1 with (first | ((with_reducible refine gate_dst (N := 1) rfl ?_); (try (refine gate_guard (by rfl) ?_; dsimp only)); refine box_event ?hg (N := 1) ?hd (cs := #[.int .i64 a0_0, .slice A0_1 l0_1.length c0_1, .slice A0_2 l0_2.length c0_2, .slice A0_3 l0_3.length c0_3, .slice A0_4 l0_4.length c0_4]) (t := 26) ?hr ?_; (case hd => rfl); (case hg => rfl); (case hr => first | (go_simp; done) | (go_simp; rfl)); intro gb144 hg w3 hbox hb; have n0_ := zA (below_step z_ hb); have n1_ := zA (hbox); have n2_ := zA ((by rw [hg]; exact (below_size z_) : w.heap.size ≤ gb144)); have n3_ := zA ((by rw [hg]; exact (below_size z_) : w.heap.size ≤ gb144)); clear HB; have HB := n0_; have BK144 := n1_; have GW144 := n2_; have GE144 := n3_; clear n0_ n1_ n2_ n3_; clear hb hbox hg))
 repeat (go_quiet (first | ((with_reducible refine gate_dst (N := 1) rfl ?_); (try (refine gate_guard (by rfl) ?_; dsimp only)); refine box_event ?hg (N := 1) ?hd (cs := #[.int .i64 a0_0, .slice A0_1 l0_1.length c0_1, .slice A0_2 l0_2.length c0_2, .slice A0_3 l0_3.length c0_3, .slice A0_4 l0_4.length c0_4]) (t := 26) ?hr ?_; (case hd => rfl); (case hg => rfl); (case hr => first | (go_simp; done) | (go_simp; rfl)); intro gb144 hg w3 hbox hb; have n0_ := zA (below_step z_ hb); have n1_ := zA (hbox); have n2_ := zA ((by rw [hg]; exact (below_size z_) : w.heap.size ≤ gb144)); have n3_ := zA ((by rw [hg]; exact (below_size z_) : w.heap.size ≤ gb144)); clear HB; have HB := n0_; have BK144 := n1_; have GW144 := n2_; have GE144 := n3_; clear n0_ n1_ n2_ n3_; clear hb hbox hg)); go_upto_region 1 with (first | ((with_reducible refine gate_dst (N := 1) rfl ?_); (try (refine gate_guard (by rfl) ?_; dsimp only)); refine box_event ?hg (N := 1) ?hd (cs := #[.int .i64 a0_0, .slice A0_1 l0_1.length c0_1, .slice A0_2 l0_2.length c0_2, .slice A0_3 l0_3.length c0_3, .slice A0_4 l0_4.length c0_4]) (t := 26) ?hr ?_; (case hd => rfl); (case hg => rfl); (case hr => first | (go_simp; done) | (go_simp; rfl)); intro gb144 hg w3 hbox hb; have n0_ := zA (below_step z_ hb); have n1_ := zA (hbox); have n2_ := zA ((by rw [hg]; exact (below_size z_) : w.heap.size ≤ gb144)); have n3_ := zA ((by rw [hg]; exact (below_size z_) : w.heap.size ≤ gb144)); clear HB; have HB := n0_; have BK144 := n1_; have GW144 := n2_; have GE144 := n3_; clear n0_ n1_ n2_ n3_; clear hb hbox hg)))
 (try simp only [Act.put, List.setIfInBounds_toArray, List.set_cons_zero, List.set_cons_succ])
 go_cut [29] (fun v29 wc => ∃ (kq : Nat) (x29_1 : Bool), v29 = .bool x29_1 ∧ Aside0 (spec_ValidGraph.j0 kq x29_1 a0_0 l0_1 l0_2 l0_3 l0_4 = some r) ∧ Aside0 (kq ≤ k) ∧ Aside0 (wc.heap[gb144]? = some (.cells #[.int .i64 a0_0, (.slice A0_1 l0_1.length c0_1), (.slice A0_2 l0_2.length c0_2), (.slice A0_3 l0_3.length c0_3), (.slice A0_4 l0_4.length c0_4)] 26 (0, 0))) ∧ Aside0 (Below w.heap.size w wc))
 case first =>
  have H := HC2.out
  clear HC2
  by_cases c4 : a0_0 < 1
  ·rw [if_pos c4] at H
   have c4b0 : decide (a0_0 < 1) = true := decide_eq_true c4
   clear c4
   (first | rw [c4b0] | (simp only [i64_w, i32_w]; rw [c4b0]) | skip)
   have H' := zA H
   clear H
   obtain ⟨hcz5_0, hcz5_1, hcz5_2, hcz5_3, hcz5_4, hfz5_0, hfz5_1, hfz5_2, hfz5_3, hfz5_4⟩ := zh5 BK144.out
   go_wp2
   repeat (go_quiet (fail); try go_wp2)
   go_meet
   case rel => exact ⟨_, (true), zr, H', ⟨by first | omega | exact Nat.le_refl _⟩, ⟨zb BK144.out⟩, ⟨zs GE144.out⟩⟩
  ·rw [if_neg c4] at H
   have c4b0 : decide (a0_0 < 1) = false := decide_eq_false c4
   clear c4
   (first | rw [c4b0] | (simp only [i64_w, i32_w]; rw [c4b0]) | skip)
   by_cases c6 : a0_0 > 1600
   ·rw [if_pos c6] at H
    have c6b0 : decide (1600 < a0_0) = true := decide_eq_true c6
    clear c6
    have H' := zA H
    clear H
    obtain ⟨hcz7_0, hcz7_1, hcz7_2, hcz7_3, hcz7_4, hfz7_0, hfz7_1, hfz7_2, hfz7_3, hfz7_4⟩ := zh5 BK144.out
    go_wp2
    repeat (go_quiet (fail); try go_wp2)
    go_meet
    case rel => exact ⟨_, (true), zr, H', ⟨by first | omega | exact Nat.le_refl _⟩, ⟨zb BK144.out⟩, ⟨zs GE144.out⟩⟩
   ·rw [if_neg c6] at H
    have c6b0 : decide (1600 < a0_0) = false := decide_eq_false c6
    clear c6
    by_cases c8 : (l0_1.length : Int) = (wrap64 (a0_0 + 1))
    ·rw [if_pos c8] at H
     have c8b0 : ((l0_1.length : Int) == (wrap64 (a0_0 + 1))) = true := beq_iff_eq.mpr c8
     have c8b1 : ((l0_1.length : Int) != (wrap64 (a0_0 + 1))) = false := bne_eq_false_iff_eq.mpr c8
     clear c8
     by_cases c9 : 0 < (l0_1.length : Int)
     ·rw [if_pos c9] at H
      have c9b0 : decide (0 < (l0_1.length : Int)) = true := decide_eq_true c9
      have c9b1 : decide (0 < l0_1.length) = true := decide_eq_true (by omega)
      clear c9
      have H' := zA H
      clear H
      obtain ⟨hcz10_0, hcz10_1, hcz10_2, hcz10_3, hcz10_4, hfz10_0, hfz10_1, hfz10_2, hfz10_3, hfz10_4⟩ := zh5 BK144.out
      have p145 : 0 ≤ (0 : Int) := (by omega)
      have q145 : 0 < (l0_1.length : Int) := zd
      obtain ⟨ad145, e145, hx145_0⟩ := Kd.at_int HR0_1.out 0 p145 q145
      cases e145
      have qi145 : (0 < l0_1.length) = True := eq_true (by omega)
      (try rw [show ((0 : Int)).toNat = 0 from rfl] at hx145_0)
      (try rw [Addr.add_zero'] at hx145_0)
      replace hx145_0 := zx HB.out hx145_0
      replace p145 := eq_true p145
      replace q145 := eq_true q145
      go_wp2
      repeat (go_quiet (fail); try go_wp2)
      go_meet
      case rel => exact ⟨_, (((rd l0_1 0) != 0)), zr, H', ⟨by first | omega | exact Nat.le_refl _⟩, ⟨zb BK144.out⟩, ⟨zs GE144.out⟩⟩
     ·rw [if_neg c9] at H
      exact absurd H (by simp)
    ·rw [if_neg c8] at H
     have c8b0 : ((l0_1.length : Int) == (wrap64 (a0_0 + 1))) = false := beq_eq_false_iff_ne.mpr c8
     have c8b1 : ((l0_1.length : Int) != (wrap64 (a0_0 + 1))) = true := bne_iff_ne.mpr c8
     have H' := zA H
     clear H
     obtain ⟨hcz11_0, hcz11_1, hcz11_2, hcz11_3, hcz11_4, hfz11_0, hfz11_1, hfz11_2, hfz11_3, hfz11_4⟩ := zh5 BK144.out
     go_wp2
     repeat (go_quiet (fail); try go_wp2)
     go_meet
     case rel => exact ⟨_, (true), zr, H', ⟨by first | omega | exact Nat.le_refl _⟩, ⟨zb BK144.out⟩, ⟨zs GE144.out⟩⟩
 case rest =>
  clear HC2
  (try clear p1); (try clear q1); (try clear hx1); (try clear qi1); (try clear c2); (try clear p2); (try clear c4); (try clear c4b0); (try clear c6); (try clear c6b0); (try clear p6); (try clear c8); (try clear c8b0); (try clear c8b1); (try clear c9); (try clear c9b0); (try clear c9b1); (try clear hcz10_0 hcz10_1 hcz10_2 hcz10_3 hcz10_4); (try clear hcz11_0 hcz11_1 hcz11_2 hcz11_3 hcz11_4); (try clear hcz5_0 hcz5_1 hcz5_2 hcz5_3 hcz5_4); (try clear hcz7_0 hcz7_1 hcz7_2 hcz7_3 hcz7_4); (try clear hfz10_0 hfz10_1 hfz10_2 hfz10_3 hfz10_4); (try clear hfz11_0 hfz11_1 hfz11_2 hfz11_3 hfz11_4); (try clear hfz5_0 hfz5_1 hfz5_2 hfz5_3 hfz5_4); (try clear hfz7_0 hfz7_1 hfz7_2 hfz7_3 hfz7_4); (try clear hx145_0); (try clear p145); (try clear q145)
  obtain ⟨kq, x29_1, rfl, HA, HJ1, BK144, HB⟩ := hcut
  cases kq with
  | zero => exact absurd HA.out (by simp [spec_ValidGraph.j0])
  | succ kj1 =>
   have H := HA.out
   clear HA
   simp only [spec_ValidGraph.j0] at H
   by_cases c12 : x29_1 = true
   ·subst c12
    have H1 : (some false) = some r := by rw [if_pos rfl] at H; exact H
    clear H
    have H := H1
    clear H1
    obtain rfl := Option.some.inj H
    go_wp2
    repeat (go_quiet (fail); try go_wp2)
    go_ret
    exact ⟨ze, (zs GE144.out)⟩
   ·replace c12 := Bool.eq_false_iff.mpr c12
    subst c12
    have H1 : (if 0 ≤ a0_0 then (if a0_0 < (l0_1.length : Int) then (if (rd l0_1 a0_0) > 6400 then (spec_ValidGraph.j1 kj1 (rd l0_1 a0_0) true a0_0 l0_1 l0_2 l0_3 l0_4) else (if (l0_2.length : Int) = (rd l0_1 a0_0) then (if (l0_3.length : Int) = (rd l0_1 a0_0) then (spec_ValidGraph.j1 kj1 (rd l0_1 a0_0) ((l0_4.length : Int) != (rd l0_1 a0_0)) a0_0 l0_1 l0_2 l0_3 l0_4) else (spec_ValidGraph.j1 kj1 (rd l0_1 a0_0) true a0_0 l0_1 l0_2 l0_3 l0_4)) else (spec_ValidGraph.j1 kj1 (rd l0_1 a0_0) true a0_0 l0_1 l0_2 l0_3 l0_4))) else (none)) else (none)) = some r := by rw [if_neg (show ¬ (false = true) by decide)] at H; exact H
    clear H
    have H := H1
    clear H1
    by_cases c13 : 0 ≤ a0_0
    ·rw [if_pos c13] at H
     have c13b0 : decide (0 ≤ a0_0) = true := decide_eq_true c13
     clear c13
     by_cases c14 : a0_0 < (l0_1.length : Int)
     ·rw [if_pos c14] at H
      have c14b0 : decide (a0_0 < (l0_1.length : Int)) = true := decide_eq_true c14
      clear c14
      have HC15 := zA H
      clear H
      obtain ⟨hcz16_0, hcz16_1, hcz16_2, hcz16_3, hcz16_4, hfz16_0, hfz16_1, hfz16_2, hfz16_3, hfz16_4⟩ := zh5 BK144.out
      have p146 : 0 ≤ (a0_0 : Int) := zd
      have q146 : a0_0 < (l0_1.length : Int) := zd
      obtain ⟨ad146, e146, hx146_0⟩ := Kd.at_int HR0_1.out a0_0 p146 q146
      cases e146
      replace hx146_0 := zx HB.out hx146_0
      replace p146 := eq_true p146
      replace q146 := eq_true q146
      go_upto_region 4 with (fail)
      repeat (go_quiet (fail); go_upto_region 4 with (fail))
      go_cut [58] (fun v58 wc => ∃ (kq : Nat) (x58_14 : Bool), v58 = .bool x58_14 ∧ Aside0 (spec_ValidGraph.j1 kq (rd l0_1 a0_0) x58_14 a0_0 l0_1 l0_2 l0_3 l0_4 = some r) ∧ Aside0 (kq ≤ kj1) ∧ Aside0 (wc.heap[gb144]? = some (.cells #[.int .i64 a0_0, (.slice (some ad146) l0_1.length c0_1), (.slice A0_2 l0_2.length c0_2), (.slice A0_3 l0_3.length c0_3), (.slice A0_4 l0_4.length c0_4)] 26 (0, 0))) ∧ Aside0 (Below w.heap.size w wc))
      case first =>
       have H := HC15.out
       clear HC15
       by_cases c17 : (rd l0_1 a0_0) > 6400
       ·rw [if_pos c17] at H
        have c17b0 : decide (6400 < (rd l0_1 a0_0)) = true := decide_eq_true c17
        clear c17
        (first | rw [c17b0] | (simp only [i64_w, i32_w]; rw [c17b0]) | skip)
        have H' := zA H
        clear H
        go_wp2
        repeat (go_quiet (fail); try go_wp2)
        go_meet
        case rel => exact ⟨_, (true), zr, H', ⟨by have := HJ1.out; first | omega | exact Nat.le_refl _⟩, ⟨zb BK144.out⟩, ⟨zs GE144.out⟩⟩
       ·rw [if_neg c17] at H
        have c17b0 : decide (6400 < (rd l0_1 a0_0)) = false := decide_eq_false c17
        clear c17
        (first | rw [c17b0] | (simp only [i64_w, i32_w]; rw [c17b0]) | skip)
        by_cases c18 : (l0_2.length : Int) = (rd l0_1 a0_0)
        ·rw [if_pos c18] at H
         have c18b0 : ((l0_2.length : Int) == (rd l0_1 a0_0)) = true := beq_iff_eq.mpr c18
         have c18b1 : ((l0_2.length : Int) != (rd l0_1 a0_0)) = false := bne_eq_false_iff_eq.mpr c18
         clear c18
         by_cases c19 : (l0_3.length : Int) = (rd l0_1 a0_0)
         ·rw [if_pos c19] at H
          have c19b0 : ((l0_3.length : Int) == (rd l0_1 a0_0)) = true := beq_iff_eq.mpr c19
          have c19b1 : ((l0_3.length : Int) != (rd l0_1 a0_0)) = false := bne_eq_false_iff_eq.mpr c19
          clear c19
          have H' := zA H
          clear H
          obtain ⟨hcz20_0, hcz20_1, hcz20_2, hcz20_3, hcz20_4, hfz20_0, hfz20_1, hfz20_2, hfz20_3, hfz20_4⟩ := zh5 BK144.out
          go_wp2
          repeat (go_quiet (fail); try go_wp2)
          go_meet
          case rel => exact ⟨_, (((l0_4.length : Int) != (rd l0_1 a0_0))), zr, H', ⟨by have := HJ1.out; first | omega | exact Nat.le_refl _⟩, ⟨zb BK144.out⟩, ⟨zs GE144.out⟩⟩
         ·rw [if_neg c19] at H
          have c19b0 : ((l0_3.length : Int) == (rd l0_1 a0_0)) = false := beq_eq_false_iff_ne.mpr c19
          have c19b1 : ((l0_3.length : Int) != (rd l0_1 a0_0)) = true := bne_iff_ne.mpr c19
          have H' := zA H
          clear H
          obtain ⟨hcz21_0, hcz21_1, hcz21_2, hcz21_3, hcz21_4, hfz21_0, hfz21_1, hfz21_2, hfz21_3, hfz21_4⟩ := zh5 BK144.out
          go_wp2
          repeat (go_quiet (fail); try go_wp2)
          go_meet
          case rel => exact ⟨_, (true), zr, H', ⟨by have := HJ1.out; first | omega | exact Nat.le_refl _⟩, ⟨zb BK144.out⟩, ⟨zs GE144.out⟩⟩
        ·rw [if_neg c18] at H
         have c18b0 : ((l0_2.length : Int) == (rd l0_1 a0_0)) = false := beq_eq_false_iff_ne.mpr c18
         have c18b1 : ((l0_2.length : Int) != (rd l0_1 a0_0)) = true := bne_iff_ne.mpr c18
         have H' := zA H
         clear H
         obtain ⟨hcz22_0, hcz22_1, hcz22_2, hcz22_3, hcz22_4, hfz22_0, hfz22_1, hfz22_2, hfz22_3, hfz22_4⟩ := zh5 BK144.out
         go_wp2
         repeat (go_quiet (fail); try go_wp2)
         go_meet
         case rel => exact ⟨_, (true), zr, H', ⟨by have := HJ1.out; first | omega | exact Nat.le_refl _⟩, ⟨zb BK144.out⟩, ⟨zs GE144.out⟩⟩
      case rest =>
       clear HC15
       (try clear c1); (try clear p1); (try clear q1); (try clear hx1); (try clear qi1); (try clear c2); (try clear p2); (try clear c4); (try clear c4b0); (try clear c6); (try clear c6b0); (try clear p6); (try clear c8); (try clear c8b0); (try clear c8b1); (try clear c9); (try clear c9b0); (try clear c9b1); (try clear c12); (try clear c13); (try clear c13b0); (try clear c14); (try clear c14b0); (try clear p14); (try clear q14); (try clear hx14); (try clear qi14); (try clear c17); (try clear c17b0); (try clear c18); (try clear c18b0); (try clear c18b1); (try clear c19); (try clear c19b0); (try clear c19b1); (try clear hcz10_0 hcz10_1 hcz10_2 hcz10_3 hcz10_4); (try clear hcz11_0 hcz11_1 hcz11_2 hcz11_3 hcz11_4); (try clear hcz16_0 hcz16_1 hcz16_2 hcz16_3 hcz16_4); (try clear hcz20_0 hcz20_1 hcz20_2 hcz20_3 hcz20_4); (try clear hcz21_0 hcz21_1 hcz21_2 hcz21_3 hcz21_4); (try clear hcz22_0 hcz22_1 hcz22_2 hcz22_3 hcz22_4); (try clear hcz5_0 hcz5_1 hcz5_2 hcz5_3 hcz5_4); (try clear hcz7_0 hcz7_1 hcz7_2 hcz7_3 hcz7_4); (try clear hfz10_0 hfz10_1 hfz10_2 hfz10_3 hfz10_4); (try clear hfz11_0 hfz11_1 hfz11_2 hfz11_3 hfz11_4); (try clear hfz16_0 hfz16_1 hfz16_2 hfz16_3 hfz16_4); (try clear hfz20_0 hfz20_1 hfz20_2 hfz20_3 hfz20_4); (try clear hfz21_0 hfz21_1 hfz21_2 hfz21_3 hfz21_4); (try clear hfz22_0 hfz22_1 hfz22_2 hfz22_3 hfz22_4); (try clear hfz5_0 hfz5_1 hfz5_2 hfz5_3 hfz5_4); (try clear hfz7_0 hfz7_1 hfz7_2 hfz7_3 hfz7_4); (try clear hx145_0); (try clear hx146_0); (try clear p1); (try clear p145); (try clear p146); (try clear p2); (try clear p6); (try clear q1); (try clear q145); (try clear q146)
       obtain ⟨kq, x58_14, rfl, HA, HJ14, BK144, HB⟩ := hcut
       cases kq with
       | zero => exact absurd HA.out (by simp [spec_ValidGraph.j1])
       | succ kj14 =>
        have H := HA.out
        clear HA
        simp only [spec_ValidGraph.j1] at H
        by_cases c23 : x58_14 = true
        ·subst c23
         have H1 : (some false) = some r := by rw [if_pos rfl] at H; exact H
         clear H
         have H := H1
         clear H1
         obtain rfl := Option.some.inj H
         go_wp2
         repeat (go_quiet (fail); try go_wp2)
         go_ret
         exact ⟨ze, (zs GE144.out)⟩
        ·replace c23 := Bool.eq_false_iff.mpr c23
         subst c23
         have H1 : (spec_ValidGraph.l0 kj14 (rd l0_1 a0_0) 0 a0_0 l0_1 l0_2 l0_3 l0_4) = some r := by rw [if_neg (show ¬ (false = true) by decide)] at H; exact H
         clear H
         have H := H1
         clear H1
         have H' := zA H
         clear H
         go_wp2
         repeat (go_quiet (fail); try go_wp2)
         go_loopg [4] kj14 (fun kq v4 w' => ∃ (x4_3 : Int), v4 = .int .i64 x4_3 ∧ Aside0 (spec_ValidGraph.l0 kq (rd l0_1 a0_0) x4_3 a0_0 l0_1 l0_2 l0_3 l0_4 = some r) ∧ Aside0 (kq ≤ kj14) ∧ Aside0 (w'.heap[gb144]? = some (.cells #[.int .i64 a0_0, (.slice (some ad146) l0_1.length c0_1), (.slice A0_2 l0_2.length c0_2), (.slice A0_3 l0_3.length c0_3), (.slice A0_4 l0_4.length c0_4)] 26 (0, 0))) ∧ Aside0 (Below w.heap.size w w'))
         case atStart => exact ⟨(0), zr, H', ⟨Nat.le_refl _⟩, ⟨zb BK144.out⟩, ⟨zs GE144.out⟩⟩
         case round =>
          clear H'
          (try clear c1); (try clear p1); (try clear q1); (try clear hx1); (try clear qi1); (try clear c2); (try clear p2); (try clear c4); (try clear c4b0); (try clear c6); (try clear c6b0); (try clear p6); (try clear c8); (try clear c8b0); (try clear c8b1); (try clear c9); (try clear c9b0); (try clear c9b1); (try clear c12); (try clear c13); (try clear c13b0); (try clear c14); (try clear c14b0); (try clear p14); (try clear q14); (try clear hx14); (try clear qi14); (try clear c17); (try clear c17b0); (try clear c18); (try clear c18b0); (try clear c18b1); (try clear c19); (try clear c19b0); (try clear c19b1); (try clear c23); (try clear hcz10_0 hcz10_1 hcz10_2 hcz10_3 hcz10_4); (try clear hcz11_0 hcz11_1 hcz11_2 hcz11_3 hcz11_4); (try clear hcz16_0 hcz16_1 hcz16_2 hcz16_3 hcz16_4); (try clear hcz20_0 hcz20_1 hcz20_2 hcz20_3 hcz20_4); (try clear hcz21_0 hcz21_1 hcz21_2 hcz21_3 hcz21_4); (try clear hcz22_0 hcz22_1 hcz22_2 hcz22_3 hcz22_4); (try clear hcz5_0 hcz5_1 hcz5_2 hcz5_3 hcz5_4); (try clear hcz7_0 hcz7_1 hcz7_2 hcz7_3 hcz7_4); (try clear hfz10_0 hfz10_1 hfz10_2 hfz10_3 hfz10_4); (try clear hfz11_0 hfz11_1 hfz11_2 hfz11_3 hfz11_4); (try clear hfz16_0 hfz16_1 hfz16_2 hfz16_3 hfz16_4); (try clear hfz20_0 hfz20_1 hfz20_2 hfz20_3 hfz20_4); (try clear hfz21_0 hfz21_1 hfz21_2 hfz21_3 hfz21_4); (try clear hfz22_0 hfz22_1 hfz22_2 hfz22_3 hfz22_4); (try clear hfz5_0 hfz5_1 hfz5_2 hfz5_3 hfz5_4); (try clear hfz7_0 hfz7_1 hfz7_2 hfz7_3 hfz7_4); (try clear hx145_0); (try clear hx146_0); (try clear p1); (try clear p14); (try clear p145); (try clear p146); (try clear p2); (try clear p6); (try clear q1); (try clear q14); (try clear q145); (try clear q146)
          obtain ⟨x4_3, rfl, HA, HK3, BK144, HB⟩ := hrel
          cases gk with
          | zero => exact absurd HA.out (by simp [spec_ValidGraph.l0])
          | succ k3 =>
           have H := HA.out
           clear HA
           simp only [spec_ValidGraph.l0] at H
           by_cases c24 : x4_3 < a0_0
           ·rw [if_pos c24] at H
            have c24b0 : decide (x4_3 < a0_0) = true := decide_eq_true c24
            clear c24
            obtain ⟨ji25, hji25⟩ : ∃ j_ : Int, (wrap64 (x4_3 + 1)) = j_ := ⟨_, rfl⟩
            replace H : (if 0 ≤ (ji25) then (if (ji25) < (l0_1.length : Int) then (if 0 ≤ x4_3 then (if x4_3 < (l0_1.length : Int) then (if (rd l0_1 (ji25)) < (rd l0_1 x4_3) then (some false) else (spec_ValidGraph.l0 k3 (rd l0_1 a0_0) ji25 a0_0 l0_1 l0_2 l0_3 l0_4)) else (none)) else (none)) else (none)) else (none)) = some r := by first | (rw [hji25] at H; exact H) | (simp only [hji25] at H ⊢; exact H)
            have hji25w : (IntKind.i64.wrap (x4_3 + 1)) = ji25 := (i64_w _).trans hji25
            by_cases c26 : 0 ≤ (ji25)
            ·rw [if_pos c26] at H
             have c26b0 : decide (0 ≤ (ji25)) = true := decide_eq_true c26
             clear c26
             by_cases c27 : (ji25) < (l0_1.length : Int)
             ·rw [if_pos c27] at H
              have c27b0 : decide ((ji25) < (l0_1.length : Int)) = true := decide_eq_true c27
              clear c27
              by_cases c28 : 0 ≤ x4_3
              ·rw [if_pos c28] at H
               have c28b0 : decide (0 ≤ x4_3) = true := decide_eq_true c28
               clear c28
               by_cases c29 : x4_3 < (l0_1.length : Int)
               ·rw [if_pos c29] at H
                have c29b0 : decide (x4_3 < (l0_1.length : Int)) = true := decide_eq_true c29
                clear c29
                by_cases c30 : (rd l0_1 (ji25)) < (rd l0_1 x4_3)
                ·rw [if_pos c30] at H
                 have c30b0 : decide ((rd l0_1 (ji25)) < (rd l0_1 x4_3)) = true := decide_eq_true c30
                 clear c30
                 obtain rfl := Option.some.inj H
                 obtain ⟨hcz31_0, hcz31_1, hcz31_2, hcz31_3, hcz31_4, hfz31_0, hfz31_1, hfz31_2, hfz31_3, hfz31_4⟩ := zh5 BK144.out
                 have p147 : 0 ≤ ((ji25) : Int) := zd
                 have q147 : (ji25) < (l0_1.length : Int) := zd
                 obtain ⟨ad147, e147, hx147_0⟩ := Kd.at_int HR0_1.out (ji25) p147 q147
                 obtain rfl : ad146 = ad147 := (by injection e147)
                 replace hx147_0 := zx HB.out hx147_0
                 replace p147 := eq_true p147
                 replace q147 := eq_true q147
                 have p148 : 0 ≤ (x4_3 : Int) := zd
                 have q148 : x4_3 < (l0_1.length : Int) := zd
                 obtain ⟨ad148, e148, hx148_0⟩ := Kd.at_int HR0_1.out x4_3 p148 q148
                 obtain rfl : ad146 = ad148 := (by injection e148)
                 replace hx148_0 := zx HB.out hx148_0
                 replace p148 := eq_true p148
                 replace q148 := eq_true q148
                 go_wp2
                 repeat (go_quiet (fail); try go_wp2)
                 go_ret
                 exact ⟨by first | rfl | (simp [errW_none, errW_some] <;> rfl) | (simp only [← hji25]; first | rfl | (simp [errW_none, errW_some] <;> rfl)) | (simp [*, errW_none, errW_some] <;> rfl), (zs GE144.out)⟩
                ·rw [if_neg c30] at H
                 have c30b0 : decide ((rd l0_1 (ji25)) < (rd l0_1 x4_3)) = false := decide_eq_false c30
                 clear c30
                 have H' := zA H
                 clear H
                 obtain ⟨hcz32_0, hcz32_1, hcz32_2, hcz32_3, hcz32_4, hfz32_0, hfz32_1, hfz32_2, hfz32_3, hfz32_4⟩ := zh5 BK144.out
                 have p147 : 0 ≤ ((ji25) : Int) := zd
                 have q147 : (ji25) < (l0_1.length : Int) := zd
                 obtain ⟨ad147, e147, hx147_0⟩ := Kd.at_int HR0_1.out (ji25) p147 q147
                 obtain rfl : ad146 = ad147 := (by injection e147)
                 replace hx147_0 := zx HB.out hx147_0
                 replace p147 := eq_true p147
                 replace q147 := eq_true q147
                 have p148 : 0 ≤ (x4_3 : Int) := zd
                 have q148 : x4_3 < (l0_1.length : Int) := zd
                 obtain ⟨ad148, e148, hx148_0⟩ := Kd.at_int HR0_1.out x4_3 p148 q148
                 obtain rfl : ad146 = ad148 := (by injection e148)
                 replace hx148_0 := zx HB.out hx148_0
                 replace p148 := eq_true p148
                 replace q148 := eq_true q148
                 go_wp2
                 repeat (go_quiet (fail); try go_wp2)
                 go_roundg k3
                 case measure => have := HJ1.out; have := HJ14.out; have := HK3.out; omega
                 case rel => exact ⟨(ji25), (by first | rfl | (simp; done) | (simp only [← hji25] <;> (first | rfl | simp)) | (simp [*]; done)), H', ⟨by have := HJ1.out; have := HJ14.out; have := HK3.out; omega⟩, ⟨zb BK144.out⟩, ⟨zs GE144.out⟩⟩
               ·rw [if_neg c29] at H
                exact absurd H (by simp)
              ·rw [if_neg c28] at H
               exact absurd H (by simp)
             ·rw [if_neg c27] at H
              exact absurd H (by simp)
            ·rw [if_neg c26] at H
             exact absurd H (by simp)
           ·rw [if_neg c24] at H
            have c24b0 : decide (x4_3 < a0_0) = false := decide_eq_false c24
            clear c24
            have H' := zA H
            clear H
            obtain ⟨hcz33_0, hcz33_1, hcz33_2, hcz33_3, hcz33_4, hfz33_0, hfz33_1, hfz33_2, hfz33_3, hfz33_4⟩ := zh5 BK144.out
            go_wp2
            repeat (go_quiet (fail); try go_wp2)
            go_loopg [5] k3 (fun kq v5 w' => ∃ (x5_4 : Int), v5 = .int .i64 x5_4 ∧ Aside0 (spec_ValidGraph.l1 kq (rd l0_1 a0_0) x5_4 a0_0 l0_1 l0_2 l0_3 l0_4 = some r) ∧ Aside0 (kq ≤ k3) ∧ Aside0 (w'.heap[gb144]? = some (.cells #[.int .i64 a0_0, (.slice (some ad146) l0_1.length c0_1), (.slice A0_2 l0_2.length c0_2), (.slice A0_3 l0_3.length c0_3), (.slice A0_4 l0_4.length c0_4)] 26 (0, 0))) ∧ Aside0 (Below w.heap.size w w'))
            case atStart => exact ⟨(0), zr, H', ⟨Nat.le_refl _⟩, ⟨zb BK144.out⟩, ⟨zs GE144.out⟩⟩
            case round =>
             clear H'
             (try clear c1); (try clear p1); (try clear q1); (try clear hx1); (try clear qi1); (try clear c2); (try clear p2); (try clear c3); (try clear c4); (try clear c4b0); (try clear c6); (try clear c6b0); (try clear p6); (try clear c8); (try clear c8b0); (try clear c8b1); (try clear c9); (try clear c9b0); (try clear c9b1); (try clear c12); (try clear c13); (try clear c13b0); (try clear c14); (try clear c14b0); (try clear p14); (try clear q14); (try clear hx14); (try clear qi14); (try clear c17); (try clear c17b0); (try clear c18); (try clear c18b0); (try clear c18b1); (try clear c19); (try clear c19b0); (try clear c19b1); (try clear c23); (try clear c24); (try clear c24b0); (try clear c26); (try clear c26b0); (try clear c27); (try clear c27b0); (try clear c28); (try clear c28b0); (try clear c29); (try clear c29b0); (try clear c30); (try clear c30b0); (try clear hcz10_0 hcz10_1 hcz10_2 hcz10_3 hcz10_4); (try clear hcz11_0 hcz11_1 hcz11_2 hcz11_3 hcz11_4); (try clear hcz16_0 hcz16_1 hcz16_2 hcz16_3 hcz16_4); (try clear hcz20_0 hcz20_1 hcz20_2 hcz20_3 hcz20_4); (try clear hcz21_0 hcz21_1 hcz21_2 hcz21_3 hcz21_4); (try clear hcz22_0 hcz22_1 hcz22_2 hcz22_3 hcz22_4); (try clear hcz31_0 hcz31_1 hcz31_2 hcz31_3 hcz31_4); (try clear hcz32_0 hcz32_1 hcz32_2 hcz32_3 hcz32_4); (try clear hcz33_0 hcz33_1 hcz33_2 hcz33_3 hcz33_4); (try clear hcz5_0 hcz5_1 hcz5_2 hcz5_3 hcz5_4); (try clear hcz7_0 hcz7_1 hcz7_2 hcz7_3 hcz7_4); (try clear hfz10_0 hfz10_1 hfz10_2 hfz10_3 hfz10_4); (try clear hfz11_0 hfz11_1 hfz11_2 hfz11_3 hfz11_4); (try clear hfz16_0 hfz16_1 hfz16_2 hfz16_3 hfz16_4); (try clear hfz20_0 hfz20_1 hfz20_2 hfz20_3 hfz20_4); (try clear hfz21_0 hfz21_1 hfz21_2 hfz21_3 hfz21_4); (try clear hfz22_0 hfz22_1 hfz22_2 hfz22_3 hfz22_4); (try clear hfz31_0 hfz31_1 hfz31_2 hfz31_3 hfz31_4); (try clear hfz32_0 hfz32_1 hfz32_2 hfz32_3 hfz32_4); (try clear hfz33_0 hfz33_1 hfz33_2 hfz33_3 hfz33_4); (try clear hfz5_0 hfz5_1 hfz5_2 hfz5_3 hfz5_4); (try clear hfz7_0 hfz7_1 hfz7_2 hfz7_3 hfz7_4); (try clear hx145_0); (try clear hx146_0); (try clear hx147_0); (try clear hx148_0); (try clear p1); (try clear p14); (try clear p145); (try clear p146); (try clear p147); (try clear p148); (try clear p2); (try clear p6); (try clear q1); (try clear q14); (try clear q145); (try clear q146); (try clear q147); (try clear q148)
             obtain ⟨x5_4, rfl, HA, HK4, BK144, HB⟩ := hrel
             cases gk with
             | zero => exact absurd HA.out (by simp [spec_ValidGraph.l1])
             | succ k4 =>
              have H := HA.out
              clear HA
              simp only [spec_ValidGraph.l1] at H
              by_cases c34 : x5_4 < (rd l0_1 a0_0)
              ·rw [if_pos c34] at H
               have c34b0 : decide (x5_4 < (rd l0_1 a0_0)) = true := decide_eq_true c34
               clear c34
               by_cases c35 : 0 ≤ x5_4
               ·rw [if_pos c35] at H
                have c35b0 : decide (0 ≤ x5_4) = true := decide_eq_true c35
                clear c35
                by_cases c36 : x5_4 < (l0_2.length : Int)
                ·rw [if_pos c36] at H
                 have c36b0 : decide (x5_4 < (l0_2.length : Int)) = true := decide_eq_true c36
                 clear c36
                 by_cases c37 : (rd l0_2 x5_4) < 0
                 ·rw [if_pos c37] at H
                  have c37b0 : decide ((rd l0_2 x5_4) < 0) = true := decide_eq_true c37
                  clear c37
                  obtain rfl := Option.some.inj H
                  obtain ⟨hcz38_0, hcz38_1, hcz38_2, hcz38_3, hcz38_4, hfz38_0, hfz38_1, hfz38_2, hfz38_3, hfz38_4⟩ := zh5 BK144.out
                  have p149 : 0 ≤ (x5_4 : Int) := zd
                  have q149 : x5_4 < (l0_2.length : Int) := zd
                  obtain ⟨ad149, e149, hx149_0⟩ := Kd.at_int HR0_2.out x5_4 p149 q149
                  cases e149
                  replace hx149_0 := zx HB.out hx149_0
                  replace p149 := eq_true p149
                  replace q149 := eq_true q149
                  go_wp2
                  repeat (go_quiet (fail); try go_wp2)
                  go_ret
                  exact ⟨ze, (zs GE144.out)⟩
                 ·rw [if_neg c37] at H
                  have c37b0 : decide ((rd l0_2 x5_4) < 0) = false := decide_eq_false c37
                  clear c37
                  by_cases c39 : (rd l0_2 x5_4) ≥ a0_0
                  ·rw [if_pos c39] at H
                   have c39b0 : decide (a0_0 ≤ (rd l0_2 x5_4)) = true := decide_eq_true c39
                   clear c39
                   obtain rfl := Option.some.inj H
                   obtain ⟨hcz40_0, hcz40_1, hcz40_2, hcz40_3, hcz40_4, hfz40_0, hfz40_1, hfz40_2, hfz40_3, hfz40_4⟩ := zh5 BK144.out
                   have p149 : 0 ≤ (x5_4 : Int) := zd
                   have q149 : x5_4 < (l0_2.length : Int) := zd
                   obtain ⟨ad149, e149, hx149_0⟩ := Kd.at_int HR0_2.out x5_4 p149 q149
                   cases e149
                   replace hx149_0 := zx HB.out hx149_0
                   replace p149 := eq_true p149
                   replace q149 := eq_true q149
                   have p150 : 0 ≤ (x5_4 : Int) := zd
                   have q150 : x5_4 < (l0_2.length : Int) := zd
                   obtain ⟨ad150, e150, hx150_0⟩ := Kd.at_int HR0_2.out x5_4 p150 q150
                   obtain rfl : ad149 = ad150 := (by injection e150)
                   replace hx150_0 := zx HB.out hx150_0
                   replace p150 := eq_true p150
                   replace q150 := eq_true q150
                   go_wp2
                   repeat (go_quiet (fail); try go_wp2)
                   go_ret
                   exact ⟨ze, (zs GE144.out)⟩
                  ·rw [if_neg c39] at H
                   have c39b0 : decide (a0_0 ≤ (rd l0_2 x5_4)) = false := decide_eq_false c39
                   clear c39
                   by_cases c41 : x5_4 < (l0_3.length : Int)
                   ·rw [if_pos c41] at H
                    have c41b0 : decide (x5_4 < (l0_3.length : Int)) = true := decide_eq_true c41
                    clear c41
                    by_cases c42 : (rd l0_3 x5_4) < 0
                    ·rw [if_pos c42] at H
                     have c42b0 : decide ((rd l0_3 x5_4) < 0) = true := decide_eq_true c42
                     clear c42
                     obtain rfl := Option.some.inj H
                     obtain ⟨hcz43_0, hcz43_1, hcz43_2, hcz43_3, hcz43_4, hfz43_0, hfz43_1, hfz43_2, hfz43_3, hfz43_4⟩ := zh5 BK144.out
                     have p149 : 0 ≤ (x5_4 : Int) := zd
                     have q149 : x5_4 < (l0_2.length : Int) := zd
                     obtain ⟨ad149, e149, hx149_0⟩ := Kd.at_int HR0_2.out x5_4 p149 q149
                     cases e149
                     replace hx149_0 := zx HB.out hx149_0
                     replace p149 := eq_true p149
                     replace q149 := eq_true q149
                     have p150 : 0 ≤ (x5_4 : Int) := zd
                     have q150 : x5_4 < (l0_2.length : Int) := zd
                     obtain ⟨ad150, e150, hx150_0⟩ := Kd.at_int HR0_2.out x5_4 p150 q150
                     obtain rfl : ad149 = ad150 := (by injection e150)
                     replace hx150_0 := zx HB.out hx150_0
                     replace p150 := eq_true p150
                     replace q150 := eq_true q150
                     have p151 : 0 ≤ (x5_4 : Int) := zd
                     have q151 : x5_4 < (l0_3.length : Int) := zd
                     obtain ⟨ad151, e151, hx151_0⟩ := Kd.at_int HR0_3.out x5_4 p151 q151
                     cases e151
                     replace hx151_0 := zx HB.out hx151_0
                     replace p151 := eq_true p151
                     replace q151 := eq_true q151
                     go_wp2
                     repeat (go_quiet (fail); try go_wp2)
                     go_ret
                     exact ⟨ze, (zs GE144.out)⟩
                    ·rw [if_neg c42] at H
                     have c42b0 : decide ((rd l0_3 x5_4) < 0) = false := decide_eq_false c42
                     clear c42
                     by_cases c44 : (rd l0_3 x5_4) > 3
                     ·rw [if_pos c44] at H
                      have c44b0 : decide (3 < (rd l0_3 x5_4)) = true := decide_eq_true c44
                      clear c44
                      obtain rfl := Option.some.inj H
                      obtain ⟨hcz45_0, hcz45_1, hcz45_2, hcz45_3, hcz45_4, hfz45_0, hfz45_1, hfz45_2, hfz45_3, hfz45_4⟩ := zh5 BK144.out
                      have p149 : 0 ≤ (x5_4 : Int) := zd
                      have q149 : x5_4 < (l0_2.length : Int) := zd
                      obtain ⟨ad149, e149, hx149_0⟩ := Kd.at_int HR0_2.out x5_4 p149 q149
                      cases e149
                      replace hx149_0 := zx HB.out hx149_0
                      replace p149 := eq_true p149
                      replace q149 := eq_true q149
                      have p150 : 0 ≤ (x5_4 : Int) := zd
                      have q150 : x5_4 < (l0_2.length : Int) := zd
                      obtain ⟨ad150, e150, hx150_0⟩ := Kd.at_int HR0_2.out x5_4 p150 q150
                      obtain rfl : ad149 = ad150 := (by injection e150)
                      replace hx150_0 := zx HB.out hx150_0
                      replace p150 := eq_true p150
                      replace q150 := eq_true q150
                      have p151 : 0 ≤ (x5_4 : Int) := zd
                      have q151 : x5_4 < (l0_3.length : Int) := zd
                      obtain ⟨ad151, e151, hx151_0⟩ := Kd.at_int HR0_3.out x5_4 p151 q151
                      cases e151
                      replace hx151_0 := zx HB.out hx151_0
                      replace p151 := eq_true p151
                      replace q151 := eq_true q151
                      have p152 : 0 ≤ (x5_4 : Int) := zd
                      have q152 : x5_4 < (l0_3.length : Int) := zd
                      obtain ⟨ad152, e152, hx152_0⟩ := Kd.at_int HR0_3.out x5_4 p152 q152
                      obtain rfl : ad151 = ad152 := (by injection e152)
                      replace hx152_0 := zx HB.out hx152_0
                      replace p152 := eq_true p152
                      replace q152 := eq_true q152
                      go_wp2
                      repeat (go_quiet (fail); try go_wp2)
                      go_ret
                      exact ⟨ze, (zs GE144.out)⟩
                     ·rw [if_neg c44] at H
                      have c44b0 : decide (3 < (rd l0_3 x5_4)) = false := decide_eq_false c44
                      clear c44
                      by_cases c46 : x5_4 < (l0_4.length : Int)
                      ·rw [if_pos c46] at H
                       have c46b0 : decide (x5_4 < (l0_4.length : Int)) = true := decide_eq_true c46
                       clear c46
                       by_cases c47 : (rd l0_4 x5_4) < 1
                       ·rw [if_pos c47] at H
                        have c47b0 : decide ((rd l0_4 x5_4) < 1) = true := decide_eq_true c47
                        clear c47
                        obtain rfl := Option.some.inj H
                        obtain ⟨hcz48_0, hcz48_1, hcz48_2, hcz48_3, hcz48_4, hfz48_0, hfz48_1, hfz48_2, hfz48_3, hfz48_4⟩ := zh5 BK144.out
                        have p149 : 0 ≤ (x5_4 : Int) := zd
                        have q149 : x5_4 < (l0_2.length : Int) := zd
                        obtain ⟨ad149, e149, hx149_0⟩ := Kd.at_int HR0_2.out x5_4 p149 q149
                        cases e149
                        replace hx149_0 := zx HB.out hx149_0
                        replace p149 := eq_true p149
                        replace q149 := eq_true q149
                        have p150 : 0 ≤ (x5_4 : Int) := zd
                        have q150 : x5_4 < (l0_2.length : Int) := zd
                        obtain ⟨ad150, e150, hx150_0⟩ := Kd.at_int HR0_2.out x5_4 p150 q150
                        obtain rfl : ad149 = ad150 := (by injection e150)
                        replace hx150_0 := zx HB.out hx150_0
                        replace p150 := eq_true p150
                        replace q150 := eq_true q150
                        have p151 : 0 ≤ (x5_4 : Int) := zd
                        have q151 : x5_4 < (l0_3.length : Int) := zd
                        obtain ⟨ad151, e151, hx151_0⟩ := Kd.at_int HR0_3.out x5_4 p151 q151
                        cases e151
                        replace hx151_0 := zx HB.out hx151_0
                        replace p151 := eq_true p151
                        replace q151 := eq_true q151
                        have p152 : 0 ≤ (x5_4 : Int) := zd
                        have q152 : x5_4 < (l0_3.length : Int) := zd
                        obtain ⟨ad152, e152, hx152_0⟩ := Kd.at_int HR0_3.out x5_4 p152 q152
                        obtain rfl : ad151 = ad152 := (by injection e152)
                        replace hx152_0 := zx HB.out hx152_0
                        replace p152 := eq_true p152
                        replace q152 := eq_true q152
                        have p153 : 0 ≤ (x5_4 : Int) := zd
                        have q153 : x5_4 < (l0_4.length : Int) := zd
                        obtain ⟨ad153, e153, hx153_0⟩ := Kd.at_int HR0_4.out x5_4 p153 q153
                        cases e153
                        replace hx153_0 := zx HB.out hx153_0
                        replace p153 := eq_true p153
                        replace q153 := eq_true q153
                        go_wp2
                        repeat (go_quiet (fail); try go_wp2)
                        go_ret
                        exact ⟨ze, (zs GE144.out)⟩
                       ·rw [if_neg c47] at H
                        have c47b0 : decide ((rd l0_4 x5_4) < 1) = false := decide_eq_false c47
                        clear c47
                        by_cases c49 : (rd l0_4 x5_4) > 9
                        ·rw [if_pos c49] at H
                         have c49b0 : decide (9 < (rd l0_4 x5_4)) = true := decide_eq_true c49
                         clear c49
                         obtain rfl := Option.some.inj H
                         obtain ⟨hcz50_0, hcz50_1, hcz50_2, hcz50_3, hcz50_4, hfz50_0, hfz50_1, hfz50_2, hfz50_3, hfz50_4⟩ := zh5 BK144.out
                         have p149 : 0 ≤ (x5_4 : Int) := zd
                         have q149 : x5_4 < (l0_2.length : Int) := zd
                         obtain ⟨ad149, e149, hx149_0⟩ := Kd.at_int HR0_2.out x5_4 p149 q149
                         cases e149
                         replace hx149_0 := zx HB.out hx149_0
                         replace p149 := eq_true p149
                         replace q149 := eq_true q149
                         have p150 : 0 ≤ (x5_4 : Int) := zd
                         have q150 : x5_4 < (l0_2.length : Int) := zd
                         obtain ⟨ad150, e150, hx150_0⟩ := Kd.at_int HR0_2.out x5_4 p150 q150
                         obtain rfl : ad149 = ad150 := (by injection e150)
                         replace hx150_0 := zx HB.out hx150_0
                         replace p150 := eq_true p150
                         replace q150 := eq_true q150
                         have p151 : 0 ≤ (x5_4 : Int) := zd
                         have q151 : x5_4 < (l0_3.length : Int) := zd
                         obtain ⟨ad151, e151, hx151_0⟩ := Kd.at_int HR0_3.out x5_4 p151 q151
                         cases e151
                         replace hx151_0 := zx HB.out hx151_0
                         replace p151 := eq_true p151
                         replace q151 := eq_true q151
                         have p152 : 0 ≤ (x5_4 : Int) := zd
                         have q152 : x5_4 < (l0_3.length : Int) := zd
                         obtain ⟨ad152, e152, hx152_0⟩ := Kd.at_int HR0_3.out x5_4 p152 q152
                         obtain rfl : ad151 = ad152 := (by injection e152)
                         replace hx152_0 := zx HB.out hx152_0
                         replace p152 := eq_true p152
                         replace q152 := eq_true q152
                         have p153 : 0 ≤ (x5_4 : Int) := zd
                         have q153 : x5_4 < (l0_4.length : Int) := zd
                         obtain ⟨ad153, e153, hx153_0⟩ := Kd.at_int HR0_4.out x5_4 p153 q153
                         cases e153
                         replace hx153_0 := zx HB.out hx153_0
                         replace p153 := eq_true p153
                         replace q153 := eq_true q153
                         have p154 : 0 ≤ (x5_4 : Int) := zd
                         have q154 : x5_4 < (l0_4.length : Int) := zd
                         obtain ⟨ad154, e154, hx154_0⟩ := Kd.at_int HR0_4.out x5_4 p154 q154
                         obtain rfl : ad153 = ad154 := (by injection e154)
                         replace hx154_0 := zx HB.out hx154_0
                         replace p154 := eq_true p154
                         replace q154 := eq_true q154
                         go_wp2
                         repeat (go_quiet (fail); try go_wp2)
                         go_ret
                         exact ⟨ze, (zs GE144.out)⟩
                        ·rw [if_neg c49] at H
                         have c49b0 : decide (9 < (rd l0_4 x5_4)) = false := decide_eq_false c49
                         clear c49
                         have H' := zA H
                         clear H
                         obtain ⟨hcz51_0, hcz51_1, hcz51_2, hcz51_3, hcz51_4, hfz51_0, hfz51_1, hfz51_2, hfz51_3, hfz51_4⟩ := zh5 BK144.out
                         have p149 : 0 ≤ (x5_4 : Int) := zd
                         have q149 : x5_4 < (l0_2.length : Int) := zd
                         obtain ⟨ad149, e149, hx149_0⟩ := Kd.at_int HR0_2.out x5_4 p149 q149
                         cases e149
                         replace hx149_0 := zx HB.out hx149_0
                         replace p149 := eq_true p149
                         replace q149 := eq_true q149
                         have p150 : 0 ≤ (x5_4 : Int) := zd
                         have q150 : x5_4 < (l0_2.length : Int) := zd
                         obtain ⟨ad150, e150, hx150_0⟩ := Kd.at_int HR0_2.out x5_4 p150 q150
                         obtain rfl : ad149 = ad150 := (by injection e150)
                         replace hx150_0 := zx HB.out hx150_0
                         replace p150 := eq_true p150
                         replace q150 := eq_true q150
                         have p151 : 0 ≤ (x5_4 : Int) := zd
                         have q151 : x5_4 < (l0_3.length : Int) := zd
                         obtain ⟨ad151, e151, hx151_0⟩ := Kd.at_int HR0_3.out x5_4 p151 q151
                         cases e151
                         replace hx151_0 := zx HB.out hx151_0
                         replace p151 := eq_true p151
                         replace q151 := eq_true q151
                         have p152 : 0 ≤ (x5_4 : Int) := zd
                         have q152 : x5_4 < (l0_3.length : Int) := zd
                         obtain ⟨ad152, e152, hx152_0⟩ := Kd.at_int HR0_3.out x5_4 p152 q152
                         obtain rfl : ad151 = ad152 := (by injection e152)
                         replace hx152_0 := zx HB.out hx152_0
                         replace p152 := eq_true p152
                         replace q152 := eq_true q152
                         have p153 : 0 ≤ (x5_4 : Int) := zd
                         have q153 : x5_4 < (l0_4.length : Int) := zd
                         obtain ⟨ad153, e153, hx153_0⟩ := Kd.at_int HR0_4.out x5_4 p153 q153
                         cases e153
                         replace hx153_0 := zx HB.out hx153_0
                         replace p153 := eq_true p153
                         replace q153 := eq_true q153
                         have p154 : 0 ≤ (x5_4 : Int) := zd
                         have q154 : x5_4 < (l0_4.length : Int) := zd
                         obtain ⟨ad154, e154, hx154_0⟩ := Kd.at_int HR0_4.out x5_4 p154 q154
                         obtain rfl : ad153 = ad154 := (by injection e154)
                         replace hx154_0 := zx HB.out hx154_0
                         replace p154 := eq_true p154
                         replace q154 := eq_true q154
                         go_wp2
                         repeat (go_quiet (fail); try go_wp2)
                         go_roundg k4
                         case measure => have := HJ1.out; have := HJ14.out; have := HK3.out; have := HK4.out; omega
                         case rel => exact ⟨(wrap64 (x5_4 + 1)), zr, H', ⟨by have := HJ1.out; have := HJ14.out; have := HK3.out; have := HK4.out; omega⟩, ⟨zb BK144.out⟩, ⟨zs GE144.out⟩⟩
                      ·rw [if_neg c46] at H
                       exact absurd H (by simp)
                   ·rw [if_neg c41] at H
                    exact absurd H (by simp)
                ·rw [if_neg c36] at H
                 exact absurd H (by simp)
               ·rw [if_neg c35] at H
                exact absurd H (by simp)
              ·rw [if_neg c34] at H
               have c34b0 : decide (x5_4 < (rd l0_1 a0_0)) = false := decide_eq_false c34
               clear c34
               obtain rfl := Option.some.inj H
               go_wp2
               repeat (go_quiet (fail); try go_wp2)
               go_ret
               exact ⟨ze, (zs GE144.out)⟩
     ·rw [if_neg c14] at H
      exact absurd H (by simp)
    ·rw [if_neg c13] at H
     exact absurd H (by simp)

end Go.Proofs.Ytiboccbaaphbhaa.PFnExactReach
