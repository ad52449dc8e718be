-- made by wip/tools/myprint.py (this session's own program, over the kit's printer)
import Derived.Test.YthbeplmihjhoeaaDoorPFnExactTickFleetx0
import Derived.Test.YthbeplmihjhoeaaDoorPFnExactTickFleetx6
import Derived.Test.YthbeplmihjhoeaaDoorPFnExactTickFleetx8
namespace Go.Proofs.YthbeplmihjhoeaaDoor.PFnExactTickFleet
open Go.RowKit Go.Proofs.YthbeplmihjhoeaaDoorW.PrintWords Go.Proofs.YthbeplmihjhoeaaDoorW.PrintLast Go.Proofs.YthbeplmihjhoeaaDoorW.PrintMore
attribute [local go_sem] max2_int min2_int max_two min_two max_three min_three max_four min_four   -- for this text's walks alone
set_option linter.unusedVariables false
set_option linter.unusedSimpArgs false

/-! ### spec_ValidTables: function 80 -/
mutual
def spec_ValidTables.j0 : Nat → Bool → Int → Int → List (S120) → List (List Int) → List (List Int) → Option (Bool)
 | 0, _, _, _, _, _, _ => none
 | k + 1, x32, x222000, x222001, x222002, x222003, x222004 => if x32 = true then (some false) else (if (x222003.length : Int) = (x222002.length : Int) then (spec_ValidTables.j1 k ((x222004.length : Int) != (x222002.length : Int)) x222000 x222001 x222002 x222003 x222004) else (spec_ValidTables.j1 k true x222000 x222001 x222002 x222003 x222004))
def spec_ValidTables.j1 : Nat → Bool → Int → Int → List (S120) → List (List Int) → List (List Int) → Option (Bool)
 | 0, _, _, _, _, _, _ => none
 | k + 1, x48, x222000, x222001, x222002, x222003, x222004 => if x48 = true then (some false) else (spec_ValidTables.l0 k 0 x222000 x222001 x222002 x222003 x222004)
def spec_ValidTables.l0 : Nat → Int → Int → Int → List (S120) → List (List Int) → List (List Int) → Option (Bool)
 | 0, _, _, _, _, _, _ => none
 | k + 1, x3, x222000, x222001, x222002, x222003, x222004 => if x3 < (x222002.length : Int) then ((spec_l6rowOK.f k x222000 x222001 x222002 x222003 x222004 x3).bind fun t223 => (if t223 = true then (spec_ValidTables.l0 k (wrap64 (x3 + 1)) x222000 x222001 x222002 x222003 x222004) else (some false))) else (some true)
end
def spec_ValidTables.f (k : Nat) (a0_0 : Int) (a0_1 : Int) (l0_2 : List (S120)) (l0_3 : List (List Int)) (l0_4 : List (List Int)) : Option (Bool) := if a0_0 < 1 then (spec_ValidTables.j0 k true a0_0 a0_1 l0_2 l0_3 l0_4) else (if a0_0 > 40 then (spec_ValidTables.j0 k true a0_0 a0_1 l0_2 l0_3 l0_4) else (if a0_1 < 1 then (spec_ValidTables.j0 k true a0_0 a0_1 l0_2 l0_3 l0_4) else (if a0_1 > 40 then (spec_ValidTables.j0 k true a0_0 a0_1 l0_2 l0_3 l0_4) else ((spec_l4targetsOK.f k l0_2 (wrap64 (a0_0 * a0_1))).bind fun t222 => (spec_ValidTables.j0 k (!t222) a0_0 a0_1 l0_2 l0_3 l0_4)))))
theorem spec_ValidTables.mono_l : ∀ k, (∀ y0 y1 y2 y3 y4 y5, LeO (spec_ValidTables.j0 k y0 y1 y2 y3 y4 y5) (spec_ValidTables.j0 (k + 1) y0 y1 y2 y3 y4 y5)) ∧ (∀ y0 y1 y2 y3 y4 y5, LeO (spec_ValidTables.j1 k y0 y1 y2 y3 y4 y5) (spec_ValidTables.j1 (k + 1) y0 y1 y2 y3 y4 y5)) ∧ (∀ y0 y1 y2 y3 y4 y5, LeO (spec_ValidTables.l0 k y0 y1 y2 y3 y4 y5) (spec_ValidTables.l0 (k + 1) y0 y1 y2 y3 y4 y5))
 | 0 => ⟨fun _ _ _ _ _ _ r h => by simp [spec_ValidTables.j0] at h, fun _ _ _ _ _ _ r h => by simp [spec_ValidTables.j1] at h, fun _ _ _ _ _ _ r h => by simp [spec_ValidTables.l0] at h⟩
 | k + 1 => by
  obtain ⟨ih0, ih1, ih2⟩ := spec_ValidTables.mono_l k; refine ⟨?_, ?_, ?_⟩
  ·intro y0 y1 y2 y3 y4 y5; unfold spec_ValidTables.j0; have m1 := @spec_l4targetsOK.mono; have m2 := @spec_l6rowOK.mono; exact zm
  ·intro y0 y1 y2 y3 y4 y5; unfold spec_ValidTables.j1; have m1 := @spec_l4targetsOK.mono; have m2 := @spec_l6rowOK.mono; exact zm
  ·intro y0 y1 y2 y3 y4 y5; unfold spec_ValidTables.l0; have m1 := @spec_l4targetsOK.mono; have m2 := @spec_l6rowOK.mono; exact zm
theorem spec_ValidTables.mono : ∀ a0 a1 a2 a3 a4 k, LeO (spec_ValidTables.f k a0 a1 a2 a3 a4) (spec_ValidTables.f (k + 1) a0 a1 a2 a3 a4) := by
 intro a0 a1 a2 a3 a4 k; obtain ⟨ih0, ih1, ih2⟩ := spec_ValidTables.mono_l k; unfold spec_ValidTables.f; have m1 := @spec_l4targetsOK.mono; have m2 := @spec_l6rowOK.mono; exact zm
set_option maxHeartbeats 8000000 in
set_option maxRecDepth 100000 in
theorem spec_ValidTables.calls (k : Nat) (a0_0 : Int) (a0_1 : Int) (A0_2 : Option Addr) (c0_2 : Nat) (l0_2 : List (S120)) (A0_3 : Option Addr) (c0_3 : Nat) (l0_3 : List (List Int)) (A0_4 : Option Addr) (c0_4 : Nat) (l0_4 : List (List Int)) (r : Bool) (w : World) (hr0_2 : Kd.C k120 w A0_2 l0_2.length l0_2) (hc0_2 : l0_2.length ≤ c0_2) (hr0_3 : Kd.C (Kd.slice 3 (Kd.int .i64)) w A0_3 l0_3.length l0_3) (hc0_3 : l0_3.length ≤ c0_3) (hr0_4 : Kd.C (Kd.slice 3 (Kd.int .i64)) w A0_4 l0_4.length l0_4) (hc0_4 : l0_4.length ≤ c0_4) (h : spec_ValidTables.f k a0_0 a0_1 l0_2 l0_3 l0_4 = some r) :
  Calls Tryd.prog 80 #[.agg #[.int .i64 a0_0, .int .i64 a0_1, .slice A0_2 l0_2.length c0_2, .slice A0_3 l0_3.length c0_3, .slice A0_4 l0_4.length c0_4]] w fun e w' => e = .returned (.bool r) ∧ Below w.heap.size w w' := by
 have hu47 := Tryd.underlying47; have HR0_2 := zA hr0_2; have HC0_2 := zA hc0_2; clear hr0_2 hc0_2; have HR0_3 := zA hr0_3; have HC0_3 := zA hc0_3; clear hr0_3 hc0_3; have HR0_4 := zA hr0_4; have HC0_4 := zA hc0_4; clear hr0_4 hc0_4; have HB := zA (Below.refl w.heap.size w); have H : (if a0_0 < 1 then (spec_ValidTables.j0 k true a0_0 a0_1 l0_2 l0_3 l0_4) else (if a0_0 > 40 then (spec_ValidTables.j0 k true a0_0 a0_1 l0_2 l0_3 l0_4) else (if a0_1 < 1 then (spec_ValidTables.j0 k true a0_0 a0_1 l0_2 l0_3 l0_4) else (if a0_1 > 40 then (spec_ValidTables.j0 k true a0_0 a0_1 l0_2 l0_3 l0_4) else ((spec_l4targetsOK.f k l0_2 (wrap64 (a0_0 * a0_1))).bind fun t222 => (spec_ValidTables.j0 k (!t222) a0_0 a0_1 l0_2 l0_3 l0_4)))))) = some r := h; clear h; have HC2 := zA H; clear H; go_enter Tryd.func80, Tryd.ntmps80
 go_upto_region 1 with (first | ((with_reducible refine gate_dst (N := 1) rfl ?_); (try (refine gate_guard (by rfl) ?_; dsimp only)); refine zbx (N := 1) (cs := #[.int .i64 a0_0, .int .i64 a0_1, .slice A0_2 l0_2.length c0_2, .slice A0_3 l0_3.length c0_3, .slice A0_4 l0_4.length c0_4]) (t := 47) ?_; intro gb221 hg w3 hbox hb; have BK221 := zA (hbox); have GW221 := zA (zg hg : w.heap.size ≤ gb221); have GE221 := zA (zg hg : w.heap.size ≤ gb221); replace HB := zA (below_step z_ hb); clear hb hbox hg))
 (try simp only [Act.put, List.setIfInBounds_toArray, List.set_cons_zero, List.set_cons_succ])
 go_cut [32] (fun v32 wc => ∃ (kq : Nat) (x32_1 : Bool), v32 = .bool x32_1 ∧ Aside0 (spec_ValidTables.j0 kq x32_1 a0_0 a0_1 l0_2 l0_3 l0_4 = some r) ∧ Aside0 (kq ≤ k) ∧ Aside0 (wc.heap[gb221]? = some (.cells #[.int .i64 a0_0, .int .i64 a0_1, (.slice A0_2 l0_2.length c0_2), (.slice A0_3 l0_3.length c0_3), (.slice A0_4 l0_4.length c0_4)] 47 (0, 0))) ∧ Aside0 (Below w.heap.size w wc))
 case first =>
  have H := HC2.out; clear HC2
  by_cases c4 : a0_0 < 1
  ·rw [if_pos c4] at H; have c4b0 : decide (a0_0 < 1) = true := decide_eq_true c4; clear c4
   (first | rw [c4b0] | (simp only [i64_w, i32_w]; rw [c4b0]) | skip)
   have H' := zA H; clear H; obtain ⟨hcz5_0, hcz5_1, hcz5_2, hcz5_3, hcz5_4, hfz5_0, hfz5_1, hfz5_2, hfz5_3, hfz5_4⟩ := zh5 BK221.out; go_wp2; go_meet
   case rel => exact ⟨_, (true), zr, H', ⟨by first | omega | exact Nat.le_refl _⟩, ⟨zb BK221.out⟩, ⟨zs GE221.out⟩⟩
  ·rw [if_neg c4] at H; have c4b0 : decide (a0_0 < 1) = false := decide_eq_false c4; clear c4
   (first | rw [c4b0] | (simp only [i64_w, i32_w]; rw [c4b0]) | skip)
   by_cases c6 : a0_0 > 40
   ·rw [if_pos c6] at H; have c6b0 : decide (40 < a0_0) = true := decide_eq_true c6; clear c6; have H' := zA H; clear H; obtain ⟨hcz7_0, hcz7_1, hcz7_2, hcz7_3, hcz7_4, hfz7_0, hfz7_1, hfz7_2, hfz7_3, hfz7_4⟩ := zh5 BK221.out; go_wp2; go_meet
    case rel => exact ⟨_, (true), zr, H', ⟨by first | omega | exact Nat.le_refl _⟩, ⟨zb BK221.out⟩, ⟨zs GE221.out⟩⟩
   ·rw [if_neg c6] at H; have c6b0 : decide (40 < a0_0) = false := decide_eq_false c6; clear c6
    by_cases c8 : a0_1 < 1
    ·rw [if_pos c8] at H; have c8b0 : decide (a0_1 < 1) = true := decide_eq_true c8; clear c8; have H' := zA H; clear H; obtain ⟨hcz9_0, hcz9_1, hcz9_2, hcz9_3, hcz9_4, hfz9_0, hfz9_1, hfz9_2, hfz9_3, hfz9_4⟩ := zh5 BK221.out; go_wp2; go_meet
     case rel => exact ⟨_, (true), zr, H', ⟨by first | omega | exact Nat.le_refl _⟩, ⟨zb BK221.out⟩, ⟨zs GE221.out⟩⟩
    ·rw [if_neg c8] at H; have c8b0 : decide (a0_1 < 1) = false := decide_eq_false c8; clear c8
     by_cases c10 : a0_1 > 40
     ·rw [if_pos c10] at H; have c10b0 : decide (40 < a0_1) = true := decide_eq_true c10; clear c10; have H' := zA H; clear H; obtain ⟨hcz11_0, hcz11_1, hcz11_2, hcz11_3, hcz11_4, hfz11_0, hfz11_1, hfz11_2, hfz11_3, hfz11_4⟩ := zh5 BK221.out; go_wp2; go_meet
      case rel => exact ⟨_, (true), zr, H', ⟨by first | omega | exact Nat.le_refl _⟩, ⟨zb BK221.out⟩, ⟨zs GE221.out⟩⟩
     ·rw [if_neg c10] at H; have c10b0 : decide (40 < a0_1) = false := decide_eq_false c10; clear c10; replace H := Option.bind_eq_some_iff.mp H; obtain ⟨t222, A120, H⟩ := H; replace H : (spec_ValidTables.j0 k (!t222) a0_0 a0_1 l0_2 l0_3 l0_4) = some r := H; have A12 := zA A120; clear A120; have H' := zA H; clear H; obtain ⟨hcz13_0, hcz13_1, hcz13_2, hcz13_3, hcz13_4, hfz13_0, hfz13_1, hfz13_2, hfz13_3, hfz13_4⟩ := zh5 BK221.out; go_wp2_with (first | (go_at_call 136; (with_reducible refine (spec_l4targetsOK.calls k _ _ l0_2 (wrap64 (a0_0 * a0_1)) t222 _ ?side1 ?side2 A12.out).mono ?_); (case side1 => exact zC HR0_2.out); (case side2 => exact HC0_2.out); rintro e w14 ⟨rfl, hb⟩; replace BK221 := zA (zB BK221.out hb); replace HB := zA (below_step (zs GE221.out) hb); (try clear hb); (try clear hb2); (try clear hk); (try clear hi))); go_meet
      case rel => exact ⟨_, (!t222), zr, H', ⟨by first | omega | exact Nat.le_refl _⟩, ⟨zb BK221.out⟩, ⟨zs GE221.out⟩⟩
 case rest =>
  clear HC2; (try clear c1); (try clear p2); (try clear c4); (try clear c4b0); (try clear c6); (try clear c6b0); (try clear p6); (try clear c8); (try clear c8b0); (try clear c10); (try clear c10b0); (try clear hcz11_0 hcz11_1 hcz11_2 hcz11_3 hcz11_4); (try clear hcz13_0 hcz13_1 hcz13_2 hcz13_3 hcz13_4); (try clear hcz5_0 hcz5_1 hcz5_2 hcz5_3 hcz5_4); (try clear hcz7_0 hcz7_1 hcz7_2 hcz7_3 hcz7_4); (try clear hcz9_0 hcz9_1 hcz9_2 hcz9_3 hcz9_4); (try clear hfz11_0 hfz11_1 hfz11_2 hfz11_3 hfz11_4); (try clear hfz13_0 hfz13_1 hfz13_2 hfz13_3 hfz13_4); (try clear hfz5_0 hfz5_1 hfz5_2 hfz5_3 hfz5_4); (try clear hfz7_0 hfz7_1 hfz7_2 hfz7_3 hfz7_4); (try clear hfz9_0 hfz9_1 hfz9_2 hfz9_3 hfz9_4); obtain ⟨kq, x32_1, rfl, HA, HJ1, BK221, HB⟩ := hcut; cases kq with
  | zero => exact absurd HA.out (by simp [spec_ValidTables.j0])
  | succ kj1 =>
   have H := HA.out; clear HA; simp only [spec_ValidTables.j0] at H
   by_cases c15 : x32_1 = true
   ·subst c15; have H1 : (some false) = some r := by rw [if_pos rfl] at H; exact H
    clear H; have H := H1; clear H1; obtain rfl := Option.some.inj H; go_wp2; go_ret; exact ⟨ze, (zs GE221.out)⟩
   ·replace c15 := Bool.eq_false_iff.mpr c15; subst c15; have H1 : (if (l0_3.length : Int) = (l0_2.length : Int) then (spec_ValidTables.j1 kj1 ((l0_4.length : Int) != (l0_2.length : Int)) a0_0 a0_1 l0_2 l0_3 l0_4) else (spec_ValidTables.j1 kj1 true a0_0 a0_1 l0_2 l0_3 l0_4)) = some r := by rw [if_neg (show ¬ (false = true) by decide)] at H; exact H
    clear H; have H := H1; clear H1; have HC16 := zA H; clear H
    go_upto_region 3 with (fail)
    go_cut [48] (fun v48 wc => ∃ (kq : Nat) (x48_15 : Bool), v48 = .bool x48_15 ∧ Aside0 (spec_ValidTables.j1 kq x48_15 a0_0 a0_1 l0_2 l0_3 l0_4 = some r) ∧ Aside0 (kq ≤ kj1) ∧ Aside0 (wc.heap[gb221]? = some (.cells #[.int .i64 a0_0, .int .i64 a0_1, (.slice A0_2 l0_2.length c0_2), (.slice A0_3 l0_3.length c0_3), (.slice A0_4 l0_4.length c0_4)] 47 (0, 0))) ∧ Aside0 (Below w.heap.size w wc))
    case first =>
     have H := HC16.out; clear HC16
     by_cases c17 : (l0_3.length : Int) = (l0_2.length : Int)
     ·rw [if_pos c17] at H; have c17b0 : ((l0_3.length : Int) == (l0_2.length : Int)) = true := beq_iff_eq.mpr c17; have c17b1 : ((l0_3.length : Int) != (l0_2.length : Int)) = false := bne_eq_false_iff_eq.mpr c17; have c17b2 : (l0_3.length == l0_2.length) = true := by first | simpa using c17 | (simp at c17 ⊢; omega)
      clear c17
      (first | rw [c17b0] | (simp only [i64_w, i32_w]; rw [c17b0]) | skip)
      have H' := zA H; clear H; obtain ⟨hcz18_0, hcz18_1, hcz18_2, hcz18_3, hcz18_4, hfz18_0, hfz18_1, hfz18_2, hfz18_3, hfz18_4⟩ := zh5 BK221.out; go_wp2; go_meet
      case rel => exact ⟨_, (((l0_4.length : Int) != (l0_2.length : Int))), zr, H', ⟨by have := HJ1.out; first | omega | exact Nat.le_refl _⟩, ⟨zb BK221.out⟩, ⟨zs GE221.out⟩⟩
     ·rw [if_neg c17] at H; have c17b0 : ((l0_3.length : Int) == (l0_2.length : Int)) = false := beq_eq_false_iff_ne.mpr c17; have c17b1 : ((l0_3.length : Int) != (l0_2.length : Int)) = true := bne_iff_ne.mpr c17; have c17b2 : (l0_3.length == l0_2.length) = false := by first | simpa using c17 | (simp at c17 ⊢; omega)
      (first | rw [c17b0] | (simp only [i64_w, i32_w]; rw [c17b0]) | skip)
      have H' := zA H; clear H; obtain ⟨hcz19_0, hcz19_1, hcz19_2, hcz19_3, hcz19_4, hfz19_0, hfz19_1, hfz19_2, hfz19_3, hfz19_4⟩ := zh5 BK221.out; go_wp2; go_meet
      case rel => exact ⟨_, (true), zr, H', ⟨by have := HJ1.out; first | omega | exact Nat.le_refl _⟩, ⟨zb BK221.out⟩, ⟨zs GE221.out⟩⟩
    case rest =>
     clear HC16; (try clear c1); (try clear p2); (try clear c4); (try clear c4b0); (try clear c6); (try clear c6b0); (try clear p6); (try clear c8); (try clear c8b0); (try clear c10); (try clear c10b0); (try clear c15); (try clear c17); (try clear c17b0); (try clear c17b1); (try clear c17b2); (try clear hcz11_0 hcz11_1 hcz11_2 hcz11_3 hcz11_4); (try clear hcz13_0 hcz13_1 hcz13_2 hcz13_3 hcz13_4); (try clear hcz18_0 hcz18_1 hcz18_2 hcz18_3 hcz18_4); (try clear hcz19_0 hcz19_1 hcz19_2 hcz19_3 hcz19_4); (try clear hcz5_0 hcz5_1 hcz5_2 hcz5_3 hcz5_4); (try clear hcz7_0 hcz7_1 hcz7_2 hcz7_3 hcz7_4); (try clear hcz9_0 hcz9_1 hcz9_2 hcz9_3 hcz9_4); (try clear hfz11_0 hfz11_1 hfz11_2 hfz11_3 hfz11_4); (try clear hfz13_0 hfz13_1 hfz13_2 hfz13_3 hfz13_4); (try clear hfz18_0 hfz18_1 hfz18_2 hfz18_3 hfz18_4); (try clear hfz19_0 hfz19_1 hfz19_2 hfz19_3 hfz19_4); (try clear hfz5_0 hfz5_1 hfz5_2 hfz5_3 hfz5_4); (try clear hfz7_0 hfz7_1 hfz7_2 hfz7_3 hfz7_4); (try clear hfz9_0 hfz9_1 hfz9_2 hfz9_3 hfz9_4); (try clear p2); (try clear p6); obtain ⟨kq, x48_15, rfl, HA, HJ15, BK221, HB⟩ := hcut; cases kq with
     | zero => exact absurd HA.out (by simp [spec_ValidTables.j1])
     | succ kj15 =>
      have H := HA.out; clear HA; simp only [spec_ValidTables.j1] at H
      by_cases c20 : x48_15 = true
      ·subst c20; have H1 : (some false) = some r := by rw [if_pos rfl] at H; exact H
       clear H; have H := H1; clear H1; obtain rfl := Option.some.inj H; go_wp2; go_ret; exact ⟨ze, (zs GE221.out)⟩
      ·replace c20 := Bool.eq_false_iff.mpr c20; subst c20; have H1 : (spec_ValidTables.l0 kj15 0 a0_0 a0_1 l0_2 l0_3 l0_4) = some r := by rw [if_neg (show ¬ (false = true) by decide)] at H; exact H
       clear H; have H := H1; clear H1; have H' := zA H; clear H; go_wp2
       go_loopg [3] kj15 (fun kq v3 w' => ∃ (x3_3 : Int), v3 = .int .i64 x3_3 ∧ Aside0 (spec_ValidTables.l0 kq x3_3 a0_0 a0_1 l0_2 l0_3 l0_4 = some r) ∧ Aside0 (kq ≤ kj15) ∧ Aside0 (w'.heap[gb221]? = some (.cells #[.int .i64 a0_0, .int .i64 a0_1, (.slice A0_2 l0_2.length c0_2), (.slice A0_3 l0_3.length c0_3), (.slice A0_4 l0_4.length c0_4)] 47 (0, 0))) ∧ Aside0 (Below w.heap.size w w'))
       case atStart => exact ⟨(0), zr, H', ⟨Nat.le_refl _⟩, ⟨zb BK221.out⟩, ⟨zs GE221.out⟩⟩
       case round =>
        clear H'; (try clear c1); (try clear c2); (try clear p2); (try clear c4); (try clear c4b0); (try clear c6); (try clear c6b0); (try clear p6); (try clear c8); (try clear c8b0); (try clear c10); (try clear c10b0); (try clear c15); (try clear c17); (try clear c17b0); (try clear c17b1); (try clear c17b2); (try clear c20); (try clear hcz11_0 hcz11_1 hcz11_2 hcz11_3 hcz11_4); (try clear hcz13_0 hcz13_1 hcz13_2 hcz13_3 hcz13_4); (try clear hcz18_0 hcz18_1 hcz18_2 hcz18_3 hcz18_4); (try clear hcz19_0 hcz19_1 hcz19_2 hcz19_3 hcz19_4); (try clear hcz5_0 hcz5_1 hcz5_2 hcz5_3 hcz5_4); (try clear hcz7_0 hcz7_1 hcz7_2 hcz7_3 hcz7_4); (try clear hcz9_0 hcz9_1 hcz9_2 hcz9_3 hcz9_4); (try clear hfz11_0 hfz11_1 hfz11_2 hfz11_3 hfz11_4); (try clear hfz13_0 hfz13_1 hfz13_2 hfz13_3 hfz13_4); (try clear hfz18_0 hfz18_1 hfz18_2 hfz18_3 hfz18_4); (try clear hfz19_0 hfz19_1 hfz19_2 hfz19_3 hfz19_4); (try clear hfz5_0 hfz5_1 hfz5_2 hfz5_3 hfz5_4); (try clear hfz7_0 hfz7_1 hfz7_2 hfz7_3 hfz7_4); (try clear hfz9_0 hfz9_1 hfz9_2 hfz9_3 hfz9_4); (try clear p2); (try clear p6); obtain ⟨x3_3, rfl, HA, HK3, BK221, HB⟩ := hrel; cases gk with
        | zero => exact absurd HA.out (by simp [spec_ValidTables.l0])
        | succ k3 =>
         have H := HA.out; clear HA; simp only [spec_ValidTables.l0] at H
         by_cases c21 : x3_3 < (l0_2.length : Int)
         ·rw [if_pos c21] at H; have c21b0 : decide (x3_3 < (l0_2.length : Int)) = true := decide_eq_true c21; clear c21; replace H := Option.bind_eq_some_iff.mp H; obtain ⟨t223, A220, H⟩ := H; replace H : (if t223 = true then (spec_ValidTables.l0 k3 (wrap64 (x3_3 + 1)) a0_0 a0_1 l0_2 l0_3 l0_4) else (some false)) = some r := H; have A22 := zA A220; clear A220
          by_cases c23 : t223 = true
          ·subst c23; have H1 : (spec_ValidTables.l0 k3 (wrap64 (x3_3 + 1)) a0_0 a0_1 l0_2 l0_3 l0_4) = some r := by rw [if_pos rfl] at H; exact H
           clear H; have H := H1; clear H1; have H' := zA H; clear H; obtain ⟨hcz24_0, hcz24_1, hcz24_2, hcz24_3, hcz24_4, hfz24_0, hfz24_1, hfz24_2, hfz24_3, hfz24_4⟩ := zh5 BK221.out; go_wp2_with (first | ((with_reducible refine gate_callee (f := 143) rfl ?_); refine goesL_ (some 58) rfl rfl Tryd.func143 (by kernel_rfl) rfl #[.agg #[.int .i64 a0_0, .int .i64 a0_1, .slice A0_2 l0_2.length c0_2, .slice A0_3 l0_3.length c0_3, .slice A0_4 l0_4.length c0_4], .int .i64 x3_3] rfl za ?_; (with_reducible refine (spec_l6rowOK.calls k3 a0_0 a0_1 _ _ l0_2 _ _ l0_3 _ _ l0_4 x3_3 true _ ?side1 ?side2 ?side3 ?side4 ?side5 ?side6 A22.out).mono ?_); (case side1 => exact zC HR0_2.out); (case side2 => exact HC0_2.out); (case side3 => exact zC HR0_3.out); (case side4 => exact HC0_3.out); (case side5 => exact zC HR0_4.out); (case side6 => exact HC0_4.out); rintro e w25 ⟨rfl, hb⟩; refine ⟨_, rfl, ?_⟩; replace BK221 := zA (zB BK221.out hb); replace HB := zA (below_step (zs GE221.out) hb); (try clear hb); (try clear hb2); (try clear hk); (try clear hi))); go_roundg k3
           case measure => have := HJ1.out; have := HJ15.out; have := HK3.out; omega
           case rel => exact ⟨(wrap64 (x3_3 + 1)), zr, H', ⟨by have := HJ1.out; have := HJ15.out; have := HK3.out; omega⟩, ⟨zb BK221.out⟩, ⟨zs GE221.out⟩⟩
          ·replace c23 := Bool.eq_false_iff.mpr c23; subst c23; have H1 : (some false) = some r := by rw [if_neg (show ¬ (false = true) by decide)] at H; exact H
           clear H; have H := H1; clear H1; obtain rfl := Option.some.inj H; obtain ⟨hcz26_0, hcz26_1, hcz26_2, hcz26_3, hcz26_4, hfz26_0, hfz26_1, hfz26_2, hfz26_3, hfz26_4⟩ := zh5 BK221.out; go_wp2_with (first | ((with_reducible refine gate_callee (f := 143) rfl ?_); refine goesL_ (some 58) rfl rfl Tryd.func143 (by kernel_rfl) rfl #[.agg #[.int .i64 a0_0, .int .i64 a0_1, .slice A0_2 l0_2.length c0_2, .slice A0_3 l0_3.length c0_3, .slice A0_4 l0_4.length c0_4], .int .i64 x3_3] rfl za ?_; (with_reducible refine (spec_l6rowOK.calls k3 a0_0 a0_1 _ _ l0_2 _ _ l0_3 _ _ l0_4 x3_3 false _ ?side1 ?side2 ?side3 ?side4 ?side5 ?side6 A22.out).mono ?_); (case side1 => exact zC HR0_2.out); (case side2 => exact HC0_2.out); (case side3 => exact zC HR0_3.out); (case side4 => exact HC0_3.out); (case side5 => exact zC HR0_4.out); (case side6 => exact HC0_4.out); rintro e w27 ⟨rfl, hb⟩; refine ⟨_, rfl, ?_⟩; replace BK221 := zA (zB BK221.out hb); replace HB := zA (below_step (zs GE221.out) hb); (try clear hb); (try clear hb2); (try clear hk); (try clear hi))); go_ret; exact ⟨ze, (zs GE221.out)⟩
         ·rw [if_neg c21] at H; have c21b0 : decide (x3_3 < (l0_2.length : Int)) = false := decide_eq_false c21; clear c21; obtain rfl := Option.some.inj H; obtain ⟨hcz28_0, hcz28_1, hcz28_2, hcz28_3, hcz28_4, hfz28_0, hfz28_1, hfz28_2, hfz28_3, hfz28_4⟩ := zh5 BK221.out; go_wp2; go_ret; exact ⟨ze, (zs GE221.out)⟩

/-! ### spec_l8asks: function 81 -/
def spec_l8asks.f (a0_0 : Int) (a0_1 : Int) (l0_2 : List (S120)) (l0_3 : List (List Int)) (l0_4 : List (List Int)) (a1 : Int) (a2 : Int) : Option (Bool) := if a1 ≥ 0 then (if a1 < (l0_2.length : Int) then (if a2 ≥ 0 then (some (decide (a2 < (wrap64 (a0_0 * a0_1))))) else (some false)) else (some false)) else (some false)
set_option maxHeartbeats 8000000 in
set_option maxRecDepth 100000 in
theorem spec_l8asks.calls (a0_0 : Int) (a0_1 : Int) (A0_2 : Option Addr) (c0_2 : Nat) (l0_2 : List (S120)) (A0_3 : Option Addr) (c0_3 : Nat) (l0_3 : List (List Int)) (A0_4 : Option Addr) (c0_4 : Nat) (l0_4 : List (List Int)) (a1 : Int) (a2 : Int) (r : Bool) (w : World) (hr0_2 : Kd.C k120 w A0_2 l0_2.length l0_2) (hc0_2 : l0_2.length ≤ c0_2) (hr0_3 : Kd.C (Kd.slice 3 (Kd.int .i64)) w A0_3 l0_3.length l0_3) (hc0_3 : l0_3.length ≤ c0_3) (hr0_4 : Kd.C (Kd.slice 3 (Kd.int .i64)) w A0_4 l0_4.length l0_4) (hc0_4 : l0_4.length ≤ c0_4) (h : spec_l8asks.f a0_0 a0_1 l0_2 l0_3 l0_4 a1 a2 = some r) :
  Calls Tryd.prog 81 #[.agg #[.int .i64 a0_0, .int .i64 a0_1, .slice A0_2 l0_2.length c0_2, .slice A0_3 l0_3.length c0_3, .slice A0_4 l0_4.length c0_4], .int .i64 a1, .int .i64 a2] w fun e w' => e = .returned (.bool r) ∧ Below w.heap.size w w' := by
 have hu47 := Tryd.underlying47; have HR0_2 := zA hr0_2; have HC0_2 := zA hc0_2; clear hr0_2 hc0_2; have HR0_3 := zA hr0_3; have HC0_3 := zA hc0_3; clear hr0_3 hc0_3; have HR0_4 := zA hr0_4; have HC0_4 := zA hc0_4; clear hr0_4 hc0_4; have HB := zA (Below.refl w.heap.size w); have H : (if a1 ≥ 0 then (if a1 < (l0_2.length : Int) then (if a2 ≥ 0 then (some (decide (a2 < (wrap64 (a0_0 * a0_1))))) else (some false)) else (some false)) else (some false)) = some r := h; clear h
 by_cases c4 : a1 ≥ 0
 ·rw [if_pos c4] at H; have c4b0 : decide (0 ≤ a1) = true := decide_eq_true c4; clear c4
  by_cases c5 : a1 < (l0_2.length : Int)
  ·rw [if_pos c5] at H; have c5b0 : decide (a1 < (l0_2.length : Int)) = true := decide_eq_true c5; clear c5
   by_cases c6 : a2 ≥ 0
   ·rw [if_pos c6] at H; have c6b0 : decide (0 ≤ a2) = true := decide_eq_true c6; clear c6; obtain rfl := Option.some.inj H; go_enter Tryd.func81, Tryd.ntmps81; go_wp2_with (first | ((with_reducible refine gate_dst (N := 3) rfl ?_); (try (refine gate_guard (by rfl) ?_; dsimp only)); refine zbx (N := 3) (cs := #[.int .i64 a0_0, .int .i64 a0_1, .slice A0_2 l0_2.length c0_2, .slice A0_3 l0_3.length c0_3, .slice A0_4 l0_4.length c0_4]) (t := 47) ?_; intro gb224 hg w7 hbox hb; have BK224 := zA (hbox); have GW224 := zA (zg hg : w.heap.size ≤ gb224); have GE224 := zA (zg hg : w.heap.size ≤ gb224); replace HB := zA (below_step z_ hb); clear hb hbox hg; obtain ⟨hcz8_0, hcz8_1, hcz8_2, hcz8_3, hcz8_4, hfz8_0, hfz8_1, hfz8_2, hfz8_3, hfz8_4⟩ := zh5 BK224.out)); go_ret; exact ⟨ze, (zs GE224.out)⟩
   ·rw [if_neg c6] at H; have c6b0 : decide (0 ≤ a2) = false := decide_eq_false c6; clear c6; obtain rfl := Option.some.inj H; go_enter Tryd.func81, Tryd.ntmps81; go_wp2_with (first | ((with_reducible refine gate_dst (N := 3) rfl ?_); (try (refine gate_guard (by rfl) ?_; dsimp only)); refine zbx (N := 3) (cs := #[.int .i64 a0_0, .int .i64 a0_1, .slice A0_2 l0_2.length c0_2, .slice A0_3 l0_3.length c0_3, .slice A0_4 l0_4.length c0_4]) (t := 47) ?_; intro gb224 hg w9 hbox hb; have BK224 := zA (hbox); have GW224 := zA (zg hg : w.heap.size ≤ gb224); have GE224 := zA (zg hg : w.heap.size ≤ gb224); replace HB := zA (below_step z_ hb); clear hb hbox hg; obtain ⟨hcz10_0, hcz10_1, hcz10_2, hcz10_3, hcz10_4, hfz10_0, hfz10_1, hfz10_2, hfz10_3, hfz10_4⟩ := zh5 BK224.out)); go_ret; exact ⟨ze, (zs GE224.out)⟩
  ·rw [if_neg c5] at H; have c5b0 : decide (a1 < (l0_2.length : Int)) = false := decide_eq_false c5; clear c5; obtain rfl := Option.some.inj H; go_enter Tryd.func81, Tryd.ntmps81; go_wp2_with (first | ((with_reducible refine gate_dst (N := 3) rfl ?_); (try (refine gate_guard (by rfl) ?_; dsimp only)); refine zbx (N := 3) (cs := #[.int .i64 a0_0, .int .i64 a0_1, .slice A0_2 l0_2.length c0_2, .slice A0_3 l0_3.length c0_3, .slice A0_4 l0_4.length c0_4]) (t := 47) ?_; intro gb224 hg w11 hbox hb; have BK224 := zA (hbox); have GW224 := zA (zg hg : w.heap.size ≤ gb224); have GE224 := zA (zg hg : w.heap.size ≤ gb224); replace HB := zA (below_step z_ hb); clear hb hbox hg; obtain ⟨hcz12_0, hcz12_1, hcz12_2, hcz12_3, hcz12_4, hfz12_0, hfz12_1, hfz12_2, hfz12_3, hfz12_4⟩ := zh5 BK224.out)); go_ret; exact ⟨ze, (zs GE224.out)⟩
 ·rw [if_neg c4] at H; have c4b0 : decide (0 ≤ a1) = false := decide_eq_false c4; clear c4; obtain rfl := Option.some.inj H; go_enter Tryd.func81, Tryd.ntmps81; go_wp2_with (first | ((with_reducible refine gate_dst (N := 3) rfl ?_); (try (refine gate_guard (by rfl) ?_; dsimp only)); refine zbx (N := 3) (cs := #[.int .i64 a0_0, .int .i64 a0_1, .slice A0_2 l0_2.length c0_2, .slice A0_3 l0_3.length c0_3, .slice A0_4 l0_4.length c0_4]) (t := 47) ?_; intro gb224 hg w13 hbox hb; have BK224 := zA (hbox); have GW224 := zA (zg hg : w.heap.size ≤ gb224); have GE224 := zA (zg hg : w.heap.size ≤ gb224); replace HB := zA (below_step z_ hb); clear hb hbox hg)); go_ret; exact ⟨ze, (zs GE224.out)⟩

/-! ### spec_l8count: function 148 -/
def spec_l8count.f (a0 : Int) : Option (Bool) := if a0 ≥ 0 then (some (decide (a0 ≤ 1000000))) else (some false)
set_option maxHeartbeats 8000000 in
set_option maxRecDepth 100000 in
theorem spec_l8count.calls (a0 : Int) (r : Bool) (w : World) (h : spec_l8count.f a0 = some r) :
  Calls Tryd.prog 148 #[.int .i64 a0] w fun e w' => e = .returned (.bool r) ∧ Drawn0 w w' := by
 have H : (if a0 ≥ 0 then (some (decide (a0 ≤ 1000000))) else (some false)) = some r := h; clear h
 by_cases c2 : a0 ≥ 0
 ·rw [if_pos c2] at H; have c2b0 : decide (0 ≤ a0) = true := decide_eq_true c2; clear c2; obtain rfl := Option.some.inj H; go_enter Tryd.func148, Tryd.ntmps148; go_wp2; go_ret; exact ⟨by first | rfl | (simp; done) | (simp [*]; done), by repeat (first | exact Drawn0.refl _ | apply Drawn0.step)⟩
 ·rw [if_neg c2] at H; have c2b0 : decide (0 ≤ a0) = false := decide_eq_false c2; clear c2; obtain rfl := Option.some.inj H; go_enter Tryd.func148, Tryd.ntmps148; go_wp2; go_ret; exact ⟨by first | rfl | (simp; done) | (simp [*]; done), by repeat (first | exact Drawn0.refl _ | apply Drawn0.step)⟩

end Go.Proofs.YthbeplmihjhoeaaDoor.PFnExactTickFleet
