-- made by wip/tools/myprint.py (this session's own program, over the kit's printer)
import Derived.Test.YthbeplmihjhoeaaDoorPFnExactEncodeImagex0
import Derived.Test.YthbeplmihjhoeaaDoorPFnExactEncodeImagex12
namespace Go.Proofs.YthbeplmihjhoeaaDoor.PFnExactEncodeImage
open Go.RowKit Go.Proofs.YthbeplmihjhoeaaDoorW.PrintWords Go.Proofs.YthbeplmihjhoeaaDoorW.PrintLast Go.Proofs.YthbeplmihjhoeaaDoorW.PrintMore
attribute [local go_sem] max2_int min2_int max_two min_two max_three min_three max_four min_four   -- for this text's walks alone
set_option linter.unusedVariables false
set_option linter.unusedSimpArgs false

/-! ### impl_Tables_listOk: function 144 -/
mutual
def impl_Tables_listOk.j0 : Nat → Int → List Int → List Int → Bool → Int → Int → List (S120) → List (List Int) → List (List Int) → Option (Bool)
 | 0, _, _, _, _, _, _, _, _, _ => none
 | k + 1, x1, x5, x6, x36, x314000, x314001, x314002, x314003, x314004 => if x36 = true then (some false) else (impl_Tables_listOk.l0 k x1 x5 x6 (x5.length : Int) 0 x314000 x314001 x314002 x314003 x314004)
def impl_Tables_listOk.l0 : Nat → Int → List Int → List Int → Int → Int → Int → Int → List (S120) → List (List Int) → List (List Int) → Option (Bool)
 | 0, _, _, _, _, _, _, _, _, _, _ => none
 | k + 1, x1, x5, x6, x38, x39, x314000, x314001, x314002, x314003, x314004 => if x39 < x38 then (if 0 ≤ x1 then (if x1 < (x314002.length : Int) then (if x39 = ((rd_T120 x314002 x1).f2) then (if 0 ≤ x39 then (if x39 < (x5.length : Int) then (if (rd x5 x39) = 0 then (if x39 < (x6.length : Int) then (if (rd x6 x39) = (-1) then (impl_Tables_listOk.l0 k x1 x5 x6 x38 (wrap64 (x39 + 1)) x314000 x314001 x314002 x314003 x314004) else (some false)) else (none)) else (some false)) else (none)) else (none)) else (if 0 ≤ x39 then (if x39 < (x5.length : Int) then (if (rd x5 x39) = (-1) then (if x39 < (x6.length : Int) then (if (rd x6 x39) = (-1) then (impl_Tables_listOk.l0 k x1 x5 x6 x38 (wrap64 (x39 + 1)) x314000 x314001 x314002 x314003 x314004) else (some false)) else (none)) else (if (rd x5 x39) < 1 then (impl_Tables_listOk.j2 k x1 x5 x6 x39 x38 x39 true x314000 x314001 x314002 x314003 x314004) else (if (rd x5 x39) > 65534 then (impl_Tables_listOk.j2 k x1 x5 x6 x39 x38 x39 true x314000 x314001 x314002 x314003 x314004) else (if x39 < (x6.length : Int) then (if (rd x6 x39) < 0 then (impl_Tables_listOk.j2 k x1 x5 x6 x39 x38 x39 true x314000 x314001 x314002 x314003 x314004) else (impl_Tables_listOk.j2 k x1 x5 x6 x39 x38 x39 (decide ((rd x6 x39) > 3)) x314000 x314001 x314002 x314003 x314004)) else (none))))) else (none)) else (none))) else (none)) else (none)) else (some true)
def impl_Tables_listOk.j2 : Nat → Int → List Int → List Int → Int → Int → Int → Bool → Int → Int → List (S120) → List (List Int) → List (List Int) → Option (Bool)
 | 0, _, _, _, _, _, _, _, _, _, _, _, _ => none
 | k + 1, x1, x5, x6, x7, x38, x39, x67, x314000, x314001, x314002, x314003, x314004 => if x67 = true then (some false) else (if 0 ≤ x7 then (if x7 < (x6.length : Int) then ((impl_side.f x314000 x314001 x7 (rd x6 x7)).bind fun t326 => (if t326 < 0 then (some false) else (if 0 ≤ t326 then (if t326 < (x5.length : Int) then (if (rd x5 t326) < 0 then (some false) else (if x7 < (x5.length : Int) then (if (rd x5 t326) ≥ (rd x5 x7) then (some false) else (impl_Tables_listOk.l0 k x1 x5 x6 x38 (wrap64 (x39 + 1)) x314000 x314001 x314002 x314003 x314004)) else (none))) else (none)) else (none)))) else (none)) else (none))
end
def impl_Tables_listOk.f (k : Nat) (a0_0 : Int) (a0_1 : Int) (l0_2 : List (S120)) (l0_3 : List (List Int)) (l0_4 : List (List Int)) (a1 : Int) : Option (Bool) := if 0 ≤ a1 then (if a1 < (l0_3.length : Int) then (if a1 < (l0_4.length : Int) then (if ((rd_L4 l0_3 a1).length : Int) = (wrap64 (a0_0 * a0_1)) then (impl_Tables_listOk.j0 k a1 (rd_L4 l0_3 a1) (rd_L4 l0_4 a1) (((rd_L4 l0_4 a1).length : Int) != (wrap64 (a0_0 * a0_1))) a0_0 a0_1 l0_2 l0_3 l0_4) else (impl_Tables_listOk.j0 k a1 (rd_L4 l0_3 a1) (rd_L4 l0_4 a1) true a0_0 a0_1 l0_2 l0_3 l0_4)) else (none)) else (none)) else (none)
theorem impl_Tables_listOk.mono_l : ∀ k, (∀ y0 y1 y2 y3 y4 y5 y6 y7 y8, LeO (impl_Tables_listOk.j0 k y0 y1 y2 y3 y4 y5 y6 y7 y8) (impl_Tables_listOk.j0 (k + 1) y0 y1 y2 y3 y4 y5 y6 y7 y8)) ∧ (∀ y0 y1 y2 y3 y4 y5 y6 y7 y8 y9, LeO (impl_Tables_listOk.l0 k y0 y1 y2 y3 y4 y5 y6 y7 y8 y9) (impl_Tables_listOk.l0 (k + 1) y0 y1 y2 y3 y4 y5 y6 y7 y8 y9)) ∧ (∀ y0 y1 y2 y3 y4 y5 y6 y7 y8 y9 y10 y11, LeO (impl_Tables_listOk.j2 k y0 y1 y2 y3 y4 y5 y6 y7 y8 y9 y10 y11) (impl_Tables_listOk.j2 (k + 1) y0 y1 y2 y3 y4 y5 y6 y7 y8 y9 y10 y11))
 | 0 => ⟨fun _ _ _ _ _ _ _ _ _ r h => by simp [impl_Tables_listOk.j0] at h, fun _ _ _ _ _ _ _ _ _ _ r h => by simp [impl_Tables_listOk.l0] at h, fun _ _ _ _ _ _ _ _ _ _ _ _ r h => by simp [impl_Tables_listOk.j2] at h⟩
 | k + 1 => by
  obtain ⟨ih0, ih1, ih2⟩ := impl_Tables_listOk.mono_l k
  refine ⟨?_, ?_, ?_⟩
  ·intro y0 y1 y2 y3 y4 y5 y6 y7 y8
   unfold impl_Tables_listOk.j0
   exact zm
  ·intro y0 y1 y2 y3 y4 y5 y6 y7 y8 y9
   unfold impl_Tables_listOk.l0
   exact zm
  ·intro y0 y1 y2 y3 y4 y5 y6 y7 y8 y9 y10 y11
   unfold impl_Tables_listOk.j2
   exact zm
theorem impl_Tables_listOk.mono : ∀ a0 a1 a2 a3 a4 a5 k, LeO (impl_Tables_listOk.f k a0 a1 a2 a3 a4 a5) (impl_Tables_listOk.f (k + 1) a0 a1 a2 a3 a4 a5) := by
 intro a0 a1 a2 a3 a4 a5 k
 obtain ⟨ih0, ih1, ih2⟩ := impl_Tables_listOk.mono_l k
 unfold impl_Tables_listOk.f
 exact zm
set_option maxHeartbeats 8000000 in
set_option maxRecDepth 100000 in
theorem impl_Tables_listOk.calls (k : Nat) (a0_0 : Int) (a0_1 : Int) (A0_2 : Option Addr) (c0_2 : Nat) (l0_2 : List (S120)) (A0_3 : Option Addr) (c0_3 : Nat) (l0_3 : List (List Int)) (A0_4 : Option Addr) (c0_4 : Nat) (l0_4 : List (List Int)) (a1 : Int) (r : Bool) (w : World) (hr0_2 : Kd.C k120 w A0_2 l0_2.length l0_2) (hc0_2 : l0_2.length ≤ c0_2) (hr0_3 : Kd.C (Kd.slice 3 (Kd.int .i64)) w A0_3 l0_3.length l0_3) (hc0_3 : l0_3.length ≤ c0_3) (hr0_4 : Kd.C (Kd.slice 3 (Kd.int .i64)) w A0_4 l0_4.length l0_4) (hc0_4 : l0_4.length ≤ c0_4) (h : impl_Tables_listOk.f k a0_0 a0_1 l0_2 l0_3 l0_4 a1 = some r) :
  Calls Tryd.prog 144 #[.agg #[.int .i64 a0_0, .int .i64 a0_1, .slice A0_2 l0_2.length c0_2, .slice A0_3 l0_3.length c0_3, .slice A0_4 l0_4.length c0_4], .int .i64 a1] w fun e w' => e = .returned (.bool r) ∧ Below w.heap.size w w' := by
 have hu47 := Tryd.underlying47
 have HR0_2 := zA hr0_2
 have HC0_2 := zA hc0_2
 clear hr0_2 hc0_2
 have HR0_3 := zA hr0_3
 have HC0_3 := zA hc0_3
 clear hr0_3 hc0_3
 have HR0_4 := zA hr0_4
 have HC0_4 := zA hc0_4
 clear hr0_4 hc0_4
 have HB := zA (Below.refl w.heap.size w)
 have H : (if 0 ≤ a1 then (if a1 < (l0_3.length : Int) then (if a1 < (l0_4.length : Int) then (if ((rd_L4 l0_3 a1).length : Int) = (wrap64 (a0_0 * a0_1)) then (impl_Tables_listOk.j0 k a1 (rd_L4 l0_3 a1) (rd_L4 l0_4 a1) (((rd_L4 l0_4 a1).length : Int) != (wrap64 (a0_0 * a0_1))) a0_0 a0_1 l0_2 l0_3 l0_4) else (impl_Tables_listOk.j0 k a1 (rd_L4 l0_3 a1) (rd_L4 l0_4 a1) true a0_0 a0_1 l0_2 l0_3 l0_4)) else (none)) else (none)) else (none)) = some r := h
 clear h
 by_cases c3 : 0 ≤ a1
 ·rw [if_pos c3] at H
  have c3b0 : decide (0 ≤ a1) = true := decide_eq_true c3
  clear c3
  by_cases c4 : a1 < (l0_3.length : Int)
  ·rw [if_pos c4] at H
   have c4b0 : decide (a1 < (l0_3.length : Int)) = true := decide_eq_true c4
   clear c4
   by_cases c5 : a1 < (l0_4.length : Int)
   ·rw [if_pos c5] at H
    have c5b0 : decide (a1 < (l0_4.length : Int)) = true := decide_eq_true c5
    clear c5
    have HC6 := zA H
    clear H
    go_enter Tryd.func144, Tryd.ntmps144
    go_upto_region 2 with (first | ((with_reducible refine gate_dst (N := 2) rfl ?_); (try (refine gate_guard (by rfl) ?_; dsimp only)); refine box_event ?hg (N := 2) ?hd (cs := #[.int .i64 a0_0, .int .i64 a0_1, .slice A0_2 l0_2.length c0_2, .slice A0_3 l0_3.length c0_3, .slice A0_4 l0_4.length c0_4]) (t := 47) ?hr ?_; (case hd => rfl); (case hg => rfl); (case hr => first | (go_simp; done) | (go_simp; rfl)); intro gb313 hg w7 hbox hb; have n0_ := zA (below_step z_ hb); have n1_ := zA (hbox); have n2_ := zA ((by rw [hg]; exact (below_size z_) : w.heap.size ≤ gb313)); have n3_ := zA ((by rw [hg]; exact (below_size z_) : w.heap.size ≤ gb313)); clear HB; have HB := n0_; have BK313 := n1_; have GW313 := n2_; have GE313 := n3_; clear n0_ n1_ n2_ n3_; clear hb hbox hg; obtain ⟨hcz8_0, hcz8_1, hcz8_2, hcz8_3, hcz8_4, hfz8_0, hfz8_1, hfz8_2, hfz8_3, hfz8_4⟩ := zh5 BK313.out; have p314 : 0 ≤ (a1 : Int) := zd; have q314 : a1 < (l0_3.length : Int) := zd; obtain ⟨ad314, A314_0, c314_0, e314, hx314_0, hl314_0, hi314_0⟩ := at_L4 HR0_3.out a1 p314 q314; cases e314; replace hx314_0 := zx HB.out hx314_0; have HR314_0 := zA hi314_0; have HC314_0 := zA hl314_0; clear hi314_0 hl314_0; replace p314 := eq_true p314; replace q314 := eq_true q314; have p315 : 0 ≤ (a1 : Int) := zd; have q315 : a1 < (l0_4.length : Int) := zd; obtain ⟨ad315, A315_0, c315_0, e315, hx315_0, hl315_0, hi315_0⟩ := at_L4 HR0_4.out a1 p315 q315; cases e315; replace hx315_0 := zx HB.out hx315_0; have HR315_0 := zA hi315_0; have HC315_0 := zA hl315_0; clear hi315_0 hl315_0; replace p315 := eq_true p315; replace q315 := eq_true q315))
    repeat (go_quiet (first | ((with_reducible refine gate_dst (N := 2) rfl ?_); (try (refine gate_guard (by rfl) ?_; dsimp only)); refine box_event ?hg (N := 2) ?hd (cs := #[.int .i64 a0_0, .int .i64 a0_1, .slice A0_2 l0_2.length c0_2, .slice A0_3 l0_3.length c0_3, .slice A0_4 l0_4.length c0_4]) (t := 47) ?hr ?_; (case hd => rfl); (case hg => rfl); (case hr => first | (go_simp; done) | (go_simp; rfl)); intro gb313 hg w7 hbox hb; have n0_ := zA (below_step z_ hb); have n1_ := zA (hbox); have n2_ := zA ((by rw [hg]; exact (below_size z_) : w.heap.size ≤ gb313)); have n3_ := zA ((by rw [hg]; exact (below_size z_) : w.heap.size ≤ gb313)); clear HB; have HB := n0_; have BK313 := n1_; have GW313 := n2_; have GE313 := n3_; clear n0_ n1_ n2_ n3_; clear hb hbox hg; obtain ⟨hcz8_0, hcz8_1, hcz8_2, hcz8_3, hcz8_4, hfz8_0, hfz8_1, hfz8_2, hfz8_3, hfz8_4⟩ := zh5 BK313.out; have p314 : 0 ≤ (a1 : Int) := zd; have q314 : a1 < (l0_3.length : Int) := zd; obtain ⟨ad314, A314_0, c314_0, e314, hx314_0, hl314_0, hi314_0⟩ := at_L4 HR0_3.out a1 p314 q314; cases e314; replace hx314_0 := zx HB.out hx314_0; have HR314_0 := zA hi314_0; have HC314_0 := zA hl314_0; clear hi314_0 hl314_0; replace p314 := eq_true p314; replace q314 := eq_true q314; have p315 : 0 ≤ (a1 : Int) := zd; have q315 : a1 < (l0_4.length : Int) := zd; obtain ⟨ad315, A315_0, c315_0, e315, hx315_0, hl315_0, hi315_0⟩ := at_L4 HR0_4.out a1 p315 q315; cases e315; replace hx315_0 := zx HB.out hx315_0; have HR315_0 := zA hi315_0; have HC315_0 := zA hl315_0; clear hi315_0 hl315_0; replace p315 := eq_true p315; replace q315 := eq_true q315)); go_upto_region 2 with (first | ((with_reducible refine gate_dst (N := 2) rfl ?_); (try (refine gate_guard (by rfl) ?_; dsimp only)); refine box_event ?hg (N := 2) ?hd (cs := #[.int .i64 a0_0, .int .i64 a0_1, .slice A0_2 l0_2.length c0_2, .slice A0_3 l0_3.length c0_3, .slice A0_4 l0_4.length c0_4]) (t := 47) ?hr ?_; (case hd => rfl); (case hg => rfl); (case hr => first | (go_simp; done) | (go_simp; rfl)); intro gb313 hg w7 hbox hb; have n0_ := zA (below_step z_ hb); have n1_ := zA (hbox); have n2_ := zA ((by rw [hg]; exact (below_size z_) : w.heap.size ≤ gb313)); have n3_ := zA ((by rw [hg]; exact (below_size z_) : w.heap.size ≤ gb313)); clear HB; have HB := n0_; have BK313 := n1_; have GW313 := n2_; have GE313 := n3_; clear n0_ n1_ n2_ n3_; clear hb hbox hg; obtain ⟨hcz8_0, hcz8_1, hcz8_2, hcz8_3, hcz8_4, hfz8_0, hfz8_1, hfz8_2, hfz8_3, hfz8_4⟩ := zh5 BK313.out; have p314 : 0 ≤ (a1 : Int) := zd; have q314 : a1 < (l0_3.length : Int) := zd; obtain ⟨ad314, A314_0, c314_0, e314, hx314_0, hl314_0, hi314_0⟩ := at_L4 HR0_3.out a1 p314 q314; cases e314; replace hx314_0 := zx HB.out hx314_0; have HR314_0 := zA hi314_0; have HC314_0 := zA hl314_0; clear hi314_0 hl314_0; replace p314 := eq_true p314; replace q314 := eq_true q314; have p315 : 0 ≤ (a1 : Int) := zd; have q315 : a1 < (l0_4.length : Int) := zd; obtain ⟨ad315, A315_0, c315_0, e315, hx315_0, hl315_0, hi315_0⟩ := at_L4 HR0_4.out a1 p315 q315; cases e315; replace hx315_0 := zx HB.out hx315_0; have HR315_0 := zA hi315_0; have HC315_0 := zA hl315_0; clear hi315_0 hl315_0; replace p315 := eq_true p315; replace q315 := eq_true q315)))
    (try simp only [Act.put, List.setIfInBounds_toArray, List.set_cons_zero, List.set_cons_succ])
    go_cut [36] (fun v36 wc => ∃ (kq : Nat) (x36_5 : Bool), v36 = .bool x36_5 ∧ Aside0 (impl_Tables_listOk.j0 kq a1 (rd_L4 l0_3 a1) (rd_L4 l0_4 a1) x36_5 a0_0 a0_1 l0_2 l0_3 l0_4 = some r) ∧ Aside0 (kq ≤ k) ∧ Aside0 (wc.heap[gb313]? = some (.cells #[.int .i64 a0_0, .int .i64 a0_1, (.slice A0_2 l0_2.length c0_2), (.slice (some ad314) l0_3.length c0_3), (.slice (some ad315) l0_4.length c0_4)] 47 (0, 0))) ∧ Aside0 (Below w.heap.size w wc))
    case first =>
     have H := HC6.out
     clear HC6
     by_cases c9 : ((rd_L4 l0_3 a1).length : Int) = (wrap64 (a0_0 * a0_1))
     ·rw [if_pos c9] at H
      have c9b0 : (((rd_L4 l0_3 a1).length : Int) == (wrap64 (a0_0 * a0_1))) = true := beq_iff_eq.mpr c9
      have c9b1 : (((rd_L4 l0_3 a1).length : Int) != (wrap64 (a0_0 * a0_1))) = false := bne_eq_false_iff_eq.mpr c9
      clear c9
      (first | rw [c9b0] | (simp only [i64_w, i32_w]; rw [c9b0]) | skip)
      have H' := zA H
      clear H
      obtain ⟨hcz10_0, hcz10_1, hcz10_2, hcz10_3, hcz10_4, hfz10_0, hfz10_1, hfz10_2, hfz10_3, hfz10_4⟩ := zh5 BK313.out
      go_wp2
      repeat (go_quiet (fail); try go_wp2)
      go_meet
      case rel => exact ⟨_, ((((rd_L4 l0_4 a1).length : Int) != (wrap64 (a0_0 * a0_1)))), zr, H', ⟨by first | omega | exact Nat.le_refl _⟩, ⟨zb BK313.out⟩, ⟨zs GE313.out⟩⟩
     ·rw [if_neg c9] at H
      have c9b0 : (((rd_L4 l0_3 a1).length : Int) == (wrap64 (a0_0 * a0_1))) = false := beq_eq_false_iff_ne.mpr c9
      have c9b1 : (((rd_L4 l0_3 a1).length : Int) != (wrap64 (a0_0 * a0_1))) = true := bne_iff_ne.mpr c9
      (first | rw [c9b0] | (simp only [i64_w, i32_w]; rw [c9b0]) | skip)
      have H' := zA H
      clear H
      obtain ⟨hcz11_0, hcz11_1, hcz11_2, hcz11_3, hcz11_4, hfz11_0, hfz11_1, hfz11_2, hfz11_3, hfz11_4⟩ := zh5 BK313.out
      go_wp2
      repeat (go_quiet (fail); try go_wp2)
      go_meet
      case rel => exact ⟨_, (true), zr, H', ⟨by first | omega | exact Nat.le_refl _⟩, ⟨zb BK313.out⟩, ⟨zs GE313.out⟩⟩
    case rest =>
     clear HC6
     (try clear c1); (try clear p2); (try clear c3); (try clear c3b0); (try clear p3); (try clear q3); (try clear hx3); (try clear c4); (try clear c4b0); (try clear c5); (try clear c5b0); (try clear p6); (try clear c9); (try clear c9b0); (try clear c9b1); (try clear hcz10_0 hcz10_1 hcz10_2 hcz10_3 hcz10_4); (try clear hcz11_0 hcz11_1 hcz11_2 hcz11_3 hcz11_4); (try clear hcz8_0 hcz8_1 hcz8_2 hcz8_3 hcz8_4); (try clear hfz10_0 hfz10_1 hfz10_2 hfz10_3 hfz10_4); (try clear hfz11_0 hfz11_1 hfz11_2 hfz11_3 hfz11_4); (try clear hfz8_0 hfz8_1 hfz8_2 hfz8_3 hfz8_4); (try clear hx314_0); (try clear hx315_0); (try clear p314); (try clear p315); (try clear q314); (try clear q315)
     obtain ⟨kq, x36_5, rfl, HA, HJ5, BK313, HB⟩ := hcut
     cases kq with
     | zero => exact absurd HA.out (by simp [impl_Tables_listOk.j0])
     | succ kj5 =>
      have H := HA.out
      clear HA
      simp only [impl_Tables_listOk.j0] at H
      by_cases c12 : x36_5 = true
      ·subst c12
       have H1 : (some false) = some r := by rw [if_pos rfl] at H; exact H
       clear H
       have H := H1
       clear H1
       obtain rfl := Option.some.inj H
       go_wp2
       repeat (go_quiet (fail); try go_wp2)
       go_ret
       exact ⟨ze, (zs GE313.out)⟩
      ·replace c12 := Bool.eq_false_iff.mpr c12
       subst c12
       have H1 : (impl_Tables_listOk.l0 kj5 a1 (rd_L4 l0_3 a1) (rd_L4 l0_4 a1) ((rd_L4 l0_3 a1).length : Int) 0 a0_0 a0_1 l0_2 l0_3 l0_4) = some r := by rw [if_neg (show ¬ (false = true) by decide)] at H; exact H
       clear H
       have H := H1
       clear H1
       have H' := zA H
       clear H
       go_wp2
       repeat (go_quiet (fail); try go_wp2)
       go_loopg [39] kj5 (fun kq v39 w' => ∃ (x39_2 : Int), v39 = .int .i64 x39_2 ∧ Aside0 (impl_Tables_listOk.l0 kq a1 (rd_L4 l0_3 a1) (rd_L4 l0_4 a1) ((rd_L4 l0_3 a1).length : Int) x39_2 a0_0 a0_1 l0_2 l0_3 l0_4 = some r) ∧ Aside0 (kq ≤ kj5) ∧ Aside0 (w'.heap[gb313]? = some (.cells #[.int .i64 a0_0, .int .i64 a0_1, (.slice A0_2 l0_2.length c0_2), (.slice (some ad314) l0_3.length c0_3), (.slice (some ad315) l0_4.length c0_4)] 47 (0, 0))) ∧ Aside0 (Below w.heap.size w w'))
       case atStart => exact ⟨(0), zr, H', ⟨Nat.le_refl _⟩, ⟨zb BK313.out⟩, ⟨zs GE313.out⟩⟩
       case round =>
        clear H'
        (try clear c1); (try clear p2); (try clear c3); (try clear c3b0); (try clear p3); (try clear q3); (try clear hx3); (try clear c4); (try clear c4b0); (try clear c5); (try clear c5b0); (try clear p6); (try clear c9); (try clear c9b0); (try clear c9b1); (try clear c12); (try clear hcz10_0 hcz10_1 hcz10_2 hcz10_3 hcz10_4); (try clear hcz11_0 hcz11_1 hcz11_2 hcz11_3 hcz11_4); (try clear hcz8_0 hcz8_1 hcz8_2 hcz8_3 hcz8_4); (try clear hfz10_0 hfz10_1 hfz10_2 hfz10_3 hfz10_4); (try clear hfz11_0 hfz11_1 hfz11_2 hfz11_3 hfz11_4); (try clear hfz8_0 hfz8_1 hfz8_2 hfz8_3 hfz8_4); (try clear hx314_0); (try clear hx315_0); (try clear p2); (try clear p3); (try clear p314); (try clear p315); (try clear p6); (try clear q3); (try clear q314); (try clear q315)
        obtain ⟨x39_2, rfl, HA, HK2, BK313, HB⟩ := hrel
        cases gk with
        | zero => exact absurd HA.out (by simp [impl_Tables_listOk.l0])
        | succ k2 =>
         have H := HA.out
         clear HA
         simp only [impl_Tables_listOk.l0] at H
         by_cases c13 : x39_2 < ((rd_L4 l0_3 a1).length : Int)
         ·rw [if_pos c13] at H
          have c13b0 : decide (x39_2 < ((rd_L4 l0_3 a1).length : Int)) = true := decide_eq_true c13
          clear c13
          by_cases c14 : 0 ≤ a1
          ·rw [if_pos c14] at H
           have c14b0 : decide (0 ≤ a1) = true := decide_eq_true c14
           clear c14
           by_cases c15 : a1 < (l0_2.length : Int)
           ·rw [if_pos c15] at H
            have c15b0 : decide (a1 < (l0_2.length : Int)) = true := decide_eq_true c15
            clear c15
            by_cases c16 : x39_2 = ((rd_T120 l0_2 a1).f2)
            ·rw [if_pos c16] at H
             have c16b0 : (x39_2 == ((rd_T120 l0_2 a1).f2)) = true := beq_iff_eq.mpr c16
             have c16b1 : (x39_2 != ((rd_T120 l0_2 a1).f2)) = false := bne_eq_false_iff_eq.mpr c16
             clear c16
             by_cases c17 : 0 ≤ x39_2
             ·rw [if_pos c17] at H
              have c17b0 : decide (0 ≤ x39_2) = true := decide_eq_true c17
              clear c17
              by_cases c18 : x39_2 < ((rd_L4 l0_3 a1).length : Int)
              ·rw [if_pos c18] at H
               have c18b0 : decide (x39_2 < ((rd_L4 l0_3 a1).length : Int)) = true := decide_eq_true c18
               clear c18
               by_cases c19 : (rd (rd_L4 l0_3 a1) x39_2) = 0
               ·rw [if_pos c19] at H
                have c19b0 : ((rd (rd_L4 l0_3 a1) x39_2) == 0) = true := beq_iff_eq.mpr c19
                have c19b1 : ((rd (rd_L4 l0_3 a1) x39_2) != 0) = false := bne_eq_false_iff_eq.mpr c19
                clear c19
                by_cases c20 : x39_2 < ((rd_L4 l0_4 a1).length : Int)
                ·rw [if_pos c20] at H
                 have c20b0 : decide (x39_2 < ((rd_L4 l0_4 a1).length : Int)) = true := decide_eq_true c20
                 clear c20
                 by_cases c21 : (rd (rd_L4 l0_4 a1) x39_2) = (-1)
                 ·rw [if_pos c21] at H
                  have c21b0 : ((rd (rd_L4 l0_4 a1) x39_2) == (-1)) = true := beq_iff_eq.mpr c21
                  have c21b1 : ((rd (rd_L4 l0_4 a1) x39_2) != (-1)) = false := bne_eq_false_iff_eq.mpr c21
                  clear c21
                  have H' := zA H
                  clear H
                  obtain ⟨hcz22_0, hcz22_1, hcz22_2, hcz22_3, hcz22_4, hfz22_0, hfz22_1, hfz22_2, hfz22_3, hfz22_4⟩ := zh5 BK313.out
                  have p316 : 0 ≤ (a1 : Int) := zd
                  have q316 : a1 < (l0_2.length : Int) := zd
                  obtain ⟨ad316, A316_0, c316_0, e316, hx316_0, hx316_1, hx316_2, hl316_0, hi316_0⟩ := at_T120 HR0_2.out a1 p316 q316
                  cases e316
                  replace hx316_0 := zx HB.out hx316_0
                  replace hx316_1 := zx HB.out hx316_1
                  replace hx316_2 := zx HB.out hx316_2
                  have HR316_0 := zA hi316_0
                  have HC316_0 := zA hl316_0
                  clear hi316_0 hl316_0
                  replace p316 := eq_true p316
                  replace q316 := eq_true q316
                  have p317 : 0 ≤ (x39_2 : Int) := zd
                  have q317 : x39_2 < ((rd_L4 l0_3 a1).length : Int) := zd
                  obtain ⟨ad317, e317, hx317_0⟩ := Kd.at_int HR314_0.out x39_2 p317 q317
                  cases e317
                  replace hx317_0 := zx HB.out hx317_0
                  replace p317 := eq_true p317
                  replace q317 := eq_true q317
                  have p318 : 0 ≤ (x39_2 : Int) := zd
                  have q318 : x39_2 < ((rd_L4 l0_4 a1).length : Int) := zd
                  obtain ⟨ad318, e318, hx318_0⟩ := Kd.at_int HR315_0.out x39_2 p318 q318
                  cases e318
                  replace hx318_0 := zx HB.out hx318_0
                  replace p318 := eq_true p318
                  replace q318 := eq_true q318
                  go_wp2
                  repeat (go_quiet (fail); try go_wp2)
                  go_roundg k2
                  case measure => have := HJ5.out; have := HK2.out; omega
                  case rel => exact ⟨(wrap64 (x39_2 + 1)), zr, H', ⟨by have := HJ5.out; have := HK2.out; omega⟩, ⟨zb BK313.out⟩, ⟨zs GE313.out⟩⟩
                 ·rw [if_neg c21] at H
                  have c21b0 : ((rd (rd_L4 l0_4 a1) x39_2) == (-1)) = false := beq_eq_false_iff_ne.mpr c21
                  have c21b1 : ((rd (rd_L4 l0_4 a1) x39_2) != (-1)) = true := bne_iff_ne.mpr c21
                  obtain rfl := Option.some.inj H
                  obtain ⟨hcz23_0, hcz23_1, hcz23_2, hcz23_3, hcz23_4, hfz23_0, hfz23_1, hfz23_2, hfz23_3, hfz23_4⟩ := zh5 BK313.out
                  have p316 : 0 ≤ (a1 : Int) := zd
                  have q316 : a1 < (l0_2.length : Int) := zd
                  obtain ⟨ad316, A316_0, c316_0, e316, hx316_0, hx316_1, hx316_2, hl316_0, hi316_0⟩ := at_T120 HR0_2.out a1 p316 q316
                  cases e316
                  replace hx316_0 := zx HB.out hx316_0
                  replace hx316_1 := zx HB.out hx316_1
                  replace hx316_2 := zx HB.out hx316_2
                  have HR316_0 := zA hi316_0
                  have HC316_0 := zA hl316_0
                  clear hi316_0 hl316_0
                  replace p316 := eq_true p316
                  replace q316 := eq_true q316
                  have p317 : 0 ≤ (x39_2 : Int) := zd
                  have q317 : x39_2 < ((rd_L4 l0_3 a1).length : Int) := zd
                  obtain ⟨ad317, e317, hx317_0⟩ := Kd.at_int HR314_0.out x39_2 p317 q317
                  cases e317
                  replace hx317_0 := zx HB.out hx317_0
                  replace p317 := eq_true p317
                  replace q317 := eq_true q317
                  have p318 : 0 ≤ (x39_2 : Int) := zd
                  have q318 : x39_2 < ((rd_L4 l0_4 a1).length : Int) := zd
                  obtain ⟨ad318, e318, hx318_0⟩ := Kd.at_int HR315_0.out x39_2 p318 q318
                  cases e318
                  replace hx318_0 := zx HB.out hx318_0
                  replace p318 := eq_true p318
                  replace q318 := eq_true q318
                  go_wp2
                  repeat (go_quiet (fail); try go_wp2)
                  go_ret
                  exact ⟨ze, (zs GE313.out)⟩
                ·rw [if_neg c20] at H
                 exact absurd H (by simp)
               ·rw [if_neg c19] at H
                have c19b0 : ((rd (rd_L4 l0_3 a1) x39_2) == 0) = false := beq_eq_false_iff_ne.mpr c19
                have c19b1 : ((rd (rd_L4 l0_3 a1) x39_2) != 0) = true := bne_iff_ne.mpr c19
                obtain rfl := Option.some.inj H
                obtain ⟨hcz24_0, hcz24_1, hcz24_2, hcz24_3, hcz24_4, hfz24_0, hfz24_1, hfz24_2, hfz24_3, hfz24_4⟩ := zh5 BK313.out
                have p316 : 0 ≤ (a1 : Int) := zd
                have q316 : a1 < (l0_2.length : Int) := zd
                obtain ⟨ad316, A316_0, c316_0, e316, hx316_0, hx316_1, hx316_2, hl316_0, hi316_0⟩ := at_T120 HR0_2.out a1 p316 q316
                cases e316
                replace hx316_0 := zx HB.out hx316_0
                replace hx316_1 := zx HB.out hx316_1
                replace hx316_2 := zx HB.out hx316_2
                have HR316_0 := zA hi316_0
                have HC316_0 := zA hl316_0
                clear hi316_0 hl316_0
                replace p316 := eq_true p316
                replace q316 := eq_true q316
                have p317 : 0 ≤ (x39_2 : Int) := zd
                have q317 : x39_2 < ((rd_L4 l0_3 a1).length : Int) := zd
                obtain ⟨ad317, e317, hx317_0⟩ := Kd.at_int HR314_0.out x39_2 p317 q317
                cases e317
                replace hx317_0 := zx HB.out hx317_0
                replace p317 := eq_true p317
                replace q317 := eq_true q317
                go_wp2
                repeat (go_quiet (fail); try go_wp2)
                go_ret
                exact ⟨ze, (zs GE313.out)⟩
              ·rw [if_neg c18] at H
               exact absurd H (by simp)
             ·rw [if_neg c17] at H
              exact absurd H (by simp)
            ·rw [if_neg c16] at H
             have c16b0 : (x39_2 == ((rd_T120 l0_2 a1).f2)) = false := beq_eq_false_iff_ne.mpr c16
             have c16b1 : (x39_2 != ((rd_T120 l0_2 a1).f2)) = true := bne_iff_ne.mpr c16
             by_cases c25 : 0 ≤ x39_2
             ·rw [if_pos c25] at H
              have c25b0 : decide (0 ≤ x39_2) = true := decide_eq_true c25
              clear c25
              by_cases c26 : x39_2 < ((rd_L4 l0_3 a1).length : Int)
              ·rw [if_pos c26] at H
               have c26b0 : decide (x39_2 < ((rd_L4 l0_3 a1).length : Int)) = true := decide_eq_true c26
               clear c26
               by_cases c27 : (rd (rd_L4 l0_3 a1) x39_2) = (-1)
               ·rw [if_pos c27] at H
                have c27b0 : ((rd (rd_L4 l0_3 a1) x39_2) == (-1)) = true := beq_iff_eq.mpr c27
                have c27b1 : ((rd (rd_L4 l0_3 a1) x39_2) != (-1)) = false := bne_eq_false_iff_eq.mpr c27
                clear c27
                by_cases c28 : x39_2 < ((rd_L4 l0_4 a1).length : Int)
                ·rw [if_pos c28] at H
                 have c28b0 : decide (x39_2 < ((rd_L4 l0_4 a1).length : Int)) = true := decide_eq_true c28
                 clear c28
                 by_cases c29 : (rd (rd_L4 l0_4 a1) x39_2) = (-1)
                 ·rw [if_pos c29] at H
                  have c29b0 : ((rd (rd_L4 l0_4 a1) x39_2) == (-1)) = true := beq_iff_eq.mpr c29
                  have c29b1 : ((rd (rd_L4 l0_4 a1) x39_2) != (-1)) = false := bne_eq_false_iff_eq.mpr c29
                  clear c29
                  have H' := zA H
                  clear H
                  obtain ⟨hcz30_0, hcz30_1, hcz30_2, hcz30_3, hcz30_4, hfz30_0, hfz30_1, hfz30_2, hfz30_3, hfz30_4⟩ := zh5 BK313.out
                  have p316 : 0 ≤ (a1 : Int) := zd
                  have q316 : a1 < (l0_2.length : Int) := zd
                  obtain ⟨ad316, A316_0, c316_0, e316, hx316_0, hx316_1, hx316_2, hl316_0, hi316_0⟩ := at_T120 HR0_2.out a1 p316 q316
                  cases e316
                  replace hx316_0 := zx HB.out hx316_0
                  replace hx316_1 := zx HB.out hx316_1
                  replace hx316_2 := zx HB.out hx316_2
                  have HR316_0 := zA hi316_0
                  have HC316_0 := zA hl316_0
                  clear hi316_0 hl316_0
                  replace p316 := eq_true p316
                  replace q316 := eq_true q316
                  have p319 : 0 ≤ (x39_2 : Int) := zd
                  have q319 : x39_2 < ((rd_L4 l0_3 a1).length : Int) := zd
                  obtain ⟨ad319, e319, hx319_0⟩ := Kd.at_int HR314_0.out x39_2 p319 q319
                  cases e319
                  replace hx319_0 := zx HB.out hx319_0
                  replace p319 := eq_true p319
                  replace q319 := eq_true q319
                  have p320 : 0 ≤ (x39_2 : Int) := zd
                  have q320 : x39_2 < ((rd_L4 l0_4 a1).length : Int) := zd
                  obtain ⟨ad320, e320, hx320_0⟩ := Kd.at_int HR315_0.out x39_2 p320 q320
                  cases e320
                  replace hx320_0 := zx HB.out hx320_0
                  replace p320 := eq_true p320
                  replace q320 := eq_true q320
                  go_wp2
                  repeat (go_quiet (fail); try go_wp2)
                  go_roundg k2
                  case measure => have := HJ5.out; have := HK2.out; omega
                  case rel => exact ⟨(wrap64 (x39_2 + 1)), zr, H', ⟨by have := HJ5.out; have := HK2.out; omega⟩, ⟨zb BK313.out⟩, ⟨zs GE313.out⟩⟩
                 ·rw [if_neg c29] at H
                  have c29b0 : ((rd (rd_L4 l0_4 a1) x39_2) == (-1)) = false := beq_eq_false_iff_ne.mpr c29
                  have c29b1 : ((rd (rd_L4 l0_4 a1) x39_2) != (-1)) = true := bne_iff_ne.mpr c29
                  obtain rfl := Option.some.inj H
                  obtain ⟨hcz31_0, hcz31_1, hcz31_2, hcz31_3, hcz31_4, hfz31_0, hfz31_1, hfz31_2, hfz31_3, hfz31_4⟩ := zh5 BK313.out
                  have p316 : 0 ≤ (a1 : Int) := zd
                  have q316 : a1 < (l0_2.length : Int) := zd
                  obtain ⟨ad316, A316_0, c316_0, e316, hx316_0, hx316_1, hx316_2, hl316_0, hi316_0⟩ := at_T120 HR0_2.out a1 p316 q316
                  cases e316
                  replace hx316_0 := zx HB.out hx316_0
                  replace hx316_1 := zx HB.out hx316_1
                  replace hx316_2 := zx HB.out hx316_2
                  have HR316_0 := zA hi316_0
                  have HC316_0 := zA hl316_0
                  clear hi316_0 hl316_0
                  replace p316 := eq_true p316
                  replace q316 := eq_true q316
                  have p319 : 0 ≤ (x39_2 : Int) := zd
                  have q319 : x39_2 < ((rd_L4 l0_3 a1).length : Int) := zd
                  obtain ⟨ad319, e319, hx319_0⟩ := Kd.at_int HR314_0.out x39_2 p319 q319
                  cases e319
                  replace hx319_0 := zx HB.out hx319_0
                  replace p319 := eq_true p319
                  replace q319 := eq_true q319
                  have p320 : 0 ≤ (x39_2 : Int) := zd
                  have q320 : x39_2 < ((rd_L4 l0_4 a1).length : Int) := zd
                  obtain ⟨ad320, e320, hx320_0⟩ := Kd.at_int HR315_0.out x39_2 p320 q320
                  cases e320
                  replace hx320_0 := zx HB.out hx320_0
                  replace p320 := eq_true p320
                  replace q320 := eq_true q320
                  go_wp2
                  repeat (go_quiet (fail); try go_wp2)
                  go_ret
                  exact ⟨ze, (zs GE313.out)⟩
                ·rw [if_neg c28] at H
                 exact absurd H (by simp)
               ·rw [if_neg c27] at H
                have c27b0 : ((rd (rd_L4 l0_3 a1) x39_2) == (-1)) = false := beq_eq_false_iff_ne.mpr c27
                have c27b1 : ((rd (rd_L4 l0_3 a1) x39_2) != (-1)) = true := bne_iff_ne.mpr c27
                have HC32 := zA H
                clear H
                obtain ⟨hcz33_0, hcz33_1, hcz33_2, hcz33_3, hcz33_4, hfz33_0, hfz33_1, hfz33_2, hfz33_3, hfz33_4⟩ := zh5 BK313.out
                have p316 : 0 ≤ (a1 : Int) := zd
                have q316 : a1 < (l0_2.length : Int) := zd
                obtain ⟨ad316, A316_0, c316_0, e316, hx316_0, hx316_1, hx316_2, hl316_0, hi316_0⟩ := at_T120 HR0_2.out a1 p316 q316
                cases e316
                replace hx316_0 := zx HB.out hx316_0
                replace hx316_1 := zx HB.out hx316_1
                replace hx316_2 := zx HB.out hx316_2
                have HR316_0 := zA hi316_0
                have HC316_0 := zA hl316_0
                clear hi316_0 hl316_0
                replace p316 := eq_true p316
                replace q316 := eq_true q316
                have p319 : 0 ≤ (x39_2 : Int) := zd
                have q319 : x39_2 < ((rd_L4 l0_3 a1).length : Int) := zd
                obtain ⟨ad319, e319, hx319_0⟩ := Kd.at_int HR314_0.out x39_2 p319 q319
                cases e319
                replace hx319_0 := zx HB.out hx319_0
                replace p319 := eq_true p319
                replace q319 := eq_true q319
                go_upto_region 7 with (fail)
                repeat (go_quiet (fail); go_upto_region 7 with (fail))
                go_cut [67] (fun v67 wc => ∃ (kq : Nat) (x67_31 : Bool), v67 = .bool x67_31 ∧ Aside0 (impl_Tables_listOk.j2 kq a1 (rd_L4 l0_3 a1) (rd_L4 l0_4 a1) x39_2 ((rd_L4 l0_3 a1).length : Int) x39_2 x67_31 a0_0 a0_1 l0_2 l0_3 l0_4 = some r) ∧ Aside0 (kq ≤ k2) ∧ Aside0 (wc.heap[gb313]? = some (.cells #[.int .i64 a0_0, .int .i64 a0_1, (.slice (some ad316) l0_2.length c0_2), (.slice (some ad314) l0_3.length c0_3), (.slice (some ad315) l0_4.length c0_4)] 47 (0, 0))) ∧ Aside0 (Below w.heap.size w wc))
                case first =>
                 have H := HC32.out
                 clear HC32
                 by_cases c34 : (rd (rd_L4 l0_3 a1) x39_2) < 1
                 ·rw [if_pos c34] at H
                  have c34b0 : decide ((rd (rd_L4 l0_3 a1) x39_2) < 1) = true := decide_eq_true c34
                  clear c34
                  (first | rw [c34b0] | (simp only [i64_w, i32_w]; rw [c34b0]) | skip)
                  have H' := zA H
                  clear H
                  have p321 : 0 ≤ (x39_2 : Int) := zd
                  have q321 : x39_2 < ((rd_L4 l0_3 a1).length : Int) := zd
                  obtain ⟨ad321, e321, hx321_0⟩ := Kd.at_int HR314_0.out x39_2 p321 q321
                  obtain rfl : ad319 = ad321 := (by injection e321)
                  replace hx321_0 := zx HB.out hx321_0
                  replace p321 := eq_true p321
                  replace q321 := eq_true q321
                  go_wp2
                  repeat (go_quiet (fail); try go_wp2)
                  go_meet
                  case rel => exact ⟨_, (true), zr, H', ⟨by have := HJ5.out; have := HK2.out; first | omega | exact Nat.le_refl _⟩, ⟨zb BK313.out⟩, ⟨zs GE313.out⟩⟩
                 ·rw [if_neg c34] at H
                  have c34b0 : decide ((rd (rd_L4 l0_3 a1) x39_2) < 1) = false := decide_eq_false c34
                  clear c34
                  (first | rw [c34b0] | (simp only [i64_w, i32_w]; rw [c34b0]) | skip)
                  by_cases c35 : (rd (rd_L4 l0_3 a1) x39_2) > 65534
                  ·rw [if_pos c35] at H
                   have c35b0 : decide (65534 < (rd (rd_L4 l0_3 a1) x39_2)) = true := decide_eq_true c35
                   clear c35
                   have H' := zA H
                   clear H
                   have p321 : 0 ≤ (x39_2 : Int) := zd
                   have q321 : x39_2 < ((rd_L4 l0_3 a1).length : Int) := zd
                   obtain ⟨ad321, e321, hx321_0⟩ := Kd.at_int HR314_0.out x39_2 p321 q321
                   obtain rfl : ad319 = ad321 := (by injection e321)
                   replace hx321_0 := zx HB.out hx321_0
                   replace p321 := eq_true p321
                   replace q321 := eq_true q321
                   have p322 : 0 ≤ (x39_2 : Int) := zd
                   have q322 : x39_2 < ((rd_L4 l0_3 a1).length : Int) := zd
                   obtain ⟨ad322, e322, hx322_0⟩ := Kd.at_int HR314_0.out x39_2 p322 q322
                   obtain rfl : ad319 = ad322 := (by injection e322)
                   replace hx322_0 := zx HB.out hx322_0
                   replace p322 := eq_true p322
                   replace q322 := eq_true q322
                   go_wp2
                   repeat (go_quiet (fail); try go_wp2)
                   go_meet
                   case rel => exact ⟨_, (true), zr, H', ⟨by have := HJ5.out; have := HK2.out; first | omega | exact Nat.le_refl _⟩, ⟨zb BK313.out⟩, ⟨zs GE313.out⟩⟩
                  ·rw [if_neg c35] at H
                   have c35b0 : decide (65534 < (rd (rd_L4 l0_3 a1) x39_2)) = false := decide_eq_false c35
                   clear c35
                   by_cases c36 : x39_2 < ((rd_L4 l0_4 a1).length : Int)
                   ·rw [if_pos c36] at H
                    have c36b0 : decide (x39_2 < ((rd_L4 l0_4 a1).length : Int)) = true := decide_eq_true c36
                    clear c36
                    by_cases c37 : (rd (rd_L4 l0_4 a1) x39_2) < 0
                    ·rw [if_pos c37] at H
                     have c37b0 : decide ((rd (rd_L4 l0_4 a1) x39_2) < 0) = true := decide_eq_true c37
                     clear c37
                     have H' := zA H
                     clear H
                     have p321 : 0 ≤ (x39_2 : Int) := zd
                     have q321 : x39_2 < ((rd_L4 l0_3 a1).length : Int) := zd
                     obtain ⟨ad321, e321, hx321_0⟩ := Kd.at_int HR314_0.out x39_2 p321 q321
                     obtain rfl : ad319 = ad321 := (by injection e321)
                     replace hx321_0 := zx HB.out hx321_0
                     replace p321 := eq_true p321
                     replace q321 := eq_true q321
                     have p322 : 0 ≤ (x39_2 : Int) := zd
                     have q322 : x39_2 < ((rd_L4 l0_3 a1).length : Int) := zd
                     obtain ⟨ad322, e322, hx322_0⟩ := Kd.at_int HR314_0.out x39_2 p322 q322
                     obtain rfl : ad319 = ad322 := (by injection e322)
                     replace hx322_0 := zx HB.out hx322_0
                     replace p322 := eq_true p322
                     replace q322 := eq_true q322
                     have p323 : 0 ≤ (x39_2 : Int) := zd
                     have q323 : x39_2 < ((rd_L4 l0_4 a1).length : Int) := zd
                     obtain ⟨ad323, e323, hx323_0⟩ := Kd.at_int HR315_0.out x39_2 p323 q323
                     cases e323
                     replace hx323_0 := zx HB.out hx323_0
                     replace p323 := eq_true p323
                     replace q323 := eq_true q323
                     go_wp2
                     repeat (go_quiet (fail); try go_wp2)
                     go_meet
                     case rel => exact ⟨_, (true), zr, H', ⟨by have := HJ5.out; have := HK2.out; first | omega | exact Nat.le_refl _⟩, ⟨zb BK313.out⟩, ⟨zs GE313.out⟩⟩
                    ·rw [if_neg c37] at H
                     have c37b0 : decide ((rd (rd_L4 l0_4 a1) x39_2) < 0) = false := decide_eq_false c37
                     clear c37
                     have H' := zA H
                     clear H
                     have p321 : 0 ≤ (x39_2 : Int) := zd
                     have q321 : x39_2 < ((rd_L4 l0_3 a1).length : Int) := zd
                     obtain ⟨ad321, e321, hx321_0⟩ := Kd.at_int HR314_0.out x39_2 p321 q321
                     obtain rfl : ad319 = ad321 := (by injection e321)
                     replace hx321_0 := zx HB.out hx321_0
                     replace p321 := eq_true p321
                     replace q321 := eq_true q321
                     have p322 : 0 ≤ (x39_2 : Int) := zd
                     have q322 : x39_2 < ((rd_L4 l0_3 a1).length : Int) := zd
                     obtain ⟨ad322, e322, hx322_0⟩ := Kd.at_int HR314_0.out x39_2 p322 q322
                     obtain rfl : ad319 = ad322 := (by injection e322)
                     replace hx322_0 := zx HB.out hx322_0
                     replace p322 := eq_true p322
                     replace q322 := eq_true q322
                     have p323 : 0 ≤ (x39_2 : Int) := zd
                     have q323 : x39_2 < ((rd_L4 l0_4 a1).length : Int) := zd
                     obtain ⟨ad323, e323, hx323_0⟩ := Kd.at_int HR315_0.out x39_2 p323 q323
                     cases e323
                     replace hx323_0 := zx HB.out hx323_0
                     replace p323 := eq_true p323
                     replace q323 := eq_true q323
                     have p324 : 0 ≤ (x39_2 : Int) := zd
                     have q324 : x39_2 < ((rd_L4 l0_4 a1).length : Int) := zd
                     obtain ⟨ad324, e324, hx324_0⟩ := Kd.at_int HR315_0.out x39_2 p324 q324
                     obtain rfl : ad323 = ad324 := (by injection e324)
                     replace hx324_0 := zx HB.out hx324_0
                     replace p324 := eq_true p324
                     replace q324 := eq_true q324
                     go_wp2
                     repeat (go_quiet (fail); try go_wp2)
                     go_meet
                     case rel => exact ⟨_, (decide ((rd (rd_L4 l0_4 a1) x39_2) > 3)), zr, H', ⟨by have := HJ5.out; have := HK2.out; first | omega | exact Nat.le_refl _⟩, ⟨zb BK313.out⟩, ⟨zs GE313.out⟩⟩
                   ·rw [if_neg c36] at H
                    exact absurd H (by simp)
                case rest =>
                 clear HC32
                 (try clear c1); (try clear c2); (try clear p2); (try clear c3); (try clear c3b0); (try clear p3); (try clear q3); (try clear hx3); (try clear c4); (try clear c4b0); (try clear c5); (try clear c5b0); (try clear p6); (try clear c9); (try clear c9b0); (try clear c9b1); (try clear c12); (try clear c13); (try clear c13b0); (try clear c14); (try clear c14b0); (try clear c15); (try clear c15b0); (try clear c16); (try clear c16b0); (try clear c16b1); (try clear c17); (try clear c17b0); (try clear c18); (try clear c18b0); (try clear c19); (try clear c19b0); (try clear c19b1); (try clear c20); (try clear c20b0); (try clear c21); (try clear c21b0); (try clear c21b1); (try clear c25); (try clear c25b0); (try clear c26); (try clear c26b0); (try clear c27); (try clear c27b0); (try clear c27b1); (try clear c28); (try clear c28b0); (try clear c29); (try clear c29b0); (try clear c29b1); (try clear c31); (try clear p31); (try clear q31); (try clear hx31); (try clear p32); (try clear q32); (try clear hx32); (try clear c34); (try clear c34b0); (try clear c35); (try clear c35b0); (try clear c36); (try clear c36b0); (try clear c37); (try clear c37b0); (try clear hcz10_0 hcz10_1 hcz10_2 hcz10_3 hcz10_4); (try clear hcz11_0 hcz11_1 hcz11_2 hcz11_3 hcz11_4); (try clear hcz22_0 hcz22_1 hcz22_2 hcz22_3 hcz22_4); (try clear hcz23_0 hcz23_1 hcz23_2 hcz23_3 hcz23_4); (try clear hcz24_0 hcz24_1 hcz24_2 hcz24_3 hcz24_4); (try clear hcz30_0 hcz30_1 hcz30_2 hcz30_3 hcz30_4); (try clear hcz31_0 hcz31_1 hcz31_2 hcz31_3 hcz31_4); (try clear hcz33_0 hcz33_1 hcz33_2 hcz33_3 hcz33_4); (try clear hcz8_0 hcz8_1 hcz8_2 hcz8_3 hcz8_4); (try clear hfz10_0 hfz10_1 hfz10_2 hfz10_3 hfz10_4); (try clear hfz11_0 hfz11_1 hfz11_2 hfz11_3 hfz11_4); (try clear hfz22_0 hfz22_1 hfz22_2 hfz22_3 hfz22_4); (try clear hfz23_0 hfz23_1 hfz23_2 hfz23_3 hfz23_4); (try clear hfz24_0 hfz24_1 hfz24_2 hfz24_3 hfz24_4); (try clear hfz30_0 hfz30_1 hfz30_2 hfz30_3 hfz30_4); (try clear hfz31_0 hfz31_1 hfz31_2 hfz31_3 hfz31_4); (try clear hfz33_0 hfz33_1 hfz33_2 hfz33_3 hfz33_4); (try clear hfz8_0 hfz8_1 hfz8_2 hfz8_3 hfz8_4); (try clear hx314_0); (try clear hx315_0); (try clear hx316_0); (try clear hx316_1); (try clear hx316_2); (try clear hx317_0); (try clear hx318_0); (try clear hx319_0); (try clear hx320_0); (try clear hx321_0); (try clear hx322_0); (try clear hx323_0); (try clear hx324_0); (try clear p2); (try clear p3); (try clear p314); (try clear p315); (try clear p316); (try clear p317); (try clear p318); (try clear p319); (try clear p320); (try clear p321); (try clear p322); (try clear p323); (try clear p324); (try clear p6); (try clear q3); (try clear q314); (try clear q315); (try clear q316); (try clear q317); (try clear q318); (try clear q319); (try clear q320); (try clear q321); (try clear q322); (try clear q323); (try clear q324)
                 obtain ⟨kq, x67_31, rfl, HA, HJ31, BK313, HB⟩ := hcut
                 cases kq with
                 | zero => exact absurd HA.out (by simp [impl_Tables_listOk.j2])
                 | succ kj31 =>
                  have H := HA.out
                  clear HA
                  simp only [impl_Tables_listOk.j2] at H
                  by_cases c38 : x67_31 = true
                  ·subst c38
                   have H1 : (some false) = some r := by rw [if_pos rfl] at H; exact H
                   clear H
                   have H := H1
                   clear H1
                   obtain rfl := Option.some.inj H
                   go_wp2
                   repeat (go_quiet (fail); try go_wp2)
                   go_ret
                   exact ⟨ze, (zs GE313.out)⟩
                  ·replace c38 := Bool.eq_false_iff.mpr c38
                   subst c38
                   have H1 : (if 0 ≤ x39_2 then (if x39_2 < ((rd_L4 l0_4 a1).length : Int) then ((impl_side.f a0_0 a0_1 x39_2 (rd (rd_L4 l0_4 a1) x39_2)).bind fun t326 => (if t326 < 0 then (some false) else (if 0 ≤ t326 then (if t326 < ((rd_L4 l0_3 a1).length : Int) then (if (rd (rd_L4 l0_3 a1) t326) < 0 then (some false) else (if x39_2 < ((rd_L4 l0_3 a1).length : Int) then (if (rd (rd_L4 l0_3 a1) t326) ≥ (rd (rd_L4 l0_3 a1) x39_2) then (some false) else (impl_Tables_listOk.l0 kj31 a1 (rd_L4 l0_3 a1) (rd_L4 l0_4 a1) ((rd_L4 l0_3 a1).length : Int) (wrap64 (x39_2 + 1)) a0_0 a0_1 l0_2 l0_3 l0_4)) else (none))) else (none)) else (none)))) else (none)) else (none)) = some r := by rw [if_neg (show ¬ (false = true) by decide)] at H; exact H
                   clear H
                   have H := H1
                   clear H1
                   by_cases c39 : 0 ≤ x39_2
                   ·rw [if_pos c39] at H
                    have c39b0 : decide (0 ≤ x39_2) = true := decide_eq_true c39
                    clear c39
                    by_cases c40 : x39_2 < ((rd_L4 l0_4 a1).length : Int)
                    ·rw [if_pos c40] at H
                     have c40b0 : decide (x39_2 < ((rd_L4 l0_4 a1).length : Int)) = true := decide_eq_true c40
                     clear c40
                     replace H := Option.bind_eq_some_iff.mp H
                     obtain ⟨t326, A410, H⟩ := H
                     replace H : (if t326 < 0 then (some false) else (if 0 ≤ t326 then (if t326 < ((rd_L4 l0_3 a1).length : Int) then (if (rd (rd_L4 l0_3 a1) t326) < 0 then (some false) else (if x39_2 < ((rd_L4 l0_3 a1).length : Int) then (if (rd (rd_L4 l0_3 a1) t326) ≥ (rd (rd_L4 l0_3 a1) x39_2) then (some false) else (impl_Tables_listOk.l0 kj31 a1 (rd_L4 l0_3 a1) (rd_L4 l0_4 a1) ((rd_L4 l0_3 a1).length : Int) (wrap64 (x39_2 + 1)) a0_0 a0_1 l0_2 l0_3 l0_4)) else (none))) else (none)) else (none))) = some r := H
                     have A41 := zA A410
                     clear A410
                     by_cases c42 : t326 < 0
                     ·rw [if_pos c42] at H
                      have c42b0 : decide (t326 < 0) = true := decide_eq_true c42
                      clear c42
                      obtain rfl := Option.some.inj H
                      obtain ⟨hcz43_0, hcz43_1, hcz43_2, hcz43_3, hcz43_4, hfz43_0, hfz43_1, hfz43_2, hfz43_3, hfz43_4⟩ := zh5 BK313.out
                      have p325 : 0 ≤ (x39_2 : Int) := zd
                      have q325 : x39_2 < ((rd_L4 l0_4 a1).length : Int) := zd
                      obtain ⟨ad325, e325, hx325_0⟩ := Kd.at_int HR315_0.out x39_2 p325 q325
                      cases e325
                      replace hx325_0 := zx HB.out hx325_0
                      replace p325 := eq_true p325
                      replace q325 := eq_true q325
                      go_wp2_with (first | (go_at_call 75; (with_reducible refine (impl_side.calls a0_0 a0_1 x39_2 (rd (rd_L4 l0_4 a1) x39_2) t326 _ A41.out).mono ?_); rintro e w' ⟨rfl, ⟨nd, rfl⟩⟩; (try first | exact ⟨rfl, _, World.drewN_drewN _ _ _⟩ | exact ⟨rfl, _, Eq.trans (World.drewN_drewN _ _ _) (congrArg (World.drewN _) (Nat.add_assoc _ _ _))⟩)))
                      repeat (go_quiet (first | (go_at_call 75; (with_reducible refine (impl_side.calls a0_0 a0_1 x39_2 (rd (rd_L4 l0_4 a1) x39_2) t326 _ A41.out).mono ?_); rintro e w' ⟨rfl, ⟨nd, rfl⟩⟩; (try first | exact ⟨rfl, _, World.drewN_drewN _ _ _⟩ | exact ⟨rfl, _, Eq.trans (World.drewN_drewN _ _ _) (congrArg (World.drewN _) (Nat.add_assoc _ _ _))⟩))); try go_wp2_with (first | (go_at_call 75; (with_reducible refine (impl_side.calls a0_0 a0_1 x39_2 (rd (rd_L4 l0_4 a1) x39_2) t326 _ A41.out).mono ?_); rintro e w' ⟨rfl, ⟨nd, rfl⟩⟩; (try first | exact ⟨rfl, _, World.drewN_drewN _ _ _⟩ | exact ⟨rfl, _, Eq.trans (World.drewN_drewN _ _ _) (congrArg (World.drewN _) (Nat.add_assoc _ _ _))⟩))))
                      go_ret
                      exact ⟨ze, (zs GE313.out)⟩
                     ·rw [if_neg c42] at H
                      have c42b0 : decide (t326 < 0) = false := decide_eq_false c42
                      clear c42
                      by_cases c44 : 0 ≤ t326
                      ·rw [if_pos c44] at H
                       have c44b0 : decide (0 ≤ t326) = true := decide_eq_true c44
                       clear c44
                       by_cases c45 : t326 < ((rd_L4 l0_3 a1).length : Int)
                       ·rw [if_pos c45] at H
                        have c45b0 : decide (t326 < ((rd_L4 l0_3 a1).length : Int)) = true := decide_eq_true c45
                        clear c45
                        by_cases c46 : (rd (rd_L4 l0_3 a1) t326) < 0
                        ·rw [if_pos c46] at H
                         have c46b0 : decide ((rd (rd_L4 l0_3 a1) t326) < 0) = true := decide_eq_true c46
                         clear c46
                         obtain rfl := Option.some.inj H
                         obtain ⟨hcz47_0, hcz47_1, hcz47_2, hcz47_3, hcz47_4, hfz47_0, hfz47_1, hfz47_2, hfz47_3, hfz47_4⟩ := zh5 BK313.out
                         have p325 : 0 ≤ (x39_2 : Int) := zd
                         have q325 : x39_2 < ((rd_L4 l0_4 a1).length : Int) := zd
                         obtain ⟨ad325, e325, hx325_0⟩ := Kd.at_int HR315_0.out x39_2 p325 q325
                         cases e325
                         replace hx325_0 := zx HB.out hx325_0
                         replace p325 := eq_true p325
                         replace q325 := eq_true q325
                         go_wp2_with (first | (go_at_call 75; (with_reducible refine (impl_side.calls a0_0 a0_1 x39_2 (rd (rd_L4 l0_4 a1) x39_2) t326 _ A41.out).mono ?_); rintro e w' ⟨rfl, ⟨nd, rfl⟩⟩; (try first | exact ⟨rfl, _, World.drewN_drewN _ _ _⟩ | exact ⟨rfl, _, Eq.trans (World.drewN_drewN _ _ _) (congrArg (World.drewN _) (Nat.add_assoc _ _ _))⟩); have p327 : 0 ≤ (t326 : Int) := zd; have q327 : t326 < ((rd_L4 l0_3 a1).length : Int) := zd; obtain ⟨ad327, e327, hx327_0⟩ := Kd.at_int HR314_0.out t326 p327 q327; obtain rfl : ad319 = ad327 := (by injection e327); replace hx327_0 := zx HB.out hx327_0; replace p327 := eq_true p327; replace q327 := eq_true q327))
                         repeat (go_quiet (first | (go_at_call 75; (with_reducible refine (impl_side.calls a0_0 a0_1 x39_2 (rd (rd_L4 l0_4 a1) x39_2) t326 _ A41.out).mono ?_); rintro e w' ⟨rfl, ⟨nd, rfl⟩⟩; (try first | exact ⟨rfl, _, World.drewN_drewN _ _ _⟩ | exact ⟨rfl, _, Eq.trans (World.drewN_drewN _ _ _) (congrArg (World.drewN _) (Nat.add_assoc _ _ _))⟩); have p327 : 0 ≤ (t326 : Int) := zd; have q327 : t326 < ((rd_L4 l0_3 a1).length : Int) := zd; obtain ⟨ad327, e327, hx327_0⟩ := Kd.at_int HR314_0.out t326 p327 q327; obtain rfl : ad319 = ad327 := (by injection e327); replace hx327_0 := zx HB.out hx327_0; replace p327 := eq_true p327; replace q327 := eq_true q327)); try go_wp2_with (first | (go_at_call 75; (with_reducible refine (impl_side.calls a0_0 a0_1 x39_2 (rd (rd_L4 l0_4 a1) x39_2) t326 _ A41.out).mono ?_); rintro e w' ⟨rfl, ⟨nd, rfl⟩⟩; (try first | exact ⟨rfl, _, World.drewN_drewN _ _ _⟩ | exact ⟨rfl, _, Eq.trans (World.drewN_drewN _ _ _) (congrArg (World.drewN _) (Nat.add_assoc _ _ _))⟩); have p327 : 0 ≤ (t326 : Int) := zd; have q327 : t326 < ((rd_L4 l0_3 a1).length : Int) := zd; obtain ⟨ad327, e327, hx327_0⟩ := Kd.at_int HR314_0.out t326 p327 q327; obtain rfl : ad319 = ad327 := (by injection e327); replace hx327_0 := zx HB.out hx327_0; replace p327 := eq_true p327; replace q327 := eq_true q327)))
                         go_ret
                         exact ⟨ze, (zs GE313.out)⟩
                        ·rw [if_neg c46] at H
                         have c46b0 : decide ((rd (rd_L4 l0_3 a1) t326) < 0) = false := decide_eq_false c46
                         clear c46
                         by_cases c48 : x39_2 < ((rd_L4 l0_3 a1).length : Int)
                         ·rw [if_pos c48] at H
                          have c48b0 : decide (x39_2 < ((rd_L4 l0_3 a1).length : Int)) = true := decide_eq_true c48
                          clear c48
                          by_cases c49 : (rd (rd_L4 l0_3 a1) t326) ≥ (rd (rd_L4 l0_3 a1) x39_2)
                          ·rw [if_pos c49] at H
                           have c49b0 : decide ((rd (rd_L4 l0_3 a1) x39_2) ≤ (rd (rd_L4 l0_3 a1) t326)) = true := decide_eq_true c49
                           clear c49
                           obtain rfl := Option.some.inj H
                           obtain ⟨hcz50_0, hcz50_1, hcz50_2, hcz50_3, hcz50_4, hfz50_0, hfz50_1, hfz50_2, hfz50_3, hfz50_4⟩ := zh5 BK313.out
                           have p325 : 0 ≤ (x39_2 : Int) := zd
                           have q325 : x39_2 < ((rd_L4 l0_4 a1).length : Int) := zd
                           obtain ⟨ad325, e325, hx325_0⟩ := Kd.at_int HR315_0.out x39_2 p325 q325
                           cases e325
                           replace hx325_0 := zx HB.out hx325_0
                           replace p325 := eq_true p325
                           replace q325 := eq_true q325
                           go_wp2_with (first | (go_at_call 75; (with_reducible refine (impl_side.calls a0_0 a0_1 x39_2 (rd (rd_L4 l0_4 a1) x39_2) t326 _ A41.out).mono ?_); rintro e w' ⟨rfl, ⟨nd, rfl⟩⟩; (try first | exact ⟨rfl, _, World.drewN_drewN _ _ _⟩ | exact ⟨rfl, _, Eq.trans (World.drewN_drewN _ _ _) (congrArg (World.drewN _) (Nat.add_assoc _ _ _))⟩); have p327 : 0 ≤ (t326 : Int) := zd; have q327 : t326 < ((rd_L4 l0_3 a1).length : Int) := zd; obtain ⟨ad327, e327, hx327_0⟩ := Kd.at_int HR314_0.out t326 p327 q327; obtain rfl : ad319 = ad327 := (by injection e327); replace hx327_0 := zx HB.out hx327_0; replace p327 := eq_true p327; replace q327 := eq_true q327; have p328 : 0 ≤ (t326 : Int) := zd; have q328 : t326 < ((rd_L4 l0_3 a1).length : Int) := zd; obtain ⟨ad328, e328, hx328_0⟩ := Kd.at_int HR314_0.out t326 p328 q328; obtain rfl : ad319 = ad328 := (by injection e328); replace hx328_0 := zx HB.out hx328_0; replace p328 := eq_true p328; replace q328 := eq_true q328; have p329 : 0 ≤ (x39_2 : Int) := zd; have q329 : x39_2 < ((rd_L4 l0_3 a1).length : Int) := zd; obtain ⟨ad329, e329, hx329_0⟩ := Kd.at_int HR314_0.out x39_2 p329 q329; obtain rfl : ad319 = ad329 := (by injection e329); replace hx329_0 := zx HB.out hx329_0; replace p329 := eq_true p329; replace q329 := eq_true q329))
                           repeat (go_quiet (first | (go_at_call 75; (with_reducible refine (impl_side.calls a0_0 a0_1 x39_2 (rd (rd_L4 l0_4 a1) x39_2) t326 _ A41.out).mono ?_); rintro e w' ⟨rfl, ⟨nd, rfl⟩⟩; (try first | exact ⟨rfl, _, World.drewN_drewN _ _ _⟩ | exact ⟨rfl, _, Eq.trans (World.drewN_drewN _ _ _) (congrArg (World.drewN _) (Nat.add_assoc _ _ _))⟩); have p327 : 0 ≤ (t326 : Int) := zd; have q327 : t326 < ((rd_L4 l0_3 a1).length : Int) := zd; obtain ⟨ad327, e327, hx327_0⟩ := Kd.at_int HR314_0.out t326 p327 q327; obtain rfl : ad319 = ad327 := (by injection e327); replace hx327_0 := zx HB.out hx327_0; replace p327 := eq_true p327; replace q327 := eq_true q327; have p328 : 0 ≤ (t326 : Int) := zd; have q328 : t326 < ((rd_L4 l0_3 a1).length : Int) := zd; obtain ⟨ad328, e328, hx328_0⟩ := Kd.at_int HR314_0.out t326 p328 q328; obtain rfl : ad319 = ad328 := (by injection e328); replace hx328_0 := zx HB.out hx328_0; replace p328 := eq_true p328; replace q328 := eq_true q328; have p329 : 0 ≤ (x39_2 : Int) := zd; have q329 : x39_2 < ((rd_L4 l0_3 a1).length : Int) := zd; obtain ⟨ad329, e329, hx329_0⟩ := Kd.at_int HR314_0.out x39_2 p329 q329; obtain rfl : ad319 = ad329 := (by injection e329); replace hx329_0 := zx HB.out hx329_0; replace p329 := eq_true p329; replace q329 := eq_true q329)); try go_wp2_with (first | (go_at_call 75; (with_reducible refine (impl_side.calls a0_0 a0_1 x39_2 (rd (rd_L4 l0_4 a1) x39_2) t326 _ A41.out).mono ?_); rintro e w' ⟨rfl, ⟨nd, rfl⟩⟩; (try first | exact ⟨rfl, _, World.drewN_drewN _ _ _⟩ | exact ⟨rfl, _, Eq.trans (World.drewN_drewN _ _ _) (congrArg (World.drewN _) (Nat.add_assoc _ _ _))⟩); have p327 : 0 ≤ (t326 : Int) := zd; have q327 : t326 < ((rd_L4 l0_3 a1).length : Int) := zd; obtain ⟨ad327, e327, hx327_0⟩ := Kd.at_int HR314_0.out t326 p327 q327; obtain rfl : ad319 = ad327 := (by injection e327); replace hx327_0 := zx HB.out hx327_0; replace p327 := eq_true p327; replace q327 := eq_true q327; have p328 : 0 ≤ (t326 : Int) := zd; have q328 : t326 < ((rd_L4 l0_3 a1).length : Int) := zd; obtain ⟨ad328, e328, hx328_0⟩ := Kd.at_int HR314_0.out t326 p328 q328; obtain rfl : ad319 = ad328 := (by injection e328); replace hx328_0 := zx HB.out hx328_0; replace p328 := eq_true p328; replace q328 := eq_true q328; have p329 : 0 ≤ (x39_2 : Int) := zd; have q329 : x39_2 < ((rd_L4 l0_3 a1).length : Int) := zd; obtain ⟨ad329, e329, hx329_0⟩ := Kd.at_int HR314_0.out x39_2 p329 q329; obtain rfl : ad319 = ad329 := (by injection e329); replace hx329_0 := zx HB.out hx329_0; replace p329 := eq_true p329; replace q329 := eq_true q329)))
                           go_ret
                           exact ⟨ze, (zs GE313.out)⟩
                          ·rw [if_neg c49] at H
                           have c49b0 : decide ((rd (rd_L4 l0_3 a1) x39_2) ≤ (rd (rd_L4 l0_3 a1) t326)) = false := decide_eq_false c49
                           clear c49
                           have H' := zA H
                           clear H
                           obtain ⟨hcz51_0, hcz51_1, hcz51_2, hcz51_3, hcz51_4, hfz51_0, hfz51_1, hfz51_2, hfz51_3, hfz51_4⟩ := zh5 BK313.out
                           have p325 : 0 ≤ (x39_2 : Int) := zd
                           have q325 : x39_2 < ((rd_L4 l0_4 a1).length : Int) := zd
                           obtain ⟨ad325, e325, hx325_0⟩ := Kd.at_int HR315_0.out x39_2 p325 q325
                           cases e325
                           replace hx325_0 := zx HB.out hx325_0
                           replace p325 := eq_true p325
                           replace q325 := eq_true q325
                           go_wp2_with (first | (go_at_call 75; (with_reducible refine (impl_side.calls a0_0 a0_1 x39_2 (rd (rd_L4 l0_4 a1) x39_2) t326 _ A41.out).mono ?_); rintro e w' ⟨rfl, ⟨nd, rfl⟩⟩; (try first | exact ⟨rfl, _, World.drewN_drewN _ _ _⟩ | exact ⟨rfl, _, Eq.trans (World.drewN_drewN _ _ _) (congrArg (World.drewN _) (Nat.add_assoc _ _ _))⟩); have p327 : 0 ≤ (t326 : Int) := zd; have q327 : t326 < ((rd_L4 l0_3 a1).length : Int) := zd; obtain ⟨ad327, e327, hx327_0⟩ := Kd.at_int HR314_0.out t326 p327 q327; obtain rfl : ad319 = ad327 := (by injection e327); replace hx327_0 := zx HB.out hx327_0; replace p327 := eq_true p327; replace q327 := eq_true q327; have p328 : 0 ≤ (t326 : Int) := zd; have q328 : t326 < ((rd_L4 l0_3 a1).length : Int) := zd; obtain ⟨ad328, e328, hx328_0⟩ := Kd.at_int HR314_0.out t326 p328 q328; obtain rfl : ad319 = ad328 := (by injection e328); replace hx328_0 := zx HB.out hx328_0; replace p328 := eq_true p328; replace q328 := eq_true q328; have p329 : 0 ≤ (x39_2 : Int) := zd; have q329 : x39_2 < ((rd_L4 l0_3 a1).length : Int) := zd; obtain ⟨ad329, e329, hx329_0⟩ := Kd.at_int HR314_0.out x39_2 p329 q329; obtain rfl : ad319 = ad329 := (by injection e329); replace hx329_0 := zx HB.out hx329_0; replace p329 := eq_true p329; replace q329 := eq_true q329))
                           repeat (go_quiet (first | (go_at_call 75; (with_reducible refine (impl_side.calls a0_0 a0_1 x39_2 (rd (rd_L4 l0_4 a1) x39_2) t326 _ A41.out).mono ?_); rintro e w' ⟨rfl, ⟨nd, rfl⟩⟩; (try first | exact ⟨rfl, _, World.drewN_drewN _ _ _⟩ | exact ⟨rfl, _, Eq.trans (World.drewN_drewN _ _ _) (congrArg (World.drewN _) (Nat.add_assoc _ _ _))⟩); have p327 : 0 ≤ (t326 : Int) := zd; have q327 : t326 < ((rd_L4 l0_3 a1).length : Int) := zd; obtain ⟨ad327, e327, hx327_0⟩ := Kd.at_int HR314_0.out t326 p327 q327; obtain rfl : ad319 = ad327 := (by injection e327); replace hx327_0 := zx HB.out hx327_0; replace p327 := eq_true p327; replace q327 := eq_true q327; have p328 : 0 ≤ (t326 : Int) := zd; have q328 : t326 < ((rd_L4 l0_3 a1).length : Int) := zd; obtain ⟨ad328, e328, hx328_0⟩ := Kd.at_int HR314_0.out t326 p328 q328; obtain rfl : ad319 = ad328 := (by injection e328); replace hx328_0 := zx HB.out hx328_0; replace p328 := eq_true p328; replace q328 := eq_true q328; have p329 : 0 ≤ (x39_2 : Int) := zd; have q329 : x39_2 < ((rd_L4 l0_3 a1).length : Int) := zd; obtain ⟨ad329, e329, hx329_0⟩ := Kd.at_int HR314_0.out x39_2 p329 q329; obtain rfl : ad319 = ad329 := (by injection e329); replace hx329_0 := zx HB.out hx329_0; replace p329 := eq_true p329; replace q329 := eq_true q329)); try go_wp2_with (first | (go_at_call 75; (with_reducible refine (impl_side.calls a0_0 a0_1 x39_2 (rd (rd_L4 l0_4 a1) x39_2) t326 _ A41.out).mono ?_); rintro e w' ⟨rfl, ⟨nd, rfl⟩⟩; (try first | exact ⟨rfl, _, World.drewN_drewN _ _ _⟩ | exact ⟨rfl, _, Eq.trans (World.drewN_drewN _ _ _) (congrArg (World.drewN _) (Nat.add_assoc _ _ _))⟩); have p327 : 0 ≤ (t326 : Int) := zd; have q327 : t326 < ((rd_L4 l0_3 a1).length : Int) := zd; obtain ⟨ad327, e327, hx327_0⟩ := Kd.at_int HR314_0.out t326 p327 q327; obtain rfl : ad319 = ad327 := (by injection e327); replace hx327_0 := zx HB.out hx327_0; replace p327 := eq_true p327; replace q327 := eq_true q327; have p328 : 0 ≤ (t326 : Int) := zd; have q328 : t326 < ((rd_L4 l0_3 a1).length : Int) := zd; obtain ⟨ad328, e328, hx328_0⟩ := Kd.at_int HR314_0.out t326 p328 q328; obtain rfl : ad319 = ad328 := (by injection e328); replace hx328_0 := zx HB.out hx328_0; replace p328 := eq_true p328; replace q328 := eq_true q328; have p329 : 0 ≤ (x39_2 : Int) := zd; have q329 : x39_2 < ((rd_L4 l0_3 a1).length : Int) := zd; obtain ⟨ad329, e329, hx329_0⟩ := Kd.at_int HR314_0.out x39_2 p329 q329; obtain rfl : ad319 = ad329 := (by injection e329); replace hx329_0 := zx HB.out hx329_0; replace p329 := eq_true p329; replace q329 := eq_true q329)))
                           go_roundg kj31
                           case measure => have := HJ5.out; have := HK2.out; have := HJ31.out; omega
                           case rel => exact ⟨(wrap64 (x39_2 + 1)), zr, H', ⟨by have := HJ5.out; have := HK2.out; have := HJ31.out; omega⟩, ⟨zb BK313.out⟩, ⟨zs GE313.out⟩⟩
                         ·rw [if_neg c48] at H
                          exact absurd H (by simp)
                       ·rw [if_neg c45] at H
                        exact absurd H (by simp)
                      ·rw [if_neg c44] at H
                       exact absurd H (by simp)
                    ·rw [if_neg c40] at H
                     exact absurd H (by simp)
                   ·rw [if_neg c39] at H
                    exact absurd H (by simp)
              ·rw [if_neg c26] at H
               exact absurd H (by simp)
             ·rw [if_neg c25] at H
              exact absurd H (by simp)
           ·rw [if_neg c15] at H
            exact absurd H (by simp)
          ·rw [if_neg c14] at H
           exact absurd H (by simp)
         ·rw [if_neg c13] at H
          have c13b0 : decide (x39_2 < ((rd_L4 l0_3 a1).length : Int)) = false := decide_eq_false c13
          clear c13
          obtain rfl := Option.some.inj H
          go_wp2
          repeat (go_quiet (fail); try go_wp2)
          go_ret
          exact ⟨ze, (zs GE313.out)⟩
   ·rw [if_neg c5] at H
    exact absurd H (by simp)
  ·rw [if_neg c4] at H
   exact absurd H (by simp)
 ·rw [if_neg c3] at H
  exact absurd H (by simp)

end Go.Proofs.YthbeplmihjhoeaaDoor.PFnExactEncodeImage
