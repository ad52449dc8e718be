-- made by wip/tools/myprint.py (this session's own program, over the kit's printer)
import Derived.Test.YtiboccbaaphbhaaPFnExactReachx0
import Derived.Test.YtiboccbaaphbhaaPFnExactReachx6
namespace Go.Proofs.Ytiboccbaaphbhaa.PFnExactReach
open Go.RowKit Go.Proofs.YtiboccbaaphbhaaW.PrintWords Go.Proofs.YtiboccbaaphbhaaW.PrintLast Go.Proofs.YtiboccbaaphbhaaW.PrintMore
attribute [local go_sem] max2_int min2_int max_two min_two max_three min_three max_four min_four   -- for this text's walks alone
set_option linter.unusedVariables false
set_option linter.unusedSimpArgs false

/-! ### impl_ValidGraph: function 31 -/
mutual
def impl_ValidGraph.j0 : Nat → Bool → Int → List Int → List Int → List Int → List Int → Option (Bool)
 | 0, _, _, _, _, _, _ => none
 | k + 1, x34, x191000, x191001, x191002, x191003, x191004 => if x34 = true then (some false) else (if 0 ≤ x191000 then (if x191000 < (x191001.length : Int) then (if (rd x191001 x191000) > 6400 then (impl_ValidGraph.j1 k (rd x191001 x191000) true x191000 x191001 x191002 x191003 x191004) else (if (x191002.length : Int) = (rd x191001 x191000) then (if (x191003.length : Int) = (rd x191001 x191000) then (impl_ValidGraph.j1 k (rd x191001 x191000) ((x191004.length : Int) != (rd x191001 x191000)) x191000 x191001 x191002 x191003 x191004) else (impl_ValidGraph.j1 k (rd x191001 x191000) true x191000 x191001 x191002 x191003 x191004)) else (impl_ValidGraph.j1 k (rd x191001 x191000) true x191000 x191001 x191002 x191003 x191004))) else (none)) else (none))
def impl_ValidGraph.j1 : Nat → Int → Bool → Int → List Int → List Int → List Int → List Int → Option (Bool)
 | 0, _, _, _, _, _, _, _ => none
 | k + 1, x3, x63, x191000, x191001, x191002, x191003, x191004 => if x63 = true then (some false) else (impl_ValidGraph.l0 k x3 0 x191000 x191001 x191002 x191003 x191004)
def impl_ValidGraph.l0 : Nat → Int → Int → Int → List Int → List Int → List Int → List Int → Option (Bool)
 | 0, _, _, _, _, _, _, _ => none
 | k + 1, x64, x65, x191000, x191001, x191002, x191003, x191004 => if x65 < x64 then (if 0 ≤ x65 then (if x65 < (x191002.length : Int) then (if (rd x191002 x65) < 0 then (some false) else (if (rd x191002 x65) ≥ x191000 then (some false) else (if x65 < (x191003.length : Int) then (if (rd x191003 x65) < 0 then (some false) else (if (rd x191003 x65) > 3 then (some false) else (if x65 < (x191004.length : Int) then (if (rd x191004 x65) < 1 then (some false) else (if (rd x191004 x65) > 9 then (some false) else (impl_ValidGraph.l0 k x64 (wrap64 (x65 + 1)) x191000 x191001 x191002 x191003 x191004))) else (none)))) else (none)))) else (none)) else (none)) else (some true)
end
def impl_ValidGraph.f (k : Nat) (a0_0 : Int) (l0_1 : List Int) (l0_2 : List Int) (l0_3 : List Int) (l0_4 : List Int) : Option (Bool) := if a0_0 < 1 then (impl_ValidGraph.j0 k true a0_0 l0_1 l0_2 l0_3 l0_4) else (if a0_0 > 1600 then (impl_ValidGraph.j0 k true a0_0 l0_1 l0_2 l0_3 l0_4) else (if (l0_1.length : Int) = (wrap64 (a0_0 + 1)) then (if 0 < (l0_1.length : Int) then (if (rd l0_1 0) = 0 then ((slices_IsSorted_int_int.f k l0_1).bind fun t192 => (impl_ValidGraph.j0 k (!t192) a0_0 l0_1 l0_2 l0_3 l0_4)) else (impl_ValidGraph.j0 k true a0_0 l0_1 l0_2 l0_3 l0_4)) else (none)) else (impl_ValidGraph.j0 k true a0_0 l0_1 l0_2 l0_3 l0_4)))
theorem impl_ValidGraph.mono_l : ∀ k, (∀ y0 y1 y2 y3 y4 y5, LeO (impl_ValidGraph.j0 k y0 y1 y2 y3 y4 y5) (impl_ValidGraph.j0 (k + 1) y0 y1 y2 y3 y4 y5)) ∧ (∀ y0 y1 y2 y3 y4 y5 y6, LeO (impl_ValidGraph.j1 k y0 y1 y2 y3 y4 y5 y6) (impl_ValidGraph.j1 (k + 1) y0 y1 y2 y3 y4 y5 y6)) ∧ (∀ y0 y1 y2 y3 y4 y5 y6, LeO (impl_ValidGraph.l0 k y0 y1 y2 y3 y4 y5 y6) (impl_ValidGraph.l0 (k + 1) y0 y1 y2 y3 y4 y5 y6))
 | 0 => ⟨fun _ _ _ _ _ _ r h => by simp [impl_ValidGraph.j0] at h, fun _ _ _ _ _ _ _ r h => by simp [impl_ValidGraph.j1] at h, fun _ _ _ _ _ _ _ r h => by simp [impl_ValidGraph.l0] at h⟩
 | k + 1 => by
  obtain ⟨ih0, ih1, ih2⟩ := impl_ValidGraph.mono_l k
  refine ⟨?_, ?_, ?_⟩
  ·intro y0 y1 y2 y3 y4 y5
   unfold impl_ValidGraph.j0
   have m1 := @slices_IsSorted_int_int.mono
   exact zm
  ·intro y0 y1 y2 y3 y4 y5 y6
   unfold impl_ValidGraph.j1
   have m1 := @slices_IsSorted_int_int.mono
   exact zm
  ·intro y0 y1 y2 y3 y4 y5 y6
   unfold impl_ValidGraph.l0
   have m1 := @slices_IsSorted_int_int.mono
   exact zm
theorem impl_ValidGraph.mono : ∀ a0 a1 a2 a3 a4 k, LeO (impl_ValidGraph.f k a0 a1 a2 a3 a4) (impl_ValidGraph.f (k + 1) a0 a1 a2 a3 a4) := by
 intro a0 a1 a2 a3 a4 k
 obtain ⟨ih0, ih1, ih2⟩ := impl_ValidGraph.mono_l k
 unfold impl_ValidGraph.f
 have m1 := @slices_IsSorted_int_int.mono
 exact zm
set_option maxHeartbeats 8000000 in
set_option maxRecDepth 100000 in
theorem impl_ValidGraph.calls (k : Nat) (a0_0 : Int) (A0_1 : Option Addr) (c0_1 : Nat) (l0_1 : List Int) (A0_2 : Option Addr) (c0_2 : Nat) (l0_2 : List Int) (A0_3 : Option Addr) (c0_3 : Nat) (l0_3 : List Int) (A0_4 : Option Addr) (c0_4 : Nat) (l0_4 : List Int) (r : Bool) (w : World) (hr0_1 : Kd.C (Kd.int .i64) w A0_1 l0_1.length l0_1) (hc0_1 : l0_1.length ≤ c0_1) (hr0_2 : Kd.C (Kd.int .i64) w A0_2 l0_2.length l0_2) (hc0_2 : l0_2.length ≤ c0_2) (hr0_3 : Kd.C (Kd.int .i64) w A0_3 l0_3.length l0_3) (hc0_3 : l0_3.length ≤ c0_3) (hr0_4 : Kd.C (Kd.int .i64) w A0_4 l0_4.length l0_4) (hc0_4 : l0_4.length ≤ c0_4) (h : impl_ValidGraph.f k a0_0 l0_1 l0_2 l0_3 l0_4 = some r) :
  Calls Try.prog 31 #[.agg #[.int .i64 a0_0, .slice A0_1 l0_1.length c0_1, .slice A0_2 l0_2.length c0_2, .slice A0_3 l0_3.length c0_3, .slice A0_4 l0_4.length c0_4]] w fun e w' => e = .returned (.bool r) ∧ Below w.heap.size w w' := by
 have hu26 := Try.underlying26
 have HR0_1 := zA hr0_1
 have HC0_1 := zA hc0_1
 clear hr0_1 hc0_1
 have HR0_2 := zA hr0_2
 have HC0_2 := zA hc0_2
 clear hr0_2 hc0_2
 have HR0_3 := zA hr0_3
 have HC0_3 := zA hc0_3
 clear hr0_3 hc0_3
 have HR0_4 := zA hr0_4
 have HC0_4 := zA hc0_4
 clear hr0_4 hc0_4
 have HB := zA (Below.refl w.heap.size w)
 have H : (if a0_0 < 1 then (impl_ValidGraph.j0 k true a0_0 l0_1 l0_2 l0_3 l0_4) else (if a0_0 > 1600 then (impl_ValidGraph.j0 k true a0_0 l0_1 l0_2 l0_3 l0_4) else (if (l0_1.length : Int) = (wrap64 (a0_0 + 1)) then (if 0 < (l0_1.length : Int) then (if (rd l0_1 0) = 0 then ((slices_IsSorted_int_int.f k l0_1).bind fun t192 => (impl_ValidGraph.j0 k (!t192) a0_0 l0_1 l0_2 l0_3 l0_4)) else (impl_ValidGraph.j0 k true a0_0 l0_1 l0_2 l0_3 l0_4)) else (none)) else (impl_ValidGraph.j0 k true a0_0 l0_1 l0_2 l0_3 l0_4)))) = some r := h
 clear h
 have HC2 := zA H
 clear H
 go_enter Try.func31, Try.ntmps31
 go_upto_region 1 with (first | ((with_reducible refine gate_dst (N := 1) rfl ?_); (try (refine gate_guard (by rfl) ?_; dsimp only)); refine box_event ?hg (N := 1) ?hd (cs := #[.int .i64 a0_0, .slice A0_1 l0_1.length c0_1, .slice A0_2 l0_2.length c0_2, .slice A0_3 l0_3.length c0_3, .slice A0_4 l0_4.length c0_4]) (t := 26) ?hr ?_; (case hd => rfl); (case hg => rfl); (case hr => first | (go_simp; done) | (go_simp; rfl)); intro gb190 hg w3 hbox hb; have n0_ := zA (below_step z_ hb); have n1_ := zA (hbox); have n2_ := zA ((by rw [hg]; exact (below_size z_) : w.heap.size ≤ gb190)); have n3_ := zA ((by rw [hg]; exact (below_size z_) : w.heap.size ≤ gb190)); clear HB; have HB := n0_; have BK190 := n1_; have GW190 := n2_; have GE190 := n3_; clear n0_ n1_ n2_ n3_; clear hb hbox hg))
 repeat (go_quiet (first | ((with_reducible refine gate_dst (N := 1) rfl ?_); (try (refine gate_guard (by rfl) ?_; dsimp only)); refine box_event ?hg (N := 1) ?hd (cs := #[.int .i64 a0_0, .slice A0_1 l0_1.length c0_1, .slice A0_2 l0_2.length c0_2, .slice A0_3 l0_3.length c0_3, .slice A0_4 l0_4.length c0_4]) (t := 26) ?hr ?_; (case hd => rfl); (case hg => rfl); (case hr => first | (go_simp; done) | (go_simp; rfl)); intro gb190 hg w3 hbox hb; have n0_ := zA (below_step z_ hb); have n1_ := zA (hbox); have n2_ := zA ((by rw [hg]; exact (below_size z_) : w.heap.size ≤ gb190)); have n3_ := zA ((by rw [hg]; exact (below_size z_) : w.heap.size ≤ gb190)); clear HB; have HB := n0_; have BK190 := n1_; have GW190 := n2_; have GE190 := n3_; clear n0_ n1_ n2_ n3_; clear hb hbox hg)); go_upto_region 1 with (first | ((with_reducible refine gate_dst (N := 1) rfl ?_); (try (refine gate_guard (by rfl) ?_; dsimp only)); refine box_event ?hg (N := 1) ?hd (cs := #[.int .i64 a0_0, .slice A0_1 l0_1.length c0_1, .slice A0_2 l0_2.length c0_2, .slice A0_3 l0_3.length c0_3, .slice A0_4 l0_4.length c0_4]) (t := 26) ?hr ?_; (case hd => rfl); (case hg => rfl); (case hr => first | (go_simp; done) | (go_simp; rfl)); intro gb190 hg w3 hbox hb; have n0_ := zA (below_step z_ hb); have n1_ := zA (hbox); have n2_ := zA ((by rw [hg]; exact (below_size z_) : w.heap.size ≤ gb190)); have n3_ := zA ((by rw [hg]; exact (below_size z_) : w.heap.size ≤ gb190)); clear HB; have HB := n0_; have BK190 := n1_; have GW190 := n2_; have GE190 := n3_; clear n0_ n1_ n2_ n3_; clear hb hbox hg)))
 (try simp only [Act.put, List.setIfInBounds_toArray, List.set_cons_zero, List.set_cons_succ])
 go_cut [34] (fun v34 wc => ∃ (kq : Nat) (x34_1 : Bool), v34 = .bool x34_1 ∧ Aside0 (impl_ValidGraph.j0 kq x34_1 a0_0 l0_1 l0_2 l0_3 l0_4 = some r) ∧ Aside0 (kq ≤ k) ∧ Aside0 (wc.heap[gb190]? = some (.cells #[.int .i64 a0_0, (.slice A0_1 l0_1.length c0_1), (.slice A0_2 l0_2.length c0_2), (.slice A0_3 l0_3.length c0_3), (.slice A0_4 l0_4.length c0_4)] 26 (0, 0))) ∧ Aside0 (Below w.heap.size w wc))
 case first =>
  have H := HC2.out
  clear HC2
  by_cases c4 : a0_0 < 1
  ·rw [if_pos c4] at H
   have c4b0 : decide (a0_0 < 1) = true := decide_eq_true c4
   clear c4
   (first | rw [c4b0] | (simp only [i64_w, i32_w]; rw [c4b0]) | skip)
   have H' := zA H
   clear H
   obtain ⟨hcz5_0, hcz5_1, hcz5_2, hcz5_3, hcz5_4, hfz5_0, hfz5_1, hfz5_2, hfz5_3, hfz5_4⟩ := zh5 BK190.out
   go_wp2
   repeat (go_quiet (fail); try go_wp2)
   go_meet
   case rel => exact ⟨_, (true), zr, H', ⟨by first | omega | exact Nat.le_refl _⟩, ⟨zb BK190.out⟩, ⟨zs GE190.out⟩⟩
  ·rw [if_neg c4] at H
   have c4b0 : decide (a0_0 < 1) = false := decide_eq_false c4
   clear c4
   (first | rw [c4b0] | (simp only [i64_w, i32_w]; rw [c4b0]) | skip)
   by_cases c6 : a0_0 > 1600
   ·rw [if_pos c6] at H
    have c6b0 : decide (1600 < a0_0) = true := decide_eq_true c6
    clear c6
    have H' := zA H
    clear H
    obtain ⟨hcz7_0, hcz7_1, hcz7_2, hcz7_3, hcz7_4, hfz7_0, hfz7_1, hfz7_2, hfz7_3, hfz7_4⟩ := zh5 BK190.out
    go_wp2
    repeat (go_quiet (fail); try go_wp2)
    go_meet
    case rel => exact ⟨_, (true), zr, H', ⟨by first | omega | exact Nat.le_refl _⟩, ⟨zb BK190.out⟩, ⟨zs GE190.out⟩⟩
   ·rw [if_neg c6] at H
    have c6b0 : decide (1600 < a0_0) = false := decide_eq_false c6
    clear c6
    by_cases c8 : (l0_1.length : Int) = (wrap64 (a0_0 + 1))
    ·rw [if_pos c8] at H
     have c8b0 : ((l0_1.length : Int) == (wrap64 (a0_0 + 1))) = true := beq_iff_eq.mpr c8
     have c8b1 : ((l0_1.length : Int) != (wrap64 (a0_0 + 1))) = false := bne_eq_false_iff_eq.mpr c8
     clear c8
     by_cases c9 : 0 < (l0_1.length : Int)
     ·rw [if_pos c9] at H
      have c9b0 : decide (0 < (l0_1.length : Int)) = true := decide_eq_true c9
      have c9b1 : decide (0 < l0_1.length) = true := decide_eq_true (by omega)
      clear c9
      by_cases c10 : (rd l0_1 0) = 0
      ·rw [if_pos c10] at H
       have c10b0 : ((rd l0_1 0) == 0) = true := beq_iff_eq.mpr c10
       have c10b1 : ((rd l0_1 0) != 0) = false := bne_eq_false_iff_eq.mpr c10
       clear c10
       replace H := Option.bind_eq_some_iff.mp H
       obtain ⟨t192, A110, H⟩ := H
       replace H : (impl_ValidGraph.j0 k (!t192) a0_0 l0_1 l0_2 l0_3 l0_4) = some r := H
       have A11 := zA A110
       clear A110
       have H' := zA H
       clear H
       obtain ⟨hcz12_0, hcz12_1, hcz12_2, hcz12_3, hcz12_4, hfz12_0, hfz12_1, hfz12_2, hfz12_3, hfz12_4⟩ := zh5 BK190.out
       have p191 : 0 ≤ (0 : Int) := (by omega)
       have q191 : 0 < (l0_1.length : Int) := zd
       obtain ⟨ad191, e191, hx191_0⟩ := Kd.at_int HR0_1.out 0 p191 q191
       cases e191
       have qi191 : (0 < l0_1.length) = True := eq_true (by omega)
       (try rw [show ((0 : Int)).toNat = 0 from rfl] at hx191_0)
       (try rw [Addr.add_zero'] at hx191_0)
       replace hx191_0 := zx HB.out hx191_0
       replace p191 := eq_true p191
       replace q191 := eq_true q191
       go_wp2_with (first | (go_at_call 46; (with_reducible refine (slices_IsSorted_int_int.calls k _ _ l0_1 t192 _ ?side1 ?side2 A11.out).mono ?_); (case side1 => exact zc (Kd.C_below HR0_1.out HB.out)); (case side2 => exact HC0_1.out); rintro e w' ⟨rfl, ⟨nd, rfl⟩⟩; (try first | exact ⟨rfl, _, World.drewN_drewN _ _ _⟩ | exact ⟨rfl, _, Eq.trans (World.drewN_drewN _ _ _) (congrArg (World.drewN _) (Nat.add_assoc _ _ _))⟩)))
       repeat (go_quiet (first | (go_at_call 46; (with_reducible refine (slices_IsSorted_int_int.calls k _ _ l0_1 t192 _ ?side1 ?side2 A11.out).mono ?_); (case side1 => exact zc (Kd.C_below HR0_1.out HB.out)); (case side2 => exact HC0_1.out); rintro e w' ⟨rfl, ⟨nd, rfl⟩⟩; (try first | exact ⟨rfl, _, World.drewN_drewN _ _ _⟩ | exact ⟨rfl, _, Eq.trans (World.drewN_drewN _ _ _) (congrArg (World.drewN _) (Nat.add_assoc _ _ _))⟩))); try go_wp2_with (first | (go_at_call 46; (with_reducible refine (slices_IsSorted_int_int.calls k _ _ l0_1 t192 _ ?side1 ?side2 A11.out).mono ?_); (case side1 => exact zc (Kd.C_below HR0_1.out HB.out)); (case side2 => exact HC0_1.out); rintro e w' ⟨rfl, ⟨nd, rfl⟩⟩; (try first | exact ⟨rfl, _, World.drewN_drewN _ _ _⟩ | exact ⟨rfl, _, Eq.trans (World.drewN_drewN _ _ _) (congrArg (World.drewN _) (Nat.add_assoc _ _ _))⟩))))
       go_meet
       case rel => exact ⟨_, (!t192), zr, H', ⟨by first | omega | exact Nat.le_refl _⟩, ⟨zb BK190.out⟩, ⟨zs GE190.out⟩⟩
      ·rw [if_neg c10] at H
       have c10b0 : ((rd l0_1 0) == 0) = false := beq_eq_false_iff_ne.mpr c10
       have c10b1 : ((rd l0_1 0) != 0) = true := bne_iff_ne.mpr c10
       have H' := zA H
       clear H
       obtain ⟨hcz13_0, hcz13_1, hcz13_2, hcz13_3, hcz13_4, hfz13_0, hfz13_1, hfz13_2, hfz13_3, hfz13_4⟩ := zh5 BK190.out
       have p191 : 0 ≤ (0 : Int) := (by omega)
       have q191 : 0 < (l0_1.length : Int) := zd
       obtain ⟨ad191, e191, hx191_0⟩ := Kd.at_int HR0_1.out 0 p191 q191
       cases e191
       have qi191 : (0 < l0_1.length) = True := eq_true (by omega)
       (try rw [show ((0 : Int)).toNat = 0 from rfl] at hx191_0)
       (try rw [Addr.add_zero'] at hx191_0)
       replace hx191_0 := zx HB.out hx191_0
       replace p191 := eq_true p191
       replace q191 := eq_true q191
       go_wp2
       repeat (go_quiet (fail); try go_wp2)
       go_meet
       case rel => exact ⟨_, (true), zr, H', ⟨by first | omega | exact Nat.le_refl _⟩, ⟨zb BK190.out⟩, ⟨zs GE190.out⟩⟩
     ·rw [if_neg c9] at H
      exact absurd H (by simp)
    ·rw [if_neg c8] at H
     have c8b0 : ((l0_1.length : Int) == (wrap64 (a0_0 + 1))) = false := beq_eq_false_iff_ne.mpr c8
     have c8b1 : ((l0_1.length : Int) != (wrap64 (a0_0 + 1))) = true := bne_iff_ne.mpr c8
     have H' := zA H
     clear H
     obtain ⟨hcz14_0, hcz14_1, hcz14_2, hcz14_3, hcz14_4, hfz14_0, hfz14_1, hfz14_2, hfz14_3, hfz14_4⟩ := zh5 BK190.out
     go_wp2
     repeat (go_quiet (fail); try go_wp2)
     go_meet
     case rel => exact ⟨_, (true), zr, H', ⟨by first | omega | exact Nat.le_refl _⟩, ⟨zb BK190.out⟩, ⟨zs GE190.out⟩⟩
 case rest =>
  clear HC2
  (try clear c1); (try clear p1); (try clear q1); (try clear hx1); (try clear qi1); (try clear p2); (try clear c3); (try clear c4); (try clear c4b0); (try clear c6); (try clear c6b0); (try clear p6); (try clear c8); (try clear c8b0); (try clear c8b1); (try clear c9); (try clear c9b0); (try clear c9b1); (try clear c10); (try clear c10b0); (try clear c10b1); (try clear hcz12_0 hcz12_1 hcz12_2 hcz12_3 hcz12_4); (try clear hcz13_0 hcz13_1 hcz13_2 hcz13_3 hcz13_4); (try clear hcz14_0 hcz14_1 hcz14_2 hcz14_3 hcz14_4); (try clear hcz5_0 hcz5_1 hcz5_2 hcz5_3 hcz5_4); (try clear hcz7_0 hcz7_1 hcz7_2 hcz7_3 hcz7_4); (try clear hfz12_0 hfz12_1 hfz12_2 hfz12_3 hfz12_4); (try clear hfz13_0 hfz13_1 hfz13_2 hfz13_3 hfz13_4); (try clear hfz14_0 hfz14_1 hfz14_2 hfz14_3 hfz14_4); (try clear hfz5_0 hfz5_1 hfz5_2 hfz5_3 hfz5_4); (try clear hfz7_0 hfz7_1 hfz7_2 hfz7_3 hfz7_4); (try clear hx191_0); (try clear p191); (try clear q191)
  obtain ⟨kq, x34_1, rfl, HA, HJ1, BK190, HB⟩ := hcut
  cases kq with
  | zero => exact absurd HA.out (by simp [impl_ValidGraph.j0])
  | succ kj1 =>
   have H := HA.out
   clear HA
   simp only [impl_ValidGraph.j0] at H
   by_cases c15 : x34_1 = true
   ·subst c15
    have H1 : (some false) = some r := by rw [if_pos rfl] at H; exact H
    clear H
    have H := H1
    clear H1
    obtain rfl := Option.some.inj H
    go_wp2
    repeat (go_quiet (fail); try go_wp2)
    go_ret
    exact ⟨ze, (zs GE190.out)⟩
   ·replace c15 := Bool.eq_false_iff.mpr c15
    subst c15
    have H1 : (if 0 ≤ a0_0 then (if a0_0 < (l0_1.length : Int) then (if (rd l0_1 a0_0) > 6400 then (impl_ValidGraph.j1 kj1 (rd l0_1 a0_0) true a0_0 l0_1 l0_2 l0_3 l0_4) else (if (l0_2.length : Int) = (rd l0_1 a0_0) then (if (l0_3.length : Int) = (rd l0_1 a0_0) then (impl_ValidGraph.j1 kj1 (rd l0_1 a0_0) ((l0_4.length : Int) != (rd l0_1 a0_0)) a0_0 l0_1 l0_2 l0_3 l0_4) else (impl_ValidGraph.j1 kj1 (rd l0_1 a0_0) true a0_0 l0_1 l0_2 l0_3 l0_4)) else (impl_ValidGraph.j1 kj1 (rd l0_1 a0_0) true a0_0 l0_1 l0_2 l0_3 l0_4))) else (none)) else (none)) = some r := by rw [if_neg (show ¬ (false = true) by decide)] at H; exact H
    clear H
    have H := H1
    clear H1
    by_cases c16 : 0 ≤ a0_0
    ·rw [if_pos c16] at H
     have c16b0 : decide (0 ≤ a0_0) = true := decide_eq_true c16
     clear c16
     by_cases c17 : a0_0 < (l0_1.length : Int)
     ·rw [if_pos c17] at H
      have c17b0 : decide (a0_0 < (l0_1.length : Int)) = true := decide_eq_true c17
      clear c17
      have HC18 := zA H
      clear H
      obtain ⟨hcz19_0, hcz19_1, hcz19_2, hcz19_3, hcz19_4, hfz19_0, hfz19_1, hfz19_2, hfz19_3, hfz19_4⟩ := zh5 BK190.out
      have p193 : 0 ≤ (a0_0 : Int) := zd
      have q193 : a0_0 < (l0_1.length : Int) := zd
      obtain ⟨ad193, e193, hx193_0⟩ := Kd.at_int HR0_1.out a0_0 p193 q193
      cases e193
      replace hx193_0 := zx HB.out hx193_0
      replace p193 := eq_true p193
      replace q193 := eq_true q193
      go_upto_region 4 with (fail)
      repeat (go_quiet (fail); go_upto_region 4 with (fail))
      go_cut [63] (fun v63 wc => ∃ (kq : Nat) (x63_17 : Bool), v63 = .bool x63_17 ∧ Aside0 (impl_ValidGraph.j1 kq (rd l0_1 a0_0) x63_17 a0_0 l0_1 l0_2 l0_3 l0_4 = some r) ∧ Aside0 (kq ≤ kj1) ∧ Aside0 (wc.heap[gb190]? = some (.cells #[.int .i64 a0_0, (.slice (some ad193) l0_1.length c0_1), (.slice A0_2 l0_2.length c0_2), (.slice A0_3 l0_3.length c0_3), (.slice A0_4 l0_4.length c0_4)] 26 (0, 0))) ∧ Aside0 (Below w.heap.size w wc))
      case first =>
       have H := HC18.out
       clear HC18
       by_cases c20 : (rd l0_1 a0_0) > 6400
       ·rw [if_pos c20] at H
        have c20b0 : decide (6400 < (rd l0_1 a0_0)) = true := decide_eq_true c20
        clear c20
        (first | rw [c20b0] | (simp only [i64_w, i32_w]; rw [c20b0]) | skip)
        have H' := zA H
        clear H
        go_wp2
        repeat (go_quiet (fail); try go_wp2)
        go_meet
        case rel => exact ⟨_, (true), zr, H', ⟨by have := HJ1.out; first | omega | exact Nat.le_refl _⟩, ⟨zb BK190.out⟩, ⟨zs GE190.out⟩⟩
       ·rw [if_neg c20] at H
        have c20b0 : decide (6400 < (rd l0_1 a0_0)) = false := decide_eq_false c20
        clear c20
        (first | rw [c20b0] | (simp only [i64_w, i32_w]; rw [c20b0]) | skip)
        by_cases c21 : (l0_2.length : Int) = (rd l0_1 a0_0)
        ·rw [if_pos c21] at H
         have c21b0 : ((l0_2.length : Int) == (rd l0_1 a0_0)) = true := beq_iff_eq.mpr c21
         have c21b1 : ((l0_2.length : Int) != (rd l0_1 a0_0)) = false := bne_eq_false_iff_eq.mpr c21
         clear c21
         by_cases c22 : (l0_3.length : Int) = (rd l0_1 a0_0)
         ·rw [if_pos c22] at H
          have c22b0 : ((l0_3.length : Int) == (rd l0_1 a0_0)) = true := beq_iff_eq.mpr c22
          have c22b1 : ((l0_3.length : Int) != (rd l0_1 a0_0)) = false := bne_eq_false_iff_eq.mpr c22
          clear c22
          have H' := zA H
          clear H
          obtain ⟨hcz23_0, hcz23_1, hcz23_2, hcz23_3, hcz23_4, hfz23_0, hfz23_1, hfz23_2, hfz23_3, hfz23_4⟩ := zh5 BK190.out
          go_wp2
          repeat (go_quiet (fail); try go_wp2)
          go_meet
          case rel => exact ⟨_, (((l0_4.length : Int) != (rd l0_1 a0_0))), zr, H', ⟨by have := HJ1.out; first | omega | exact Nat.le_refl _⟩, ⟨zb BK190.out⟩, ⟨zs GE190.out⟩⟩
         ·rw [if_neg c22] at H
          have c22b0 : ((l0_3.length : Int) == (rd l0_1 a0_0)) = false := beq_eq_false_iff_ne.mpr c22
          have c22b1 : ((l0_3.length : Int) != (rd l0_1 a0_0)) = true := bne_iff_ne.mpr c22
          have H' := zA H
          clear H
          obtain ⟨hcz24_0, hcz24_1, hcz24_2, hcz24_3, hcz24_4, hfz24_0, hfz24_1, hfz24_2, hfz24_3, hfz24_4⟩ := zh5 BK190.out
          go_wp2
          repeat (go_quiet (fail); try go_wp2)
          go_meet
          case rel => exact ⟨_, (true), zr, H', ⟨by have := HJ1.out; first | omega | exact Nat.le_refl _⟩, ⟨zb BK190.out⟩, ⟨zs GE190.out⟩⟩
        ·rw [if_neg c21] at H
         have c21b0 : ((l0_2.length : Int) == (rd l0_1 a0_0)) = false := beq_eq_false_iff_ne.mpr c21
         have c21b1 : ((l0_2.length : Int) != (rd l0_1 a0_0)) = true := bne_iff_ne.mpr c21
         have H' := zA H
         clear H
         obtain ⟨hcz25_0, hcz25_1, hcz25_2, hcz25_3, hcz25_4, hfz25_0, hfz25_1, hfz25_2, hfz25_3, hfz25_4⟩ := zh5 BK190.out
         go_wp2
         repeat (go_quiet (fail); try go_wp2)
         go_meet
         case rel => exact ⟨_, (true), zr, H', ⟨by have := HJ1.out; first | omega | exact Nat.le_refl _⟩, ⟨zb BK190.out⟩, ⟨zs GE190.out⟩⟩
      case rest =>
       clear HC18
       (try clear c1); (try clear p1); (try clear q1); (try clear hx1); (try clear qi1); (try clear c2); (try clear p2); (try clear c3); (try clear c4); (try clear c4b0); (try clear c6); (try clear c6b0); (try clear p6); (try clear c8); (try clear c8b0); (try clear c8b1); (try clear c9); (try clear c9b0); (try clear c9b1); (try clear c10); (try clear c10b0); (try clear c10b1); (try clear c15); (try clear c16); (try clear c16b0); (try clear c17); (try clear c17b0); (try clear p19); (try clear q19); (try clear hx19); (try clear qi19); (try clear c20); (try clear c20b0); (try clear c21); (try clear c21b0); (try clear c21b1); (try clear c22); (try clear c22b0); (try clear c22b1); (try clear hcz12_0 hcz12_1 hcz12_2 hcz12_3 hcz12_4); (try clear hcz13_0 hcz13_1 hcz13_2 hcz13_3 hcz13_4); (try clear hcz14_0 hcz14_1 hcz14_2 hcz14_3 hcz14_4); (try clear hcz19_0 hcz19_1 hcz19_2 hcz19_3 hcz19_4); (try clear hcz23_0 hcz23_1 hcz23_2 hcz23_3 hcz23_4); (try clear hcz24_0 hcz24_1 hcz24_2 hcz24_3 hcz24_4); (try clear hcz25_0 hcz25_1 hcz25_2 hcz25_3 hcz25_4); (try clear hcz5_0 hcz5_1 hcz5_2 hcz5_3 hcz5_4); (try clear hcz7_0 hcz7_1 hcz7_2 hcz7_3 hcz7_4); (try clear hfz12_0 hfz12_1 hfz12_2 hfz12_3 hfz12_4); (try clear hfz13_0 hfz13_1 hfz13_2 hfz13_3 hfz13_4); (try clear hfz14_0 hfz14_1 hfz14_2 hfz14_3 hfz14_4); (try clear hfz19_0 hfz19_1 hfz19_2 hfz19_3 hfz19_4); (try clear hfz23_0 hfz23_1 hfz23_2 hfz23_3 hfz23_4); (try clear hfz24_0 hfz24_1 hfz24_2 hfz24_3 hfz24_4); (try clear hfz25_0 hfz25_1 hfz25_2 hfz25_3 hfz25_4); (try clear hfz5_0 hfz5_1 hfz5_2 hfz5_3 hfz5_4); (try clear hfz7_0 hfz7_1 hfz7_2 hfz7_3 hfz7_4); (try clear hx191_0); (try clear hx193_0); (try clear p1); (try clear p191); (try clear p193); (try clear p2); (try clear p6); (try clear q1); (try clear q191); (try clear q193)
       obtain ⟨kq, x63_17, rfl, HA, HJ17, BK190, HB⟩ := hcut
       cases kq with
       | zero => exact absurd HA.out (by simp [impl_ValidGraph.j1])
       | succ kj17 =>
        have H := HA.out
        clear HA
        simp only [impl_ValidGraph.j1] at H
        by_cases c26 : x63_17 = true
        ·subst c26
         have H1 : (some false) = some r := by rw [if_pos rfl] at H; exact H
         clear H
         have H := H1
         clear H1
         obtain rfl := Option.some.inj H
         go_wp2
         repeat (go_quiet (fail); try go_wp2)
         go_ret
         exact ⟨ze, (zs GE190.out)⟩
        ·replace c26 := Bool.eq_false_iff.mpr c26
         subst c26
         have H1 : (impl_ValidGraph.l0 kj17 (rd l0_1 a0_0) 0 a0_0 l0_1 l0_2 l0_3 l0_4) = some r := by rw [if_neg (show ¬ (false = true) by decide)] at H; exact H
         clear H
         have H := H1
         clear H1
         have H' := zA H
         clear H
         go_wp2
         repeat (go_quiet (fail); try go_wp2)
         go_loopg [65] kj17 (fun kq v65 w' => ∃ (x65_3 : Int), v65 = .int .i64 x65_3 ∧ Aside0 (impl_ValidGraph.l0 kq (rd l0_1 a0_0) x65_3 a0_0 l0_1 l0_2 l0_3 l0_4 = some r) ∧ Aside0 (kq ≤ kj17) ∧ Aside0 (w'.heap[gb190]? = some (.cells #[.int .i64 a0_0, (.slice (some ad193) l0_1.length c0_1), (.slice A0_2 l0_2.length c0_2), (.slice A0_3 l0_3.length c0_3), (.slice A0_4 l0_4.length c0_4)] 26 (0, 0))) ∧ Aside0 (Below w.heap.size w w'))
         case atStart => exact ⟨(0), zr, H', ⟨Nat.le_refl _⟩, ⟨zb BK190.out⟩, ⟨zs GE190.out⟩⟩
         case round =>
          clear H'
          (try clear c1); (try clear p1); (try clear q1); (try clear hx1); (try clear qi1); (try clear c2); (try clear p2); (try clear c3); (try clear c4); (try clear c4b0); (try clear c6); (try clear c6b0); (try clear p6); (try clear c8); (try clear c8b0); (try clear c8b1); (try clear c9); (try clear c9b0); (try clear c9b1); (try clear c10); (try clear c10b0); (try clear c10b1); (try clear c15); (try clear c16); (try clear c16b0); (try clear c17); (try clear c17b0); (try clear p19); (try clear q19); (try clear hx19); (try clear qi19); (try clear c20); (try clear c20b0); (try clear c21); (try clear c21b0); (try clear c21b1); (try clear c22); (try clear c22b0); (try clear c22b1); (try clear c26); (try clear hcz12_0 hcz12_1 hcz12_2 hcz12_3 hcz12_4); (try clear hcz13_0 hcz13_1 hcz13_2 hcz13_3 hcz13_4); (try clear hcz14_0 hcz14_1 hcz14_2 hcz14_3 hcz14_4); (try clear hcz19_0 hcz19_1 hcz19_2 hcz19_3 hcz19_4); (try clear hcz23_0 hcz23_1 hcz23_2 hcz23_3 hcz23_4); (try clear hcz24_0 hcz24_1 hcz24_2 hcz24_3 hcz24_4); (try clear hcz25_0 hcz25_1 hcz25_2 hcz25_3 hcz25_4); (try clear hcz5_0 hcz5_1 hcz5_2 hcz5_3 hcz5_4); (try clear hcz7_0 hcz7_1 hcz7_2 hcz7_3 hcz7_4); (try clear hfz12_0 hfz12_1 hfz12_2 hfz12_3 hfz12_4); (try clear hfz13_0 hfz13_1 hfz13_2 hfz13_3 hfz13_4); (try clear hfz14_0 hfz14_1 hfz14_2 hfz14_3 hfz14_4); (try clear hfz19_0 hfz19_1 hfz19_2 hfz19_3 hfz19_4); (try clear hfz23_0 hfz23_1 hfz23_2 hfz23_3 hfz23_4); (try clear hfz24_0 hfz24_1 hfz24_2 hfz24_3 hfz24_4); (try clear hfz25_0 hfz25_1 hfz25_2 hfz25_3 hfz25_4); (try clear hfz5_0 hfz5_1 hfz5_2 hfz5_3 hfz5_4); (try clear hfz7_0 hfz7_1 hfz7_2 hfz7_3 hfz7_4); (try clear hx191_0); (try clear hx193_0); (try clear p1); (try clear p19); (try clear p191); (try clear p193); (try clear p2); (try clear p6); (try clear q1); (try clear q19); (try clear q191); (try clear q193)
          obtain ⟨x65_3, rfl, HA, HK3, BK190, HB⟩ := hrel
          cases gk with
          | zero => exact absurd HA.out (by simp [impl_ValidGraph.l0])
          | succ k3 =>
           have H := HA.out
           clear HA
           simp only [impl_ValidGraph.l0] at H
           by_cases c27 : x65_3 < (rd l0_1 a0_0)
           ·rw [if_pos c27] at H
            have c27b0 : decide (x65_3 < (rd l0_1 a0_0)) = true := decide_eq_true c27
            clear c27
            by_cases c28 : 0 ≤ x65_3
            ·rw [if_pos c28] at H
             have c28b0 : decide (0 ≤ x65_3) = true := decide_eq_true c28
             clear c28
             by_cases c29 : x65_3 < (l0_2.length : Int)
             ·rw [if_pos c29] at H
              have c29b0 : decide (x65_3 < (l0_2.length : Int)) = true := decide_eq_true c29
              clear c29
              by_cases c30 : (rd l0_2 x65_3) < 0
              ·rw [if_pos c30] at H
               have c30b0 : decide ((rd l0_2 x65_3) < 0) = true := decide_eq_true c30
               clear c30
               obtain rfl := Option.some.inj H
               obtain ⟨hcz31_0, hcz31_1, hcz31_2, hcz31_3, hcz31_4, hfz31_0, hfz31_1, hfz31_2, hfz31_3, hfz31_4⟩ := zh5 BK190.out
               have p194 : 0 ≤ (x65_3 : Int) := zd
               have q194 : x65_3 < (l0_2.length : Int) := zd
               obtain ⟨ad194, e194, hx194_0⟩ := Kd.at_int HR0_2.out x65_3 p194 q194
               cases e194
               replace hx194_0 := zx HB.out hx194_0
               replace p194 := eq_true p194
               replace q194 := eq_true q194
               go_wp2
               repeat (go_quiet (fail); try go_wp2)
               go_ret
               exact ⟨ze, (zs GE190.out)⟩
              ·rw [if_neg c30] at H
               have c30b0 : decide ((rd l0_2 x65_3) < 0) = false := decide_eq_false c30
               clear c30
               by_cases c32 : (rd l0_2 x65_3) ≥ a0_0
               ·rw [if_pos c32] at H
                have c32b0 : decide (a0_0 ≤ (rd l0_2 x65_3)) = true := decide_eq_true c32
                clear c32
                obtain rfl := Option.some.inj H
                obtain ⟨hcz33_0, hcz33_1, hcz33_2, hcz33_3, hcz33_4, hfz33_0, hfz33_1, hfz33_2, hfz33_3, hfz33_4⟩ := zh5 BK190.out
                have p194 : 0 ≤ (x65_3 : Int) := zd
                have q194 : x65_3 < (l0_2.length : Int) := zd
                obtain ⟨ad194, e194, hx194_0⟩ := Kd.at_int HR0_2.out x65_3 p194 q194
                cases e194
                replace hx194_0 := zx HB.out hx194_0
                replace p194 := eq_true p194
                replace q194 := eq_true q194
                have p195 : 0 ≤ (x65_3 : Int) := zd
                have q195 : x65_3 < (l0_2.length : Int) := zd
                obtain ⟨ad195, e195, hx195_0⟩ := Kd.at_int HR0_2.out x65_3 p195 q195
                obtain rfl : ad194 = ad195 := (by injection e195)
                replace hx195_0 := zx HB.out hx195_0
                replace p195 := eq_true p195
                replace q195 := eq_true q195
                go_wp2
                repeat (go_quiet (fail); try go_wp2)
                go_ret
                exact ⟨ze, (zs GE190.out)⟩
               ·rw [if_neg c32] at H
                have c32b0 : decide (a0_0 ≤ (rd l0_2 x65_3)) = false := decide_eq_false c32
                clear c32
                by_cases c34 : x65_3 < (l0_3.length : Int)
                ·rw [if_pos c34] at H
                 have c34b0 : decide (x65_3 < (l0_3.length : Int)) = true := decide_eq_true c34
                 clear c34
                 by_cases c35 : (rd l0_3 x65_3) < 0
                 ·rw [if_pos c35] at H
                  have c35b0 : decide ((rd l0_3 x65_3) < 0) = true := decide_eq_true c35
                  clear c35
                  obtain rfl := Option.some.inj H
                  obtain ⟨hcz36_0, hcz36_1, hcz36_2, hcz36_3, hcz36_4, hfz36_0, hfz36_1, hfz36_2, hfz36_3, hfz36_4⟩ := zh5 BK190.out
                  have p194 : 0 ≤ (x65_3 : Int) := zd
                  have q194 : x65_3 < (l0_2.length : Int) := zd
                  obtain ⟨ad194, e194, hx194_0⟩ := Kd.at_int HR0_2.out x65_3 p194 q194
                  cases e194
                  replace hx194_0 := zx HB.out hx194_0
                  replace p194 := eq_true p194
                  replace q194 := eq_true q194
                  have p195 : 0 ≤ (x65_3 : Int) := zd
                  have q195 : x65_3 < (l0_2.length : Int) := zd
                  obtain ⟨ad195, e195, hx195_0⟩ := Kd.at_int HR0_2.out x65_3 p195 q195
                  obtain rfl : ad194 = ad195 := (by injection e195)
                  replace hx195_0 := zx HB.out hx195_0
                  replace p195 := eq_true p195
                  replace q195 := eq_true q195
                  have p196 : 0 ≤ (x65_3 : Int) := zd
                  have q196 : x65_3 < (l0_3.length : Int) := zd
                  obtain ⟨ad196, e196, hx196_0⟩ := Kd.at_int HR0_3.out x65_3 p196 q196
                  cases e196
                  replace hx196_0 := zx HB.out hx196_0
                  replace p196 := eq_true p196
                  replace q196 := eq_true q196
                  go_wp2
                  repeat (go_quiet (fail); try go_wp2)
                  go_ret
                  exact ⟨ze, (zs GE190.out)⟩
                 ·rw [if_neg c35] at H
                  have c35b0 : decide ((rd l0_3 x65_3) < 0) = false := decide_eq_false c35
                  clear c35
                  by_cases c37 : (rd l0_3 x65_3) > 3
                  ·rw [if_pos c37] at H
                   have c37b0 : decide (3 < (rd l0_3 x65_3)) = true := decide_eq_true c37
                   clear c37
                   obtain rfl := Option.some.inj H
                   obtain ⟨hcz38_0, hcz38_1, hcz38_2, hcz38_3, hcz38_4, hfz38_0, hfz38_1, hfz38_2, hfz38_3, hfz38_4⟩ := zh5 BK190.out
                   have p194 : 0 ≤ (x65_3 : Int) := zd
                   have q194 : x65_3 < (l0_2.length : Int) := zd
                   obtain ⟨ad194, e194, hx194_0⟩ := Kd.at_int HR0_2.out x65_3 p194 q194
                   cases e194
                   replace hx194_0 := zx HB.out hx194_0
                   replace p194 := eq_true p194
                   replace q194 := eq_true q194
                   have p195 : 0 ≤ (x65_3 : Int) := zd
                   have q195 : x65_3 < (l0_2.length : Int) := zd
                   obtain ⟨ad195, e195, hx195_0⟩ := Kd.at_int HR0_2.out x65_3 p195 q195
                   obtain rfl : ad194 = ad195 := (by injection e195)
                   replace hx195_0 := zx HB.out hx195_0
                   replace p195 := eq_true p195
                   replace q195 := eq_true q195
                   have p196 : 0 ≤ (x65_3 : Int) := zd
                   have q196 : x65_3 < (l0_3.length : Int) := zd
                   obtain ⟨ad196, e196, hx196_0⟩ := Kd.at_int HR0_3.out x65_3 p196 q196
                   cases e196
                   replace hx196_0 := zx HB.out hx196_0
                   replace p196 := eq_true p196
                   replace q196 := eq_true q196
                   have p197 : 0 ≤ (x65_3 : Int) := zd
                   have q197 : x65_3 < (l0_3.length : Int) := zd
                   obtain ⟨ad197, e197, hx197_0⟩ := Kd.at_int HR0_3.out x65_3 p197 q197
                   obtain rfl : ad196 = ad197 := (by injection e197)
                   replace hx197_0 := zx HB.out hx197_0
                   replace p197 := eq_true p197
                   replace q197 := eq_true q197
                   go_wp2
                   repeat (go_quiet (fail); try go_wp2)
                   go_ret
                   exact ⟨ze, (zs GE190.out)⟩
                  ·rw [if_neg c37] at H
                   have c37b0 : decide (3 < (rd l0_3 x65_3)) = false := decide_eq_false c37
                   clear c37
                   by_cases c39 : x65_3 < (l0_4.length : Int)
                   ·rw [if_pos c39] at H
                    have c39b0 : decide (x65_3 < (l0_4.length : Int)) = true := decide_eq_true c39
                    clear c39
                    by_cases c40 : (rd l0_4 x65_3) < 1
                    ·rw [if_pos c40] at H
                     have c40b0 : decide ((rd l0_4 x65_3) < 1) = true := decide_eq_true c40
                     clear c40
                     obtain rfl := Option.some.inj H
                     obtain ⟨hcz41_0, hcz41_1, hcz41_2, hcz41_3, hcz41_4, hfz41_0, hfz41_1, hfz41_2, hfz41_3, hfz41_4⟩ := zh5 BK190.out
                     have p194 : 0 ≤ (x65_3 : Int) := zd
                     have q194 : x65_3 < (l0_2.length : Int) := zd
                     obtain ⟨ad194, e194, hx194_0⟩ := Kd.at_int HR0_2.out x65_3 p194 q194
                     cases e194
                     replace hx194_0 := zx HB.out hx194_0
                     replace p194 := eq_true p194
                     replace q194 := eq_true q194
                     have p195 : 0 ≤ (x65_3 : Int) := zd
                     have q195 : x65_3 < (l0_2.length : Int) := zd
                     obtain ⟨ad195, e195, hx195_0⟩ := Kd.at_int HR0_2.out x65_3 p195 q195
                     obtain rfl : ad194 = ad195 := (by injection e195)
                     replace hx195_0 := zx HB.out hx195_0
                     replace p195 := eq_true p195
                     replace q195 := eq_true q195
                     have p196 : 0 ≤ (x65_3 : Int) := zd
                     have q196 : x65_3 < (l0_3.length : Int) := zd
                     obtain ⟨ad196, e196, hx196_0⟩ := Kd.at_int HR0_3.out x65_3 p196 q196
                     cases e196
                     replace hx196_0 := zx HB.out hx196_0
                     replace p196 := eq_true p196
                     replace q196 := eq_true q196
                     have p197 : 0 ≤ (x65_3 : Int) := zd
                     have q197 : x65_3 < (l0_3.length : Int) := zd
                     obtain ⟨ad197, e197, hx197_0⟩ := Kd.at_int HR0_3.out x65_3 p197 q197
                     obtain rfl : ad196 = ad197 := (by injection e197)
                     replace hx197_0 := zx HB.out hx197_0
                     replace p197 := eq_true p197
                     replace q197 := eq_true q197
                     have p198 : 0 ≤ (x65_3 : Int) := zd
                     have q198 : x65_3 < (l0_4.length : Int) := zd
                     obtain ⟨ad198, e198, hx198_0⟩ := Kd.at_int HR0_4.out x65_3 p198 q198
                     cases e198
                     replace hx198_0 := zx HB.out hx198_0
                     replace p198 := eq_true p198
                     replace q198 := eq_true q198
                     go_wp2
                     repeat (go_quiet (fail); try go_wp2)
                     go_ret
                     exact ⟨ze, (zs GE190.out)⟩
                    ·rw [if_neg c40] at H
                     have c40b0 : decide ((rd l0_4 x65_3) < 1) = false := decide_eq_false c40
                     clear c40
                     by_cases c42 : (rd l0_4 x65_3) > 9
                     ·rw [if_pos c42] at H
                      have c42b0 : decide (9 < (rd l0_4 x65_3)) = true := decide_eq_true c42
                      clear c42
                      obtain rfl := Option.some.inj H
                      obtain ⟨hcz43_0, hcz43_1, hcz43_2, hcz43_3, hcz43_4, hfz43_0, hfz43_1, hfz43_2, hfz43_3, hfz43_4⟩ := zh5 BK190.out
                      have p194 : 0 ≤ (x65_3 : Int) := zd
                      have q194 : x65_3 < (l0_2.length : Int) := zd
                      obtain ⟨ad194, e194, hx194_0⟩ := Kd.at_int HR0_2.out x65_3 p194 q194
                      cases e194
                      replace hx194_0 := zx HB.out hx194_0
                      replace p194 := eq_true p194
                      replace q194 := eq_true q194
                      have p195 : 0 ≤ (x65_3 : Int) := zd
                      have q195 : x65_3 < (l0_2.length : Int) := zd
                      obtain ⟨ad195, e195, hx195_0⟩ := Kd.at_int HR0_2.out x65_3 p195 q195
                      obtain rfl : ad194 = ad195 := (by injection e195)
                      replace hx195_0 := zx HB.out hx195_0
                      replace p195 := eq_true p195
                      replace q195 := eq_true q195
                      have p196 : 0 ≤ (x65_3 : Int) := zd
                      have q196 : x65_3 < (l0_3.length : Int) := zd
                      obtain ⟨ad196, e196, hx196_0⟩ := Kd.at_int HR0_3.out x65_3 p196 q196
                      cases e196
                      replace hx196_0 := zx HB.out hx196_0
                      replace p196 := eq_true p196
                      replace q196 := eq_true q196
                      have p197 : 0 ≤ (x65_3 : Int) := zd
                      have q197 : x65_3 < (l0_3.length : Int) := zd
                      obtain ⟨ad197, e197, hx197_0⟩ := Kd.at_int HR0_3.out x65_3 p197 q197
                      obtain rfl : ad196 = ad197 := (by injection e197)
                      replace hx197_0 := zx HB.out hx197_0
                      replace p197 := eq_true p197
                      replace q197 := eq_true q197
                      have p198 : 0 ≤ (x65_3 : Int) := zd
                      have q198 : x65_3 < (l0_4.length : Int) := zd
                      obtain ⟨ad198, e198, hx198_0⟩ := Kd.at_int HR0_4.out x65_3 p198 q198
                      cases e198
                      replace hx198_0 := zx HB.out hx198_0
                      replace p198 := eq_true p198
                      replace q198 := eq_true q198
                      have p199 : 0 ≤ (x65_3 : Int) := zd
                      have q199 : x65_3 < (l0_4.length : Int) := zd
                      obtain ⟨ad199, e199, hx199_0⟩ := Kd.at_int HR0_4.out x65_3 p199 q199
                      obtain rfl : ad198 = ad199 := (by injection e199)
                      replace hx199_0 := zx HB.out hx199_0
                      replace p199 := eq_true p199
                      replace q199 := eq_true q199
                      go_wp2
                      repeat (go_quiet (fail); try go_wp2)
                      go_ret
                      exact ⟨ze, (zs GE190.out)⟩
                     ·rw [if_neg c42] at H
                      have c42b0 : decide (9 < (rd l0_4 x65_3)) = false := decide_eq_false c42
                      clear c42
                      have H' := zA H
                      clear H
                      obtain ⟨hcz44_0, hcz44_1, hcz44_2, hcz44_3, hcz44_4, hfz44_0, hfz44_1, hfz44_2, hfz44_3, hfz44_4⟩ := zh5 BK190.out
                      have p194 : 0 ≤ (x65_3 : Int) := zd
                      have q194 : x65_3 < (l0_2.length : Int) := zd
                      obtain ⟨ad194, e194, hx194_0⟩ := Kd.at_int HR0_2.out x65_3 p194 q194
                      cases e194
                      replace hx194_0 := zx HB.out hx194_0
                      replace p194 := eq_true p194
                      replace q194 := eq_true q194
                      have p195 : 0 ≤ (x65_3 : Int) := zd
                      have q195 : x65_3 < (l0_2.length : Int) := zd
                      obtain ⟨ad195, e195, hx195_0⟩ := Kd.at_int HR0_2.out x65_3 p195 q195
                      obtain rfl : ad194 = ad195 := (by injection e195)
                      replace hx195_0 := zx HB.out hx195_0
                      replace p195 := eq_true p195
                      replace q195 := eq_true q195
                      have p196 : 0 ≤ (x65_3 : Int) := zd
                      have q196 : x65_3 < (l0_3.length : Int) := zd
                      obtain ⟨ad196, e196, hx196_0⟩ := Kd.at_int HR0_3.out x65_3 p196 q196
                      cases e196
                      replace hx196_0 := zx HB.out hx196_0
                      replace p196 := eq_true p196
                      replace q196 := eq_true q196
                      have p197 : 0 ≤ (x65_3 : Int) := zd
                      have q197 : x65_3 < (l0_3.length : Int) := zd
                      obtain ⟨ad197, e197, hx197_0⟩ := Kd.at_int HR0_3.out x65_3 p197 q197
                      obtain rfl : ad196 = ad197 := (by injection e197)
                      replace hx197_0 := zx HB.out hx197_0
                      replace p197 := eq_true p197
                      replace q197 := eq_true q197
                      have p198 : 0 ≤ (x65_3 : Int) := zd
                      have q198 : x65_3 < (l0_4.length : Int) := zd
                      obtain ⟨ad198, e198, hx198_0⟩ := Kd.at_int HR0_4.out x65_3 p198 q198
                      cases e198
                      replace hx198_0 := zx HB.out hx198_0
                      replace p198 := eq_true p198
                      replace q198 := eq_true q198
                      have p199 : 0 ≤ (x65_3 : Int) := zd
                      have q199 : x65_3 < (l0_4.length : Int) := zd
                      obtain ⟨ad199, e199, hx199_0⟩ := Kd.at_int HR0_4.out x65_3 p199 q199
                      obtain rfl : ad198 = ad199 := (by injection e199)
                      replace hx199_0 := zx HB.out hx199_0
                      replace p199 := eq_true p199
                      replace q199 := eq_true q199
                      go_wp2
                      repeat (go_quiet (fail); try go_wp2)
                      go_roundg k3
                      case measure => have := HJ1.out; have := HJ17.out; have := HK3.out; omega
                      case rel => exact ⟨(wrap64 (x65_3 + 1)), zr, H', ⟨by have := HJ1.out; have := HJ17.out; have := HK3.out; omega⟩, ⟨zb BK190.out⟩, ⟨zs GE190.out⟩⟩
                   ·rw [if_neg c39] at H
                    exact absurd H (by simp)
                ·rw [if_neg c34] at H
                 exact absurd H (by simp)
             ·rw [if_neg c29] at H
              exact absurd H (by simp)
            ·rw [if_neg c28] at H
             exact absurd H (by simp)
           ·rw [if_neg c27] at H
            have c27b0 : decide (x65_3 < (rd l0_1 a0_0)) = false := decide_eq_false c27
            clear c27
            obtain rfl := Option.some.inj H
            go_wp2
            repeat (go_quiet (fail); try go_wp2)
            go_ret
            exact ⟨ze, (zs GE190.out)⟩
     ·rw [if_neg c17] at H
      exact absurd H (by simp)
    ·rw [if_neg c16] at H
     exact absurd H (by simp)

end Go.Proofs.Ytiboccbaaphbhaa.PFnExactReach
