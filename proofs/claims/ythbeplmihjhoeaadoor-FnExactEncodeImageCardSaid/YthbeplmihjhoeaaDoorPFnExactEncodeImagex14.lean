-- made by wip/tools/myprint.py (this session's own program, over the kit's printer)
import Derived.Test.YthbeplmihjhoeaaDoorPFnExactEncodeImagex0
import Derived.Test.YthbeplmihjhoeaaDoorPFnExactEncodeImagex12
import Derived.Test.YthbeplmihjhoeaaDoorPFnExactEncodeImagex13
namespace Go.Proofs.YthbeplmihjhoeaaDoor.PFnExactEncodeImage
open Go.RowKit Go.Proofs.YthbeplmihjhoeaaDoorW.PrintWords Go.Proofs.YthbeplmihjhoeaaDoorW.PrintLast Go.Proofs.YthbeplmihjhoeaaDoorW.PrintMore
attribute [local go_sem] max2_int min2_int max_two min_two max_three min_three max_four min_four   -- for this text's walks alone
set_option linter.unusedVariables false
set_option linter.unusedSimpArgs false

/-! ### impl_ValidTables: function 84 -/
mutual
def impl_ValidTables.j0 : Nat → Bool → Int → Int → List (S120) → List (List Int) → List (List Int) → Option (Bool)
 | 0, _, _, _, _, _, _ => none
 | k + 1, x42, x331000, x331001, x331002, x331003, x331004 => if x42 = true then (some false) else (impl_ValidTables.l0 k (x331002.length : Int) 0 x331000 x331001 x331002 x331003 x331004)
def impl_ValidTables.l0 : Nat → Int → Int → Int → Int → List (S120) → List (List Int) → List (List Int) → Option (Bool)
 | 0, _, _, _, _, _, _, _ => none
 | k + 1, x45, x46, x331000, x331001, x331002, x331003, x331004 => if x46 < x45 then ((impl_Tables_listOk.f k x331000 x331001 x331002 x331003 x331004 x46).bind fun t334 => (if t334 = true then (impl_ValidTables.l0 k x45 (wrap64 (x46 + 1)) x331000 x331001 x331002 x331003 x331004) else (some false))) else (some true)
end
def impl_ValidTables.f (k : Nat) (a0_0 : Int) (a0_1 : Int) (l0_2 : List (S120)) (l0_3 : List (List Int)) (l0_4 : List (List Int)) : Option (Bool) := (impl_sideOk.f a0_0).bind fun t331 => (if t331 = true then ((impl_sideOk.f a0_1).bind fun t332 => (if t332 = true then ((impl_targetsOk.f k l0_2 (wrap64 (a0_0 * a0_1))).bind fun t333 => (if t333 = true then (if (l0_3.length : Int) = (l0_2.length : Int) then (impl_ValidTables.j0 k ((l0_4.length : Int) != (l0_2.length : Int)) a0_0 a0_1 l0_2 l0_3 l0_4) else (impl_ValidTables.j0 k true a0_0 a0_1 l0_2 l0_3 l0_4)) else (impl_ValidTables.j0 k true a0_0 a0_1 l0_2 l0_3 l0_4))) else (impl_ValidTables.j0 k true a0_0 a0_1 l0_2 l0_3 l0_4))) else (impl_ValidTables.j0 k true a0_0 a0_1 l0_2 l0_3 l0_4))
theorem impl_ValidTables.mono_l : ∀ k, (∀ y0 y1 y2 y3 y4 y5, LeO (impl_ValidTables.j0 k y0 y1 y2 y3 y4 y5) (impl_ValidTables.j0 (k + 1) y0 y1 y2 y3 y4 y5)) ∧ (∀ y0 y1 y2 y3 y4 y5 y6, LeO (impl_ValidTables.l0 k y0 y1 y2 y3 y4 y5 y6) (impl_ValidTables.l0 (k + 1) y0 y1 y2 y3 y4 y5 y6))
 | 0 => ⟨fun _ _ _ _ _ _ r h => by simp [impl_ValidTables.j0] at h, fun _ _ _ _ _ _ _ r h => by simp [impl_ValidTables.l0] at h⟩
 | k + 1 => by
  obtain ⟨ih0, ih1⟩ := impl_ValidTables.mono_l k
  refine ⟨?_, ?_⟩
  ·intro y0 y1 y2 y3 y4 y5
   unfold impl_ValidTables.j0
   have m1 := @impl_Tables_listOk.mono
   have m2 := @impl_targetsOk.mono
   exact zm
  ·intro y0 y1 y2 y3 y4 y5 y6
   unfold impl_ValidTables.l0
   have m1 := @impl_Tables_listOk.mono
   have m2 := @impl_targetsOk.mono
   exact zm
theorem impl_ValidTables.mono : ∀ a0 a1 a2 a3 a4 k, LeO (impl_ValidTables.f k a0 a1 a2 a3 a4) (impl_ValidTables.f (k + 1) a0 a1 a2 a3 a4) := by
 intro a0 a1 a2 a3 a4 k
 obtain ⟨ih0, ih1⟩ := impl_ValidTables.mono_l k
 unfold impl_ValidTables.f
 have m1 := @impl_Tables_listOk.mono
 have m2 := @impl_targetsOk.mono
 exact zm
set_option maxHeartbeats 8000000 in
set_option maxRecDepth 100000 in
theorem impl_ValidTables.calls (k : Nat) (a0_0 : Int) (a0_1 : Int) (A0_2 : Option Addr) (c0_2 : Nat) (l0_2 : List (S120)) (A0_3 : Option Addr) (c0_3 : Nat) (l0_3 : List (List Int)) (A0_4 : Option Addr) (c0_4 : Nat) (l0_4 : List (List Int)) (r : Bool) (w : World) (hr0_2 : Kd.C k120 w A0_2 l0_2.length l0_2) (hc0_2 : l0_2.length ≤ c0_2) (hr0_3 : Kd.C (Kd.slice 3 (Kd.int .i64)) w A0_3 l0_3.length l0_3) (hc0_3 : l0_3.length ≤ c0_3) (hr0_4 : Kd.C (Kd.slice 3 (Kd.int .i64)) w A0_4 l0_4.length l0_4) (hc0_4 : l0_4.length ≤ c0_4) (hL : LaidW w) (h : impl_ValidTables.f k a0_0 a0_1 l0_2 l0_3 l0_4 = some r) :
  Calls Tryd.prog 84 #[.agg #[.int .i64 a0_0, .int .i64 a0_1, .slice A0_2 l0_2.length c0_2, .slice A0_3 l0_3.length c0_3, .slice A0_4 l0_4.length c0_4]] w fun e w' => e = .returned (.bool r) ∧ Below w.heap.size w w' := by
 have hu47 := Tryd.underlying47
 have HR0_2 := zA hr0_2
 have HC0_2 := zA hc0_2
 clear hr0_2 hc0_2
 have HR0_3 := zA hr0_3
 have HC0_3 := zA hc0_3
 clear hr0_3 hc0_3
 have HR0_4 := zA hr0_4
 have HC0_4 := zA hc0_4
 clear hr0_4 hc0_4
 have HLD := zA hL
 clear hL
 have HB := zA (Below.refl w.heap.size w)
 have H : ((impl_sideOk.f a0_0).bind fun t331 => (if t331 = true then ((impl_sideOk.f a0_1).bind fun t332 => (if t332 = true then ((impl_targetsOk.f k l0_2 (wrap64 (a0_0 * a0_1))).bind fun t333 => (if t333 = true then (if (l0_3.length : Int) = (l0_2.length : Int) then (impl_ValidTables.j0 k ((l0_4.length : Int) != (l0_2.length : Int)) a0_0 a0_1 l0_2 l0_3 l0_4) else (impl_ValidTables.j0 k true a0_0 a0_1 l0_2 l0_3 l0_4)) else (impl_ValidTables.j0 k true a0_0 a0_1 l0_2 l0_3 l0_4))) else (impl_ValidTables.j0 k true a0_0 a0_1 l0_2 l0_3 l0_4))) else (impl_ValidTables.j0 k true a0_0 a0_1 l0_2 l0_3 l0_4))) = some r := h
 clear h
 have HC2 := zA H
 clear H
 go_enter Tryd.func84, Tryd.ntmps84
 go_upto_region 1 with (first | ((with_reducible refine gate_dst (N := 1) rfl ?_); (try (refine gate_guard (by rfl) ?_; dsimp only)); refine box_event ?hg (N := 1) ?hd (cs := #[.int .i64 a0_0, .int .i64 a0_1, .slice A0_2 l0_2.length c0_2, .slice A0_3 l0_3.length c0_3, .slice A0_4 l0_4.length c0_4]) (t := 47) ?hr ?_; (case hd => rfl); (case hg => rfl); (case hr => first | (go_simp; done) | (go_simp; rfl)); intro gb330 hg w3 hbox hb; have n0_ := zA (below_step z_ hb); have n1_ := zA (hbox); have n2_ := zA ((by rw [hg]; exact (below_size z_) : w.heap.size ≤ gb330)); have n3_ := zA ((by rw [hg]; exact (below_size z_) : w.heap.size ≤ gb330)); clear HB; have HB := n0_; have BK330 := n1_; have GW330 := n2_; have GE330 := n3_; clear n0_ n1_ n2_ n3_; clear hb hbox hg))
 (try simp only [Act.put, List.setIfInBounds_toArray, List.set_cons_zero, List.set_cons_succ])
 go_cut [42] (fun v42 wc => ∃ (kq : Nat) (x42_1 : Bool), v42 = .bool x42_1 ∧ Aside0 (impl_ValidTables.j0 kq x42_1 a0_0 a0_1 l0_2 l0_3 l0_4 = some r) ∧ Aside0 (kq ≤ k) ∧ Aside0 (wc.heap[gb330]? = some (.cells #[.int .i64 a0_0, .int .i64 a0_1, (.slice A0_2 l0_2.length c0_2), (.slice A0_3 l0_3.length c0_3), (.slice A0_4 l0_4.length c0_4)] 47 (0, 0))) ∧ Aside0 (Below w.heap.size w wc))
 case first =>
  have H := HC2.out
  clear HC2
  replace H := Option.bind_eq_some_iff.mp H
  obtain ⟨t331, A40, H⟩ := H
  replace H : (if t331 = true then ((impl_sideOk.f a0_1).bind fun t332 => (if t332 = true then ((impl_targetsOk.f k l0_2 (wrap64 (a0_0 * a0_1))).bind fun t333 => (if t333 = true then (if (l0_3.length : Int) = (l0_2.length : Int) then (impl_ValidTables.j0 k ((l0_4.length : Int) != (l0_2.length : Int)) a0_0 a0_1 l0_2 l0_3 l0_4) else (impl_ValidTables.j0 k true a0_0 a0_1 l0_2 l0_3 l0_4)) else (impl_ValidTables.j0 k true a0_0 a0_1 l0_2 l0_3 l0_4))) else (impl_ValidTables.j0 k true a0_0 a0_1 l0_2 l0_3 l0_4))) else (impl_ValidTables.j0 k true a0_0 a0_1 l0_2 l0_3 l0_4)) = some r := H
  have A4 := zA A40
  clear A40
  by_cases c5 : t331 = true
  ·subst c5
   have H1 : ((impl_sideOk.f a0_1).bind fun t332 => (if t332 = true then ((impl_targetsOk.f k l0_2 (wrap64 (a0_0 * a0_1))).bind fun t333 => (if t333 = true then (if (l0_3.length : Int) = (l0_2.length : Int) then (impl_ValidTables.j0 k ((l0_4.length : Int) != (l0_2.length : Int)) a0_0 a0_1 l0_2 l0_3 l0_4) else (impl_ValidTables.j0 k true a0_0 a0_1 l0_2 l0_3 l0_4)) else (impl_ValidTables.j0 k true a0_0 a0_1 l0_2 l0_3 l0_4))) else (impl_ValidTables.j0 k true a0_0 a0_1 l0_2 l0_3 l0_4))) = some r := by rw [if_pos rfl] at H; exact H
   clear H
   have H := H1
   clear H1
   replace H := Option.bind_eq_some_iff.mp H
   obtain ⟨t332, A60, H⟩ := H
   replace H : (if t332 = true then ((impl_targetsOk.f k l0_2 (wrap64 (a0_0 * a0_1))).bind fun t333 => (if t333 = true then (if (l0_3.length : Int) = (l0_2.length : Int) then (impl_ValidTables.j0 k ((l0_4.length : Int) != (l0_2.length : Int)) a0_0 a0_1 l0_2 l0_3 l0_4) else (impl_ValidTables.j0 k true a0_0 a0_1 l0_2 l0_3 l0_4)) else (impl_ValidTables.j0 k true a0_0 a0_1 l0_2 l0_3 l0_4))) else (impl_ValidTables.j0 k true a0_0 a0_1 l0_2 l0_3 l0_4)) = some r := H
   have A6 := zA A60
   clear A60
   by_cases c7 : t332 = true
   ·subst c7
    have H1 : ((impl_targetsOk.f k l0_2 (wrap64 (a0_0 * a0_1))).bind fun t333 => (if t333 = true then (if (l0_3.length : Int) = (l0_2.length : Int) then (impl_ValidTables.j0 k ((l0_4.length : Int) != (l0_2.length : Int)) a0_0 a0_1 l0_2 l0_3 l0_4) else (impl_ValidTables.j0 k true a0_0 a0_1 l0_2 l0_3 l0_4)) else (impl_ValidTables.j0 k true a0_0 a0_1 l0_2 l0_3 l0_4))) = some r := by rw [if_pos rfl] at H; exact H
    clear H
    have H := H1
    clear H1
    replace H := Option.bind_eq_some_iff.mp H
    obtain ⟨t333, A80, H⟩ := H
    replace H : (if t333 = true then (if (l0_3.length : Int) = (l0_2.length : Int) then (impl_ValidTables.j0 k ((l0_4.length : Int) != (l0_2.length : Int)) a0_0 a0_1 l0_2 l0_3 l0_4) else (impl_ValidTables.j0 k true a0_0 a0_1 l0_2 l0_3 l0_4)) else (impl_ValidTables.j0 k true a0_0 a0_1 l0_2 l0_3 l0_4)) = some r := H
    have A8 := zA A80
    clear A80
    by_cases c9 : t333 = true
    ·subst c9
     have H1 : (if (l0_3.length : Int) = (l0_2.length : Int) then (impl_ValidTables.j0 k ((l0_4.length : Int) != (l0_2.length : Int)) a0_0 a0_1 l0_2 l0_3 l0_4) else (impl_ValidTables.j0 k true a0_0 a0_1 l0_2 l0_3 l0_4)) = some r := by rw [if_pos rfl] at H; exact H
     clear H
     have H := H1
     clear H1
     by_cases c10 : (l0_3.length : Int) = (l0_2.length : Int)
     ·rw [if_pos c10] at H
      have c10b0 : ((l0_3.length : Int) == (l0_2.length : Int)) = true := beq_iff_eq.mpr c10
      have c10b1 : ((l0_3.length : Int) != (l0_2.length : Int)) = false := bne_eq_false_iff_eq.mpr c10
      have c10b2 : (l0_3.length == l0_2.length) = true := by first | simpa using c10 | (simp at c10 ⊢; omega)
      clear c10
      (first | rw [c10b0] | (simp only [i64_w, i32_w]; rw [c10b0]) | skip)
      have H' := zA H
      clear H
      obtain ⟨hcz11_0, hcz11_1, hcz11_2, hcz11_3, hcz11_4, hfz11_0, hfz11_1, hfz11_2, hfz11_3, hfz11_4⟩ := zh5 BK330.out
      go_wp2_with (first | ((with_reducible refine gate_callee (f := 138) rfl ?_); refine goesL_ (some 6) rfl rfl Tryd.func138 (by kernel_rfl) rfl #[.int .i64 a0_0] rfl za ?_; (with_reducible refine (impl_sideOk.calls a0_0 true _ A4.out).mono ?_); rintro e w' ⟨rfl, ⟨nd, rfl⟩⟩; refine ⟨_, rfl, ?_⟩) | (go_at_call 138; (with_reducible refine (impl_sideOk.calls a0_1 true _ A6.out).mono ?_); rintro e w' ⟨rfl, ⟨nd, rfl⟩⟩) | (go_at_call 139; (with_reducible refine (impl_targetsOk.calls k _ _ l0_2 (wrap64 (a0_0 * a0_1)) true _ ?side1 ?side2 ?side3 A8.out).mono ?_); (case side1 => exact zc (Kd.C_below HR0_2.out (zs GE330.out))); (case side2 => exact HC0_2.out); (case side3 => exact LaidW.below HLD.out (zs GE330.out)); rintro e w12 ⟨rfl, hb⟩; have n0_ := zA (zB BK330.out hb); have n1_ := zA (below_step (zs GE330.out) hb); clear BK330 HB; have BK330 := n0_; have HB := n1_; clear n0_ n1_; (try clear hb); (try clear hb2); (try clear hk); (try clear hi); obtain ⟨hcz13_0, hcz13_1, hcz13_2, hcz13_3, hcz13_4, hfz13_0, hfz13_1, hfz13_2, hfz13_3, hfz13_4⟩ := zh5 BK330.out))
      go_meet
      case rel => exact ⟨_, (((l0_4.length : Int) != (l0_2.length : Int))), zr, H', ⟨by first | omega | exact Nat.le_refl _⟩, ⟨zb BK330.out⟩, ⟨zs GE330.out⟩⟩
     ·rw [if_neg c10] at H
      have c10b0 : ((l0_3.length : Int) == (l0_2.length : Int)) = false := beq_eq_false_iff_ne.mpr c10
      have c10b1 : ((l0_3.length : Int) != (l0_2.length : Int)) = true := bne_iff_ne.mpr c10
      have c10b2 : (l0_3.length == l0_2.length) = false := by first | simpa using c10 | (simp at c10 ⊢; omega)
      (first | rw [c10b0] | (simp only [i64_w, i32_w]; rw [c10b0]) | skip)
      have H' := zA H
      clear H
      obtain ⟨hcz14_0, hcz14_1, hcz14_2, hcz14_3, hcz14_4, hfz14_0, hfz14_1, hfz14_2, hfz14_3, hfz14_4⟩ := zh5 BK330.out
      go_wp2_with (first | ((with_reducible refine gate_callee (f := 138) rfl ?_); refine goesL_ (some 6) rfl rfl Tryd.func138 (by kernel_rfl) rfl #[.int .i64 a0_0] rfl za ?_; (with_reducible refine (impl_sideOk.calls a0_0 true _ A4.out).mono ?_); rintro e w' ⟨rfl, ⟨nd, rfl⟩⟩; refine ⟨_, rfl, ?_⟩) | (go_at_call 138; (with_reducible refine (impl_sideOk.calls a0_1 true _ A6.out).mono ?_); rintro e w' ⟨rfl, ⟨nd, rfl⟩⟩) | (go_at_call 139; (with_reducible refine (impl_targetsOk.calls k _ _ l0_2 (wrap64 (a0_0 * a0_1)) true _ ?side1 ?side2 ?side3 A8.out).mono ?_); (case side1 => exact zc (Kd.C_below HR0_2.out (zs GE330.out))); (case side2 => exact HC0_2.out); (case side3 => exact LaidW.below HLD.out (zs GE330.out)); rintro e w15 ⟨rfl, hb⟩; have n0_ := zA (zB BK330.out hb); have n1_ := zA (below_step (zs GE330.out) hb); clear BK330 HB; have BK330 := n0_; have HB := n1_; clear n0_ n1_; (try clear hb); (try clear hb2); (try clear hk); (try clear hi); obtain ⟨hcz16_0, hcz16_1, hcz16_2, hcz16_3, hcz16_4, hfz16_0, hfz16_1, hfz16_2, hfz16_3, hfz16_4⟩ := zh5 BK330.out))
      go_meet
      case rel => exact ⟨_, (true), zr, H', ⟨by first | omega | exact Nat.le_refl _⟩, ⟨zb BK330.out⟩, ⟨zs GE330.out⟩⟩
    ·replace c9 := Bool.eq_false_iff.mpr c9
     subst c9
     have H1 : (impl_ValidTables.j0 k true a0_0 a0_1 l0_2 l0_3 l0_4) = some r := by rw [if_neg (show ¬ (false = true) by decide)] at H; exact H
     clear H
     have H := H1
     clear H1
     have H' := zA H
     clear H
     obtain ⟨hcz17_0, hcz17_1, hcz17_2, hcz17_3, hcz17_4, hfz17_0, hfz17_1, hfz17_2, hfz17_3, hfz17_4⟩ := zh5 BK330.out
     go_wp2_with (first | ((with_reducible refine gate_callee (f := 138) rfl ?_); refine goesL_ (some 6) rfl rfl Tryd.func138 (by kernel_rfl) rfl #[.int .i64 a0_0] rfl za ?_; (with_reducible refine (impl_sideOk.calls a0_0 true _ A4.out).mono ?_); rintro e w' ⟨rfl, ⟨nd, rfl⟩⟩; refine ⟨_, rfl, ?_⟩) | (go_at_call 138; (with_reducible refine (impl_sideOk.calls a0_1 true _ A6.out).mono ?_); rintro e w' ⟨rfl, ⟨nd, rfl⟩⟩) | (go_at_call 139; (with_reducible refine (impl_targetsOk.calls k _ _ l0_2 (wrap64 (a0_0 * a0_1)) false _ ?side1 ?side2 ?side3 A8.out).mono ?_); (case side1 => exact zc (Kd.C_below HR0_2.out (zs GE330.out))); (case side2 => exact HC0_2.out); (case side3 => exact LaidW.below HLD.out (zs GE330.out)); rintro e w18 ⟨rfl, hb⟩; have n0_ := zA (zB BK330.out hb); have n1_ := zA (below_step (zs GE330.out) hb); clear BK330 HB; have BK330 := n0_; have HB := n1_; clear n0_ n1_; (try clear hb); (try clear hb2); (try clear hk); (try clear hi)))
     go_meet
     case rel => exact ⟨_, (true), zr, H', ⟨by first | omega | exact Nat.le_refl _⟩, ⟨zb BK330.out⟩, ⟨zs GE330.out⟩⟩
   ·replace c7 := Bool.eq_false_iff.mpr c7
    subst c7
    have H1 : (impl_ValidTables.j0 k true a0_0 a0_1 l0_2 l0_3 l0_4) = some r := by rw [if_neg (show ¬ (false = true) by decide)] at H; exact H
    clear H
    have H := H1
    clear H1
    have H' := zA H
    clear H
    obtain ⟨hcz19_0, hcz19_1, hcz19_2, hcz19_3, hcz19_4, hfz19_0, hfz19_1, hfz19_2, hfz19_3, hfz19_4⟩ := zh5 BK330.out
    go_wp2_with (first | ((with_reducible refine gate_callee (f := 138) rfl ?_); refine goesL_ (some 6) rfl rfl Tryd.func138 (by kernel_rfl) rfl #[.int .i64 a0_0] rfl za ?_; (with_reducible refine (impl_sideOk.calls a0_0 true _ A4.out).mono ?_); rintro e w' ⟨rfl, ⟨nd, rfl⟩⟩; refine ⟨_, rfl, ?_⟩) | (go_at_call 138; (with_reducible refine (impl_sideOk.calls a0_1 false _ A6.out).mono ?_); rintro e w' ⟨rfl, ⟨nd, rfl⟩⟩))
    go_meet
    case rel => exact ⟨_, (true), zr, H', ⟨by first | omega | exact Nat.le_refl _⟩, ⟨zb BK330.out⟩, ⟨zs GE330.out⟩⟩
  ·replace c5 := Bool.eq_false_iff.mpr c5
   subst c5
   have H1 : (impl_ValidTables.j0 k true a0_0 a0_1 l0_2 l0_3 l0_4) = some r := by rw [if_neg (show ¬ (false = true) by decide)] at H; exact H
   clear H
   have H := H1
   clear H1
   have H' := zA H
   clear H
   obtain ⟨hcz20_0, hcz20_1, hcz20_2, hcz20_3, hcz20_4, hfz20_0, hfz20_1, hfz20_2, hfz20_3, hfz20_4⟩ := zh5 BK330.out
   go_wp2_with (first | ((with_reducible refine gate_callee (f := 138) rfl ?_); refine goesL_ (some 6) rfl rfl Tryd.func138 (by kernel_rfl) rfl #[.int .i64 a0_0] rfl za ?_; (with_reducible refine (impl_sideOk.calls a0_0 false _ A4.out).mono ?_); rintro e w' ⟨rfl, ⟨nd, rfl⟩⟩; refine ⟨_, rfl, ?_⟩))
   go_meet
   case rel => exact ⟨_, (true), zr, H', ⟨by first | omega | exact Nat.le_refl _⟩, ⟨zb BK330.out⟩, ⟨zs GE330.out⟩⟩
 case rest =>
  clear HC2
  (try clear c1); (try clear p2); (try clear c5); (try clear p6); (try clear c7); (try clear c8); (try clear c9); (try clear c10); (try clear c10b0); (try clear c10b1); (try clear c10b2); (try clear c13); (try clear hcz11_0 hcz11_1 hcz11_2 hcz11_3 hcz11_4); (try clear hcz13_0 hcz13_1 hcz13_2 hcz13_3 hcz13_4); (try clear hcz14_0 hcz14_1 hcz14_2 hcz14_3 hcz14_4); (try clear hcz16_0 hcz16_1 hcz16_2 hcz16_3 hcz16_4); (try clear hcz17_0 hcz17_1 hcz17_2 hcz17_3 hcz17_4); (try clear hcz19_0 hcz19_1 hcz19_2 hcz19_3 hcz19_4); (try clear hcz20_0 hcz20_1 hcz20_2 hcz20_3 hcz20_4); (try clear hfz11_0 hfz11_1 hfz11_2 hfz11_3 hfz11_4); (try clear hfz13_0 hfz13_1 hfz13_2 hfz13_3 hfz13_4); (try clear hfz14_0 hfz14_1 hfz14_2 hfz14_3 hfz14_4); (try clear hfz16_0 hfz16_1 hfz16_2 hfz16_3 hfz16_4); (try clear hfz17_0 hfz17_1 hfz17_2 hfz17_3 hfz17_4); (try clear hfz19_0 hfz19_1 hfz19_2 hfz19_3 hfz19_4); (try clear hfz20_0 hfz20_1 hfz20_2 hfz20_3 hfz20_4)
  obtain ⟨kq, x42_1, rfl, HA, HJ1, BK330, HB⟩ := hcut
  cases kq with
  | zero => exact absurd HA.out (by simp [impl_ValidTables.j0])
  | succ kj1 =>
   have H := HA.out
   clear HA
   simp only [impl_ValidTables.j0] at H
   by_cases c21 : x42_1 = true
   ·subst c21
    have H1 : (some false) = some r := by rw [if_pos rfl] at H; exact H
    clear H
    have H := H1
    clear H1
    obtain rfl := Option.some.inj H
    go_wp2
    go_ret
    exact ⟨ze, (zs GE330.out)⟩
   ·replace c21 := Bool.eq_false_iff.mpr c21
    subst c21
    have H1 : (impl_ValidTables.l0 kj1 (l0_2.length : Int) 0 a0_0 a0_1 l0_2 l0_3 l0_4) = some r := by rw [if_neg (show ¬ (false = true) by decide)] at H; exact H
    clear H
    have H := H1
    clear H1
    have H' := zA H
    clear H
    obtain ⟨hcz22_0, hcz22_1, hcz22_2, hcz22_3, hcz22_4, hfz22_0, hfz22_1, hfz22_2, hfz22_3, hfz22_4⟩ := zh5 BK330.out
    go_wp2
    go_loopg [46] kj1 (fun kq v46 w' => ∃ (x46_2 : Int), v46 = .int .i64 x46_2 ∧ Aside0 (impl_ValidTables.l0 kq (l0_2.length : Int) x46_2 a0_0 a0_1 l0_2 l0_3 l0_4 = some r) ∧ Aside0 (kq ≤ kj1) ∧ Aside0 (w'.heap[gb330]? = some (.cells #[.int .i64 a0_0, .int .i64 a0_1, (.slice A0_2 l0_2.length c0_2), (.slice A0_3 l0_3.length c0_3), (.slice A0_4 l0_4.length c0_4)] 47 (0, 0))) ∧ Aside0 (Below w.heap.size w w'))
    case atStart => exact ⟨(0), zr, H', ⟨Nat.le_refl _⟩, ⟨zb BK330.out⟩, ⟨zs GE330.out⟩⟩
    case round =>
     clear H'
     (try clear c1); (try clear c2); (try clear p2); (try clear c5); (try clear p6); (try clear c7); (try clear c8); (try clear c9); (try clear c10); (try clear c10b0); (try clear c10b1); (try clear c10b2); (try clear c13); (try clear c21); (try clear hcz11_0 hcz11_1 hcz11_2 hcz11_3 hcz11_4); (try clear hcz13_0 hcz13_1 hcz13_2 hcz13_3 hcz13_4); (try clear hcz14_0 hcz14_1 hcz14_2 hcz14_3 hcz14_4); (try clear hcz16_0 hcz16_1 hcz16_2 hcz16_3 hcz16_4); (try clear hcz17_0 hcz17_1 hcz17_2 hcz17_3 hcz17_4); (try clear hcz19_0 hcz19_1 hcz19_2 hcz19_3 hcz19_4); (try clear hcz20_0 hcz20_1 hcz20_2 hcz20_3 hcz20_4); (try clear hcz22_0 hcz22_1 hcz22_2 hcz22_3 hcz22_4); (try clear hfz11_0 hfz11_1 hfz11_2 hfz11_3 hfz11_4); (try clear hfz13_0 hfz13_1 hfz13_2 hfz13_3 hfz13_4); (try clear hfz14_0 hfz14_1 hfz14_2 hfz14_3 hfz14_4); (try clear hfz16_0 hfz16_1 hfz16_2 hfz16_3 hfz16_4); (try clear hfz17_0 hfz17_1 hfz17_2 hfz17_3 hfz17_4); (try clear hfz19_0 hfz19_1 hfz19_2 hfz19_3 hfz19_4); (try clear hfz20_0 hfz20_1 hfz20_2 hfz20_3 hfz20_4); (try clear hfz22_0 hfz22_1 hfz22_2 hfz22_3 hfz22_4); (try clear p2); (try clear p6)
     obtain ⟨x46_2, rfl, HA, HK2, BK330, HB⟩ := hrel
     cases gk with
     | zero => exact absurd HA.out (by simp [impl_ValidTables.l0])
     | succ k2 =>
      have H := HA.out
      clear HA
      simp only [impl_ValidTables.l0] at H
      by_cases c23 : x46_2 < (l0_2.length : Int)
      ·rw [if_pos c23] at H
       have c23b0 : decide (x46_2 < (l0_2.length : Int)) = true := decide_eq_true c23
       clear c23
       replace H := Option.bind_eq_some_iff.mp H
       obtain ⟨t334, A240, H⟩ := H
       replace H : (if t334 = true then (impl_ValidTables.l0 k2 (l0_2.length : Int) (wrap64 (x46_2 + 1)) a0_0 a0_1 l0_2 l0_3 l0_4) else (some false)) = some r := H
       have A24 := zA A240
       clear A240
       by_cases c25 : t334 = true
       ·subst c25
        have H1 : (impl_ValidTables.l0 k2 (l0_2.length : Int) (wrap64 (x46_2 + 1)) a0_0 a0_1 l0_2 l0_3 l0_4) = some r := by rw [if_pos rfl] at H; exact H
        clear H
        have H := H1
        clear H1
        have H' := zA H
        clear H
        obtain ⟨hcz26_0, hcz26_1, hcz26_2, hcz26_3, hcz26_4, hfz26_0, hfz26_1, hfz26_2, hfz26_3, hfz26_4⟩ := zh5 BK330.out
        go_wp2_with (first | ((with_reducible refine gate_callee (f := 144) rfl ?_); refine goesL_ (some 51) rfl rfl Tryd.func144 (by kernel_rfl) rfl #[.agg #[.int .i64 a0_0, .int .i64 a0_1, .slice A0_2 l0_2.length c0_2, .slice A0_3 l0_3.length c0_3, .slice A0_4 l0_4.length c0_4], .int .i64 x46_2] rfl za ?_; (with_reducible refine (impl_Tables_listOk.calls k2 a0_0 a0_1 _ _ l0_2 _ _ l0_3 _ _ l0_4 x46_2 true _ ?side1 ?side2 ?side3 ?side4 ?side5 ?side6 A24.out).mono ?_); (case side1 => exact zc (Kd.C_below HR0_2.out HB.out)); (case side2 => exact HC0_2.out); (case side3 => exact zc (Kd.C_below HR0_3.out HB.out)); (case side4 => exact HC0_3.out); (case side5 => exact zc (Kd.C_below HR0_4.out HB.out)); (case side6 => exact HC0_4.out); rintro e w27 ⟨rfl, hb⟩; refine ⟨_, rfl, ?_⟩; have n0_ := zA (zB BK330.out hb); have n1_ := zA (below_step (zs GE330.out) hb); clear BK330 HB; have BK330 := n0_; have HB := n1_; clear n0_ n1_; (try clear hb); (try clear hb2); (try clear hk); (try clear hi)))
        go_roundg k2
        case measure => have := HJ1.out; have := HK2.out; omega
        case rel => exact ⟨(wrap64 (x46_2 + 1)), zr, H', ⟨by have := HJ1.out; have := HK2.out; omega⟩, ⟨zb BK330.out⟩, ⟨zs GE330.out⟩⟩
       ·replace c25 := Bool.eq_false_iff.mpr c25
        subst c25
        have H1 : (some false) = some r := by rw [if_neg (show ¬ (false = true) by decide)] at H; exact H
        clear H
        have H := H1
        clear H1
        obtain rfl := Option.some.inj H
        obtain ⟨hcz28_0, hcz28_1, hcz28_2, hcz28_3, hcz28_4, hfz28_0, hfz28_1, hfz28_2, hfz28_3, hfz28_4⟩ := zh5 BK330.out
        go_wp2_with (first | ((with_reducible refine gate_callee (f := 144) rfl ?_); refine goesL_ (some 51) rfl rfl Tryd.func144 (by kernel_rfl) rfl #[.agg #[.int .i64 a0_0, .int .i64 a0_1, .slice A0_2 l0_2.length c0_2, .slice A0_3 l0_3.length c0_3, .slice A0_4 l0_4.length c0_4], .int .i64 x46_2] rfl za ?_; (with_reducible refine (impl_Tables_listOk.calls k2 a0_0 a0_1 _ _ l0_2 _ _ l0_3 _ _ l0_4 x46_2 false _ ?side1 ?side2 ?side3 ?side4 ?side5 ?side6 A24.out).mono ?_); (case side1 => exact zc (Kd.C_below HR0_2.out HB.out)); (case side2 => exact HC0_2.out); (case side3 => exact zc (Kd.C_below HR0_3.out HB.out)); (case side4 => exact HC0_3.out); (case side5 => exact zc (Kd.C_below HR0_4.out HB.out)); (case side6 => exact HC0_4.out); rintro e w29 ⟨rfl, hb⟩; refine ⟨_, rfl, ?_⟩; have n0_ := zA (zB BK330.out hb); have n1_ := zA (below_step (zs GE330.out) hb); clear BK330 HB; have BK330 := n0_; have HB := n1_; clear n0_ n1_; (try clear hb); (try clear hb2); (try clear hk); (try clear hi)))
        go_ret
        exact ⟨ze, (zs GE330.out)⟩
      ·rw [if_neg c23] at H
       have c23b0 : decide (x46_2 < (l0_2.length : Int)) = false := decide_eq_false c23
       clear c23
       obtain rfl := Option.some.inj H
       go_wp2
       go_ret
       exact ⟨ze, (zs GE330.out)⟩

-- NOT PRINTED: function 90 (impl_imageWriter_put)

end Go.Proofs.YthbeplmihjhoeaaDoor.PFnExactEncodeImage
