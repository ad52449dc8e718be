-- made by wip/tools/myprint.py (this session's own program, over the kit's printer)
import Derived.Test.YtiboccbaaphbhaaDoorPFnExactValidLayoutx0
import Derived.Test.YtiboccbaaphbhaaDoorPFnExactValidLayoutx6
import Derived.Test.YtiboccbaaphbhaaDoorPFnExactValidLayoutx7
namespace Go.Proofs.YtiboccbaaphbhaaDoor.PFnExactValidLayout
open Go.RowKit Go.Proofs.YtiboccbaaphbhaaDoorW.PrintWords Go.Proofs.YtiboccbaaphbhaaDoorW.PrintLast Go.Proofs.YtiboccbaaphbhaaDoorW.PrintMore
attribute [local go_sem] max2_int min2_int max_two min_two max_three min_three max_four min_four   -- for this text's walks alone
set_option linter.unusedVariables false
set_option linter.unusedSimpArgs false

/-! ### impl_ValidLayout: function 18 -/
mutual
def impl_ValidLayout.j0 : Nat → Bool → Int → Int → List Int → List Int → List (S74) → Option (Bool)
 | 0, _, _, _, _, _, _ => none
 | k + 1, x38, x203000, x203001, x203002, x203003, x203004 => if x38 = true then (some false) else (impl_ValidLayout.l0 k x203002 (x203002.length : Int) 0 x203000 x203001 x203002 x203003 x203004)
def impl_ValidLayout.l0 : Nat → List Int → Int → Int → Int → Int → List Int → List Int → List (S74) → Option (Bool)
 | 0, _, _, _, _, _, _, _, _ => none
 | k + 1, x40, x41, x42, x203000, x203001, x203002, x203003, x203004 => if x42 < x41 then (if 0 ≤ x42 then (if x42 < (x40.length : Int) then (if (rd x40 x42) < 0 then (some false) else (if (rd x40 x42) > 9 then (some false) else (impl_ValidLayout.l0 k x40 x41 (wrap64 (x42 + 1)) x203000 x203001 x203002 x203003 x203004))) else (none)) else (none)) else (impl_ValidLayout.l1 k x203003 (x203003.length : Int) 0 x203000 x203001 x203002 x203003 x203004)
def impl_ValidLayout.l1 : Nat → List Int → Int → Int → Int → Int → List Int → List Int → List (S74) → Option (Bool)
 | 0, _, _, _, _, _, _, _, _ => none
 | k + 1, x54, x55, x56, x203000, x203001, x203002, x203003, x203004 => if x56 < x55 then (if 0 ≤ x56 then (if x56 < (x54.length : Int) then (if (rd x54 x56) < 0 then (some false) else ((impl_free.f k x203000 x203001 x203002 x56).bind fun t207 => (if (Go.bits .andNot .i64 (rd x54 x56) t207) = 0 then (if x56 < (x203002.length : Int) then (if (rd x203002 x56) = 0 then (if (rd x54 x56) = 0 then (impl_ValidLayout.l1 k x54 x55 (wrap64 (x56 + 1)) x203000 x203001 x203002 x203003 x203004) else (some false)) else (impl_ValidLayout.l1 k x54 x55 (wrap64 (x56 + 1)) x203000 x203001 x203002 x203003 x203004)) else (none)) else (some false)))) else (none)) else (none)) else ((impl_targetsOk.f k x203004 (wrap64 (x203000 * x203001))).bind fun t209 => (if t209 = true then ((impl_ValidLayout_any.f x203004 x203000 x203001 x203002 x203003 x203004).bind fun t210 => (some (!t210))) else (some false)))
end
def impl_ValidLayout.f (k : Nat) (a0_0 : Int) (a0_1 : Int) (l0_2 : List Int) (l0_3 : List Int) (l0_4 : List (S74)) : Option (Bool) := (impl_sideOk.f a0_0).bind fun t203 => (if t203 = true then ((impl_sideOk.f a0_1).bind fun t204 => (if t204 = true then (if (l0_2.length : Int) = (wrap64 (a0_0 * a0_1)) then (impl_ValidLayout.j0 k ((l0_3.length : Int) != (wrap64 (a0_0 * a0_1))) a0_0 a0_1 l0_2 l0_3 l0_4) else (impl_ValidLayout.j0 k true a0_0 a0_1 l0_2 l0_3 l0_4)) else (impl_ValidLayout.j0 k true a0_0 a0_1 l0_2 l0_3 l0_4))) else (impl_ValidLayout.j0 k true a0_0 a0_1 l0_2 l0_3 l0_4))
theorem impl_ValidLayout.mono_l : ∀ k, (∀ y0 y1 y2 y3 y4 y5, LeO (impl_ValidLayout.j0 k y0 y1 y2 y3 y4 y5) (impl_ValidLayout.j0 (k + 1) y0 y1 y2 y3 y4 y5)) ∧ (∀ y0 y1 y2 y3 y4 y5 y6 y7, LeO (impl_ValidLayout.l0 k y0 y1 y2 y3 y4 y5 y6 y7) (impl_ValidLayout.l0 (k + 1) y0 y1 y2 y3 y4 y5 y6 y7)) ∧ (∀ y0 y1 y2 y3 y4 y5 y6 y7, LeO (impl_ValidLayout.l1 k y0 y1 y2 y3 y4 y5 y6 y7) (impl_ValidLayout.l1 (k + 1) y0 y1 y2 y3 y4 y5 y6 y7))
 | 0 => ⟨fun _ _ _ _ _ _ r h => by simp [impl_ValidLayout.j0] at h, fun _ _ _ _ _ _ _ _ r h => by simp [impl_ValidLayout.l0] at h, fun _ _ _ _ _ _ _ _ r h => by simp [impl_ValidLayout.l1] at h⟩
 | k + 1 => by
  obtain ⟨ih0, ih1, ih2⟩ := impl_ValidLayout.mono_l k
  refine ⟨?_, ?_, ?_⟩
  ·intro y0 y1 y2 y3 y4 y5
   unfold impl_ValidLayout.j0
   repeat' first
   | (with_reducible exact ih0 _ _ _ _ _ _)
   | (with_reducible exact ih1 _ _ _ _ _ _ _ _)
   | (with_reducible exact ih2 _ _ _ _ _ _ _ _)
   | (with_reducible exact impl_free.mono _ _ _ _ _)
   | (with_reducible exact impl_targetsOk.mono _ _ _)
   | (with_reducible exact LeO.refl _)
   | (with_reducible exact LeO.none _)
   | (with_reducible refine LeO.ite ?_ ?_)
   | (with_reducible refine LeO.bind ?_ (fun _ => ?_))
   | exact LeO.none _
   | refine LeO.ite ?_ ?_
   | refine LeO.bind ?_ (fun _ => ?_)
  ·intro y0 y1 y2 y3 y4 y5 y6 y7
   unfold impl_ValidLayout.l0
   repeat' first
   | (with_reducible exact ih0 _ _ _ _ _ _)
   | (with_reducible exact ih1 _ _ _ _ _ _ _ _)
   | (with_reducible exact ih2 _ _ _ _ _ _ _ _)
   | (with_reducible exact impl_free.mono _ _ _ _ _)
   | (with_reducible exact impl_targetsOk.mono _ _ _)
   | (with_reducible exact LeO.refl _)
   | (with_reducible exact LeO.none _)
   | (with_reducible refine LeO.ite ?_ ?_)
   | (with_reducible refine LeO.bind ?_ (fun _ => ?_))
   | exact LeO.none _
   | refine LeO.ite ?_ ?_
   | refine LeO.bind ?_ (fun _ => ?_)
  ·intro y0 y1 y2 y3 y4 y5 y6 y7
   unfold impl_ValidLayout.l1
   repeat' first
   | (with_reducible exact ih0 _ _ _ _ _ _)
   | (with_reducible exact ih1 _ _ _ _ _ _ _ _)
   | (with_reducible exact ih2 _ _ _ _ _ _ _ _)
   | (with_reducible exact impl_free.mono _ _ _ _ _)
   | (with_reducible exact impl_targetsOk.mono _ _ _)
   | (with_reducible exact LeO.refl _)
   | (with_reducible exact LeO.none _)
   | (with_reducible refine LeO.ite ?_ ?_)
   | (with_reducible refine LeO.bind ?_ (fun _ => ?_))
   | exact LeO.none _
   | refine LeO.ite ?_ ?_
   | refine LeO.bind ?_ (fun _ => ?_)
theorem impl_ValidLayout.mono : ∀ a0 a1 a2 a3 a4 k, LeO (impl_ValidLayout.f k a0 a1 a2 a3 a4) (impl_ValidLayout.f (k + 1) a0 a1 a2 a3 a4) := by
 intro a0 a1 a2 a3 a4 k
 obtain ⟨ih0, ih1, ih2⟩ := impl_ValidLayout.mono_l k
 unfold impl_ValidLayout.f
 repeat' first
   | (with_reducible exact ih0 _ _ _ _ _ _)
   | (with_reducible exact ih1 _ _ _ _ _ _ _ _)
   | (with_reducible exact ih2 _ _ _ _ _ _ _ _)
   | (with_reducible exact impl_free.mono _ _ _ _ _)
   | (with_reducible exact impl_targetsOk.mono _ _ _)
   | (with_reducible exact LeO.refl _)
   | (with_reducible exact LeO.none _)
   | (with_reducible refine LeO.ite ?_ ?_)
   | (with_reducible refine LeO.bind ?_ (fun _ => ?_))
   | exact LeO.none _
   | refine LeO.ite ?_ ?_
   | refine LeO.bind ?_ (fun _ => ?_)
set_option maxHeartbeats 8000000 in
set_option maxRecDepth 100000 in
theorem impl_ValidLayout.calls (k : Nat) (a0_0 : Int) (a0_1 : Int) (A0_2 : Option Addr) (c0_2 : Nat) (l0_2 : List Int) (A0_3 : Option Addr) (c0_3 : Nat) (l0_3 : List Int) (A0_4 : Option Addr) (c0_4 : Nat) (l0_4 : List (S74)) (r : Bool) (w : World) (hr0_2 : Kd.C (Kd.int .i64) w A0_2 l0_2.length l0_2) (hc0_2 : l0_2.length ≤ c0_2) (hr0_3 : Kd.C (Kd.int .i64) w A0_3 l0_3.length l0_3) (hc0_3 : l0_3.length ≤ c0_3) (hr0_4 : Kd.C k74 w A0_4 l0_4.length l0_4) (hc0_4 : l0_4.length ≤ c0_4) (hL : LaidW w) (h : impl_ValidLayout.f k a0_0 a0_1 l0_2 l0_3 l0_4 = some r) :
  Calls Tryd.prog 18 #[.agg #[.int .i64 a0_0, .int .i64 a0_1, .slice A0_2 l0_2.length c0_2, .slice A0_3 l0_3.length c0_3, .slice A0_4 l0_4.length c0_4]] w fun e w' => e = .returned (.bool r) ∧ Below w.heap.size w w' := by
 have hu36 := Tryd.underlying36
 have HR0_2 := Aside0.mk hr0_2
 have HC0_2 := Aside0.mk hc0_2
 clear hr0_2 hc0_2
 have HR0_3 := Aside0.mk hr0_3
 have HC0_3 := Aside0.mk hc0_3
 clear hr0_3 hc0_3
 have HR0_4 := Aside0.mk hr0_4
 have HC0_4 := Aside0.mk hc0_4
 clear hr0_4 hc0_4
 have HLD := Aside0.mk hL
 clear hL
 have HB := Aside0.mk (Below.refl w.heap.size w)
 have H : ((impl_sideOk.f a0_0).bind fun t203 => (if t203 = true then ((impl_sideOk.f a0_1).bind fun t204 => (if t204 = true then (if (l0_2.length : Int) = (wrap64 (a0_0 * a0_1)) then (impl_ValidLayout.j0 k ((l0_3.length : Int) != (wrap64 (a0_0 * a0_1))) a0_0 a0_1 l0_2 l0_3 l0_4) else (impl_ValidLayout.j0 k true a0_0 a0_1 l0_2 l0_3 l0_4)) else (impl_ValidLayout.j0 k true a0_0 a0_1 l0_2 l0_3 l0_4))) else (impl_ValidLayout.j0 k true a0_0 a0_1 l0_2 l0_3 l0_4))) = some r := h
 clear h
 have HC2 := Aside0.mk H
 clear H
 go_enter Tryd.func18, Tryd.ntmps18
 go_upto_region 1 with (first | ((with_reducible refine gate_dst (N := 1) rfl ?_); (try (refine gate_guard (by rfl) ?_; dsimp only)); refine box_event ?hg (N := 1) ?hd (cs := #[.int .i64 a0_0, .int .i64 a0_1, .slice A0_2 l0_2.length c0_2, .slice A0_3 l0_3.length c0_3, .slice A0_4 l0_4.length c0_4]) (t := 36) ?hr ?_; (case hd => rfl); (case hg => rfl); (case hr => first | (go_simp; done) | (go_simp; rfl)); intro gb202 hg w3 hbox hb; have n0_ := Aside0.mk (below_step z_ hb); have n1_ := Aside0.mk (hbox); have n2_ := Aside0.mk ((by rw [hg]; exact (below_size z_) : w.heap.size ≤ gb202)); have n3_ := Aside0.mk ((by rw [hg]; exact (below_size z_) : w.heap.size ≤ gb202)); clear HB; have HB := n0_; have BK202 := n1_; have GW202 := n2_; have GE202 := n3_; clear n0_ n1_ n2_ n3_; clear hb hbox hg))
 (try simp only [Act.put, List.setIfInBounds_toArray, List.set_cons_zero, List.set_cons_succ])
 go_cut [38] (fun v38 wc => ∃ (kq : Nat) (x38_1 : Bool), v38 = .bool x38_1 ∧ Aside0 (impl_ValidLayout.j0 kq x38_1 a0_0 a0_1 l0_2 l0_3 l0_4 = some r) ∧ Aside0 (kq ≤ k) ∧ Aside0 (wc.heap[gb202]? = some (.cells #[.int .i64 a0_0, .int .i64 a0_1, (.slice A0_2 l0_2.length c0_2), (.slice A0_3 l0_3.length c0_3), (.slice A0_4 l0_4.length c0_4)] 36 (0, 0))) ∧ Aside0 (Below w.heap.size w wc))
 case first =>
  have H := HC2.out
  clear HC2
  replace H := Option.bind_eq_some_iff.mp H
  obtain ⟨t203, A40, H⟩ := H
  replace H : (if t203 = true then ((impl_sideOk.f a0_1).bind fun t204 => (if t204 = true then (if (l0_2.length : Int) = (wrap64 (a0_0 * a0_1)) then (impl_ValidLayout.j0 k ((l0_3.length : Int) != (wrap64 (a0_0 * a0_1))) a0_0 a0_1 l0_2 l0_3 l0_4) else (impl_ValidLayout.j0 k true a0_0 a0_1 l0_2 l0_3 l0_4)) else (impl_ValidLayout.j0 k true a0_0 a0_1 l0_2 l0_3 l0_4))) else (impl_ValidLayout.j0 k true a0_0 a0_1 l0_2 l0_3 l0_4)) = some r := H
  have A4 := Aside0.mk A40
  clear A40
  by_cases c5 : t203 = true
  ·subst c5
   have H1 : ((impl_sideOk.f a0_1).bind fun t204 => (if t204 = true then (if (l0_2.length : Int) = (wrap64 (a0_0 * a0_1)) then (impl_ValidLayout.j0 k ((l0_3.length : Int) != (wrap64 (a0_0 * a0_1))) a0_0 a0_1 l0_2 l0_3 l0_4) else (impl_ValidLayout.j0 k true a0_0 a0_1 l0_2 l0_3 l0_4)) else (impl_ValidLayout.j0 k true a0_0 a0_1 l0_2 l0_3 l0_4))) = some r := by rw [if_pos rfl] at H; exact H
   clear H
   have H := H1
   clear H1
   replace H := Option.bind_eq_some_iff.mp H
   obtain ⟨t204, A60, H⟩ := H
   replace H : (if t204 = true then (if (l0_2.length : Int) = (wrap64 (a0_0 * a0_1)) then (impl_ValidLayout.j0 k ((l0_3.length : Int) != (wrap64 (a0_0 * a0_1))) a0_0 a0_1 l0_2 l0_3 l0_4) else (impl_ValidLayout.j0 k true a0_0 a0_1 l0_2 l0_3 l0_4)) else (impl_ValidLayout.j0 k true a0_0 a0_1 l0_2 l0_3 l0_4)) = some r := H
   have A6 := Aside0.mk A60
   clear A60
   by_cases c7 : t204 = true
   ·subst c7
    have H1 : (if (l0_2.length : Int) = (wrap64 (a0_0 * a0_1)) then (impl_ValidLayout.j0 k ((l0_3.length : Int) != (wrap64 (a0_0 * a0_1))) a0_0 a0_1 l0_2 l0_3 l0_4) else (impl_ValidLayout.j0 k true a0_0 a0_1 l0_2 l0_3 l0_4)) = some r := by rw [if_pos rfl] at H; exact H
    clear H
    have H := H1
    clear H1
    by_cases c8 : (l0_2.length : Int) = (wrap64 (a0_0 * a0_1))
    ·rw [if_pos c8] at H
     have c8b0 : ((l0_2.length : Int) == (wrap64 (a0_0 * a0_1))) = true := beq_iff_eq.mpr c8
     have c8b1 : ((l0_2.length : Int) != (wrap64 (a0_0 * a0_1))) = false := bne_eq_false_iff_eq.mpr c8
     clear c8
     (first | rw [c8b0] | (simp only [i64_w, i32_w]; rw [c8b0]) | skip)
     have H' := Aside0.mk H
     clear H
     have hcz9_0 : w3.cell? ⟨gb202, 0, none⟩ = some (.int .i64 a0_0) := (blk_cell BK202.out 0).trans rfl
     have hcz9_1 : w3.cell? ⟨gb202, 1, none⟩ = some (.int .i64 a0_1) := (blk_cell BK202.out 1).trans rfl
     have hcz9_2 : w3.cell? ⟨gb202, 2, none⟩ = some (.slice A0_2 l0_2.length c0_2) := (blk_cell BK202.out 2).trans rfl
     have hcz9_3 : w3.cell? ⟨gb202, 3, none⟩ = some (.slice A0_3 l0_3.length c0_3) := (blk_cell BK202.out 3).trans rfl
     have hcz9_4 : w3.cell? ⟨gb202, 4, none⟩ = some (.slice A0_4 l0_4.length c0_4) := (blk_cell BK202.out 4).trans rfl
     have hfz9_0 := blk_frozen BK202.out 0
     have hfz9_1 := blk_frozen BK202.out 1
     have hfz9_2 := blk_frozen BK202.out 2
     have hfz9_3 := blk_frozen BK202.out 3
     have hfz9_4 := blk_frozen BK202.out 4
     go_wp2_with (first | ((with_reducible refine gate_callee (f := 51) rfl ?_); refine goesL_ (some 9) rfl rfl Tryd.func51 (by kernel_rfl) rfl #[.int .i64 a0_0] rfl za ?_; (with_reducible refine (impl_sideOk.calls a0_0 true _ A4.out).mono ?_); rintro e w' ⟨rfl, ⟨nd, rfl⟩⟩; refine ⟨_, rfl, ?_⟩) | (go_at_call 51; (with_reducible refine (impl_sideOk.calls a0_1 true _ A6.out).mono ?_); rintro e w' ⟨rfl, ⟨nd, rfl⟩⟩))
     go_meet
     case rel => exact ⟨_, (((l0_3.length : Int) != (wrap64 (a0_0 * a0_1)))), zr, H', ⟨by first | omega | exact Nat.le_refl _⟩, ⟨zb BK202.out⟩, ⟨zs GE202.out⟩⟩
    ·rw [if_neg c8] at H
     have c8b0 : ((l0_2.length : Int) == (wrap64 (a0_0 * a0_1))) = false := beq_eq_false_iff_ne.mpr c8
     have c8b1 : ((l0_2.length : Int) != (wrap64 (a0_0 * a0_1))) = true := bne_iff_ne.mpr c8
     (first | rw [c8b0] | (simp only [i64_w, i32_w]; rw [c8b0]) | skip)
     have H' := Aside0.mk H
     clear H
     have hcz10_0 : w3.cell? ⟨gb202, 0, none⟩ = some (.int .i64 a0_0) := (blk_cell BK202.out 0).trans rfl
     have hcz10_1 : w3.cell? ⟨gb202, 1, none⟩ = some (.int .i64 a0_1) := (blk_cell BK202.out 1).trans rfl
     have hcz10_2 : w3.cell? ⟨gb202, 2, none⟩ = some (.slice A0_2 l0_2.length c0_2) := (blk_cell BK202.out 2).trans rfl
     have hcz10_3 : w3.cell? ⟨gb202, 3, none⟩ = some (.slice A0_3 l0_3.length c0_3) := (blk_cell BK202.out 3).trans rfl
     have hcz10_4 : w3.cell? ⟨gb202, 4, none⟩ = some (.slice A0_4 l0_4.length c0_4) := (blk_cell BK202.out 4).trans rfl
     have hfz10_0 := blk_frozen BK202.out 0
     have hfz10_1 := blk_frozen BK202.out 1
     have hfz10_2 := blk_frozen BK202.out 2
     have hfz10_3 := blk_frozen BK202.out 3
     have hfz10_4 := blk_frozen BK202.out 4
     go_wp2_with (first | ((with_reducible refine gate_callee (f := 51) rfl ?_); refine goesL_ (some 9) rfl rfl Tryd.func51 (by kernel_rfl) rfl #[.int .i64 a0_0] rfl za ?_; (with_reducible refine (impl_sideOk.calls a0_0 true _ A4.out).mono ?_); rintro e w' ⟨rfl, ⟨nd, rfl⟩⟩; refine ⟨_, rfl, ?_⟩) | (go_at_call 51; (with_reducible refine (impl_sideOk.calls a0_1 true _ A6.out).mono ?_); rintro e w' ⟨rfl, ⟨nd, rfl⟩⟩))
     go_meet
     case rel => exact ⟨_, (true), zr, H', ⟨by first | omega | exact Nat.le_refl _⟩, ⟨zb BK202.out⟩, ⟨zs GE202.out⟩⟩
   ·replace c7 := Bool.eq_false_iff.mpr c7
    subst c7
    have H1 : (impl_ValidLayout.j0 k true a0_0 a0_1 l0_2 l0_3 l0_4) = some r := by rw [if_neg (show ¬ (false = true) by decide)] at H; exact H
    clear H
    have H := H1
    clear H1
    have H' := Aside0.mk H
    clear H
    have hcz11_0 : w3.cell? ⟨gb202, 0, none⟩ = some (.int .i64 a0_0) := (blk_cell BK202.out 0).trans rfl
    have hcz11_1 : w3.cell? ⟨gb202, 1, none⟩ = some (.int .i64 a0_1) := (blk_cell BK202.out 1).trans rfl
    have hcz11_2 : w3.cell? ⟨gb202, 2, none⟩ = some (.slice A0_2 l0_2.length c0_2) := (blk_cell BK202.out 2).trans rfl
    have hcz11_3 : w3.cell? ⟨gb202, 3, none⟩ = some (.slice A0_3 l0_3.length c0_3) := (blk_cell BK202.out 3).trans rfl
    have hcz11_4 : w3.cell? ⟨gb202, 4, none⟩ = some (.slice A0_4 l0_4.length c0_4) := (blk_cell BK202.out 4).trans rfl
    have hfz11_0 := blk_frozen BK202.out 0
    have hfz11_1 := blk_frozen BK202.out 1
    have hfz11_2 := blk_frozen BK202.out 2
    have hfz11_3 := blk_frozen BK202.out 3
    have hfz11_4 := blk_frozen BK202.out 4
    go_wp2_with (first | ((with_reducible refine gate_callee (f := 51) rfl ?_); refine goesL_ (some 9) rfl rfl Tryd.func51 (by kernel_rfl) rfl #[.int .i64 a0_0] rfl za ?_; (with_reducible refine (impl_sideOk.calls a0_0 true _ A4.out).mono ?_); rintro e w' ⟨rfl, ⟨nd, rfl⟩⟩; refine ⟨_, rfl, ?_⟩) | (go_at_call 51; (with_reducible refine (impl_sideOk.calls a0_1 false _ A6.out).mono ?_); rintro e w' ⟨rfl, ⟨nd, rfl⟩⟩))
    go_meet
    case rel => exact ⟨_, (true), zr, H', ⟨by first | omega | exact Nat.le_refl _⟩, ⟨zb BK202.out⟩, ⟨zs GE202.out⟩⟩
  ·replace c5 := Bool.eq_false_iff.mpr c5
   subst c5
   have H1 : (impl_ValidLayout.j0 k true a0_0 a0_1 l0_2 l0_3 l0_4) = some r := by rw [if_neg (show ¬ (false = true) by decide)] at H; exact H
   clear H
   have H := H1
   clear H1
   have H' := Aside0.mk H
   clear H
   have hcz12_0 : w3.cell? ⟨gb202, 0, none⟩ = some (.int .i64 a0_0) := (blk_cell BK202.out 0).trans rfl
   have hcz12_1 : w3.cell? ⟨gb202, 1, none⟩ = some (.int .i64 a0_1) := (blk_cell BK202.out 1).trans rfl
   have hcz12_2 : w3.cell? ⟨gb202, 2, none⟩ = some (.slice A0_2 l0_2.length c0_2) := (blk_cell BK202.out 2).trans rfl
   have hcz12_3 : w3.cell? ⟨gb202, 3, none⟩ = some (.slice A0_3 l0_3.length c0_3) := (blk_cell BK202.out 3).trans rfl
   have hcz12_4 : w3.cell? ⟨gb202, 4, none⟩ = some (.slice A0_4 l0_4.length c0_4) := (blk_cell BK202.out 4).trans rfl
   have hfz12_0 := blk_frozen BK202.out 0
   have hfz12_1 := blk_frozen BK202.out 1
   have hfz12_2 := blk_frozen BK202.out 2
   have hfz12_3 := blk_frozen BK202.out 3
   have hfz12_4 := blk_frozen BK202.out 4
   go_wp2_with (first | ((with_reducible refine gate_callee (f := 51) rfl ?_); refine goesL_ (some 9) rfl rfl Tryd.func51 (by kernel_rfl) rfl #[.int .i64 a0_0] rfl za ?_; (with_reducible refine (impl_sideOk.calls a0_0 false _ A4.out).mono ?_); rintro e w' ⟨rfl, ⟨nd, rfl⟩⟩; refine ⟨_, rfl, ?_⟩))
   go_meet
   case rel => exact ⟨_, (true), zr, H', ⟨by first | omega | exact Nat.le_refl _⟩, ⟨zb BK202.out⟩, ⟨zs GE202.out⟩⟩
 case rest =>
  clear HC2
  try clear c1
  try clear p2
  try clear c5
  try clear p6
  try clear c7
  try clear c8
  try clear c8b0
  try clear c8b1
  try clear hcz10_0
  try clear hcz10_1
  try clear hcz10_2
  try clear hcz10_3
  try clear hcz10_4
  try clear hcz11_0
  try clear hcz11_1
  try clear hcz11_2
  try clear hcz11_3
  try clear hcz11_4
  try clear hcz12_0
  try clear hcz12_1
  try clear hcz12_2
  try clear hcz12_3
  try clear hcz12_4
  try clear hcz9_0
  try clear hcz9_1
  try clear hcz9_2
  try clear hcz9_3
  try clear hcz9_4
  try clear hfz10_0
  try clear hfz10_1
  try clear hfz10_2
  try clear hfz10_3
  try clear hfz10_4
  try clear hfz11_0
  try clear hfz11_1
  try clear hfz11_2
  try clear hfz11_3
  try clear hfz11_4
  try clear hfz12_0
  try clear hfz12_1
  try clear hfz12_2
  try clear hfz12_3
  try clear hfz12_4
  try clear hfz9_0
  try clear hfz9_1
  try clear hfz9_2
  try clear hfz9_3
  try clear hfz9_4
  obtain ⟨kq, x38_1, rfl, HA, HJ1, BK202, HB⟩ := hcut
  cases kq with
  | zero => exact absurd HA.out (by simp [impl_ValidLayout.j0])
  | succ kj1 =>
   have H := HA.out
   clear HA
   simp only [impl_ValidLayout.j0] at H
   by_cases c13 : x38_1 = true
   ·subst c13
    have H1 : (some false) = some r := by rw [if_pos rfl] at H; exact H
    clear H
    have H := H1
    clear H1
    obtain rfl := Option.some.inj H
    go_wp2
    go_ret
    exact ⟨ze, (zs GE202.out)⟩
   ·replace c13 := Bool.eq_false_iff.mpr c13
    subst c13
    have H1 : (impl_ValidLayout.l0 kj1 l0_2 (l0_2.length : Int) 0 a0_0 a0_1 l0_2 l0_3 l0_4) = some r := by rw [if_neg (show ¬ (false = true) by decide)] at H; exact H
    clear H
    have H := H1
    clear H1
    have H' := Aside0.mk H
    clear H
    have hcz14_0 : wc.cell? ⟨gb202, 0, none⟩ = some (.int .i64 a0_0) := (blk_cell BK202.out 0).trans rfl
    have hcz14_1 : wc.cell? ⟨gb202, 1, none⟩ = some (.int .i64 a0_1) := (blk_cell BK202.out 1).trans rfl
    have hcz14_2 : wc.cell? ⟨gb202, 2, none⟩ = some (.slice A0_2 l0_2.length c0_2) := (blk_cell BK202.out 2).trans rfl
    have hcz14_3 : wc.cell? ⟨gb202, 3, none⟩ = some (.slice A0_3 l0_3.length c0_3) := (blk_cell BK202.out 3).trans rfl
    have hcz14_4 : wc.cell? ⟨gb202, 4, none⟩ = some (.slice A0_4 l0_4.length c0_4) := (blk_cell BK202.out 4).trans rfl
    have hfz14_0 := blk_frozen BK202.out 0
    have hfz14_1 := blk_frozen BK202.out 1
    have hfz14_2 := blk_frozen BK202.out 2
    have hfz14_3 := blk_frozen BK202.out 3
    have hfz14_4 := blk_frozen BK202.out 4
    go_wp2
    go_loopg [42] kj1 (fun kq v42 w' => ∃ (x42_2 : Int), v42 = .int .i64 x42_2 ∧ Aside0 (impl_ValidLayout.l0 kq l0_2 (l0_2.length : Int) x42_2 a0_0 a0_1 l0_2 l0_3 l0_4 = some r) ∧ Aside0 (kq ≤ kj1) ∧ Aside0 (w'.heap[gb202]? = some (.cells #[.int .i64 a0_0, .int .i64 a0_1, (.slice A0_2 l0_2.length c0_2), (.slice A0_3 l0_3.length c0_3), (.slice A0_4 l0_4.length c0_4)] 36 (0, 0))) ∧ Aside0 (Below w.heap.size w w'))
    case atStart => exact ⟨(0), zr, H', ⟨Nat.le_refl _⟩, ⟨zb BK202.out⟩, ⟨zs GE202.out⟩⟩
    case round =>
     clear H'
     try clear c1
     try clear p2
     try clear c5
     try clear p6
     try clear c7
     try clear c8
     try clear c8b0
     try clear c8b1
     try clear c13
     try clear hcz10_0
     try clear hcz10_1
     try clear hcz10_2
     try clear hcz10_3
     try clear hcz10_4
     try clear hcz11_0
     try clear hcz11_1
     try clear hcz11_2
     try clear hcz11_3
     try clear hcz11_4
     try clear hcz12_0
     try clear hcz12_1
     try clear hcz12_2
     try clear hcz12_3
     try clear hcz12_4
     try clear hcz14_0
     try clear hcz14_1
     try clear hcz14_2
     try clear hcz14_3
     try clear hcz14_4
     try clear hcz9_0
     try clear hcz9_1
     try clear hcz9_2
     try clear hcz9_3
     try clear hcz9_4
     try clear hfz10_0
     try clear hfz10_1
     try clear hfz10_2
     try clear hfz10_3
     try clear hfz10_4
     try clear hfz11_0
     try clear hfz11_1
     try clear hfz11_2
     try clear hfz11_3
     try clear hfz11_4
     try clear hfz12_0
     try clear hfz12_1
     try clear hfz12_2
     try clear hfz12_3
     try clear hfz12_4
     try clear hfz14_0
     try clear hfz14_1
     try clear hfz14_2
     try clear hfz14_3
     try clear hfz14_4
     try clear hfz9_0
     try clear hfz9_1
     try clear hfz9_2
     try clear hfz9_3
     try clear hfz9_4
     try clear p2
     try clear p6
     obtain ⟨x42_2, rfl, HA, HK2, BK202, HB⟩ := hrel
     cases gk with
     | zero => exact absurd HA.out (by simp [impl_ValidLayout.l0])
     | succ k2 =>
      have H := HA.out
      clear HA
      simp only [impl_ValidLayout.l0] at H
      by_cases c15 : x42_2 < (l0_2.length : Int)
      ·rw [if_pos c15] at H
       have c15b0 : decide (x42_2 < (l0_2.length : Int)) = true := decide_eq_true c15
       clear c15
       by_cases c16 : 0 ≤ x42_2
       ·rw [if_pos c16] at H
        have c16b0 : decide (0 ≤ x42_2) = true := decide_eq_true c16
        clear c16
        by_cases c17 : x42_2 < (l0_2.length : Int)
        ·rw [if_pos c17] at H
         have c17b0 : decide (x42_2 < (l0_2.length : Int)) = true := decide_eq_true c17
         clear c17
         by_cases c18 : (rd l0_2 x42_2) < 0
         ·rw [if_pos c18] at H
          have c18b0 : decide ((rd l0_2 x42_2) < 0) = true := decide_eq_true c18
          clear c18
          obtain rfl := Option.some.inj H
          have p205 : 0 ≤ (x42_2 : Int) := zd
          have q205 : x42_2 < (l0_2.length : Int) := zd
          obtain ⟨ad205, e205, hx205_0⟩ := Kd.at_int HR0_2.out x42_2 p205 q205
          cases e205
          replace hx205_0 := (HB.out.cell (World.block_lt_of_cell? w _ hx205_0)).trans hx205_0
          replace p205 := eq_true p205
          replace q205 := eq_true q205
          go_wp2
          go_ret
          exact ⟨ze, (zs GE202.out)⟩
         ·rw [if_neg c18] at H
          have c18b0 : decide ((rd l0_2 x42_2) < 0) = false := decide_eq_false c18
          clear c18
          by_cases c19 : (rd l0_2 x42_2) > 9
          ·rw [if_pos c19] at H
           have c19b0 : decide (9 < (rd l0_2 x42_2)) = true := decide_eq_true c19
           clear c19
           obtain rfl := Option.some.inj H
           have p205 : 0 ≤ (x42_2 : Int) := zd
           have q205 : x42_2 < (l0_2.length : Int) := zd
           obtain ⟨ad205, e205, hx205_0⟩ := Kd.at_int HR0_2.out x42_2 p205 q205
           cases e205
           replace hx205_0 := (HB.out.cell (World.block_lt_of_cell? w _ hx205_0)).trans hx205_0
           replace p205 := eq_true p205
           replace q205 := eq_true q205
           go_wp2
           go_ret
           exact ⟨ze, (zs GE202.out)⟩
          ·rw [if_neg c19] at H
           have c19b0 : decide (9 < (rd l0_2 x42_2)) = false := decide_eq_false c19
           clear c19
           have H' := Aside0.mk H
           clear H
           have p205 : 0 ≤ (x42_2 : Int) := zd
           have q205 : x42_2 < (l0_2.length : Int) := zd
           obtain ⟨ad205, e205, hx205_0⟩ := Kd.at_int HR0_2.out x42_2 p205 q205
           cases e205
           replace hx205_0 := (HB.out.cell (World.block_lt_of_cell? w _ hx205_0)).trans hx205_0
           replace p205 := eq_true p205
           replace q205 := eq_true q205
           go_wp2
           go_roundg k2
           case measure => have := HJ1.out; have := HK2.out; omega
           case rel => exact ⟨(wrap64 (x42_2 + 1)), zr, H', ⟨by have := HJ1.out; have := HK2.out; omega⟩, ⟨zb BK202.out⟩, ⟨zs GE202.out⟩⟩
        ·rw [if_neg c17] at H
         exact absurd H (by simp)
       ·rw [if_neg c16] at H
        exact absurd H (by simp)
      ·rw [if_neg c15] at H
       have c15b0 : decide (x42_2 < (l0_2.length : Int)) = false := decide_eq_false c15
       clear c15
       have H' := Aside0.mk H
       clear H
       have hcz20_0 : wr.cell? ⟨gb202, 0, none⟩ = some (.int .i64 a0_0) := (blk_cell BK202.out 0).trans rfl
       have hcz20_1 : wr.cell? ⟨gb202, 1, none⟩ = some (.int .i64 a0_1) := (blk_cell BK202.out 1).trans rfl
       have hcz20_2 : wr.cell? ⟨gb202, 2, none⟩ = some (.slice A0_2 l0_2.length c0_2) := (blk_cell BK202.out 2).trans rfl
       have hcz20_3 : wr.cell? ⟨gb202, 3, none⟩ = some (.slice A0_3 l0_3.length c0_3) := (blk_cell BK202.out 3).trans rfl
       have hcz20_4 : wr.cell? ⟨gb202, 4, none⟩ = some (.slice A0_4 l0_4.length c0_4) := (blk_cell BK202.out 4).trans rfl
       have hfz20_0 := blk_frozen BK202.out 0
       have hfz20_1 := blk_frozen BK202.out 1
       have hfz20_2 := blk_frozen BK202.out 2
       have hfz20_3 := blk_frozen BK202.out 3
       have hfz20_4 := blk_frozen BK202.out 4
       go_wp2
       go_loopg [56] k2 (fun kq v56 w' => ∃ (x56_3 : Int), v56 = .int .i64 x56_3 ∧ Aside0 (impl_ValidLayout.l1 kq l0_3 (l0_3.length : Int) x56_3 a0_0 a0_1 l0_2 l0_3 l0_4 = some r) ∧ Aside0 (kq ≤ k2) ∧ Aside0 (w'.heap[gb202]? = some (.cells #[.int .i64 a0_0, .int .i64 a0_1, (.slice A0_2 l0_2.length c0_2), (.slice A0_3 l0_3.length c0_3), (.slice A0_4 l0_4.length c0_4)] 36 (0, 0))) ∧ Aside0 (Below w.heap.size w w'))
       case atStart => exact ⟨(0), zr, H', ⟨Nat.le_refl _⟩, ⟨zb BK202.out⟩, ⟨zs GE202.out⟩⟩
       case round =>
        clear H'
        try clear c1
        try clear p2
        try clear q2
        try clear hx2
        try clear c5
        try clear p6
        try clear c7
        try clear c8
        try clear c8b0
        try clear c8b1
        try clear c13
        try clear c15
        try clear c15b0
        try clear c16
        try clear c16b0
        try clear c17
        try clear c17b0
        try clear c18
        try clear c18b0
        try clear c19
        try clear c19b0
        try clear p20
        try clear q20
        try clear hx20
        try clear hcz10_0
        try clear hcz10_1
        try clear hcz10_2
        try clear hcz10_3
        try clear hcz10_4
        try clear hcz11_0
        try clear hcz11_1
        try clear hcz11_2
        try clear hcz11_3
        try clear hcz11_4
        try clear hcz12_0
        try clear hcz12_1
        try clear hcz12_2
        try clear hcz12_3
        try clear hcz12_4
        try clear hcz14_0
        try clear hcz14_1
        try clear hcz14_2
        try clear hcz14_3
        try clear hcz14_4
        try clear hcz20_0
        try clear hcz20_1
        try clear hcz20_2
        try clear hcz20_3
        try clear hcz20_4
        try clear hcz9_0
        try clear hcz9_1
        try clear hcz9_2
        try clear hcz9_3
        try clear hcz9_4
        try clear hfz10_0
        try clear hfz10_1
        try clear hfz10_2
        try clear hfz10_3
        try clear hfz10_4
        try clear hfz11_0
        try clear hfz11_1
        try clear hfz11_2
        try clear hfz11_3
        try clear hfz11_4
        try clear hfz12_0
        try clear hfz12_1
        try clear hfz12_2
        try clear hfz12_3
        try clear hfz12_4
        try clear hfz14_0
        try clear hfz14_1
        try clear hfz14_2
        try clear hfz14_3
        try clear hfz14_4
        try clear hfz20_0
        try clear hfz20_1
        try clear hfz20_2
        try clear hfz20_3
        try clear hfz20_4
        try clear hfz9_0
        try clear hfz9_1
        try clear hfz9_2
        try clear hfz9_3
        try clear hfz9_4
        try clear hx205_0
        try clear p2
        try clear p205
        try clear p6
        try clear q205
        obtain ⟨x56_3, rfl, HA, HK3, BK202, HB⟩ := hrel
        cases gk with
        | zero => exact absurd HA.out (by simp [impl_ValidLayout.l1])
        | succ k3 =>
         have H := HA.out
         clear HA
         simp only [impl_ValidLayout.l1] at H
         by_cases c21 : x56_3 < (l0_3.length : Int)
         ·rw [if_pos c21] at H
          have c21b0 : decide (x56_3 < (l0_3.length : Int)) = true := decide_eq_true c21
          clear c21
          by_cases c22 : 0 ≤ x56_3
          ·rw [if_pos c22] at H
           have c22b0 : decide (0 ≤ x56_3) = true := decide_eq_true c22
           clear c22
           by_cases c23 : x56_3 < (l0_3.length : Int)
           ·rw [if_pos c23] at H
            have c23b0 : decide (x56_3 < (l0_3.length : Int)) = true := decide_eq_true c23
            clear c23
            by_cases c24 : (rd l0_3 x56_3) < 0
            ·rw [if_pos c24] at H
             have c24b0 : decide ((rd l0_3 x56_3) < 0) = true := decide_eq_true c24
             clear c24
             obtain rfl := Option.some.inj H
             have p206 : 0 ≤ (x56_3 : Int) := zd
             have q206 : x56_3 < (l0_3.length : Int) := zd
             obtain ⟨ad206, e206, hx206_0⟩ := Kd.at_int HR0_3.out x56_3 p206 q206
             cases e206
             replace hx206_0 := (HB.out.cell (World.block_lt_of_cell? w _ hx206_0)).trans hx206_0
             replace p206 := eq_true p206
             replace q206 := eq_true q206
             go_wp2
             go_ret
             exact ⟨ze, (zs GE202.out)⟩
            ·rw [if_neg c24] at H
             have c24b0 : decide ((rd l0_3 x56_3) < 0) = false := decide_eq_false c24
             clear c24
             replace H := Option.bind_eq_some_iff.mp H
             obtain ⟨t207, A250, H⟩ := H
             replace H : (if (Go.bits .andNot .i64 (rd l0_3 x56_3) t207) = 0 then (if x56_3 < (l0_2.length : Int) then (if (rd l0_2 x56_3) = 0 then (if (rd l0_3 x56_3) = 0 then (impl_ValidLayout.l1 k3 l0_3 (l0_3.length : Int) (wrap64 (x56_3 + 1)) a0_0 a0_1 l0_2 l0_3 l0_4) else (some false)) else (impl_ValidLayout.l1 k3 l0_3 (l0_3.length : Int) (wrap64 (x56_3 + 1)) a0_0 a0_1 l0_2 l0_3 l0_4)) else (none)) else (some false)) = some r := H
             have A25 := Aside0.mk A250
             clear A250
             by_cases c26 : (Go.bits .andNot .i64 (rd l0_3 x56_3) t207) = 0
             ·rw [if_pos c26] at H
              have c26b0 : ((Go.bits .andNot .i64 (rd l0_3 x56_3) t207) == 0) = true := beq_iff_eq.mpr c26
              have c26b1 : ((Go.bits .andNot .i64 (rd l0_3 x56_3) t207) != 0) = false := bne_eq_false_iff_eq.mpr c26
              clear c26
              by_cases c27 : x56_3 < (l0_2.length : Int)
              ·rw [if_pos c27] at H
               have c27b0 : decide (x56_3 < (l0_2.length : Int)) = true := decide_eq_true c27
               clear c27
               by_cases c28 : (rd l0_2 x56_3) = 0
               ·rw [if_pos c28] at H
                have c28b0 : ((rd l0_2 x56_3) == 0) = true := beq_iff_eq.mpr c28
                have c28b1 : ((rd l0_2 x56_3) != 0) = false := bne_eq_false_iff_eq.mpr c28
                clear c28
                by_cases c29 : (rd l0_3 x56_3) = 0
                ·rw [if_pos c29] at H
                 have c29b0 : ((rd l0_3 x56_3) == 0) = true := beq_iff_eq.mpr c29
                 have c29b1 : ((rd l0_3 x56_3) != 0) = false := bne_eq_false_iff_eq.mpr c29
                 clear c29
                 have H' := Aside0.mk H
                 clear H
                 have p206 : 0 ≤ (x56_3 : Int) := zd
                 have q206 : x56_3 < (l0_3.length : Int) := zd
                 obtain ⟨ad206, e206, hx206_0⟩ := Kd.at_int HR0_3.out x56_3 p206 q206
                 cases e206
                 replace hx206_0 := (HB.out.cell (World.block_lt_of_cell? w _ hx206_0)).trans hx206_0
                 replace p206 := eq_true p206
                 replace q206 := eq_true q206
                 have hcz30_0 : wr.cell? ⟨gb202, 0, none⟩ = some (.int .i64 a0_0) := (blk_cell BK202.out 0).trans rfl
                 have hcz30_1 : wr.cell? ⟨gb202, 1, none⟩ = some (.int .i64 a0_1) := (blk_cell BK202.out 1).trans rfl
                 have hcz30_2 : wr.cell? ⟨gb202, 2, none⟩ = some (.slice A0_2 l0_2.length c0_2) := (blk_cell BK202.out 2).trans rfl
                 have hcz30_3 : wr.cell? ⟨gb202, 3, none⟩ = some (.slice (some ad206) l0_3.length c0_3) := (blk_cell BK202.out 3).trans rfl
                 have hcz30_4 : wr.cell? ⟨gb202, 4, none⟩ = some (.slice A0_4 l0_4.length c0_4) := (blk_cell BK202.out 4).trans rfl
                 have hfz30_0 := blk_frozen BK202.out 0
                 have hfz30_1 := blk_frozen BK202.out 1
                 have hfz30_2 := blk_frozen BK202.out 2
                 have hfz30_3 := blk_frozen BK202.out 3
                 have hfz30_4 := blk_frozen BK202.out 4
                 go_wp2_with (first | (go_at_call 52; (with_reducible refine (impl_free.calls k3 a0_0 a0_1 _ _ l0_2 x56_3 t207 _ ?side1 ?side2 A25.out).mono ?_); (case side1 => exact zc (Kd.C_below HR0_2.out HB.out)); (case side2 => exact HC0_2.out); rintro e w' ⟨rfl, ⟨nd, rfl⟩⟩; have p208 : 0 ≤ (x56_3 : Int) := zd; have q208 : x56_3 < (l0_2.length : Int) := zd; obtain ⟨ad208, e208, hx208_0⟩ := Kd.at_int HR0_2.out x56_3 p208 q208; cases e208; replace hx208_0 := (HB.out.cell (World.block_lt_of_cell? w _ hx208_0)).trans hx208_0; replace p208 := eq_true p208; replace q208 := eq_true q208))
                 go_roundg k3
                 case measure => have := HJ1.out; have := HK2.out; have := HK3.out; omega
                 case rel => exact ⟨(wrap64 (x56_3 + 1)), zr, H', ⟨by have := HJ1.out; have := HK2.out; have := HK3.out; omega⟩, ⟨zb BK202.out⟩, ⟨zs GE202.out⟩⟩
                ·rw [if_neg c29] at H
                 have c29b0 : ((rd l0_3 x56_3) == 0) = false := beq_eq_false_iff_ne.mpr c29
                 have c29b1 : ((rd l0_3 x56_3) != 0) = true := bne_iff_ne.mpr c29
                 obtain rfl := Option.some.inj H
                 have p206 : 0 ≤ (x56_3 : Int) := zd
                 have q206 : x56_3 < (l0_3.length : Int) := zd
                 obtain ⟨ad206, e206, hx206_0⟩ := Kd.at_int HR0_3.out x56_3 p206 q206
                 cases e206
                 replace hx206_0 := (HB.out.cell (World.block_lt_of_cell? w _ hx206_0)).trans hx206_0
                 replace p206 := eq_true p206
                 replace q206 := eq_true q206
                 have hcz31_0 : wr.cell? ⟨gb202, 0, none⟩ = some (.int .i64 a0_0) := (blk_cell BK202.out 0).trans rfl
                 have hcz31_1 : wr.cell? ⟨gb202, 1, none⟩ = some (.int .i64 a0_1) := (blk_cell BK202.out 1).trans rfl
                 have hcz31_2 : wr.cell? ⟨gb202, 2, none⟩ = some (.slice A0_2 l0_2.length c0_2) := (blk_cell BK202.out 2).trans rfl
                 have hcz31_3 : wr.cell? ⟨gb202, 3, none⟩ = some (.slice (some ad206) l0_3.length c0_3) := (blk_cell BK202.out 3).trans rfl
                 have hcz31_4 : wr.cell? ⟨gb202, 4, none⟩ = some (.slice A0_4 l0_4.length c0_4) := (blk_cell BK202.out 4).trans rfl
                 have hfz31_0 := blk_frozen BK202.out 0
                 have hfz31_1 := blk_frozen BK202.out 1
                 have hfz31_2 := blk_frozen BK202.out 2
                 have hfz31_3 := blk_frozen BK202.out 3
                 have hfz31_4 := blk_frozen BK202.out 4
                 go_wp2_with (first | (go_at_call 52; (with_reducible refine (impl_free.calls k3 a0_0 a0_1 _ _ l0_2 x56_3 t207 _ ?side1 ?side2 A25.out).mono ?_); (case side1 => exact zc (Kd.C_below HR0_2.out HB.out)); (case side2 => exact HC0_2.out); rintro e w' ⟨rfl, ⟨nd, rfl⟩⟩; have p208 : 0 ≤ (x56_3 : Int) := zd; have q208 : x56_3 < (l0_2.length : Int) := zd; obtain ⟨ad208, e208, hx208_0⟩ := Kd.at_int HR0_2.out x56_3 p208 q208; cases e208; replace hx208_0 := (HB.out.cell (World.block_lt_of_cell? w _ hx208_0)).trans hx208_0; replace p208 := eq_true p208; replace q208 := eq_true q208))
                 go_ret
                 exact ⟨ze, (zs GE202.out)⟩
               ·rw [if_neg c28] at H
                have c28b0 : ((rd l0_2 x56_3) == 0) = false := beq_eq_false_iff_ne.mpr c28
                have c28b1 : ((rd l0_2 x56_3) != 0) = true := bne_iff_ne.mpr c28
                have H' := Aside0.mk H
                clear H
                have p206 : 0 ≤ (x56_3 : Int) := zd
                have q206 : x56_3 < (l0_3.length : Int) := zd
                obtain ⟨ad206, e206, hx206_0⟩ := Kd.at_int HR0_3.out x56_3 p206 q206
                cases e206
                replace hx206_0 := (HB.out.cell (World.block_lt_of_cell? w _ hx206_0)).trans hx206_0
                replace p206 := eq_true p206
                replace q206 := eq_true q206
                have hcz32_0 : wr.cell? ⟨gb202, 0, none⟩ = some (.int .i64 a0_0) := (blk_cell BK202.out 0).trans rfl
                have hcz32_1 : wr.cell? ⟨gb202, 1, none⟩ = some (.int .i64 a0_1) := (blk_cell BK202.out 1).trans rfl
                have hcz32_2 : wr.cell? ⟨gb202, 2, none⟩ = some (.slice A0_2 l0_2.length c0_2) := (blk_cell BK202.out 2).trans rfl
                have hcz32_3 : wr.cell? ⟨gb202, 3, none⟩ = some (.slice (some ad206) l0_3.length c0_3) := (blk_cell BK202.out 3).trans rfl
                have hcz32_4 : wr.cell? ⟨gb202, 4, none⟩ = some (.slice A0_4 l0_4.length c0_4) := (blk_cell BK202.out 4).trans rfl
                have hfz32_0 := blk_frozen BK202.out 0
                have hfz32_1 := blk_frozen BK202.out 1
                have hfz32_2 := blk_frozen BK202.out 2
                have hfz32_3 := blk_frozen BK202.out 3
                have hfz32_4 := blk_frozen BK202.out 4
                go_wp2_with (first | (go_at_call 52; (with_reducible refine (impl_free.calls k3 a0_0 a0_1 _ _ l0_2 x56_3 t207 _ ?side1 ?side2 A25.out).mono ?_); (case side1 => exact zc (Kd.C_below HR0_2.out HB.out)); (case side2 => exact HC0_2.out); rintro e w' ⟨rfl, ⟨nd, rfl⟩⟩; have p208 : 0 ≤ (x56_3 : Int) := zd; have q208 : x56_3 < (l0_2.length : Int) := zd; obtain ⟨ad208, e208, hx208_0⟩ := Kd.at_int HR0_2.out x56_3 p208 q208; cases e208; replace hx208_0 := (HB.out.cell (World.block_lt_of_cell? w _ hx208_0)).trans hx208_0; replace p208 := eq_true p208; replace q208 := eq_true q208))
                go_roundg k3
                case measure => have := HJ1.out; have := HK2.out; have := HK3.out; omega
                case rel => exact ⟨(wrap64 (x56_3 + 1)), zr, H', ⟨by have := HJ1.out; have := HK2.out; have := HK3.out; omega⟩, ⟨zb BK202.out⟩, ⟨zs GE202.out⟩⟩
              ·rw [if_neg c27] at H
               exact absurd H (by simp)
             ·rw [if_neg c26] at H
              have c26b0 : ((Go.bits .andNot .i64 (rd l0_3 x56_3) t207) == 0) = false := beq_eq_false_iff_ne.mpr c26
              have c26b1 : ((Go.bits .andNot .i64 (rd l0_3 x56_3) t207) != 0) = true := bne_iff_ne.mpr c26
              obtain rfl := Option.some.inj H
              have p206 : 0 ≤ (x56_3 : Int) := zd
              have q206 : x56_3 < (l0_3.length : Int) := zd
              obtain ⟨ad206, e206, hx206_0⟩ := Kd.at_int HR0_3.out x56_3 p206 q206
              cases e206
              replace hx206_0 := (HB.out.cell (World.block_lt_of_cell? w _ hx206_0)).trans hx206_0
              replace p206 := eq_true p206
              replace q206 := eq_true q206
              have hcz33_0 : wr.cell? ⟨gb202, 0, none⟩ = some (.int .i64 a0_0) := (blk_cell BK202.out 0).trans rfl
              have hcz33_1 : wr.cell? ⟨gb202, 1, none⟩ = some (.int .i64 a0_1) := (blk_cell BK202.out 1).trans rfl
              have hcz33_2 : wr.cell? ⟨gb202, 2, none⟩ = some (.slice A0_2 l0_2.length c0_2) := (blk_cell BK202.out 2).trans rfl
              have hcz33_3 : wr.cell? ⟨gb202, 3, none⟩ = some (.slice (some ad206) l0_3.length c0_3) := (blk_cell BK202.out 3).trans rfl
              have hcz33_4 : wr.cell? ⟨gb202, 4, none⟩ = some (.slice A0_4 l0_4.length c0_4) := (blk_cell BK202.out 4).trans rfl
              have hfz33_0 := blk_frozen BK202.out 0
              have hfz33_1 := blk_frozen BK202.out 1
              have hfz33_2 := blk_frozen BK202.out 2
              have hfz33_3 := blk_frozen BK202.out 3
              have hfz33_4 := blk_frozen BK202.out 4
              go_wp2_with (first | (go_at_call 52; (with_reducible refine (impl_free.calls k3 a0_0 a0_1 _ _ l0_2 x56_3 t207 _ ?side1 ?side2 A25.out).mono ?_); (case side1 => exact zc (Kd.C_below HR0_2.out HB.out)); (case side2 => exact HC0_2.out); rintro e w' ⟨rfl, ⟨nd, rfl⟩⟩))
              go_ret
              exact ⟨ze, (zs GE202.out)⟩
           ·rw [if_neg c23] at H
            exact absurd H (by simp)
          ·rw [if_neg c22] at H
           exact absurd H (by simp)
         ·rw [if_neg c21] at H
          have c21b0 : decide (x56_3 < (l0_3.length : Int)) = false := decide_eq_false c21
          clear c21
          replace H := Option.bind_eq_some_iff.mp H
          obtain ⟨t209, A340, H⟩ := H
          replace H : (if t209 = true then ((impl_ValidLayout_any.f l0_4 a0_0 a0_1 l0_2 l0_3 l0_4).bind fun t210 => (some (!t210))) else (some false)) = some r := H
          have A34 := Aside0.mk A340
          clear A340
          by_cases c35 : t209 = true
          ·subst c35
           have H1 : ((impl_ValidLayout_any.f l0_4 a0_0 a0_1 l0_2 l0_3 l0_4).bind fun t210 => (some (!t210))) = some r := by rw [if_pos rfl] at H; exact H
           clear H
           have H := H1
           clear H1
           replace H := Option.bind_eq_some_iff.mp H
           obtain ⟨t210, A360, H⟩ := H
           replace H : (some (!t210)) = some r := H
           have A36 := Aside0.mk A360
           clear A360
           obtain rfl := Option.some.inj H
           have hcz37_0 : wr.cell? ⟨gb202, 0, none⟩ = some (.int .i64 a0_0) := (blk_cell BK202.out 0).trans rfl
           have hcz37_1 : wr.cell? ⟨gb202, 1, none⟩ = some (.int .i64 a0_1) := (blk_cell BK202.out 1).trans rfl
           have hcz37_2 : wr.cell? ⟨gb202, 2, none⟩ = some (.slice A0_2 l0_2.length c0_2) := (blk_cell BK202.out 2).trans rfl
           have hcz37_3 : wr.cell? ⟨gb202, 3, none⟩ = some (.slice A0_3 l0_3.length c0_3) := (blk_cell BK202.out 3).trans rfl
           have hcz37_4 : wr.cell? ⟨gb202, 4, none⟩ = some (.slice A0_4 l0_4.length c0_4) := (blk_cell BK202.out 4).trans rfl
           have hfz37_0 := blk_frozen BK202.out 0
           have hfz37_1 := blk_frozen BK202.out 1
           have hfz37_2 := blk_frozen BK202.out 2
           have hfz37_3 := blk_frozen BK202.out 3
           have hfz37_4 := blk_frozen BK202.out 4
           go_wp2_with (first | ((with_reducible refine gate_callee (f := 53) rfl ?_); refine goesL_ (some 96) rfl rfl Tryd.func53 (by kernel_rfl) rfl #[.slice A0_4 l0_4.length c0_4, .int .i64 (wrap64 (a0_0 * a0_1))] rfl za ?_; (with_reducible refine (impl_targetsOk.calls k3 _ _ l0_4 (wrap64 (a0_0 * a0_1)) true _ ?side1 ?side2 ?side3 A34.out).mono ?_); (case side1 => exact zc (Kd.C_below HR0_4.out HB.out)); (case side2 => exact HC0_4.out); (case side3 => exact LaidW.below HLD.out (zs GE202.out)); rintro e w38 ⟨rfl, hb⟩; refine ⟨_, rfl, ?_⟩; have n0_ := Aside0.mk (blk_below (g := gb202) (o := .cells #[.int .i64 a0_0, .int .i64 a0_1, .slice A0_2 l0_2.length c0_2, .slice A0_3 l0_3.length c0_3, .slice A0_4 l0_4.length c0_4] 36 (0, 0)) (zb BK202.out) hb); have n1_ := Aside0.mk (below_step (zs GE202.out) hb); clear BK202; clear HB; have BK202 := n0_; have HB := n1_; clear n0_ n1_; (try clear hb); (try clear hb2); (try clear hk); (try clear hi); have hcz39_0 : w38.cell? ⟨gb202, 0, none⟩ = some (.int .i64 a0_0) := (blk_cell BK202.out 0).trans rfl; have hcz39_1 : w38.cell? ⟨gb202, 1, none⟩ = some (.int .i64 a0_1) := (blk_cell BK202.out 1).trans rfl; have hcz39_2 : w38.cell? ⟨gb202, 2, none⟩ = some (.slice A0_2 l0_2.length c0_2) := (blk_cell BK202.out 2).trans rfl; have hcz39_3 : w38.cell? ⟨gb202, 3, none⟩ = some (.slice A0_3 l0_3.length c0_3) := (blk_cell BK202.out 3).trans rfl; have hcz39_4 : w38.cell? ⟨gb202, 4, none⟩ = some (.slice A0_4 l0_4.length c0_4) := (blk_cell BK202.out 4).trans rfl; have hfz39_0 := blk_frozen BK202.out 0; have hfz39_1 := blk_frozen BK202.out 1; have hfz39_2 := blk_frozen BK202.out 2; have hfz39_3 := blk_frozen BK202.out 3; have hfz39_4 := blk_frozen BK202.out 4) | (go_at_call 54; (with_reducible refine (impl_ValidLayout_any.calls _ _ l0_4 a0_0 a0_1 A0_2 c0_2 l0_2 A0_3 c0_3 l0_3 A0_4 c0_4 l0_4 t210 _ ?side1 ?side2 ?side3 ?side4 ?side5 ?side6 ?side7 ?side8 ?side9 A36.out).mono ?_); (case side1 => exact zc (Kd.C_below HR0_4.out HB.out)); (case side2 => exact HC0_4.out); (case side3 => exact zc (Kd.C_below HR0_2.out HB.out)); (case side4 => exact HC0_2.out); (case side5 => exact zc (Kd.C_below HR0_3.out HB.out)); (case side6 => exact HC0_3.out); (case side7 => exact zc (Kd.C_below HR0_4.out HB.out)); (case side8 => exact HC0_4.out); (case side9 => (with_reducible repeat (first | refine blk_drewN ?_ _ | refine blk_drew ?_ | refine blk_alloc ?_ _)); exact Aside0.out (by assumption)); rintro e w40 ⟨rfl, hb⟩; have n0_ := Aside0.mk (blk_below (g := gb202) (o := .cells #[.int .i64 a0_0, .int .i64 a0_1, .slice A0_2 l0_2.length c0_2, .slice A0_3 l0_3.length c0_3, .slice A0_4 l0_4.length c0_4] 36 (0, 0)) (zb BK202.out) hb); have n1_ := Aside0.mk (below_step (zs GE202.out) hb); clear BK202; clear HB; have BK202 := n0_; have HB := n1_; clear n0_ n1_; (try clear hb); (try clear hb2); (try clear hk); (try clear hi)))
           go_ret
           exact ⟨ze, (zs GE202.out)⟩
          ·replace c35 := Bool.eq_false_iff.mpr c35
           subst c35
           have H1 : (some false) = some r := by rw [if_neg (show ¬ (false = true) by decide)] at H; exact H
           clear H
           have H := H1
           clear H1
           obtain rfl := Option.some.inj H
           have hcz41_0 : wr.cell? ⟨gb202, 0, none⟩ = some (.int .i64 a0_0) := (blk_cell BK202.out 0).trans rfl
           have hcz41_1 : wr.cell? ⟨gb202, 1, none⟩ = some (.int .i64 a0_1) := (blk_cell BK202.out 1).trans rfl
           have hcz41_2 : wr.cell? ⟨gb202, 2, none⟩ = some (.slice A0_2 l0_2.length c0_2) := (blk_cell BK202.out 2).trans rfl
           have hcz41_3 : wr.cell? ⟨gb202, 3, none⟩ = some (.slice A0_3 l0_3.length c0_3) := (blk_cell BK202.out 3).trans rfl
           have hcz41_4 : wr.cell? ⟨gb202, 4, none⟩ = some (.slice A0_4 l0_4.length c0_4) := (blk_cell BK202.out 4).trans rfl
           have hfz41_0 := blk_frozen BK202.out 0
           have hfz41_1 := blk_frozen BK202.out 1
           have hfz41_2 := blk_frozen BK202.out 2
           have hfz41_3 := blk_frozen BK202.out 3
           have hfz41_4 := blk_frozen BK202.out 4
           go_wp2_with (first | ((with_reducible refine gate_callee (f := 53) rfl ?_); refine goesL_ (some 96) rfl rfl Tryd.func53 (by kernel_rfl) rfl #[.slice A0_4 l0_4.length c0_4, .int .i64 (wrap64 (a0_0 * a0_1))] rfl za ?_; (with_reducible refine (impl_targetsOk.calls k3 _ _ l0_4 (wrap64 (a0_0 * a0_1)) false _ ?side1 ?side2 ?side3 A34.out).mono ?_); (case side1 => exact zc (Kd.C_below HR0_4.out HB.out)); (case side2 => exact HC0_4.out); (case side3 => exact LaidW.below HLD.out (zs GE202.out)); rintro e w42 ⟨rfl, hb⟩; refine ⟨_, rfl, ?_⟩; have n0_ := Aside0.mk (blk_below (g := gb202) (o := .cells #[.int .i64 a0_0, .int .i64 a0_1, .slice A0_2 l0_2.length c0_2, .slice A0_3 l0_3.length c0_3, .slice A0_4 l0_4.length c0_4] 36 (0, 0)) (zb BK202.out) hb); have n1_ := Aside0.mk (below_step (zs GE202.out) hb); clear BK202; clear HB; have BK202 := n0_; have HB := n1_; clear n0_ n1_; (try clear hb); (try clear hb2); (try clear hk); (try clear hi)))
           go_ret
           exact ⟨ze, (zs GE202.out)⟩

end Go.Proofs.YtiboccbaaphbhaaDoor.PFnExactValidLayout
