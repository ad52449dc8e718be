-- made by wip/tools/myprint.py (this session's own program, over the kit's printer)
import Derived.Test.YtiboccbaaphbhaaDoorPFnExactValidFleetx0
import Derived.Test.YtiboccbaaphbhaaDoorPFnExactValidFleetx11
import Derived.Test.YtiboccbaaphbhaaDoorPFnExactValidFleetx12
namespace Go.Proofs.YtiboccbaaphbhaaDoor.PFnExactValidFleet
open Go.RowKit Go.Proofs.YtiboccbaaphbhaaDoorW.PrintWords Go.Proofs.YtiboccbaaphbhaaDoorW.PrintLast Go.Proofs.YtiboccbaaphbhaaDoorW.PrintMore
attribute [local go_sem] max2_int min2_int max_two min_two max_three min_three max_four min_four   -- for this text's walks alone
set_option linter.unusedVariables false
set_option linter.unusedSimpArgs false

/-! ### impl_ValidTables: function 27 -/
mutual
def impl_ValidTables.j0 : Nat → Bool → Int → Int → List (S74) → List (List Int) → List (List Int) → Option (Bool)
 | 0, _, _, _, _, _, _ => none
 | k + 1, x42, x269000, x269001, x269002, x269003, x269004 => if x42 = true then (some false) else (impl_ValidTables.l0 k (x269002.length : Int) 0 x269000 x269001 x269002 x269003 x269004)
def impl_ValidTables.l0 : Nat → Int → Int → Int → Int → List (S74) → List (List Int) → List (List Int) → Option (Bool)
 | 0, _, _, _, _, _, _, _ => none
 | k + 1, x45, x46, x269000, x269001, x269002, x269003, x269004 => if x46 < x45 then ((impl_Tables_listOk.f k x269000 x269001 x269002 x269003 x269004 x46).bind fun t272 => (if t272 = true then (impl_ValidTables.l0 k x45 (wrap64 (x46 + 1)) x269000 x269001 x269002 x269003 x269004) else (some false))) else (some true)
end
def impl_ValidTables.f (k : Nat) (a0_0 : Int) (a0_1 : Int) (l0_2 : List (S74)) (l0_3 : List (List Int)) (l0_4 : List (List Int)) : Option (Bool) := (impl_sideOk.f a0_0).bind fun t269 => (if t269 = true then ((impl_sideOk.f a0_1).bind fun t270 => (if t270 = true then ((impl_targetsOk.f k l0_2 (wrap64 (a0_0 * a0_1))).bind fun t271 => (if t271 = true then (if (l0_3.length : Int) = (l0_2.length : Int) then (impl_ValidTables.j0 k ((l0_4.length : Int) != (l0_2.length : Int)) a0_0 a0_1 l0_2 l0_3 l0_4) else (impl_ValidTables.j0 k true a0_0 a0_1 l0_2 l0_3 l0_4)) else (impl_ValidTables.j0 k true a0_0 a0_1 l0_2 l0_3 l0_4))) else (impl_ValidTables.j0 k true a0_0 a0_1 l0_2 l0_3 l0_4))) else (impl_ValidTables.j0 k true a0_0 a0_1 l0_2 l0_3 l0_4))
theorem impl_ValidTables.mono_l : ∀ k, (∀ y0 y1 y2 y3 y4 y5, LeO (impl_ValidTables.j0 k y0 y1 y2 y3 y4 y5) (impl_ValidTables.j0 (k + 1) y0 y1 y2 y3 y4 y5)) ∧ (∀ y0 y1 y2 y3 y4 y5 y6, LeO (impl_ValidTables.l0 k y0 y1 y2 y3 y4 y5 y6) (impl_ValidTables.l0 (k + 1) y0 y1 y2 y3 y4 y5 y6))
 | 0 => ⟨fun _ _ _ _ _ _ r h => by simp [impl_ValidTables.j0] at h, fun _ _ _ _ _ _ _ r h => by simp [impl_ValidTables.l0] at h⟩
 | k + 1 => by
  obtain ⟨ih0, ih1⟩ := impl_ValidTables.mono_l k
  refine ⟨?_, ?_⟩
  ·intro y0 y1 y2 y3 y4 y5
   unfold impl_ValidTables.j0
   repeat' first
   | (with_reducible exact ih0 _ _ _ _ _ _)
   | (with_reducible exact ih1 _ _ _ _ _ _ _)
   | (with_reducible exact impl_Tables_listOk.mono _ _ _ _ _ _ _)
   | (with_reducible exact impl_targetsOk.mono _ _ _)
   | (with_reducible exact LeO.refl _)
   | (with_reducible exact LeO.none _)
   | (with_reducible refine LeO.ite ?_ ?_)
   | (with_reducible refine LeO.bind ?_ (fun _ => ?_))
   | exact LeO.none _
   | refine LeO.ite ?_ ?_
   | refine LeO.bind ?_ (fun _ => ?_)
  ·intro y0 y1 y2 y3 y4 y5 y6
   unfold impl_ValidTables.l0
   repeat' first
   | (with_reducible exact ih0 _ _ _ _ _ _)
   | (with_reducible exact ih1 _ _ _ _ _ _ _)
   | (with_reducible exact impl_Tables_listOk.mono _ _ _ _ _ _ _)
   | (with_reducible exact impl_targetsOk.mono _ _ _)
   | (with_reducible exact LeO.refl _)
   | (with_reducible exact LeO.none _)
   | (with_reducible refine LeO.ite ?_ ?_)
   | (with_reducible refine LeO.bind ?_ (fun _ => ?_))
   | exact LeO.none _
   | refine LeO.ite ?_ ?_
   | refine LeO.bind ?_ (fun _ => ?_)
theorem impl_ValidTables.mono : ∀ a0 a1 a2 a3 a4 k, LeO (impl_ValidTables.f k a0 a1 a2 a3 a4) (impl_ValidTables.f (k + 1) a0 a1 a2 a3 a4) := by
 intro a0 a1 a2 a3 a4 k
 obtain ⟨ih0, ih1⟩ := impl_ValidTables.mono_l k
 unfold impl_ValidTables.f
 repeat' first
   | (with_reducible exact ih0 _ _ _ _ _ _)
   | (with_reducible exact ih1 _ _ _ _ _ _ _)
   | (with_reducible exact impl_Tables_listOk.mono _ _ _ _ _ _ _)
   | (with_reducible exact impl_targetsOk.mono _ _ _)
   | (with_reducible exact LeO.refl _)
   | (with_reducible exact LeO.none _)
   | (with_reducible refine LeO.ite ?_ ?_)
   | (with_reducible refine LeO.bind ?_ (fun _ => ?_))
   | exact LeO.none _
   | refine LeO.ite ?_ ?_
   | refine LeO.bind ?_ (fun _ => ?_)
set_option maxHeartbeats 8000000 in
set_option maxRecDepth 100000 in
theorem impl_ValidTables.calls (k : Nat) (a0_0 : Int) (a0_1 : Int) (A0_2 : Option Addr) (c0_2 : Nat) (l0_2 : List (S74)) (A0_3 : Option Addr) (c0_3 : Nat) (l0_3 : List (List Int)) (A0_4 : Option Addr) (c0_4 : Nat) (l0_4 : List (List Int)) (r : Bool) (w : World) (hr0_2 : Kd.C k74 w A0_2 l0_2.length l0_2) (hc0_2 : l0_2.length ≤ c0_2) (hr0_3 : Kd.C (Kd.slice 3 (Kd.int .i64)) w A0_3 l0_3.length l0_3) (hc0_3 : l0_3.length ≤ c0_3) (hr0_4 : Kd.C (Kd.slice 3 (Kd.int .i64)) w A0_4 l0_4.length l0_4) (hc0_4 : l0_4.length ≤ c0_4) (hL : LaidW w) (h : impl_ValidTables.f k a0_0 a0_1 l0_2 l0_3 l0_4 = some r) :
  Calls Tryd.prog 27 #[.agg #[.int .i64 a0_0, .int .i64 a0_1, .slice A0_2 l0_2.length c0_2, .slice A0_3 l0_3.length c0_3, .slice A0_4 l0_4.length c0_4]] w fun e w' => e = .returned (.bool r) ∧ Below w.heap.size w w' := by
 have hu48 := Tryd.underlying48
 have HR0_2 := Aside0.mk hr0_2
 have HC0_2 := Aside0.mk hc0_2
 clear hr0_2 hc0_2
 have HR0_3 := Aside0.mk hr0_3
 have HC0_3 := Aside0.mk hc0_3
 clear hr0_3 hc0_3
 have HR0_4 := Aside0.mk hr0_4
 have HC0_4 := Aside0.mk hc0_4
 clear hr0_4 hc0_4
 have HLD := Aside0.mk hL
 clear hL
 have HB := Aside0.mk (Below.refl w.heap.size w)
 have H : ((impl_sideOk.f a0_0).bind fun t269 => (if t269 = true then ((impl_sideOk.f a0_1).bind fun t270 => (if t270 = true then ((impl_targetsOk.f k l0_2 (wrap64 (a0_0 * a0_1))).bind fun t271 => (if t271 = true then (if (l0_3.length : Int) = (l0_2.length : Int) then (impl_ValidTables.j0 k ((l0_4.length : Int) != (l0_2.length : Int)) a0_0 a0_1 l0_2 l0_3 l0_4) else (impl_ValidTables.j0 k true a0_0 a0_1 l0_2 l0_3 l0_4)) else (impl_ValidTables.j0 k true a0_0 a0_1 l0_2 l0_3 l0_4))) else (impl_ValidTables.j0 k true a0_0 a0_1 l0_2 l0_3 l0_4))) else (impl_ValidTables.j0 k true a0_0 a0_1 l0_2 l0_3 l0_4))) = some r := h
 clear h
 have HC2 := Aside0.mk H
 clear H
 go_enter Tryd.func27, Tryd.ntmps27
 go_upto_region 1 with (first | ((with_reducible refine gate_dst (N := 1) rfl ?_); (try (refine gate_guard (by rfl) ?_; dsimp only)); refine box_event ?hg (N := 1) ?hd (cs := #[.int .i64 a0_0, .int .i64 a0_1, .slice A0_2 l0_2.length c0_2, .slice A0_3 l0_3.length c0_3, .slice A0_4 l0_4.length c0_4]) (t := 48) ?hr ?_; (case hd => rfl); (case hg => rfl); (case hr => first | (go_simp; done) | (go_simp; rfl)); intro gb268 hg w3 hbox hb; have n0_ := Aside0.mk (below_step z_ hb); have n1_ := Aside0.mk (hbox); have n2_ := Aside0.mk ((by rw [hg]; exact (below_size z_) : w.heap.size ≤ gb268)); have n3_ := Aside0.mk ((by rw [hg]; exact (below_size z_) : w.heap.size ≤ gb268)); clear HB; have HB := n0_; have BK268 := n1_; have GW268 := n2_; have GE268 := n3_; clear n0_ n1_ n2_ n3_; clear hb hbox hg))
 (try simp only [Act.put, List.setIfInBounds_toArray, List.set_cons_zero, List.set_cons_succ])
 go_cut [42] (fun v42 wc => ∃ (kq : Nat) (x42_1 : Bool), v42 = .bool x42_1 ∧ Aside0 (impl_ValidTables.j0 kq x42_1 a0_0 a0_1 l0_2 l0_3 l0_4 = some r) ∧ Aside0 (kq ≤ k) ∧ Aside0 (wc.heap[gb268]? = some (.cells #[.int .i64 a0_0, .int .i64 a0_1, (.slice A0_2 l0_2.length c0_2), (.slice A0_3 l0_3.length c0_3), (.slice A0_4 l0_4.length c0_4)] 48 (0, 0))) ∧ Aside0 (Below w.heap.size w wc))
 case first =>
  have H := HC2.out
  clear HC2
  replace H := Option.bind_eq_some_iff.mp H
  obtain ⟨t269, A40, H⟩ := H
  replace H : (if t269 = true then ((impl_sideOk.f a0_1).bind fun t270 => (if t270 = true then ((impl_targetsOk.f k l0_2 (wrap64 (a0_0 * a0_1))).bind fun t271 => (if t271 = true then (if (l0_3.length : Int) = (l0_2.length : Int) then (impl_ValidTables.j0 k ((l0_4.length : Int) != (l0_2.length : Int)) a0_0 a0_1 l0_2 l0_3 l0_4) else (impl_ValidTables.j0 k true a0_0 a0_1 l0_2 l0_3 l0_4)) else (impl_ValidTables.j0 k true a0_0 a0_1 l0_2 l0_3 l0_4))) else (impl_ValidTables.j0 k true a0_0 a0_1 l0_2 l0_3 l0_4))) else (impl_ValidTables.j0 k true a0_0 a0_1 l0_2 l0_3 l0_4)) = some r := H
  have A4 := Aside0.mk A40
  clear A40
  by_cases c5 : t269 = true
  ·subst c5
   have H1 : ((impl_sideOk.f a0_1).bind fun t270 => (if t270 = true then ((impl_targetsOk.f k l0_2 (wrap64 (a0_0 * a0_1))).bind fun t271 => (if t271 = true then (if (l0_3.length : Int) = (l0_2.length : Int) then (impl_ValidTables.j0 k ((l0_4.length : Int) != (l0_2.length : Int)) a0_0 a0_1 l0_2 l0_3 l0_4) else (impl_ValidTables.j0 k true a0_0 a0_1 l0_2 l0_3 l0_4)) else (impl_ValidTables.j0 k true a0_0 a0_1 l0_2 l0_3 l0_4))) else (impl_ValidTables.j0 k true a0_0 a0_1 l0_2 l0_3 l0_4))) = some r := by rw [if_pos rfl] at H; exact H
   clear H
   have H := H1
   clear H1
   replace H := Option.bind_eq_some_iff.mp H
   obtain ⟨t270, A60, H⟩ := H
   replace H : (if t270 = true then ((impl_targetsOk.f k l0_2 (wrap64 (a0_0 * a0_1))).bind fun t271 => (if t271 = true then (if (l0_3.length : Int) = (l0_2.length : Int) then (impl_ValidTables.j0 k ((l0_4.length : Int) != (l0_2.length : Int)) a0_0 a0_1 l0_2 l0_3 l0_4) else (impl_ValidTables.j0 k true a0_0 a0_1 l0_2 l0_3 l0_4)) else (impl_ValidTables.j0 k true a0_0 a0_1 l0_2 l0_3 l0_4))) else (impl_ValidTables.j0 k true a0_0 a0_1 l0_2 l0_3 l0_4)) = some r := H
   have A6 := Aside0.mk A60
   clear A60
   by_cases c7 : t270 = true
   ·subst c7
    have H1 : ((impl_targetsOk.f k l0_2 (wrap64 (a0_0 * a0_1))).bind fun t271 => (if t271 = true then (if (l0_3.length : Int) = (l0_2.length : Int) then (impl_ValidTables.j0 k ((l0_4.length : Int) != (l0_2.length : Int)) a0_0 a0_1 l0_2 l0_3 l0_4) else (impl_ValidTables.j0 k true a0_0 a0_1 l0_2 l0_3 l0_4)) else (impl_ValidTables.j0 k true a0_0 a0_1 l0_2 l0_3 l0_4))) = some r := by rw [if_pos rfl] at H; exact H
    clear H
    have H := H1
    clear H1
    replace H := Option.bind_eq_some_iff.mp H
    obtain ⟨t271, A80, H⟩ := H
    replace H : (if t271 = true then (if (l0_3.length : Int) = (l0_2.length : Int) then (impl_ValidTables.j0 k ((l0_4.length : Int) != (l0_2.length : Int)) a0_0 a0_1 l0_2 l0_3 l0_4) else (impl_ValidTables.j0 k true a0_0 a0_1 l0_2 l0_3 l0_4)) else (impl_ValidTables.j0 k true a0_0 a0_1 l0_2 l0_3 l0_4)) = some r := H
    have A8 := Aside0.mk A80
    clear A80
    by_cases c9 : t271 = true
    ·subst c9
     have H1 : (if (l0_3.length : Int) = (l0_2.length : Int) then (impl_ValidTables.j0 k ((l0_4.length : Int) != (l0_2.length : Int)) a0_0 a0_1 l0_2 l0_3 l0_4) else (impl_ValidTables.j0 k true a0_0 a0_1 l0_2 l0_3 l0_4)) = some r := by rw [if_pos rfl] at H; exact H
     clear H
     have H := H1
     clear H1
     by_cases c10 : (l0_3.length : Int) = (l0_2.length : Int)
     ·rw [if_pos c10] at H
      have c10b0 : ((l0_3.length : Int) == (l0_2.length : Int)) = true := beq_iff_eq.mpr c10
      have c10b1 : ((l0_3.length : Int) != (l0_2.length : Int)) = false := bne_eq_false_iff_eq.mpr c10
      have c10b2 : (l0_3.length == l0_2.length) = true := by first | simpa using c10 | (simp at c10 ⊢; omega)
      clear c10
      (first | rw [c10b0] | (simp only [i64_w, i32_w]; rw [c10b0]) | skip)
      have H' := Aside0.mk H
      clear H
      have hcz11_0 : w3.cell? ⟨gb268, 0, none⟩ = some (.int .i64 a0_0) := (blk_cell BK268.out 0).trans rfl
      have hcz11_1 : w3.cell? ⟨gb268, 1, none⟩ = some (.int .i64 a0_1) := (blk_cell BK268.out 1).trans rfl
      have hcz11_2 : w3.cell? ⟨gb268, 2, none⟩ = some (.slice A0_2 l0_2.length c0_2) := (blk_cell BK268.out 2).trans rfl
      have hcz11_3 : w3.cell? ⟨gb268, 3, none⟩ = some (.slice A0_3 l0_3.length c0_3) := (blk_cell BK268.out 3).trans rfl
      have hcz11_4 : w3.cell? ⟨gb268, 4, none⟩ = some (.slice A0_4 l0_4.length c0_4) := (blk_cell BK268.out 4).trans rfl
      have hfz11_0 := blk_frozen BK268.out 0
      have hfz11_1 := blk_frozen BK268.out 1
      have hfz11_2 := blk_frozen BK268.out 2
      have hfz11_3 := blk_frozen BK268.out 3
      have hfz11_4 := blk_frozen BK268.out 4
      go_wp2_with (first | ((with_reducible refine gate_callee (f := 51) rfl ?_); refine goesL_ (some 6) rfl rfl Tryd.func51 (by kernel_rfl) rfl #[.int .i64 a0_0] rfl za ?_; (with_reducible refine (impl_sideOk.calls a0_0 true _ A4.out).mono ?_); rintro e w' ⟨rfl, ⟨nd, rfl⟩⟩; refine ⟨_, rfl, ?_⟩) | (go_at_call 51; (with_reducible refine (impl_sideOk.calls a0_1 true _ A6.out).mono ?_); rintro e w' ⟨rfl, ⟨nd, rfl⟩⟩) | (go_at_call 53; (with_reducible refine (impl_targetsOk.calls k _ _ l0_2 (wrap64 (a0_0 * a0_1)) true _ ?side1 ?side2 ?side3 A8.out).mono ?_); (case side1 => exact zc (Kd.C_below HR0_2.out (zs GE268.out))); (case side2 => exact HC0_2.out); (case side3 => exact LaidW.below HLD.out (zs GE268.out)); rintro e w12 ⟨rfl, hb⟩; have n0_ := Aside0.mk (blk_below (g := gb268) (o := .cells #[.int .i64 a0_0, .int .i64 a0_1, .slice A0_2 l0_2.length c0_2, .slice A0_3 l0_3.length c0_3, .slice A0_4 l0_4.length c0_4] 48 (0, 0)) (zb BK268.out) hb); have n1_ := Aside0.mk (below_step (zs GE268.out) hb); clear BK268; clear HB; have BK268 := n0_; have HB := n1_; clear n0_ n1_; (try clear hb); (try clear hb2); (try clear hk); (try clear hi); have hcz13_0 : w12.cell? ⟨gb268, 0, none⟩ = some (.int .i64 a0_0) := (blk_cell BK268.out 0).trans rfl; have hcz13_1 : w12.cell? ⟨gb268, 1, none⟩ = some (.int .i64 a0_1) := (blk_cell BK268.out 1).trans rfl; have hcz13_2 : w12.cell? ⟨gb268, 2, none⟩ = some (.slice A0_2 l0_2.length c0_2) := (blk_cell BK268.out 2).trans rfl; have hcz13_3 : w12.cell? ⟨gb268, 3, none⟩ = some (.slice A0_3 l0_3.length c0_3) := (blk_cell BK268.out 3).trans rfl; have hcz13_4 : w12.cell? ⟨gb268, 4, none⟩ = some (.slice A0_4 l0_4.length c0_4) := (blk_cell BK268.out 4).trans rfl; have hfz13_0 := blk_frozen BK268.out 0; have hfz13_1 := blk_frozen BK268.out 1; have hfz13_2 := blk_frozen BK268.out 2; have hfz13_3 := blk_frozen BK268.out 3; have hfz13_4 := blk_frozen BK268.out 4))
      go_meet
      case rel => exact ⟨_, (((l0_4.length : Int) != (l0_2.length : Int))), zr, H', ⟨by first | omega | exact Nat.le_refl _⟩, ⟨zb BK268.out⟩, ⟨zs GE268.out⟩⟩
     ·rw [if_neg c10] at H
      have c10b0 : ((l0_3.length : Int) == (l0_2.length : Int)) = false := beq_eq_false_iff_ne.mpr c10
      have c10b1 : ((l0_3.length : Int) != (l0_2.length : Int)) = true := bne_iff_ne.mpr c10
      have c10b2 : (l0_3.length == l0_2.length) = false := by first | simpa using c10 | (simp at c10 ⊢; omega)
      (first | rw [c10b0] | (simp only [i64_w, i32_w]; rw [c10b0]) | skip)
      have H' := Aside0.mk H
      clear H
      have hcz14_0 : w3.cell? ⟨gb268, 0, none⟩ = some (.int .i64 a0_0) := (blk_cell BK268.out 0).trans rfl
      have hcz14_1 : w3.cell? ⟨gb268, 1, none⟩ = some (.int .i64 a0_1) := (blk_cell BK268.out 1).trans rfl
      have hcz14_2 : w3.cell? ⟨gb268, 2, none⟩ = some (.slice A0_2 l0_2.length c0_2) := (blk_cell BK268.out 2).trans rfl
      have hcz14_3 : w3.cell? ⟨gb268, 3, none⟩ = some (.slice A0_3 l0_3.length c0_3) := (blk_cell BK268.out 3).trans rfl
      have hcz14_4 : w3.cell? ⟨gb268, 4, none⟩ = some (.slice A0_4 l0_4.length c0_4) := (blk_cell BK268.out 4).trans rfl
      have hfz14_0 := blk_frozen BK268.out 0
      have hfz14_1 := blk_frozen BK268.out 1
      have hfz14_2 := blk_frozen BK268.out 2
      have hfz14_3 := blk_frozen BK268.out 3
      have hfz14_4 := blk_frozen BK268.out 4
      go_wp2_with (first | ((with_reducible refine gate_callee (f := 51) rfl ?_); refine goesL_ (some 6) rfl rfl Tryd.func51 (by kernel_rfl) rfl #[.int .i64 a0_0] rfl za ?_; (with_reducible refine (impl_sideOk.calls a0_0 true _ A4.out).mono ?_); rintro e w' ⟨rfl, ⟨nd, rfl⟩⟩; refine ⟨_, rfl, ?_⟩) | (go_at_call 51; (with_reducible refine (impl_sideOk.calls a0_1 true _ A6.out).mono ?_); rintro e w' ⟨rfl, ⟨nd, rfl⟩⟩) | (go_at_call 53; (with_reducible refine (impl_targetsOk.calls k _ _ l0_2 (wrap64 (a0_0 * a0_1)) true _ ?side1 ?side2 ?side3 A8.out).mono ?_); (case side1 => exact zc (Kd.C_below HR0_2.out (zs GE268.out))); (case side2 => exact HC0_2.out); (case side3 => exact LaidW.below HLD.out (zs GE268.out)); rintro e w15 ⟨rfl, hb⟩; have n0_ := Aside0.mk (blk_below (g := gb268) (o := .cells #[.int .i64 a0_0, .int .i64 a0_1, .slice A0_2 l0_2.length c0_2, .slice A0_3 l0_3.length c0_3, .slice A0_4 l0_4.length c0_4] 48 (0, 0)) (zb BK268.out) hb); have n1_ := Aside0.mk (below_step (zs GE268.out) hb); clear BK268; clear HB; have BK268 := n0_; have HB := n1_; clear n0_ n1_; (try clear hb); (try clear hb2); (try clear hk); (try clear hi); have hcz16_0 : w15.cell? ⟨gb268, 0, none⟩ = some (.int .i64 a0_0) := (blk_cell BK268.out 0).trans rfl; have hcz16_1 : w15.cell? ⟨gb268, 1, none⟩ = some (.int .i64 a0_1) := (blk_cell BK268.out 1).trans rfl; have hcz16_2 : w15.cell? ⟨gb268, 2, none⟩ = some (.slice A0_2 l0_2.length c0_2) := (blk_cell BK268.out 2).trans rfl; have hcz16_3 : w15.cell? ⟨gb268, 3, none⟩ = some (.slice A0_3 l0_3.length c0_3) := (blk_cell BK268.out 3).trans rfl; have hcz16_4 : w15.cell? ⟨gb268, 4, none⟩ = some (.slice A0_4 l0_4.length c0_4) := (blk_cell BK268.out 4).trans rfl; have hfz16_0 := blk_frozen BK268.out 0; have hfz16_1 := blk_frozen BK268.out 1; have hfz16_2 := blk_frozen BK268.out 2; have hfz16_3 := blk_frozen BK268.out 3; have hfz16_4 := blk_frozen BK268.out 4))
      go_meet
      case rel => exact ⟨_, (true), zr, H', ⟨by first | omega | exact Nat.le_refl _⟩, ⟨zb BK268.out⟩, ⟨zs GE268.out⟩⟩
    ·replace c9 := Bool.eq_false_iff.mpr c9
     subst c9
     have H1 : (impl_ValidTables.j0 k true a0_0 a0_1 l0_2 l0_3 l0_4) = some r := by rw [if_neg (show ¬ (false = true) by decide)] at H; exact H
     clear H
     have H := H1
     clear H1
     have H' := Aside0.mk H
     clear H
     have hcz17_0 : w3.cell? ⟨gb268, 0, none⟩ = some (.int .i64 a0_0) := (blk_cell BK268.out 0).trans rfl
     have hcz17_1 : w3.cell? ⟨gb268, 1, none⟩ = some (.int .i64 a0_1) := (blk_cell BK268.out 1).trans rfl
     have hcz17_2 : w3.cell? ⟨gb268, 2, none⟩ = some (.slice A0_2 l0_2.length c0_2) := (blk_cell BK268.out 2).trans rfl
     have hcz17_3 : w3.cell? ⟨gb268, 3, none⟩ = some (.slice A0_3 l0_3.length c0_3) := (blk_cell BK268.out 3).trans rfl
     have hcz17_4 : w3.cell? ⟨gb268, 4, none⟩ = some (.slice A0_4 l0_4.length c0_4) := (blk_cell BK268.out 4).trans rfl
     have hfz17_0 := blk_frozen BK268.out 0
     have hfz17_1 := blk_frozen BK268.out 1
     have hfz17_2 := blk_frozen BK268.out 2
     have hfz17_3 := blk_frozen BK268.out 3
     have hfz17_4 := blk_frozen BK268.out 4
     go_wp2_with (first | ((with_reducible refine gate_callee (f := 51) rfl ?_); refine goesL_ (some 6) rfl rfl Tryd.func51 (by kernel_rfl) rfl #[.int .i64 a0_0] rfl za ?_; (with_reducible refine (impl_sideOk.calls a0_0 true _ A4.out).mono ?_); rintro e w' ⟨rfl, ⟨nd, rfl⟩⟩; refine ⟨_, rfl, ?_⟩) | (go_at_call 51; (with_reducible refine (impl_sideOk.calls a0_1 true _ A6.out).mono ?_); rintro e w' ⟨rfl, ⟨nd, rfl⟩⟩) | (go_at_call 53; (with_reducible refine (impl_targetsOk.calls k _ _ l0_2 (wrap64 (a0_0 * a0_1)) false _ ?side1 ?side2 ?side3 A8.out).mono ?_); (case side1 => exact zc (Kd.C_below HR0_2.out (zs GE268.out))); (case side2 => exact HC0_2.out); (case side3 => exact LaidW.below HLD.out (zs GE268.out)); rintro e w18 ⟨rfl, hb⟩; have n0_ := Aside0.mk (blk_below (g := gb268) (o := .cells #[.int .i64 a0_0, .int .i64 a0_1, .slice A0_2 l0_2.length c0_2, .slice A0_3 l0_3.length c0_3, .slice A0_4 l0_4.length c0_4] 48 (0, 0)) (zb BK268.out) hb); have n1_ := Aside0.mk (below_step (zs GE268.out) hb); clear BK268; clear HB; have BK268 := n0_; have HB := n1_; clear n0_ n1_; (try clear hb); (try clear hb2); (try clear hk); (try clear hi)))
     go_meet
     case rel => exact ⟨_, (true), zr, H', ⟨by first | omega | exact Nat.le_refl _⟩, ⟨zb BK268.out⟩, ⟨zs GE268.out⟩⟩
   ·replace c7 := Bool.eq_false_iff.mpr c7
    subst c7
    have H1 : (impl_ValidTables.j0 k true a0_0 a0_1 l0_2 l0_3 l0_4) = some r := by rw [if_neg (show ¬ (false = true) by decide)] at H; exact H
    clear H
    have H := H1
    clear H1
    have H' := Aside0.mk H
    clear H
    have hcz19_0 : w3.cell? ⟨gb268, 0, none⟩ = some (.int .i64 a0_0) := (blk_cell BK268.out 0).trans rfl
    have hcz19_1 : w3.cell? ⟨gb268, 1, none⟩ = some (.int .i64 a0_1) := (blk_cell BK268.out 1).trans rfl
    have hcz19_2 : w3.cell? ⟨gb268, 2, none⟩ = some (.slice A0_2 l0_2.length c0_2) := (blk_cell BK268.out 2).trans rfl
    have hcz19_3 : w3.cell? ⟨gb268, 3, none⟩ = some (.slice A0_3 l0_3.length c0_3) := (blk_cell BK268.out 3).trans rfl
    have hcz19_4 : w3.cell? ⟨gb268, 4, none⟩ = some (.slice A0_4 l0_4.length c0_4) := (blk_cell BK268.out 4).trans rfl
    have hfz19_0 := blk_frozen BK268.out 0
    have hfz19_1 := blk_frozen BK268.out 1
    have hfz19_2 := blk_frozen BK268.out 2
    have hfz19_3 := blk_frozen BK268.out 3
    have hfz19_4 := blk_frozen BK268.out 4
    go_wp2_with (first | ((with_reducible refine gate_callee (f := 51) rfl ?_); refine goesL_ (some 6) rfl rfl Tryd.func51 (by kernel_rfl) rfl #[.int .i64 a0_0] rfl za ?_; (with_reducible refine (impl_sideOk.calls a0_0 true _ A4.out).mono ?_); rintro e w' ⟨rfl, ⟨nd, rfl⟩⟩; refine ⟨_, rfl, ?_⟩) | (go_at_call 51; (with_reducible refine (impl_sideOk.calls a0_1 false _ A6.out).mono ?_); rintro e w' ⟨rfl, ⟨nd, rfl⟩⟩))
    go_meet
    case rel => exact ⟨_, (true), zr, H', ⟨by first | omega | exact Nat.le_refl _⟩, ⟨zb BK268.out⟩, ⟨zs GE268.out⟩⟩
  ·replace c5 := Bool.eq_false_iff.mpr c5
   subst c5
   have H1 : (impl_ValidTables.j0 k true a0_0 a0_1 l0_2 l0_3 l0_4) = some r := by rw [if_neg (show ¬ (false = true) by decide)] at H; exact H
   clear H
   have H := H1
   clear H1
   have H' := Aside0.mk H
   clear H
   have hcz20_0 : w3.cell? ⟨gb268, 0, none⟩ = some (.int .i64 a0_0) := (blk_cell BK268.out 0).trans rfl
   have hcz20_1 : w3.cell? ⟨gb268, 1, none⟩ = some (.int .i64 a0_1) := (blk_cell BK268.out 1).trans rfl
   have hcz20_2 : w3.cell? ⟨gb268, 2, none⟩ = some (.slice A0_2 l0_2.length c0_2) := (blk_cell BK268.out 2).trans rfl
   have hcz20_3 : w3.cell? ⟨gb268, 3, none⟩ = some (.slice A0_3 l0_3.length c0_3) := (blk_cell BK268.out 3).trans rfl
   have hcz20_4 : w3.cell? ⟨gb268, 4, none⟩ = some (.slice A0_4 l0_4.length c0_4) := (blk_cell BK268.out 4).trans rfl
   have hfz20_0 := blk_frozen BK268.out 0
   have hfz20_1 := blk_frozen BK268.out 1
   have hfz20_2 := blk_frozen BK268.out 2
   have hfz20_3 := blk_frozen BK268.out 3
   have hfz20_4 := blk_frozen BK268.out 4
   go_wp2_with (first | ((with_reducible refine gate_callee (f := 51) rfl ?_); refine goesL_ (some 6) rfl rfl Tryd.func51 (by kernel_rfl) rfl #[.int .i64 a0_0] rfl za ?_; (with_reducible refine (impl_sideOk.calls a0_0 false _ A4.out).mono ?_); rintro e w' ⟨rfl, ⟨nd, rfl⟩⟩; refine ⟨_, rfl, ?_⟩))
   go_meet
   case rel => exact ⟨_, (true), zr, H', ⟨by first | omega | exact Nat.le_refl _⟩, ⟨zb BK268.out⟩, ⟨zs GE268.out⟩⟩
 case rest =>
  clear HC2
  try clear c1
  try clear c2
  try clear p2
  try clear c5
  try clear p6
  try clear c7
  try clear c9
  try clear c10
  try clear c10b0
  try clear c10b1
  try clear c10b2
  try clear hcz11_0
  try clear hcz11_1
  try clear hcz11_2
  try clear hcz11_3
  try clear hcz11_4
  try clear hcz13_0
  try clear hcz13_1
  try clear hcz13_2
  try clear hcz13_3
  try clear hcz13_4
  try clear hcz14_0
  try clear hcz14_1
  try clear hcz14_2
  try clear hcz14_3
  try clear hcz14_4
  try clear hcz16_0
  try clear hcz16_1
  try clear hcz16_2
  try clear hcz16_3
  try clear hcz16_4
  try clear hcz17_0
  try clear hcz17_1
  try clear hcz17_2
  try clear hcz17_3
  try clear hcz17_4
  try clear hcz19_0
  try clear hcz19_1
  try clear hcz19_2
  try clear hcz19_3
  try clear hcz19_4
  try clear hcz20_0
  try clear hcz20_1
  try clear hcz20_2
  try clear hcz20_3
  try clear hcz20_4
  try clear hfz11_0
  try clear hfz11_1
  try clear hfz11_2
  try clear hfz11_3
  try clear hfz11_4
  try clear hfz13_0
  try clear hfz13_1
  try clear hfz13_2
  try clear hfz13_3
  try clear hfz13_4
  try clear hfz14_0
  try clear hfz14_1
  try clear hfz14_2
  try clear hfz14_3
  try clear hfz14_4
  try clear hfz16_0
  try clear hfz16_1
  try clear hfz16_2
  try clear hfz16_3
  try clear hfz16_4
  try clear hfz17_0
  try clear hfz17_1
  try clear hfz17_2
  try clear hfz17_3
  try clear hfz17_4
  try clear hfz19_0
  try clear hfz19_1
  try clear hfz19_2
  try clear hfz19_3
  try clear hfz19_4
  try clear hfz20_0
  try clear hfz20_1
  try clear hfz20_2
  try clear hfz20_3
  try clear hfz20_4
  obtain ⟨kq, x42_1, rfl, HA, HJ1, BK268, HB⟩ := hcut
  cases kq with
  | zero => exact absurd HA.out (by simp [impl_ValidTables.j0])
  | succ kj1 =>
   have H := HA.out
   clear HA
   simp only [impl_ValidTables.j0] at H
   by_cases c21 : x42_1 = true
   ·subst c21
    have H1 : (some false) = some r := by rw [if_pos rfl] at H; exact H
    clear H
    have H := H1
    clear H1
    obtain rfl := Option.some.inj H
    go_wp2
    go_ret
    exact ⟨ze, (zs GE268.out)⟩
   ·replace c21 := Bool.eq_false_iff.mpr c21
    subst c21
    have H1 : (impl_ValidTables.l0 kj1 (l0_2.length : Int) 0 a0_0 a0_1 l0_2 l0_3 l0_4) = some r := by rw [if_neg (show ¬ (false = true) by decide)] at H; exact H
    clear H
    have H := H1
    clear H1
    have H' := Aside0.mk H
    clear H
    have hcz22_0 : wc.cell? ⟨gb268, 0, none⟩ = some (.int .i64 a0_0) := (blk_cell BK268.out 0).trans rfl
    have hcz22_1 : wc.cell? ⟨gb268, 1, none⟩ = some (.int .i64 a0_1) := (blk_cell BK268.out 1).trans rfl
    have hcz22_2 : wc.cell? ⟨gb268, 2, none⟩ = some (.slice A0_2 l0_2.length c0_2) := (blk_cell BK268.out 2).trans rfl
    have hcz22_3 : wc.cell? ⟨gb268, 3, none⟩ = some (.slice A0_3 l0_3.length c0_3) := (blk_cell BK268.out 3).trans rfl
    have hcz22_4 : wc.cell? ⟨gb268, 4, none⟩ = some (.slice A0_4 l0_4.length c0_4) := (blk_cell BK268.out 4).trans rfl
    have hfz22_0 := blk_frozen BK268.out 0
    have hfz22_1 := blk_frozen BK268.out 1
    have hfz22_2 := blk_frozen BK268.out 2
    have hfz22_3 := blk_frozen BK268.out 3
    have hfz22_4 := blk_frozen BK268.out 4
    go_wp2
    go_loopg [46] kj1 (fun kq v46 w' => ∃ (x46_2 : Int), v46 = .int .i64 x46_2 ∧ Aside0 (impl_ValidTables.l0 kq (l0_2.length : Int) x46_2 a0_0 a0_1 l0_2 l0_3 l0_4 = some r) ∧ Aside0 (kq ≤ kj1) ∧ Aside0 (w'.heap[gb268]? = some (.cells #[.int .i64 a0_0, .int .i64 a0_1, (.slice A0_2 l0_2.length c0_2), (.slice A0_3 l0_3.length c0_3), (.slice A0_4 l0_4.length c0_4)] 48 (0, 0))) ∧ Aside0 (Below w.heap.size w w'))
    case atStart => exact ⟨(0), zr, H', ⟨Nat.le_refl _⟩, ⟨zb BK268.out⟩, ⟨zs GE268.out⟩⟩
    case round =>
     clear H'
     try clear c1
     try clear c2
     try clear p2
     try clear c5
     try clear p6
     try clear c7
     try clear c9
     try clear c10
     try clear c10b0
     try clear c10b1
     try clear c10b2
     try clear c21
     try clear hcz11_0
     try clear hcz11_1
     try clear hcz11_2
     try clear hcz11_3
     try clear hcz11_4
     try clear hcz13_0
     try clear hcz13_1
     try clear hcz13_2
     try clear hcz13_3
     try clear hcz13_4
     try clear hcz14_0
     try clear hcz14_1
     try clear hcz14_2
     try clear hcz14_3
     try clear hcz14_4
     try clear hcz16_0
     try clear hcz16_1
     try clear hcz16_2
     try clear hcz16_3
     try clear hcz16_4
     try clear hcz17_0
     try clear hcz17_1
     try clear hcz17_2
     try clear hcz17_3
     try clear hcz17_4
     try clear hcz19_0
     try clear hcz19_1
     try clear hcz19_2
     try clear hcz19_3
     try clear hcz19_4
     try clear hcz20_0
     try clear hcz20_1
     try clear hcz20_2
     try clear hcz20_3
     try clear hcz20_4
     try clear hcz22_0
     try clear hcz22_1
     try clear hcz22_2
     try clear hcz22_3
     try clear hcz22_4
     try clear hfz11_0
     try clear hfz11_1
     try clear hfz11_2
     try clear hfz11_3
     try clear hfz11_4
     try clear hfz13_0
     try clear hfz13_1
     try clear hfz13_2
     try clear hfz13_3
     try clear hfz13_4
     try clear hfz14_0
     try clear hfz14_1
     try clear hfz14_2
     try clear hfz14_3
     try clear hfz14_4
     try clear hfz16_0
     try clear hfz16_1
     try clear hfz16_2
     try clear hfz16_3
     try clear hfz16_4
     try clear hfz17_0
     try clear hfz17_1
     try clear hfz17_2
     try clear hfz17_3
     try clear hfz17_4
     try clear hfz19_0
     try clear hfz19_1
     try clear hfz19_2
     try clear hfz19_3
     try clear hfz19_4
     try clear hfz20_0
     try clear hfz20_1
     try clear hfz20_2
     try clear hfz20_3
     try clear hfz20_4
     try clear hfz22_0
     try clear hfz22_1
     try clear hfz22_2
     try clear hfz22_3
     try clear hfz22_4
     try clear p2
     try clear p6
     obtain ⟨x46_2, rfl, HA, HK2, BK268, HB⟩ := hrel
     cases gk with
     | zero => exact absurd HA.out (by simp [impl_ValidTables.l0])
     | succ k2 =>
      have H := HA.out
      clear HA
      simp only [impl_ValidTables.l0] at H
      by_cases c23 : x46_2 < (l0_2.length : Int)
      ·rw [if_pos c23] at H
       have c23b0 : decide (x46_2 < (l0_2.length : Int)) = true := decide_eq_true c23
       clear c23
       replace H := Option.bind_eq_some_iff.mp H
       obtain ⟨t272, A240, H⟩ := H
       replace H : (if t272 = true then (impl_ValidTables.l0 k2 (l0_2.length : Int) (wrap64 (x46_2 + 1)) a0_0 a0_1 l0_2 l0_3 l0_4) else (some false)) = some r := H
       have A24 := Aside0.mk A240
       clear A240
       by_cases c25 : t272 = true
       ·subst c25
        have H1 : (impl_ValidTables.l0 k2 (l0_2.length : Int) (wrap64 (x46_2 + 1)) a0_0 a0_1 l0_2 l0_3 l0_4) = some r := by rw [if_pos rfl] at H; exact H
        clear H
        have H := H1
        clear H1
        have H' := Aside0.mk H
        clear H
        have hcz26_0 : wr.cell? ⟨gb268, 0, none⟩ = some (.int .i64 a0_0) := (blk_cell BK268.out 0).trans rfl
        have hcz26_1 : wr.cell? ⟨gb268, 1, none⟩ = some (.int .i64 a0_1) := (blk_cell BK268.out 1).trans rfl
        have hcz26_2 : wr.cell? ⟨gb268, 2, none⟩ = some (.slice A0_2 l0_2.length c0_2) := (blk_cell BK268.out 2).trans rfl
        have hcz26_3 : wr.cell? ⟨gb268, 3, none⟩ = some (.slice A0_3 l0_3.length c0_3) := (blk_cell BK268.out 3).trans rfl
        have hcz26_4 : wr.cell? ⟨gb268, 4, none⟩ = some (.slice A0_4 l0_4.length c0_4) := (blk_cell BK268.out 4).trans rfl
        have hfz26_0 := blk_frozen BK268.out 0
        have hfz26_1 := blk_frozen BK268.out 1
        have hfz26_2 := blk_frozen BK268.out 2
        have hfz26_3 := blk_frozen BK268.out 3
        have hfz26_4 := blk_frozen BK268.out 4
        go_wp2_with (first | ((with_reducible refine gate_callee (f := 69) rfl ?_); refine goesL_ (some 51) rfl rfl Tryd.func69 (by kernel_rfl) rfl #[.agg #[.int .i64 a0_0, .int .i64 a0_1, .slice A0_2 l0_2.length c0_2, .slice A0_3 l0_3.length c0_3, .slice A0_4 l0_4.length c0_4], .int .i64 x46_2] rfl za ?_; (with_reducible refine (impl_Tables_listOk.calls k2 a0_0 a0_1 _ _ l0_2 _ _ l0_3 _ _ l0_4 x46_2 true _ ?side1 ?side2 ?side3 ?side4 ?side5 ?side6 A24.out).mono ?_); (case side1 => exact zc (Kd.C_below HR0_2.out HB.out)); (case side2 => exact HC0_2.out); (case side3 => exact zc (Kd.C_below HR0_3.out HB.out)); (case side4 => exact HC0_3.out); (case side5 => exact zc (Kd.C_below HR0_4.out HB.out)); (case side6 => exact HC0_4.out); rintro e w27 ⟨rfl, hb⟩; refine ⟨_, rfl, ?_⟩; have n0_ := Aside0.mk (blk_below (g := gb268) (o := .cells #[.int .i64 a0_0, .int .i64 a0_1, .slice A0_2 l0_2.length c0_2, .slice A0_3 l0_3.length c0_3, .slice A0_4 l0_4.length c0_4] 48 (0, 0)) (zb BK268.out) hb); have n1_ := Aside0.mk (below_step (zs GE268.out) hb); clear BK268; clear HB; have BK268 := n0_; have HB := n1_; clear n0_ n1_; (try clear hb); (try clear hb2); (try clear hk); (try clear hi)))
        go_roundg k2
        case measure => have := HJ1.out; have := HK2.out; omega
        case rel => exact ⟨(wrap64 (x46_2 + 1)), zr, H', ⟨by have := HJ1.out; have := HK2.out; omega⟩, ⟨zb BK268.out⟩, ⟨zs GE268.out⟩⟩
       ·replace c25 := Bool.eq_false_iff.mpr c25
        subst c25
        have H1 : (some false) = some r := by rw [if_neg (show ¬ (false = true) by decide)] at H; exact H
        clear H
        have H := H1
        clear H1
        obtain rfl := Option.some.inj H
        have hcz28_0 : wr.cell? ⟨gb268, 0, none⟩ = some (.int .i64 a0_0) := (blk_cell BK268.out 0).trans rfl
        have hcz28_1 : wr.cell? ⟨gb268, 1, none⟩ = some (.int .i64 a0_1) := (blk_cell BK268.out 1).trans rfl
        have hcz28_2 : wr.cell? ⟨gb268, 2, none⟩ = some (.slice A0_2 l0_2.length c0_2) := (blk_cell BK268.out 2).trans rfl
        have hcz28_3 : wr.cell? ⟨gb268, 3, none⟩ = some (.slice A0_3 l0_3.length c0_3) := (blk_cell BK268.out 3).trans rfl
        have hcz28_4 : wr.cell? ⟨gb268, 4, none⟩ = some (.slice A0_4 l0_4.length c0_4) := (blk_cell BK268.out 4).trans rfl
        have hfz28_0 := blk_frozen BK268.out 0
        have hfz28_1 := blk_frozen BK268.out 1
        have hfz28_2 := blk_frozen BK268.out 2
        have hfz28_3 := blk_frozen BK268.out 3
        have hfz28_4 := blk_frozen BK268.out 4
        go_wp2_with (first | ((with_reducible refine gate_callee (f := 69) rfl ?_); refine goesL_ (some 51) rfl rfl Tryd.func69 (by kernel_rfl) rfl #[.agg #[.int .i64 a0_0, .int .i64 a0_1, .slice A0_2 l0_2.length c0_2, .slice A0_3 l0_3.length c0_3, .slice A0_4 l0_4.length c0_4], .int .i64 x46_2] rfl za ?_; (with_reducible refine (impl_Tables_listOk.calls k2 a0_0 a0_1 _ _ l0_2 _ _ l0_3 _ _ l0_4 x46_2 false _ ?side1 ?side2 ?side3 ?side4 ?side5 ?side6 A24.out).mono ?_); (case side1 => exact zc (Kd.C_below HR0_2.out HB.out)); (case side2 => exact HC0_2.out); (case side3 => exact zc (Kd.C_below HR0_3.out HB.out)); (case side4 => exact HC0_3.out); (case side5 => exact zc (Kd.C_below HR0_4.out HB.out)); (case side6 => exact HC0_4.out); rintro e w29 ⟨rfl, hb⟩; refine ⟨_, rfl, ?_⟩; have n0_ := Aside0.mk (blk_below (g := gb268) (o := .cells #[.int .i64 a0_0, .int .i64 a0_1, .slice A0_2 l0_2.length c0_2, .slice A0_3 l0_3.length c0_3, .slice A0_4 l0_4.length c0_4] 48 (0, 0)) (zb BK268.out) hb); have n1_ := Aside0.mk (below_step (zs GE268.out) hb); clear BK268; clear HB; have BK268 := n0_; have HB := n1_; clear n0_ n1_; (try clear hb); (try clear hb2); (try clear hk); (try clear hi)))
        go_ret
        exact ⟨ze, (zs GE268.out)⟩
      ·rw [if_neg c23] at H
       have c23b0 : decide (x46_2 < (l0_2.length : Int)) = false := decide_eq_false c23
       clear c23
       obtain rfl := Option.some.inj H
       go_wp2
       go_ret
       exact ⟨ze, (zs GE268.out)⟩

/-! ### impl_Tables_there: function 76 -/
def impl_Tables_there.f (a0_0 : Int) (a0_1 : Int) (l0_2 : List (S74)) (l0_3 : List (List Int)) (l0_4 : List (List Int)) (a1 : Int) (a2 : Int) : Option (Bool) := if a1 ≥ 0 then (if a1 < (l0_2.length : Int) then (if a2 ≥ 0 then (some (decide (a2 < (wrap64 (a0_0 * a0_1))))) else (some false)) else (some false)) else (some false)
set_option maxHeartbeats 8000000 in
set_option maxRecDepth 100000 in
theorem impl_Tables_there.calls (a0_0 : Int) (a0_1 : Int) (A0_2 : Option Addr) (c0_2 : Nat) (l0_2 : List (S74)) (A0_3 : Option Addr) (c0_3 : Nat) (l0_3 : List (List Int)) (A0_4 : Option Addr) (c0_4 : Nat) (l0_4 : List (List Int)) (a1 : Int) (a2 : Int) (r : Bool) (w : World) (hr0_2 : Kd.C k74 w A0_2 l0_2.length l0_2) (hc0_2 : l0_2.length ≤ c0_2) (hr0_3 : Kd.C (Kd.slice 3 (Kd.int .i64)) w A0_3 l0_3.length l0_3) (hc0_3 : l0_3.length ≤ c0_3) (hr0_4 : Kd.C (Kd.slice 3 (Kd.int .i64)) w A0_4 l0_4.length l0_4) (hc0_4 : l0_4.length ≤ c0_4) (h : impl_Tables_there.f a0_0 a0_1 l0_2 l0_3 l0_4 a1 a2 = some r) :
  Calls Tryd.prog 76 #[.agg #[.int .i64 a0_0, .int .i64 a0_1, .slice A0_2 l0_2.length c0_2, .slice A0_3 l0_3.length c0_3, .slice A0_4 l0_4.length c0_4], .int .i64 a1, .int .i64 a2] w fun e w' => e = .returned (.bool r) ∧ Below w.heap.size w w' := by
 have hu48 := Tryd.underlying48
 have HR0_2 := Aside0.mk hr0_2
 have HC0_2 := Aside0.mk hc0_2
 clear hr0_2 hc0_2
 have HR0_3 := Aside0.mk hr0_3
 have HC0_3 := Aside0.mk hc0_3
 clear hr0_3 hc0_3
 have HR0_4 := Aside0.mk hr0_4
 have HC0_4 := Aside0.mk hc0_4
 clear hr0_4 hc0_4
 have HB := Aside0.mk (Below.refl w.heap.size w)
 have H : (if a1 ≥ 0 then (if a1 < (l0_2.length : Int) then (if a2 ≥ 0 then (some (decide (a2 < (wrap64 (a0_0 * a0_1))))) else (some false)) else (some false)) else (some false)) = some r := h
 clear h
 by_cases c4 : a1 ≥ 0
 ·rw [if_pos c4] at H
  have c4b0 : decide (0 ≤ a1) = true := decide_eq_true c4
  clear c4
  by_cases c5 : a1 < (l0_2.length : Int)
  ·rw [if_pos c5] at H
   have c5b0 : decide (a1 < (l0_2.length : Int)) = true := decide_eq_true c5
   clear c5
   by_cases c6 : a2 ≥ 0
   ·rw [if_pos c6] at H
    have c6b0 : decide (0 ≤ a2) = true := decide_eq_true c6
    clear c6
    obtain rfl := Option.some.inj H
    go_enter Tryd.func76, Tryd.ntmps76
    go_wp2_with (first | ((with_reducible refine gate_dst (N := 3) rfl ?_); (try (refine gate_guard (by rfl) ?_; dsimp only)); refine box_event ?hg (N := 3) ?hd (cs := #[.int .i64 a0_0, .int .i64 a0_1, .slice A0_2 l0_2.length c0_2, .slice A0_3 l0_3.length c0_3, .slice A0_4 l0_4.length c0_4]) (t := 48) ?hr ?_; (case hd => rfl); (case hg => rfl); (case hr => first | (go_simp; done) | (go_simp; rfl)); intro gb273 hg w7 hbox hb; have n0_ := Aside0.mk (below_step z_ hb); have n1_ := Aside0.mk (hbox); have n2_ := Aside0.mk ((by rw [hg]; exact (below_size z_) : w.heap.size ≤ gb273)); have n3_ := Aside0.mk ((by rw [hg]; exact (below_size z_) : w.heap.size ≤ gb273)); clear HB; have HB := n0_; have BK273 := n1_; have GW273 := n2_; have GE273 := n3_; clear n0_ n1_ n2_ n3_; clear hb hbox hg; have hcz8_0 : w7.cell? ⟨gb273, 0, none⟩ = some (.int .i64 a0_0) := (blk_cell BK273.out 0).trans rfl; have hcz8_1 : w7.cell? ⟨gb273, 1, none⟩ = some (.int .i64 a0_1) := (blk_cell BK273.out 1).trans rfl; have hcz8_2 : w7.cell? ⟨gb273, 2, none⟩ = some (.slice A0_2 l0_2.length c0_2) := (blk_cell BK273.out 2).trans rfl; have hcz8_3 : w7.cell? ⟨gb273, 3, none⟩ = some (.slice A0_3 l0_3.length c0_3) := (blk_cell BK273.out 3).trans rfl; have hcz8_4 : w7.cell? ⟨gb273, 4, none⟩ = some (.slice A0_4 l0_4.length c0_4) := (blk_cell BK273.out 4).trans rfl; have hfz8_0 := blk_frozen BK273.out 0; have hfz8_1 := blk_frozen BK273.out 1; have hfz8_2 := blk_frozen BK273.out 2; have hfz8_3 := blk_frozen BK273.out 3; have hfz8_4 := blk_frozen BK273.out 4))
    go_ret
    exact ⟨ze, (zs GE273.out)⟩
   ·rw [if_neg c6] at H
    have c6b0 : decide (0 ≤ a2) = false := decide_eq_false c6
    clear c6
    obtain rfl := Option.some.inj H
    go_enter Tryd.func76, Tryd.ntmps76
    go_wp2_with (first | ((with_reducible refine gate_dst (N := 3) rfl ?_); (try (refine gate_guard (by rfl) ?_; dsimp only)); refine box_event ?hg (N := 3) ?hd (cs := #[.int .i64 a0_0, .int .i64 a0_1, .slice A0_2 l0_2.length c0_2, .slice A0_3 l0_3.length c0_3, .slice A0_4 l0_4.length c0_4]) (t := 48) ?hr ?_; (case hd => rfl); (case hg => rfl); (case hr => first | (go_simp; done) | (go_simp; rfl)); intro gb273 hg w9 hbox hb; have n0_ := Aside0.mk (below_step z_ hb); have n1_ := Aside0.mk (hbox); have n2_ := Aside0.mk ((by rw [hg]; exact (below_size z_) : w.heap.size ≤ gb273)); have n3_ := Aside0.mk ((by rw [hg]; exact (below_size z_) : w.heap.size ≤ gb273)); clear HB; have HB := n0_; have BK273 := n1_; have GW273 := n2_; have GE273 := n3_; clear n0_ n1_ n2_ n3_; clear hb hbox hg; have hcz10_0 : w9.cell? ⟨gb273, 0, none⟩ = some (.int .i64 a0_0) := (blk_cell BK273.out 0).trans rfl; have hcz10_1 : w9.cell? ⟨gb273, 1, none⟩ = some (.int .i64 a0_1) := (blk_cell BK273.out 1).trans rfl; have hcz10_2 : w9.cell? ⟨gb273, 2, none⟩ = some (.slice A0_2 l0_2.length c0_2) := (blk_cell BK273.out 2).trans rfl; have hcz10_3 : w9.cell? ⟨gb273, 3, none⟩ = some (.slice A0_3 l0_3.length c0_3) := (blk_cell BK273.out 3).trans rfl; have hcz10_4 : w9.cell? ⟨gb273, 4, none⟩ = some (.slice A0_4 l0_4.length c0_4) := (blk_cell BK273.out 4).trans rfl; have hfz10_0 := blk_frozen BK273.out 0; have hfz10_1 := blk_frozen BK273.out 1; have hfz10_2 := blk_frozen BK273.out 2; have hfz10_3 := blk_frozen BK273.out 3; have hfz10_4 := blk_frozen BK273.out 4))
    go_ret
    exact ⟨ze, (zs GE273.out)⟩
  ·rw [if_neg c5] at H
   have c5b0 : decide (a1 < (l0_2.length : Int)) = false := decide_eq_false c5
   clear c5
   obtain rfl := Option.some.inj H
   go_enter Tryd.func76, Tryd.ntmps76
   go_wp2_with (first | ((with_reducible refine gate_dst (N := 3) rfl ?_); (try (refine gate_guard (by rfl) ?_; dsimp only)); refine box_event ?hg (N := 3) ?hd (cs := #[.int .i64 a0_0, .int .i64 a0_1, .slice A0_2 l0_2.length c0_2, .slice A0_3 l0_3.length c0_3, .slice A0_4 l0_4.length c0_4]) (t := 48) ?hr ?_; (case hd => rfl); (case hg => rfl); (case hr => first | (go_simp; done) | (go_simp; rfl)); intro gb273 hg w11 hbox hb; have n0_ := Aside0.mk (below_step z_ hb); have n1_ := Aside0.mk (hbox); have n2_ := Aside0.mk ((by rw [hg]; exact (below_size z_) : w.heap.size ≤ gb273)); have n3_ := Aside0.mk ((by rw [hg]; exact (below_size z_) : w.heap.size ≤ gb273)); clear HB; have HB := n0_; have BK273 := n1_; have GW273 := n2_; have GE273 := n3_; clear n0_ n1_ n2_ n3_; clear hb hbox hg; have hcz12_0 : w11.cell? ⟨gb273, 0, none⟩ = some (.int .i64 a0_0) := (blk_cell BK273.out 0).trans rfl; have hcz12_1 : w11.cell? ⟨gb273, 1, none⟩ = some (.int .i64 a0_1) := (blk_cell BK273.out 1).trans rfl; have hcz12_2 : w11.cell? ⟨gb273, 2, none⟩ = some (.slice A0_2 l0_2.length c0_2) := (blk_cell BK273.out 2).trans rfl; have hcz12_3 : w11.cell? ⟨gb273, 3, none⟩ = some (.slice A0_3 l0_3.length c0_3) := (blk_cell BK273.out 3).trans rfl; have hcz12_4 : w11.cell? ⟨gb273, 4, none⟩ = some (.slice A0_4 l0_4.length c0_4) := (blk_cell BK273.out 4).trans rfl; have hfz12_0 := blk_frozen BK273.out 0; have hfz12_1 := blk_frozen BK273.out 1; have hfz12_2 := blk_frozen BK273.out 2; have hfz12_3 := blk_frozen BK273.out 3; have hfz12_4 := blk_frozen BK273.out 4))
   go_ret
   exact ⟨ze, (zs GE273.out)⟩
 ·rw [if_neg c4] at H
  have c4b0 : decide (0 ≤ a1) = false := decide_eq_false c4
  clear c4
  obtain rfl := Option.some.inj H
  go_enter Tryd.func76, Tryd.ntmps76
  go_wp2_with (first | ((with_reducible refine gate_dst (N := 3) rfl ?_); (try (refine gate_guard (by rfl) ?_; dsimp only)); refine box_event ?hg (N := 3) ?hd (cs := #[.int .i64 a0_0, .int .i64 a0_1, .slice A0_2 l0_2.length c0_2, .slice A0_3 l0_3.length c0_3, .slice A0_4 l0_4.length c0_4]) (t := 48) ?hr ?_; (case hd => rfl); (case hg => rfl); (case hr => first | (go_simp; done) | (go_simp; rfl)); intro gb273 hg w13 hbox hb; have n0_ := Aside0.mk (below_step z_ hb); have n1_ := Aside0.mk (hbox); have n2_ := Aside0.mk ((by rw [hg]; exact (below_size z_) : w.heap.size ≤ gb273)); have n3_ := Aside0.mk ((by rw [hg]; exact (below_size z_) : w.heap.size ≤ gb273)); clear HB; have HB := n0_; have BK273 := n1_; have GW273 := n2_; have GE273 := n3_; clear n0_ n1_ n2_ n3_; clear hb hbox hg))
  go_ret
  exact ⟨ze, (zs GE273.out)⟩

/-! ### impl_ValidFleet: function 38 -/
def impl_ValidFleet.bad (a0_0 a0_1 : Int) (l0_2 : List (S74)) (l0_3 l0_4 : List (List Int)) (x0 x1 x2 x3 : Int) : Option Bool :=
 (impl_Tables_there.f a0_0 a0_1 l0_2 l0_3 l0_4 x1 x0).bind fun t => some (!t || decide (x2 < 0) || decide (x2 > 1000000) || decide (x3 < 0) || decide (x3 > 1000000))
def impl_ValidFleet.l : Nat → Int → Int → List (S74) → List (List Int) → List (List Int) → List (S104) → Int → List (Int × Int) → Option Bool
 | 0, _, _, _, _, _, _, _, _ => none
 | k + 1, a0_0, a0_1, l0_2, l0_3, l0_4, l1, i, m => if i < (l1.length : Int) then (impl_ValidFleet.bad a0_0 a0_1 l0_2 l0_3 l0_4 (rd_T104 l1 i).f0 (rd_T104 l1 i).f1 (rd_T104 l1 i).f2 (rd_T104 l1 i).f3).bind fun b => if b = true then some false else if (rd_T104 l1 i).f4 = true then impl_ValidFleet.l k a0_0 a0_1 l0_2 l0_3 l0_4 l1 (i + 1) m else if (mget m (rd_T104 l1 i).f0).isSome = true then some false else impl_ValidFleet.l k a0_0 a0_1 l0_2 l0_3 l0_4 l1 (i + 1) (((rd_T104 l1 i).f0, i) :: m) else some true
def impl_ValidFleet.f (k : Nat) (a0_0 : Int) (a0_1 : Int) (l0_2 : List (S74)) (l0_3 : List (List Int)) (l0_4 : List (List Int)) (l1 : List (S104)) : Option Bool :=
 (impl_ValidTables.f k a0_0 a0_1 l0_2 l0_3 l0_4).bind fun t => if t = true then (if (l1.length : Int) > 30 then some false else impl_ValidFleet.l k a0_0 a0_1 l0_2 l0_3 l0_4 l1 0 []) else some false
theorem impl_ValidFleet.bad_cell {a0_0 a0_1 : Int} {l0_2 : List (S74)} {l0_3 l0_4 : List (List Int)} {x0 x1 x2 x3 : Int} (h : impl_ValidFleet.bad a0_0 a0_1 l0_2 l0_3 l0_4 x0 x1 x2 x3 = some false) : 0 ≤ x0 ∧ x0 ≤ 9223372036854775807 := by
 unfold impl_ValidFleet.bad at h
 obtain ⟨t, ht, h⟩ := Option.bind_eq_some_iff.mp h
 have h := Option.some.inj h
 simp only [Bool.or_eq_false_iff, Bool.not_eq_false'] at h
 rw [h.1.1.1.1] at ht
 unfold impl_Tables_there.f at ht
 have hw : wrap64 (a0_0 * a0_1) ≤ 9223372036854775807 := by unfold wrap64; omega
 split at ht
 ·split at ht
  ·split at ht
   ·have := of_decide_eq_true (Option.some.inj ht); omega
   ·cases ht
  ·cases ht
 ·cases ht
theorem impl_ValidFleet.wf {c : Int} (h0 : 0 ≤ c) (h1 : c ≤ 9223372036854775807) : (Lit.int .i64 c).wf = true := by
 have e0 : IntKind.min .i64 = -9223372036854775808 := by rfl
 have e1 : IntKind.max .i64 = 9223372036854775807 := by rfl
 simp only [Lit.wf, e0, e1, Bool.and_eq_true, decide_eq_true_eq]
 omega
theorem impl_ValidFleet.mono_l : ∀ k a b c d e l i m, LeO (impl_ValidFleet.l k a b c d e l i m) (impl_ValidFleet.l (k + 1) a b c d e l i m)
 | 0, _, _, _, _, _, _, _, _ => fun r h => by simp [impl_ValidFleet.l] at h
 | k + 1, a, b, c, d, e, l, i, m => by
  rw [impl_ValidFleet.l, impl_ValidFleet.l]
  exact LeO.ite (LeO.bind (LeO.refl _) fun _ => LeO.ite (LeO.refl _) (LeO.ite (impl_ValidFleet.mono_l k _ _ _ _ _ _ _ _) (LeO.ite (LeO.refl _) (impl_ValidFleet.mono_l k _ _ _ _ _ _ _ _)))) (LeO.refl _)
theorem impl_ValidFleet.mono : ∀ a0 a1 a2 a3 a4 a5 k, LeO (impl_ValidFleet.f k a0 a1 a2 a3 a4 a5) (impl_ValidFleet.f (k + 1) a0 a1 a2 a3 a4 a5) := by
 intro a0 a1 a2 a3 a4 a5 k
 unfold impl_ValidFleet.f
 exact LeO.bind (impl_ValidTables.mono _ _ _ _ _ _) fun _ => LeO.ite (LeO.ite (LeO.refl _) (impl_ValidFleet.mono_l k _ _ _ _ _ _ _ _)) (LeO.refl _)
set_option maxHeartbeats 4000000 in
set_option maxRecDepth 100000 in
theorem impl_ValidFleet.calls (k : Nat) (a0_0 : Int) (a0_1 : Int) (A0_2 : Option Addr) (c0_2 : Nat) (l0_2 : List (S74)) (A0_3 : Option Addr) (c0_3 : Nat) (l0_3 : List (List Int)) (A0_4 : Option Addr) (c0_4 : Nat) (l0_4 : List (List Int)) (A1 : Option Addr) (c1 : Nat) (l1 : List (S104)) (r : Bool) (w : World) (hr0_2 : Kd.C k74 w A0_2 l0_2.length l0_2) (hc0_2 : l0_2.length ≤ c0_2) (hr0_3 : Kd.C (Kd.slice 3 (Kd.int .i64)) w A0_3 l0_3.length l0_3) (hc0_3 : l0_3.length ≤ c0_3) (hr0_4 : Kd.C (Kd.slice 3 (Kd.int .i64)) w A0_4 l0_4.length l0_4) (hc0_4 : l0_4.length ≤ c0_4) (hr1 : Kd.C k104 w A1 l1.length l1) (hc1 : l1.length ≤ c1) (hL : LaidW w) (h : impl_ValidFleet.f k a0_0 a0_1 l0_2 l0_3 l0_4 l1 = some r) :
  Calls Tryd.prog 38 #[.agg #[.int .i64 a0_0, .int .i64 a0_1, .slice A0_2 l0_2.length c0_2, .slice A0_3 l0_3.length c0_3, .slice A0_4 l0_4.length c0_4], .slice A1 l1.length c1] w fun e w' => e = .returned (.bool r) ∧ Below w.heap.size w w' := by
 have hu48 := Tryd.underlying48
 have hu104 := Tryd.underlying104
 have HR0_2 := Aside0.mk hr0_2
 have HC0_2 := Aside0.mk hc0_2
 have HR0_3 := Aside0.mk hr0_3
 have HC0_3 := Aside0.mk hc0_3
 have HR0_4 := Aside0.mk hr0_4
 have HC0_4 := Aside0.mk hc0_4
 have HR1 := Aside0.mk hr1
 have HC1 := Aside0.mk hc1
 have HLD := Aside0.mk hL
 clear hr0_2 hc0_2 hr0_3 hc0_3 hr0_4 hc0_4 hr1 hc1 hL
 unfold impl_ValidFleet.f at h
 obtain ⟨t, A0, H⟩ := Option.bind_eq_some_iff.mp h
 clear h
 have A0_ := Aside0.mk A0
 clear A0
 have HB := Aside0.mk (below_alloc (Below.refl w.heap.size w) (.cells #[.int .i64 a0_0, .int .i64 a0_1, .slice A0_2 l0_2.length c0_2, .slice A0_3 l0_3.length c0_3, .slice A0_4 l0_4.length c0_4] 48 (0, 0)))
 have BK := Aside0.mk (blk_new w (.cells #[.int .i64 a0_0, .int .i64 a0_1, .slice A0_2 l0_2.length c0_2, .slice A0_3 l0_3.length c0_3, .slice A0_4 l0_4.length c0_4] 48 (0, 0)))
 cases t with
 | false =>
  obtain rfl := Option.some.inj H
  go_enter Tryd.func38, Tryd.ntmps38
  go_wp2_with (go_at_call 27; (refine (impl_ValidTables.calls k a0_0 a0_1 _ _ l0_2 _ _ l0_3 _ _ l0_4 _ _ ?s1 ?s2 ?s3 ?s4 ?s5 ?s6 ?s7 A0_.out).mono ?_); (case s1 => exact Kd.C_below HR0_2.out HB.out); (case s2 => exact HC0_2.out); (case s3 => exact Kd.C_below HR0_3.out HB.out); (case s4 => exact HC0_3.out); (case s5 => exact Kd.C_below HR0_4.out HB.out); (case s6 => exact HC0_4.out); (case s7 => exact LaidW.below HLD.out HB.out); rintro e w17 ⟨rfl, hb⟩; have n0_ := Aside0.mk (blk_below BK.out hb); have n1_ := Aside0.mk (below_step HB.out hb); clear BK HB hb; have BK := n0_; have HB := n1_; clear n0_ n1_)
  go_ret
  exact ⟨rfl, HB.out⟩
 | true =>
  rw [if_pos rfl] at H
  by_cases c3 : (l1.length : Int) > 30
  ·rw [if_pos c3] at H
   have c3b0 : decide (30 < (l1.length : Int)) = true := decide_eq_true c3
   clear c3
   obtain rfl := Option.some.inj H
   go_enter Tryd.func38, Tryd.ntmps38
   go_wp2_with (go_at_call 27; (refine (impl_ValidTables.calls k a0_0 a0_1 _ _ l0_2 _ _ l0_3 _ _ l0_4 _ _ ?s1 ?s2 ?s3 ?s4 ?s5 ?s6 ?s7 A0_.out).mono ?_); (case s1 => exact Kd.C_below HR0_2.out HB.out); (case s2 => exact HC0_2.out); (case s3 => exact Kd.C_below HR0_3.out HB.out); (case s4 => exact HC0_3.out); (case s5 => exact Kd.C_below HR0_4.out HB.out); (case s6 => exact HC0_4.out); (case s7 => exact LaidW.below HLD.out HB.out); rintro e w17 ⟨rfl, hb⟩; have n0_ := Aside0.mk (blk_below BK.out hb); have n1_ := Aside0.mk (below_step HB.out hb); clear BK HB hb; have BK := n0_; have HB := n1_; clear n0_ n1_)
   go_ret
   exact ⟨rfl, HB.out⟩
  ·rw [if_neg c3] at H
   have c3b0 : decide (30 < (l1.length : Int)) = false := decide_eq_false c3
   have HL30 := Aside0.mk (show (l1.length : Int) ≤ 30 by omega)
   clear c3
   have H' := Aside0.mk H
   clear H
   have hmm := @run_makeMap Tryd.prog
   go_enter Tryd.func38, Tryd.ntmps38
   go_wp2_with (go_at_call 27; (refine (impl_ValidTables.calls k a0_0 a0_1 _ _ l0_2 _ _ l0_3 _ _ l0_4 _ _ ?s1 ?s2 ?s3 ?s4 ?s5 ?s6 ?s7 A0_.out).mono ?_); (case s1 => exact Kd.C_below HR0_2.out HB.out); (case s2 => exact HC0_2.out); (case s3 => exact Kd.C_below HR0_3.out HB.out); (case s4 => exact HC0_3.out); (case s5 => exact Kd.C_below HR0_4.out HB.out); (case s6 => exact HC0_4.out); (case s7 => exact LaidW.below HLD.out HB.out); rintro e w17 ⟨rfl, hb⟩; have n0_ := Aside0.mk (blk_below BK.out hb); have n1_ := Aside0.mk (below_step HB.out hb); clear BK HB hb; have BK := n0_; have HB := n1_; clear n0_ n1_)
   clear hmm
   have MB := Aside0.mk (blk_lt BK.out)
   go_loopg [21] k (fun kq v21 w' => ∃ (i : Int) (m : List (Int × Int)), v21 = .int .i64 i ∧ Aside0 (impl_ValidFleet.l kq a0_0 a0_1 l0_2 l0_3 l0_4 l1 i m = some r) ∧ Aside0 (kq ≤ k) ∧ Aside0 (0 ≤ i ∧ i ≤ (l1.length : Int)) ∧ Aside0 (IntMap Tryd.prog 3 3 w' w17.heap.size i.toNat m) ∧ Aside0 (w'.heap[w.heap.size]? = some (.cells #[.int .i64 a0_0, .int .i64 a0_1, .slice A0_2 l0_2.length c0_2, .slice A0_3 l0_3.length c0_3, .slice A0_4 l0_4.length c0_4] 48 (0, 0))) ∧ Aside0 (Below w.heap.size w w'))
   case atStart => exact ⟨0, [], rfl, H', ⟨Nat.le_refl _⟩, ⟨by omega⟩, ⟨IntMap.made _ _ _ _⟩, ⟨blk_alloc BK.out _⟩, ⟨below_alloc HB.out _⟩⟩
   case round =>
    clear H' HB BK A0_
    obtain ⟨i, m, rfl, HA, HK1, HI, HM, BT, HB⟩ := hrel
    cases gk with
    | zero => exact absurd HA.out (by simp [impl_ValidFleet.l])
    | succ k1 =>
     have H := HA.out
     clear HA
     simp only [impl_ValidFleet.l] at H
     by_cases c4 : i < (l1.length : Int)
     ·rw [if_pos c4] at H
      have c4b0 : decide (i < (l1.length : Int)) = true := decide_eq_true c4
      obtain ⟨b, A1_, H⟩ := Option.bind_eq_some_iff.mp H
      have A13 := Aside0.mk A1_
      clear A1_
      have H' := Aside0.mk H
      clear H
      have p133 : 0 ≤ (i : Int) := HI.out.1
      have q133 : i < (l1.length : Int) := c4
      clear c4
      obtain ⟨ad, e133, hx0, hx1, hx2, hx3, hx4⟩ := at_T104 HR1.out i p133 q133
      cases e133
      replace hx0 := (HB.out.cell (World.block_lt_of_cell? w _ hx0)).trans hx0
      replace hx1 := (HB.out.cell (World.block_lt_of_cell? w _ hx1)).trans hx1
      replace hx2 := (HB.out.cell (World.block_lt_of_cell? w _ hx2)).trans hx2
      replace hx3 := (HB.out.cell (World.block_lt_of_cell? w _ hx3)).trans hx3
      replace hx4 := (HB.out.cell (World.block_lt_of_cell? w _ hx4)).trans hx4
      replace p133 := eq_true p133
      replace q133 := eq_true q133
      go_upto_region 7 with (fail)
      have HB2 := Aside0.mk (below_alloc HB.out (.cells #[.int .i64 (rd_T104 l1 i).f0, .int .i64 (rd_T104 l1 i).f1, .int .i64 (rd_T104 l1 i).f2, .int .i64 (rd_T104 l1 i).f3, .bool (rd_T104 l1 i).f4] 104 (0, 0)))
      have BK2 := Aside0.mk (blk_new wr (.cells #[.int .i64 (rd_T104 l1 i).f0, .int .i64 (rd_T104 l1 i).f1, .int .i64 (rd_T104 l1 i).f2, .int .i64 (rd_T104 l1 i).f3, .bool (rd_T104 l1 i).f4] 104 (0, 0)))
      have BT2 := Aside0.mk (blk_alloc BT.out (.cells #[.int .i64 (rd_T104 l1 i).f0, .int .i64 (rd_T104 l1 i).f1, .int .i64 (rd_T104 l1 i).f2, .int .i64 (rd_T104 l1 i).f3, .bool (rd_T104 l1 i).f4] 104 (0, 0)))
      have HM2 := Aside0.mk (HM.out.alloc (.cells #[.int .i64 (rd_T104 l1 i).f0, .int .i64 (rd_T104 l1 i).f1, .int .i64 (rd_T104 l1 i).f2, .int .i64 (rd_T104 l1 i).f3, .bool (rd_T104 l1 i).f4] 104 (0, 0)))
      have tc0 : (wr.alloc (.cells #[.int .i64 (rd_T104 l1 i).f0, .int .i64 (rd_T104 l1 i).f1, .int .i64 (rd_T104 l1 i).f2, .int .i64 (rd_T104 l1 i).f3, .bool (rd_T104 l1 i).f4] 104 (0, 0))).cell? ⟨w.heap.size, 0, none⟩ = some (.int .i64 a0_0) := (blk_cell BT2.out 0).trans rfl
      have tc1 : (wr.alloc (.cells #[.int .i64 (rd_T104 l1 i).f0, .int .i64 (rd_T104 l1 i).f1, .int .i64 (rd_T104 l1 i).f2, .int .i64 (rd_T104 l1 i).f3, .bool (rd_T104 l1 i).f4] 104 (0, 0))).cell? ⟨w.heap.size, 1, none⟩ = some (.int .i64 a0_1) := (blk_cell BT2.out 1).trans rfl
      have tc2 : (wr.alloc (.cells #[.int .i64 (rd_T104 l1 i).f0, .int .i64 (rd_T104 l1 i).f1, .int .i64 (rd_T104 l1 i).f2, .int .i64 (rd_T104 l1 i).f3, .bool (rd_T104 l1 i).f4] 104 (0, 0))).cell? ⟨w.heap.size, 2, none⟩ = some (.slice A0_2 l0_2.length c0_2) := (blk_cell BT2.out 2).trans rfl
      have tc3 : (wr.alloc (.cells #[.int .i64 (rd_T104 l1 i).f0, .int .i64 (rd_T104 l1 i).f1, .int .i64 (rd_T104 l1 i).f2, .int .i64 (rd_T104 l1 i).f3, .bool (rd_T104 l1 i).f4] 104 (0, 0))).cell? ⟨w.heap.size, 3, none⟩ = some (.slice A0_3 l0_3.length c0_3) := (blk_cell BT2.out 3).trans rfl
      have tc4 : (wr.alloc (.cells #[.int .i64 (rd_T104 l1 i).f0, .int .i64 (rd_T104 l1 i).f1, .int .i64 (rd_T104 l1 i).f2, .int .i64 (rd_T104 l1 i).f3, .bool (rd_T104 l1 i).f4] 104 (0, 0))).cell? ⟨w.heap.size, 4, none⟩ = some (.slice A0_4 l0_4.length c0_4) := (blk_cell BT2.out 4).trans rfl
      have rc0 : (wr.alloc (.cells #[.int .i64 (rd_T104 l1 i).f0, .int .i64 (rd_T104 l1 i).f1, .int .i64 (rd_T104 l1 i).f2, .int .i64 (rd_T104 l1 i).f3, .bool (rd_T104 l1 i).f4] 104 (0, 0))).cell? ⟨wr.heap.size, 0, none⟩ = some (.int .i64 (rd_T104 l1 i).f0) := (blk_cell BK2.out 0).trans rfl
      have rc1 : (wr.alloc (.cells #[.int .i64 (rd_T104 l1 i).f0, .int .i64 (rd_T104 l1 i).f1, .int .i64 (rd_T104 l1 i).f2, .int .i64 (rd_T104 l1 i).f3, .bool (rd_T104 l1 i).f4] 104 (0, 0))).cell? ⟨wr.heap.size, 1, none⟩ = some (.int .i64 (rd_T104 l1 i).f1) := (blk_cell BK2.out 1).trans rfl
      have rc2 : (wr.alloc (.cells #[.int .i64 (rd_T104 l1 i).f0, .int .i64 (rd_T104 l1 i).f1, .int .i64 (rd_T104 l1 i).f2, .int .i64 (rd_T104 l1 i).f3, .bool (rd_T104 l1 i).f4] 104 (0, 0))).cell? ⟨wr.heap.size, 2, none⟩ = some (.int .i64 (rd_T104 l1 i).f2) := (blk_cell BK2.out 2).trans rfl
      have rc3 : (wr.alloc (.cells #[.int .i64 (rd_T104 l1 i).f0, .int .i64 (rd_T104 l1 i).f1, .int .i64 (rd_T104 l1 i).f2, .int .i64 (rd_T104 l1 i).f3, .bool (rd_T104 l1 i).f4] 104 (0, 0))).cell? ⟨wr.heap.size, 3, none⟩ = some (.int .i64 (rd_T104 l1 i).f3) := (blk_cell BK2.out 3).trans rfl
      have rc4 : (wr.alloc (.cells #[.int .i64 (rd_T104 l1 i).f0, .int .i64 (rd_T104 l1 i).f1, .int .i64 (rd_T104 l1 i).f2, .int .i64 (rd_T104 l1 i).f3, .bool (rd_T104 l1 i).f4] 104 (0, 0))).cell? ⟨wr.heap.size, 4, none⟩ = some (.bool (rd_T104 l1 i).f4) := (blk_cell BK2.out 4).trans rfl
      go_cut [52] from 26 (fun v52 wc => v52 = .bool b ∧ Aside0 (wc.heap[wr.heap.size]? = some (.cells #[.int .i64 (rd_T104 l1 i).f0, .int .i64 (rd_T104 l1 i).f1, .int .i64 (rd_T104 l1 i).f2, .int .i64 (rd_T104 l1 i).f3, .bool (rd_T104 l1 i).f4] 104 (0, 0))) ∧ Aside0 (IntMap Tryd.prog 3 3 wc w17.heap.size i.toNat m) ∧ Aside0 (wc.heap[w.heap.size]? = some (.cells #[.int .i64 a0_0, .int .i64 a0_1, .slice A0_2 l0_2.length c0_2, .slice A0_3 l0_3.length c0_3, .slice A0_4 l0_4.length c0_4] 48 (0, 0))) ∧ Aside0 (Below w.heap.size w wc))
      case first =>
       clear H'
       have A := A13.out
       clear A13
       unfold impl_ValidFleet.bad at A
       obtain ⟨t, A0, A1⟩ := Option.bind_eq_some_iff.mp A
       have A0_ := Aside0.mk A0
       have E := Aside0.mk (Option.some.inj A1)
       clear A A0 A1
       have FIN : (!t || decide ((rd_T104 l1 i).f2 < 0) || decide ((rd_T104 l1 i).f2 > 1000000) || decide ((rd_T104 l1 i).f3 < 0) || decide ((rd_T104 l1 i).f3 > 1000000)) = b := E.out
       clear E
       cases t with
       | false =>
        have EE := Aside0.mk True.intro
        go_wp2_with (go_at_call 76; refine (impl_Tables_there.calls a0_0 a0_1 _ _ l0_2 _ _ l0_3 _ _ l0_4 (rd_T104 l1 i).f1 (rd_T104 l1 i).f0 _ _ (Kd.C_below HR0_2.out HB2.out) HC0_2.out (Kd.C_below HR0_3.out HB2.out) HC0_3.out (Kd.C_below HR0_4.out HB2.out) HC0_4.out A0_.out).mono ?_; rintro e w18 ⟨rfl, hb⟩; have n0_ := Aside0.mk (blk_below BK2.out hb); have n1_ := Aside0.mk (IntMap.below HM2.out hb); have n2_ := Aside0.mk (below_step HB2.out hb); have n3_ := Aside0.mk (blk_below BT2.out hb); clear BK2 HM2 HB2 BT2 hb; have BK2 := n0_; have HM2 := n1_; have HB2 := n2_; have BT2 := n3_; clear n0_ n1_ n2_ n3_; have sc2 : w18.cell? ⟨wr.heap.size, 2, none⟩ = some (.int .i64 (rd_T104 l1 i).f2) := (blk_cell BK2.out 2).trans rfl; have sc3 : w18.cell? ⟨wr.heap.size, 3, none⟩ = some (.int .i64 (rd_T104 l1 i).f3) := (blk_cell BK2.out 3).trans rfl)
        go_meet
        case rel => exact ⟨(by first | (rw [← FIN]; simp [EE.out]; done) | (rw [← FIN]; simp; have := EE.out; omega) | (rw [← FIN]; simp; have := EE.out; intros; omega)), BK2, HM2, BT2, HB2⟩
       | true =>
        by_cases e2 : (rd_T104 l1 i).f2 < 0
        ·have e2b := decide_eq_true e2
         have EE := Aside0.mk e2
         clear e2
         go_wp2_with (go_at_call 76; refine (impl_Tables_there.calls a0_0 a0_1 _ _ l0_2 _ _ l0_3 _ _ l0_4 (rd_T104 l1 i).f1 (rd_T104 l1 i).f0 _ _ (Kd.C_below HR0_2.out HB2.out) HC0_2.out (Kd.C_below HR0_3.out HB2.out) HC0_3.out (Kd.C_below HR0_4.out HB2.out) HC0_4.out A0_.out).mono ?_; rintro e w18 ⟨rfl, hb⟩; have n0_ := Aside0.mk (blk_below BK2.out hb); have n1_ := Aside0.mk (IntMap.below HM2.out hb); have n2_ := Aside0.mk (below_step HB2.out hb); have n3_ := Aside0.mk (blk_below BT2.out hb); clear BK2 HM2 HB2 BT2 hb; have BK2 := n0_; have HM2 := n1_; have HB2 := n2_; have BT2 := n3_; clear n0_ n1_ n2_ n3_; have sc2 : w18.cell? ⟨wr.heap.size, 2, none⟩ = some (.int .i64 (rd_T104 l1 i).f2) := (blk_cell BK2.out 2).trans rfl; have sc3 : w18.cell? ⟨wr.heap.size, 3, none⟩ = some (.int .i64 (rd_T104 l1 i).f3) := (blk_cell BK2.out 3).trans rfl)
         go_meet
         case rel => exact ⟨(by first | (rw [← FIN]; simp [EE.out]; done) | (rw [← FIN]; simp; have := EE.out; omega) | (rw [← FIN]; simp; have := EE.out; intros; omega)), BK2, HM2, BT2, HB2⟩
        ·have e2b := decide_eq_false e2
         by_cases e3 : (rd_T104 l1 i).f2 > 1000000
         ·have e3b : decide (1000000 < (rd_T104 l1 i).f2) = true := decide_eq_true e3
          have EE := Aside0.mk e3
          clear e2 e3
          go_wp2_with (go_at_call 76; refine (impl_Tables_there.calls a0_0 a0_1 _ _ l0_2 _ _ l0_3 _ _ l0_4 (rd_T104 l1 i).f1 (rd_T104 l1 i).f0 _ _ (Kd.C_below HR0_2.out HB2.out) HC0_2.out (Kd.C_below HR0_3.out HB2.out) HC0_3.out (Kd.C_below HR0_4.out HB2.out) HC0_4.out A0_.out).mono ?_; rintro e w18 ⟨rfl, hb⟩; have n0_ := Aside0.mk (blk_below BK2.out hb); have n1_ := Aside0.mk (IntMap.below HM2.out hb); have n2_ := Aside0.mk (below_step HB2.out hb); have n3_ := Aside0.mk (blk_below BT2.out hb); clear BK2 HM2 HB2 BT2 hb; have BK2 := n0_; have HM2 := n1_; have HB2 := n2_; have BT2 := n3_; clear n0_ n1_ n2_ n3_; have sc2 : w18.cell? ⟨wr.heap.size, 2, none⟩ = some (.int .i64 (rd_T104 l1 i).f2) := (blk_cell BK2.out 2).trans rfl; have sc3 : w18.cell? ⟨wr.heap.size, 3, none⟩ = some (.int .i64 (rd_T104 l1 i).f3) := (blk_cell BK2.out 3).trans rfl)
          go_meet
          case rel => exact ⟨(by first | (rw [← FIN]; simp [EE.out]; done) | (rw [← FIN]; simp; have := EE.out; omega) | (rw [← FIN]; simp; have := EE.out; intros; omega)), BK2, HM2, BT2, HB2⟩
         ·have e3b : decide (1000000 < (rd_T104 l1 i).f2) = false := decide_eq_false e3
          by_cases e4 : (rd_T104 l1 i).f3 < 0
          ·have e4b := decide_eq_true e4
           have EE := Aside0.mk e4
           clear e2 e3 e4
           go_wp2_with (go_at_call 76; refine (impl_Tables_there.calls a0_0 a0_1 _ _ l0_2 _ _ l0_3 _ _ l0_4 (rd_T104 l1 i).f1 (rd_T104 l1 i).f0 _ _ (Kd.C_below HR0_2.out HB2.out) HC0_2.out (Kd.C_below HR0_3.out HB2.out) HC0_3.out (Kd.C_below HR0_4.out HB2.out) HC0_4.out A0_.out).mono ?_; rintro e w18 ⟨rfl, hb⟩; have n0_ := Aside0.mk (blk_below BK2.out hb); have n1_ := Aside0.mk (IntMap.below HM2.out hb); have n2_ := Aside0.mk (below_step HB2.out hb); have n3_ := Aside0.mk (blk_below BT2.out hb); clear BK2 HM2 HB2 BT2 hb; have BK2 := n0_; have HM2 := n1_; have HB2 := n2_; have BT2 := n3_; clear n0_ n1_ n2_ n3_; have sc2 : w18.cell? ⟨wr.heap.size, 2, none⟩ = some (.int .i64 (rd_T104 l1 i).f2) := (blk_cell BK2.out 2).trans rfl; have sc3 : w18.cell? ⟨wr.heap.size, 3, none⟩ = some (.int .i64 (rd_T104 l1 i).f3) := (blk_cell BK2.out 3).trans rfl)
           go_meet
           case rel => exact ⟨(by first | (rw [← FIN]; simp [EE.out]; done) | (rw [← FIN]; simp; have := EE.out; omega) | (rw [← FIN]; simp; have := EE.out; intros; omega)), BK2, HM2, BT2, HB2⟩
          ·have e4b := decide_eq_false e4
           have EE := Aside0.mk (show 0 ≤ (rd_T104 l1 i).f2 ∧ (rd_T104 l1 i).f2 ≤ 1000000 ∧ 0 ≤ (rd_T104 l1 i).f3 by omega)
           clear e2 e3 e4
           go_wp2_with (go_at_call 76; refine (impl_Tables_there.calls a0_0 a0_1 _ _ l0_2 _ _ l0_3 _ _ l0_4 (rd_T104 l1 i).f1 (rd_T104 l1 i).f0 _ _ (Kd.C_below HR0_2.out HB2.out) HC0_2.out (Kd.C_below HR0_3.out HB2.out) HC0_3.out (Kd.C_below HR0_4.out HB2.out) HC0_4.out A0_.out).mono ?_; rintro e w18 ⟨rfl, hb⟩; have n0_ := Aside0.mk (blk_below BK2.out hb); have n1_ := Aside0.mk (IntMap.below HM2.out hb); have n2_ := Aside0.mk (below_step HB2.out hb); have n3_ := Aside0.mk (blk_below BT2.out hb); clear BK2 HM2 HB2 BT2 hb; have BK2 := n0_; have HM2 := n1_; have HB2 := n2_; have BT2 := n3_; clear n0_ n1_ n2_ n3_; have sc2 : w18.cell? ⟨wr.heap.size, 2, none⟩ = some (.int .i64 (rd_T104 l1 i).f2) := (blk_cell BK2.out 2).trans rfl; have sc3 : w18.cell? ⟨wr.heap.size, 3, none⟩ = some (.int .i64 (rd_T104 l1 i).f3) := (blk_cell BK2.out 3).trans rfl)
           go_meet
           case rel => exact ⟨(by first | (rw [← FIN]; simp [EE.out]; done) | (rw [← FIN]; simp; have := EE.out; omega) | (rw [← FIN]; simp; have := EE.out; intros; omega)), BK2, HM2, BT2, HB2⟩
      case rest =>
       clear HB BT BK2 HM HM2 HB2 BT2 tc0 rc0 tc1 rc1 tc2 rc2 tc3 rc3 tc4 rc4
       obtain ⟨rfl, BK, HM, BT, HB⟩ := hcut
       have H := H'.out
       clear H'
       have rc0 : wc.cell? ⟨wr.heap.size, 0, none⟩ = some (.int .i64 (rd_T104 l1 i).f0) := (blk_cell BK.out 0).trans rfl
       have rc1 : wc.cell? ⟨wr.heap.size, 1, none⟩ = some (.int .i64 (rd_T104 l1 i).f1) := (blk_cell BK.out 1).trans rfl
       have rc2 : wc.cell? ⟨wr.heap.size, 2, none⟩ = some (.int .i64 (rd_T104 l1 i).f2) := (blk_cell BK.out 2).trans rfl
       have rc3 : wc.cell? ⟨wr.heap.size, 3, none⟩ = some (.int .i64 (rd_T104 l1 i).f3) := (blk_cell BK.out 3).trans rfl
       have rc4 : wc.cell? ⟨wr.heap.size, 4, none⟩ = some (.bool (rd_T104 l1 i).f4) := (blk_cell BK.out 4).trans rfl
       cases b with
       | true =>
        clear A13
        rw [if_pos rfl] at H
        obtain rfl := Option.some.inj H
        go_wp2
        go_ret
        exact ⟨rfl, HB.out⟩
       | false =>
        rw [if_neg (by decide)] at H
        have HC := Aside0.mk (impl_ValidFleet.bad_cell A13.out)
        clear A13
        cases hd : (rd_T104 l1 i).f4 with
        | true =>
         rw [hd, if_pos rfl] at H
         rw [hd] at rc4
         have H' := Aside0.mk H
         clear H
         go_wp2
         go_roundg k1
         case measure => have := HK1.out; omega
         case rel => exact ⟨i + 1, m, by have := HI.out; have := HL30.out; rw [show wrap64 (i + 1) = i + 1 by unfold wrap64; omega], H', ⟨by have := HK1.out; omega⟩, ⟨by have := HI.out; have := of_eq_true q133; omega⟩, ⟨by have := HI.out; obtain ⟨n_, D_, a_, b_⟩ := HM.out; exact ⟨n_, D_, by omega, b_⟩⟩, BT, HB⟩
        | false =>
         rw [hd, if_neg (by decide)] at H
         rw [hd] at rc4
         have W2 := Aside0.mk (impl_ValidFleet.wf (c := (rd_T104 l1 i).f0) HC.out.1 HC.out.2)
         have zero3 : (zeroValue 3).run Tryd.prog wc = .ok (.int .i64 0) wc := by kernel_rfl
         have Z3 := Aside0.mk zero3
         clear zero3
         by_cases ct : (mget m (rd_T104 l1 i).f0).isSome = true
         ·rw [if_pos ct] at H
          obtain rfl := Option.some.inj H
          go_wp2_with (refine wpList_imap_look rfl (.tmp 56) (.tmp 58) rfl Tryd.underlying107 Tryd.underlying3 Tryd.underlying3 Z3.out HM.out rfl (rd_T104 l1 i).f0 rfl W2.out ?_)
          go_ret
          exact ⟨rfl, HB.out⟩
         ·rw [if_neg ct] at H
          have ct' : (mget m (rd_T104 l1 i).f0).isSome = false := by simpa using ct
          clear ct
          have H' := Aside0.mk H
          clear H
          go_wp2_with (first | (refine wpList_imap_look rfl (.tmp 56) (.tmp 58) rfl Tryd.underlying107 Tryd.underlying3 Tryd.underlying3 Z3.out HM.out rfl (rd_T104 l1 i).f0 rfl W2.out ?_) | (refine wpList_imap_put rfl (.tmp 63) (.tmp 65) (.tmp 66) rfl Tryd.underlying107 Tryd.underlying3 Tryd.underlying3 HM.out (by have := HI.out; have := HL30.out; simp only [maxLen]; omega) rfl (rd_T104 l1 i).f0 i rfl rfl W2.out (impl_ValidFleet.wf HI.out.1 (by have := HI.out; have := HL30.out; omega)) ?_; intro w20 HM2 hg; have HM3 := Aside0.mk HM2; have HB3 := Aside0.mk (Below.grown HB.out hg HB.out.size (fun k hk => by injection hk with hk; have := MB.out; omega)); have BT3 := Aside0.mk (blk_grown BT.out hg (fun h_ => by injection h_ with h_; have := MB.out; omega)); clear HM HB HM2 hg BK BT))
          go_roundg k1
          case measure => have := HK1.out; omega
          case rel => exact ⟨i + 1, _, by have := HI.out; have := HL30.out; rw [show wrap64 (i + 1) = i + 1 by unfold wrap64; omega], H', ⟨by have := HK1.out; omega⟩, ⟨by have := HI.out; have := of_eq_true q133; omega⟩, ⟨by have := HI.out; rw [show (i + 1).toNat = i.toNat + 1 by omega]; exact HM3.out⟩, BT3, HB3⟩
     ·rw [if_neg c4] at H
      have c4b0 : decide (i < (l1.length : Int)) = false := decide_eq_false c4
      clear c4
      obtain rfl := Option.some.inj H
      go_wp2
      go_ret
      exact ⟨rfl, HB.out⟩

end Go.Proofs.YtiboccbaaphbhaaDoor.PFnExactValidFleet
