-- made by wip/tools/myprint.py (this session's own program, over the kit's printer)
import Derived.Test.YtiboccbaaphbhaaDoorPFnExactValidLayoutx0
import Derived.Test.YtiboccbaaphbhaaDoorPFnExactValidLayoutx3
import Derived.Test.YtiboccbaaphbhaaDoorPFnExactValidLayoutx4
namespace Go.Proofs.YtiboccbaaphbhaaDoor.PFnExactValidLayout
open Go.RowKit Go.Proofs.YtiboccbaaphbhaaDoorW.PrintWords Go.Proofs.YtiboccbaaphbhaaDoorW.PrintLast Go.Proofs.YtiboccbaaphbhaaDoorW.PrintMore
attribute [local go_sem] max2_int min2_int max_two min_two max_three min_three max_four min_four   -- for this text's walks alone
set_option linter.unusedVariables false
set_option linter.unusedSimpArgs false

/-! ### spec_ValidLayout: function 16 -/
mutual
def spec_ValidLayout.j0 : Nat → Bool → Int → Int → List Int → List Int → List (S74) → Option (Bool)
 | 0, _, _, _, _, _, _ => none
 | k + 1, x26, x140000, x140001, x140002, x140003, x140004 => if x26 = true then (some false) else (if (x140002.length : Int) = (wrap64 (x140000 * x140001)) then (if (x140003.length : Int) = (wrap64 (x140000 * x140001)) then ((spec_l4targetsOK.f k x140004 (wrap64 (x140000 * x140001))).bind fun t140 => (spec_ValidLayout.j1 k (wrap64 (x140000 * x140001)) (!t140) x140000 x140001 x140002 x140003 x140004)) else (spec_ValidLayout.j1 k (wrap64 (x140000 * x140001)) true x140000 x140001 x140002 x140003 x140004)) else (spec_ValidLayout.j1 k (wrap64 (x140000 * x140001)) true x140000 x140001 x140002 x140003 x140004))
def spec_ValidLayout.j1 : Nat → Int → Bool → Int → Int → List Int → List Int → List (S74) → Option (Bool)
 | 0, _, _, _, _, _, _, _ => none
 | k + 1, x3, x50, x140000, x140001, x140002, x140003, x140004 => if x50 = true then (some false) else (spec_ValidLayout.l0 k x3 0 x140000 x140001 x140002 x140003 x140004)
def spec_ValidLayout.l0 : Nat → Int → Int → Int → Int → List Int → List Int → List (S74) → Option (Bool)
 | 0, _, _, _, _, _, _, _ => none
 | k + 1, x3, x4, x140000, x140001, x140002, x140003, x140004 => if x4 < x3 then (if 0 ≤ x4 then (if x4 < (x140002.length : Int) then (if (rd x140002 x4) < 0 then (spec_ValidLayout.j3 k x3 x4 true x140000 x140001 x140002 x140003 x140004) else (if (rd x140002 x4) > 9 then (spec_ValidLayout.j3 k x3 x4 true x140000 x140001 x140002 x140003 x140004) else (if x4 < (x140003.length : Int) then (if (rd x140003 x4) < 0 then (spec_ValidLayout.j3 k x3 x4 true x140000 x140001 x140002 x140003 x140004) else (if (rd x140003 x4) > 15 then (spec_ValidLayout.j3 k x3 x4 true x140000 x140001 x140002 x140003 x140004) else (if (rd x140002 x4) = 0 then (spec_ValidLayout.j3 k x3 x4 ((rd x140003 x4) != 0) x140000 x140001 x140002 x140003 x140004) else (spec_ValidLayout.j3 k x3 x4 false x140000 x140001 x140002 x140003 x140004)))) else (none)))) else (none)) else (none)) else (spec_ValidLayout.l2 k 0 x140000 x140001 x140002 x140003 x140004)
def spec_ValidLayout.j3 : Nat → Int → Int → Bool → Int → Int → List Int → List Int → List (S74) → Option (Bool)
 | 0, _, _, _, _, _, _, _, _ => none
 | k + 1, x3, x4, x101, x140000, x140001, x140002, x140003, x140004 => if x101 = true then (some false) else (if 0 ≤ x4 then (if x4 < (x140003.length : Int) then ((spec_l4bits.f k (rd x140003 x4)).bind fun t148 => (spec_ValidLayout.l1 k x3 x4 t148 0 x140000 x140001 x140002 x140003 x140004)) else (none)) else (none))
def spec_ValidLayout.l1 : Nat → Int → Int → List Bool → Int → Int → Int → List Int → List Int → List (S74) → Option (Bool)
 | 0, _, _, _, _, _, _, _, _, _ => none
 | k + 1, x3, x4, x5, x6, x140000, x140001, x140002, x140003, x140004 => if x6 < 4 then ((spec_l4to.f x140000 x140001 x4 x6).bind fun t151 => (if 0 ≤ x6 then (if x6 < (x5.length : Int) then (if rdOf false x5 x6 = true then (if t151 < 0 then (some false) else (if 0 ≤ t151 then (if t151 < (x140002.length : Int) then (if (rd x140002 t151) = 0 then (some false) else (spec_ValidLayout.l1 k x3 x4 x5 (wrap64 (x6 + 1)) x140000 x140001 x140002 x140003 x140004)) else (none)) else (none))) else (spec_ValidLayout.l1 k x3 x4 x5 (wrap64 (x6 + 1)) x140000 x140001 x140002 x140003 x140004)) else (none)) else (none))) else (spec_ValidLayout.l0 k x3 (wrap64 (x4 + 1)) x140000 x140001 x140002 x140003 x140004)
def spec_ValidLayout.l2 : Nat → Int → Int → Int → List Int → List Int → List (S74) → Option (Bool)
 | 0, _, _, _, _, _, _ => none
 | k + 1, x8, x140000, x140001, x140002, x140003, x140004 => if x8 < (x140004.length : Int) then (if 0 ≤ x8 then (if 0 ≤ ((rd_T74 x140004 x8).f2) then (if ((rd_T74 x140004 x8).f2) < (x140002.length : Int) then (if (rd x140002 ((rd_T74 x140004 x8).f2)) = 0 then (some false) else (spec_ValidLayout.l2 k (wrap64 (x8 + 1)) x140000 x140001 x140002 x140003 x140004)) else (none)) else (none)) else (none)) else (some true)
end
def spec_ValidLayout.f (k : Nat) (a0_0 : Int) (a0_1 : Int) (l0_2 : List Int) (l0_3 : List Int) (l0_4 : List (S74)) : Option (Bool) := if a0_0 < 1 then (spec_ValidLayout.j0 k true a0_0 a0_1 l0_2 l0_3 l0_4) else (if a0_0 > 40 then (spec_ValidLayout.j0 k true a0_0 a0_1 l0_2 l0_3 l0_4) else (if a0_1 < 1 then (spec_ValidLayout.j0 k true a0_0 a0_1 l0_2 l0_3 l0_4) else (spec_ValidLayout.j0 k (decide (a0_1 > 40)) a0_0 a0_1 l0_2 l0_3 l0_4)))
theorem spec_ValidLayout.mono_l : ∀ k, (∀ y0 y1 y2 y3 y4 y5, LeO (spec_ValidLayout.j0 k y0 y1 y2 y3 y4 y5) (spec_ValidLayout.j0 (k + 1) y0 y1 y2 y3 y4 y5)) ∧ (∀ y0 y1 y2 y3 y4 y5 y6, LeO (spec_ValidLayout.j1 k y0 y1 y2 y3 y4 y5 y6) (spec_ValidLayout.j1 (k + 1) y0 y1 y2 y3 y4 y5 y6)) ∧ (∀ y0 y1 y2 y3 y4 y5 y6, LeO (spec_ValidLayout.l0 k y0 y1 y2 y3 y4 y5 y6) (spec_ValidLayout.l0 (k + 1) y0 y1 y2 y3 y4 y5 y6)) ∧ (∀ y0 y1 y2 y3 y4 y5 y6 y7, LeO (spec_ValidLayout.j3 k y0 y1 y2 y3 y4 y5 y6 y7) (spec_ValidLayout.j3 (k + 1) y0 y1 y2 y3 y4 y5 y6 y7)) ∧ (∀ y0 y1 y2 y3 y4 y5 y6 y7 y8, LeO (spec_ValidLayout.l1 k y0 y1 y2 y3 y4 y5 y6 y7 y8) (spec_ValidLayout.l1 (k + 1) y0 y1 y2 y3 y4 y5 y6 y7 y8)) ∧ (∀ y0 y1 y2 y3 y4 y5, LeO (spec_ValidLayout.l2 k y0 y1 y2 y3 y4 y5) (spec_ValidLayout.l2 (k + 1) y0 y1 y2 y3 y4 y5))
 | 0 => ⟨fun _ _ _ _ _ _ r h => by simp [spec_ValidLayout.j0] at h, fun _ _ _ _ _ _ _ r h => by simp [spec_ValidLayout.j1] at h, fun _ _ _ _ _ _ _ r h => by simp [spec_ValidLayout.l0] at h, fun _ _ _ _ _ _ _ _ r h => by simp [spec_ValidLayout.j3] at h, fun _ _ _ _ _ _ _ _ _ r h => by simp [spec_ValidLayout.l1] at h, fun _ _ _ _ _ _ r h => by simp [spec_ValidLayout.l2] at h⟩
 | k + 1 => by
  obtain ⟨ih0, ih1, ih2, ih3, ih4, ih5⟩ := spec_ValidLayout.mono_l k
  refine ⟨?_, ?_, ?_, ?_, ?_, ?_⟩
  ·intro y0 y1 y2 y3 y4 y5
   unfold spec_ValidLayout.j0
   repeat' first
   | (with_reducible exact ih0 _ _ _ _ _ _)
   | (with_reducible exact ih1 _ _ _ _ _ _ _)
   | (with_reducible exact ih2 _ _ _ _ _ _ _)
   | (with_reducible exact ih3 _ _ _ _ _ _ _ _)
   | (with_reducible exact ih4 _ _ _ _ _ _ _ _ _)
   | (with_reducible exact ih5 _ _ _ _ _ _)
   | (with_reducible exact spec_l4bits.mono _ _)
   | (with_reducible exact spec_l4targetsOK.mono _ _ _)
   | (with_reducible exact LeO.refl _)
   | (with_reducible exact LeO.none _)
   | (with_reducible refine LeO.ite ?_ ?_)
   | (with_reducible refine LeO.bind ?_ (fun _ => ?_))
   | exact LeO.none _
   | refine LeO.ite ?_ ?_
   | refine LeO.bind ?_ (fun _ => ?_)
  ·intro y0 y1 y2 y3 y4 y5 y6
   unfold spec_ValidLayout.j1
   repeat' first
   | (with_reducible exact ih0 _ _ _ _ _ _)
   | (with_reducible exact ih1 _ _ _ _ _ _ _)
   | (with_reducible exact ih2 _ _ _ _ _ _ _)
   | (with_reducible exact ih3 _ _ _ _ _ _ _ _)
   | (with_reducible exact ih4 _ _ _ _ _ _ _ _ _)
   | (with_reducible exact ih5 _ _ _ _ _ _)
   | (with_reducible exact spec_l4bits.mono _ _)
   | (with_reducible exact spec_l4targetsOK.mono _ _ _)
   | (with_reducible exact LeO.refl _)
   | (with_reducible exact LeO.none _)
   | (with_reducible refine LeO.ite ?_ ?_)
   | (with_reducible refine LeO.bind ?_ (fun _ => ?_))
   | exact LeO.none _
   | refine LeO.ite ?_ ?_
   | refine LeO.bind ?_ (fun _ => ?_)
  ·intro y0 y1 y2 y3 y4 y5 y6
   unfold spec_ValidLayout.l0
   repeat' first
   | (with_reducible exact ih0 _ _ _ _ _ _)
   | (with_reducible exact ih1 _ _ _ _ _ _ _)
   | (with_reducible exact ih2 _ _ _ _ _ _ _)
   | (with_reducible exact ih3 _ _ _ _ _ _ _ _)
   | (with_reducible exact ih4 _ _ _ _ _ _ _ _ _)
   | (with_reducible exact ih5 _ _ _ _ _ _)
   | (with_reducible exact spec_l4bits.mono _ _)
   | (with_reducible exact spec_l4targetsOK.mono _ _ _)
   | (with_reducible exact LeO.refl _)
   | (with_reducible exact LeO.none _)
   | (with_reducible refine LeO.ite ?_ ?_)
   | (with_reducible refine LeO.bind ?_ (fun _ => ?_))
   | exact LeO.none _
   | refine LeO.ite ?_ ?_
   | refine LeO.bind ?_ (fun _ => ?_)
  ·intro y0 y1 y2 y3 y4 y5 y6 y7
   unfold spec_ValidLayout.j3
   repeat' first
   | (with_reducible exact ih0 _ _ _ _ _ _)
   | (with_reducible exact ih1 _ _ _ _ _ _ _)
   | (with_reducible exact ih2 _ _ _ _ _ _ _)
   | (with_reducible exact ih3 _ _ _ _ _ _ _ _)
   | (with_reducible exact ih4 _ _ _ _ _ _ _ _ _)
   | (with_reducible exact ih5 _ _ _ _ _ _)
   | (with_reducible exact spec_l4bits.mono _ _)
   | (with_reducible exact spec_l4targetsOK.mono _ _ _)
   | (with_reducible exact LeO.refl _)
   | (with_reducible exact LeO.none _)
   | (with_reducible refine LeO.ite ?_ ?_)
   | (with_reducible refine LeO.bind ?_ (fun _ => ?_))
   | exact LeO.none _
   | refine LeO.ite ?_ ?_
   | refine LeO.bind ?_ (fun _ => ?_)
  ·intro y0 y1 y2 y3 y4 y5 y6 y7 y8
   unfold spec_ValidLayout.l1
   repeat' first
   | (with_reducible exact ih0 _ _ _ _ _ _)
   | (with_reducible exact ih1 _ _ _ _ _ _ _)
   | (with_reducible exact ih2 _ _ _ _ _ _ _)
   | (with_reducible exact ih3 _ _ _ _ _ _ _ _)
   | (with_reducible exact ih4 _ _ _ _ _ _ _ _ _)
   | (with_reducible exact ih5 _ _ _ _ _ _)
   | (with_reducible exact spec_l4bits.mono _ _)
   | (with_reducible exact spec_l4targetsOK.mono _ _ _)
   | (with_reducible exact LeO.refl _)
   | (with_reducible exact LeO.none _)
   | (with_reducible refine LeO.ite ?_ ?_)
   | (with_reducible refine LeO.bind ?_ (fun _ => ?_))
   | exact LeO.none _
   | refine LeO.ite ?_ ?_
   | refine LeO.bind ?_ (fun _ => ?_)
  ·intro y0 y1 y2 y3 y4 y5
   unfold spec_ValidLayout.l2
   repeat' first
   | (with_reducible exact ih0 _ _ _ _ _ _)
   | (with_reducible exact ih1 _ _ _ _ _ _ _)
   | (with_reducible exact ih2 _ _ _ _ _ _ _)
   | (with_reducible exact ih3 _ _ _ _ _ _ _ _)
   | (with_reducible exact ih4 _ _ _ _ _ _ _ _ _)
   | (with_reducible exact ih5 _ _ _ _ _ _)
   | (with_reducible exact spec_l4bits.mono _ _)
   | (with_reducible exact spec_l4targetsOK.mono _ _ _)
   | (with_reducible exact LeO.refl _)
   | (with_reducible exact LeO.none _)
   | (with_reducible refine LeO.ite ?_ ?_)
   | (with_reducible refine LeO.bind ?_ (fun _ => ?_))
   | exact LeO.none _
   | refine LeO.ite ?_ ?_
   | refine LeO.bind ?_ (fun _ => ?_)
theorem spec_ValidLayout.mono : ∀ a0 a1 a2 a3 a4 k, LeO (spec_ValidLayout.f k a0 a1 a2 a3 a4) (spec_ValidLayout.f (k + 1) a0 a1 a2 a3 a4) := by
 intro a0 a1 a2 a3 a4 k
 obtain ⟨ih0, ih1, ih2, ih3, ih4, ih5⟩ := spec_ValidLayout.mono_l k
 unfold spec_ValidLayout.f
 repeat' first
   | (with_reducible exact ih0 _ _ _ _ _ _)
   | (with_reducible exact ih1 _ _ _ _ _ _ _)
   | (with_reducible exact ih2 _ _ _ _ _ _ _)
   | (with_reducible exact ih3 _ _ _ _ _ _ _ _)
   | (with_reducible exact ih4 _ _ _ _ _ _ _ _ _)
   | (with_reducible exact ih5 _ _ _ _ _ _)
   | (with_reducible exact spec_l4bits.mono _ _)
   | (with_reducible exact spec_l4targetsOK.mono _ _ _)
   | (with_reducible exact LeO.refl _)
   | (with_reducible exact LeO.none _)
   | (with_reducible refine LeO.ite ?_ ?_)
   | (with_reducible refine LeO.bind ?_ (fun _ => ?_))
   | exact LeO.none _
   | refine LeO.ite ?_ ?_
   | refine LeO.bind ?_ (fun _ => ?_)
set_option maxHeartbeats 8000000 in
set_option maxRecDepth 100000 in
theorem spec_ValidLayout.calls (k : Nat) (a0_0 : Int) (a0_1 : Int) (A0_2 : Option Addr) (c0_2 : Nat) (l0_2 : List Int) (A0_3 : Option Addr) (c0_3 : Nat) (l0_3 : List Int) (A0_4 : Option Addr) (c0_4 : Nat) (l0_4 : List (S74)) (r : Bool) (w : World) (hr0_2 : Kd.C (Kd.int .i64) w A0_2 l0_2.length l0_2) (hc0_2 : l0_2.length ≤ c0_2) (hr0_3 : Kd.C (Kd.int .i64) w A0_3 l0_3.length l0_3) (hc0_3 : l0_3.length ≤ c0_3) (hr0_4 : Kd.C k74 w A0_4 l0_4.length l0_4) (hc0_4 : l0_4.length ≤ c0_4) (h : spec_ValidLayout.f k a0_0 a0_1 l0_2 l0_3 l0_4 = some r) :
  Calls Tryd.prog 16 #[.agg #[.int .i64 a0_0, .int .i64 a0_1, .slice A0_2 l0_2.length c0_2, .slice A0_3 l0_3.length c0_3, .slice A0_4 l0_4.length c0_4]] w fun e w' => e = .returned (.bool r) ∧ Below w.heap.size w w' := by
 have hu36 := Tryd.underlying36
 have HR0_2 := Aside0.mk hr0_2
 have HC0_2 := Aside0.mk hc0_2
 clear hr0_2 hc0_2
 have HR0_3 := Aside0.mk hr0_3
 have HC0_3 := Aside0.mk hc0_3
 clear hr0_3 hc0_3
 have HR0_4 := Aside0.mk hr0_4
 have HC0_4 := Aside0.mk hc0_4
 clear hr0_4 hc0_4
 have HB := Aside0.mk (Below.refl w.heap.size w)
 have H : (if a0_0 < 1 then (spec_ValidLayout.j0 k true a0_0 a0_1 l0_2 l0_3 l0_4) else (if a0_0 > 40 then (spec_ValidLayout.j0 k true a0_0 a0_1 l0_2 l0_3 l0_4) else (if a0_1 < 1 then (spec_ValidLayout.j0 k true a0_0 a0_1 l0_2 l0_3 l0_4) else (spec_ValidLayout.j0 k (decide (a0_1 > 40)) a0_0 a0_1 l0_2 l0_3 l0_4)))) = some r := h
 clear h
 have HC2 := Aside0.mk H
 clear H
 go_enter Tryd.func16, Tryd.ntmps16
 go_upto_region 1 with (first | ((with_reducible refine gate_dst (N := 1) rfl ?_); (try (refine gate_guard (by rfl) ?_; dsimp only)); refine box_event ?hg (N := 1) ?hd (cs := #[.int .i64 a0_0, .int .i64 a0_1, .slice A0_2 l0_2.length c0_2, .slice A0_3 l0_3.length c0_3, .slice A0_4 l0_4.length c0_4]) (t := 36) ?hr ?_; (case hd => rfl); (case hg => rfl); (case hr => first | (go_simp; done) | (go_simp; rfl)); intro gb139 hg w3 hbox hb; have n0_ := Aside0.mk (below_step z_ hb); have n1_ := Aside0.mk (hbox); have n2_ := Aside0.mk ((by rw [hg]; exact (below_size z_) : w.heap.size ≤ gb139)); have n3_ := Aside0.mk ((by rw [hg]; exact (below_size z_) : w.heap.size ≤ gb139)); clear HB; have HB := n0_; have BK139 := n1_; have GW139 := n2_; have GE139 := n3_; clear n0_ n1_ n2_ n3_; clear hb hbox hg))
 repeat (go_quiet (first | ((with_reducible refine gate_dst (N := 1) rfl ?_); (try (refine gate_guard (by rfl) ?_; dsimp only)); refine box_event ?hg (N := 1) ?hd (cs := #[.int .i64 a0_0, .int .i64 a0_1, .slice A0_2 l0_2.length c0_2, .slice A0_3 l0_3.length c0_3, .slice A0_4 l0_4.length c0_4]) (t := 36) ?hr ?_; (case hd => rfl); (case hg => rfl); (case hr => first | (go_simp; done) | (go_simp; rfl)); intro gb139 hg w3 hbox hb; have n0_ := Aside0.mk (below_step z_ hb); have n1_ := Aside0.mk (hbox); have n2_ := Aside0.mk ((by rw [hg]; exact (below_size z_) : w.heap.size ≤ gb139)); have n3_ := Aside0.mk ((by rw [hg]; exact (below_size z_) : w.heap.size ≤ gb139)); clear HB; have HB := n0_; have BK139 := n1_; have GW139 := n2_; have GE139 := n3_; clear n0_ n1_ n2_ n3_; clear hb hbox hg)); go_upto_region 1 with (first | ((with_reducible refine gate_dst (N := 1) rfl ?_); (try (refine gate_guard (by rfl) ?_; dsimp only)); refine box_event ?hg (N := 1) ?hd (cs := #[.int .i64 a0_0, .int .i64 a0_1, .slice A0_2 l0_2.length c0_2, .slice A0_3 l0_3.length c0_3, .slice A0_4 l0_4.length c0_4]) (t := 36) ?hr ?_; (case hd => rfl); (case hg => rfl); (case hr => first | (go_simp; done) | (go_simp; rfl)); intro gb139 hg w3 hbox hb; have n0_ := Aside0.mk (below_step z_ hb); have n1_ := Aside0.mk (hbox); have n2_ := Aside0.mk ((by rw [hg]; exact (below_size z_) : w.heap.size ≤ gb139)); have n3_ := Aside0.mk ((by rw [hg]; exact (below_size z_) : w.heap.size ≤ gb139)); clear HB; have HB := n0_; have BK139 := n1_; have GW139 := n2_; have GE139 := n3_; clear n0_ n1_ n2_ n3_; clear hb hbox hg)))
 (try simp only [Act.put, List.setIfInBounds_toArray, List.set_cons_zero, List.set_cons_succ])
 go_cut [26] (fun v26 wc => ∃ (kq : Nat) (x26_1 : Bool), v26 = .bool x26_1 ∧ Aside0 (spec_ValidLayout.j0 kq x26_1 a0_0 a0_1 l0_2 l0_3 l0_4 = some r) ∧ Aside0 (kq ≤ k) ∧ Aside0 (wc.heap[gb139]? = some (.cells #[.int .i64 a0_0, .int .i64 a0_1, (.slice A0_2 l0_2.length c0_2), (.slice A0_3 l0_3.length c0_3), (.slice A0_4 l0_4.length c0_4)] 36 (0, 0))) ∧ Aside0 (Below w.heap.size w wc))
 case first =>
  have H := HC2.out
  clear HC2
  by_cases c4 : a0_0 < 1
  ·rw [if_pos c4] at H
   have c4b0 : decide (a0_0 < 1) = true := decide_eq_true c4
   clear c4
   (first | rw [c4b0] | (simp only [i64_w, i32_w]; rw [c4b0]) | skip)
   have H' := Aside0.mk H
   clear H
   have hcz5_0 : w3.cell? ⟨gb139, 0, none⟩ = some (.int .i64 a0_0) := (blk_cell BK139.out 0).trans rfl
   have hcz5_1 : w3.cell? ⟨gb139, 1, none⟩ = some (.int .i64 a0_1) := (blk_cell BK139.out 1).trans rfl
   have hcz5_2 : w3.cell? ⟨gb139, 2, none⟩ = some (.slice A0_2 l0_2.length c0_2) := (blk_cell BK139.out 2).trans rfl
   have hcz5_3 : w3.cell? ⟨gb139, 3, none⟩ = some (.slice A0_3 l0_3.length c0_3) := (blk_cell BK139.out 3).trans rfl
   have hcz5_4 : w3.cell? ⟨gb139, 4, none⟩ = some (.slice A0_4 l0_4.length c0_4) := (blk_cell BK139.out 4).trans rfl
   have hfz5_0 := blk_frozen BK139.out 0
   have hfz5_1 := blk_frozen BK139.out 1
   have hfz5_2 := blk_frozen BK139.out 2
   have hfz5_3 := blk_frozen BK139.out 3
   have hfz5_4 := blk_frozen BK139.out 4
   go_wp2
   repeat (go_quiet (fail); try go_wp2)
   go_meet
   case rel => exact ⟨_, (true), zr, H', ⟨by first | omega | exact Nat.le_refl _⟩, ⟨zb BK139.out⟩, ⟨zs GE139.out⟩⟩
  ·rw [if_neg c4] at H
   have c4b0 : decide (a0_0 < 1) = false := decide_eq_false c4
   clear c4
   (first | rw [c4b0] | (simp only [i64_w, i32_w]; rw [c4b0]) | skip)
   by_cases c6 : a0_0 > 40
   ·rw [if_pos c6] at H
    have c6b0 : decide (40 < a0_0) = true := decide_eq_true c6
    clear c6
    have H' := Aside0.mk H
    clear H
    have hcz7_0 : w3.cell? ⟨gb139, 0, none⟩ = some (.int .i64 a0_0) := (blk_cell BK139.out 0).trans rfl
    have hcz7_1 : w3.cell? ⟨gb139, 1, none⟩ = some (.int .i64 a0_1) := (blk_cell BK139.out 1).trans rfl
    have hcz7_2 : w3.cell? ⟨gb139, 2, none⟩ = some (.slice A0_2 l0_2.length c0_2) := (blk_cell BK139.out 2).trans rfl
    have hcz7_3 : w3.cell? ⟨gb139, 3, none⟩ = some (.slice A0_3 l0_3.length c0_3) := (blk_cell BK139.out 3).trans rfl
    have hcz7_4 : w3.cell? ⟨gb139, 4, none⟩ = some (.slice A0_4 l0_4.length c0_4) := (blk_cell BK139.out 4).trans rfl
    have hfz7_0 := blk_frozen BK139.out 0
    have hfz7_1 := blk_frozen BK139.out 1
    have hfz7_2 := blk_frozen BK139.out 2
    have hfz7_3 := blk_frozen BK139.out 3
    have hfz7_4 := blk_frozen BK139.out 4
    go_wp2
    repeat (go_quiet (fail); try go_wp2)
    go_meet
    case rel => exact ⟨_, (true), zr, H', ⟨by first | omega | exact Nat.le_refl _⟩, ⟨zb BK139.out⟩, ⟨zs GE139.out⟩⟩
   ·rw [if_neg c6] at H
    have c6b0 : decide (40 < a0_0) = false := decide_eq_false c6
    clear c6
    by_cases c8 : a0_1 < 1
    ·rw [if_pos c8] at H
     have c8b0 : decide (a0_1 < 1) = true := decide_eq_true c8
     clear c8
     have H' := Aside0.mk H
     clear H
     have hcz9_0 : w3.cell? ⟨gb139, 0, none⟩ = some (.int .i64 a0_0) := (blk_cell BK139.out 0).trans rfl
     have hcz9_1 : w3.cell? ⟨gb139, 1, none⟩ = some (.int .i64 a0_1) := (blk_cell BK139.out 1).trans rfl
     have hcz9_2 : w3.cell? ⟨gb139, 2, none⟩ = some (.slice A0_2 l0_2.length c0_2) := (blk_cell BK139.out 2).trans rfl
     have hcz9_3 : w3.cell? ⟨gb139, 3, none⟩ = some (.slice A0_3 l0_3.length c0_3) := (blk_cell BK139.out 3).trans rfl
     have hcz9_4 : w3.cell? ⟨gb139, 4, none⟩ = some (.slice A0_4 l0_4.length c0_4) := (blk_cell BK139.out 4).trans rfl
     have hfz9_0 := blk_frozen BK139.out 0
     have hfz9_1 := blk_frozen BK139.out 1
     have hfz9_2 := blk_frozen BK139.out 2
     have hfz9_3 := blk_frozen BK139.out 3
     have hfz9_4 := blk_frozen BK139.out 4
     go_wp2
     repeat (go_quiet (fail); try go_wp2)
     go_meet
     case rel => exact ⟨_, (true), zr, H', ⟨by first | omega | exact Nat.le_refl _⟩, ⟨zb BK139.out⟩, ⟨zs GE139.out⟩⟩
    ·rw [if_neg c8] at H
     have c8b0 : decide (a0_1 < 1) = false := decide_eq_false c8
     clear c8
     have H' := Aside0.mk H
     clear H
     have hcz10_0 : w3.cell? ⟨gb139, 0, none⟩ = some (.int .i64 a0_0) := (blk_cell BK139.out 0).trans rfl
     have hcz10_1 : w3.cell? ⟨gb139, 1, none⟩ = some (.int .i64 a0_1) := (blk_cell BK139.out 1).trans rfl
     have hcz10_2 : w3.cell? ⟨gb139, 2, none⟩ = some (.slice A0_2 l0_2.length c0_2) := (blk_cell BK139.out 2).trans rfl
     have hcz10_3 : w3.cell? ⟨gb139, 3, none⟩ = some (.slice A0_3 l0_3.length c0_3) := (blk_cell BK139.out 3).trans rfl
     have hcz10_4 : w3.cell? ⟨gb139, 4, none⟩ = some (.slice A0_4 l0_4.length c0_4) := (blk_cell BK139.out 4).trans rfl
     have hfz10_0 := blk_frozen BK139.out 0
     have hfz10_1 := blk_frozen BK139.out 1
     have hfz10_2 := blk_frozen BK139.out 2
     have hfz10_3 := blk_frozen BK139.out 3
     have hfz10_4 := blk_frozen BK139.out 4
     go_wp2
     repeat (go_quiet (fail); try go_wp2)
     go_meet
     case rel => exact ⟨_, (decide (a0_1 > 40)), zr, H', ⟨by first | omega | exact Nat.le_refl _⟩, ⟨zb BK139.out⟩, ⟨zs GE139.out⟩⟩
 case rest =>
  clear HC2
  try clear c1
  try clear p2
  try clear c4
  try clear c4b0
  try clear c6
  try clear c6b0
  try clear c8
  try clear c8b0
  try clear hcz10_0
  try clear hcz10_1
  try clear hcz10_2
  try clear hcz10_3
  try clear hcz10_4
  try clear hcz5_0
  try clear hcz5_1
  try clear hcz5_2
  try clear hcz5_3
  try clear hcz5_4
  try clear hcz7_0
  try clear hcz7_1
  try clear hcz7_2
  try clear hcz7_3
  try clear hcz7_4
  try clear hcz9_0
  try clear hcz9_1
  try clear hcz9_2
  try clear hcz9_3
  try clear hcz9_4
  try clear hfz10_0
  try clear hfz10_1
  try clear hfz10_2
  try clear hfz10_3
  try clear hfz10_4
  try clear hfz5_0
  try clear hfz5_1
  try clear hfz5_2
  try clear hfz5_3
  try clear hfz5_4
  try clear hfz7_0
  try clear hfz7_1
  try clear hfz7_2
  try clear hfz7_3
  try clear hfz7_4
  try clear hfz9_0
  try clear hfz9_1
  try clear hfz9_2
  try clear hfz9_3
  try clear hfz9_4
  obtain ⟨kq, x26_1, rfl, HA, HJ1, BK139, HB⟩ := hcut
  cases kq with
  | zero => exact absurd HA.out (by simp [spec_ValidLayout.j0])
  | succ kj1 =>
   have H := HA.out
   clear HA
   simp only [spec_ValidLayout.j0] at H
   by_cases c11 : x26_1 = true
   ·subst c11
    have H1 : (some false) = some r := by rw [if_pos rfl] at H; exact H
    clear H
    have H := H1
    clear H1
    obtain rfl := Option.some.inj H
    go_wp2
    repeat (go_quiet (fail); try go_wp2)
    go_ret
    exact ⟨ze, (zs GE139.out)⟩
   ·replace c11 := Bool.eq_false_iff.mpr c11
    subst c11
    have H1 : (if (l0_2.length : Int) = (wrap64 (a0_0 * a0_1)) then (if (l0_3.length : Int) = (wrap64 (a0_0 * a0_1)) then ((spec_l4targetsOK.f kj1 l0_4 (wrap64 (a0_0 * a0_1))).bind fun t140 => (spec_ValidLayout.j1 kj1 (wrap64 (a0_0 * a0_1)) (!t140) a0_0 a0_1 l0_2 l0_3 l0_4)) else (spec_ValidLayout.j1 kj1 (wrap64 (a0_0 * a0_1)) true a0_0 a0_1 l0_2 l0_3 l0_4)) else (spec_ValidLayout.j1 kj1 (wrap64 (a0_0 * a0_1)) true a0_0 a0_1 l0_2 l0_3 l0_4)) = some r := by rw [if_neg (show ¬ (false = true) by decide)] at H; exact H
    clear H
    have H := H1
    clear H1
    have HC12 := Aside0.mk H
    clear H
    have hcz13_0 : wc.cell? ⟨gb139, 0, none⟩ = some (.int .i64 a0_0) := (blk_cell BK139.out 0).trans rfl
    have hcz13_1 : wc.cell? ⟨gb139, 1, none⟩ = some (.int .i64 a0_1) := (blk_cell BK139.out 1).trans rfl
    have hcz13_2 : wc.cell? ⟨gb139, 2, none⟩ = some (.slice A0_2 l0_2.length c0_2) := (blk_cell BK139.out 2).trans rfl
    have hcz13_3 : wc.cell? ⟨gb139, 3, none⟩ = some (.slice A0_3 l0_3.length c0_3) := (blk_cell BK139.out 3).trans rfl
    have hcz13_4 : wc.cell? ⟨gb139, 4, none⟩ = some (.slice A0_4 l0_4.length c0_4) := (blk_cell BK139.out 4).trans rfl
    have hfz13_0 := blk_frozen BK139.out 0
    have hfz13_1 := blk_frozen BK139.out 1
    have hfz13_2 := blk_frozen BK139.out 2
    have hfz13_3 := blk_frozen BK139.out 3
    have hfz13_4 := blk_frozen BK139.out 4
    go_upto_region 4 with (fail)
    repeat (go_quiet (fail); go_upto_region 4 with (fail))
    go_cut [50] (fun v50 wc => ∃ (kq : Nat) (x50_11 : Bool), v50 = .bool x50_11 ∧ Aside0 (spec_ValidLayout.j1 kq (wrap64 (a0_0 * a0_1)) x50_11 a0_0 a0_1 l0_2 l0_3 l0_4 = some r) ∧ Aside0 (kq ≤ kj1) ∧ Aside0 (wc.heap[gb139]? = some (.cells #[.int .i64 a0_0, .int .i64 a0_1, (.slice A0_2 l0_2.length c0_2), (.slice A0_3 l0_3.length c0_3), (.slice A0_4 l0_4.length c0_4)] 36 (0, 0))) ∧ Aside0 (Below w.heap.size w wc))
    case first =>
     have H := HC12.out
     clear HC12
     by_cases c14 : (l0_2.length : Int) = (wrap64 (a0_0 * a0_1))
     ·rw [if_pos c14] at H
      have c14b0 : ((l0_2.length : Int) == (wrap64 (a0_0 * a0_1))) = true := beq_iff_eq.mpr c14
      have c14b1 : ((l0_2.length : Int) != (wrap64 (a0_0 * a0_1))) = false := bne_eq_false_iff_eq.mpr c14
      clear c14
      (first | rw [c14b0] | (simp only [i64_w, i32_w]; rw [c14b0]) | skip)
      by_cases c15 : (l0_3.length : Int) = (wrap64 (a0_0 * a0_1))
      ·rw [if_pos c15] at H
       have c15b0 : ((l0_3.length : Int) == (wrap64 (a0_0 * a0_1))) = true := beq_iff_eq.mpr c15
       have c15b1 : ((l0_3.length : Int) != (wrap64 (a0_0 * a0_1))) = false := bne_eq_false_iff_eq.mpr c15
       clear c15
       replace H := Option.bind_eq_some_iff.mp H
       obtain ⟨t140, A160, H⟩ := H
       replace H : (spec_ValidLayout.j1 kj1 (wrap64 (a0_0 * a0_1)) (!t140) a0_0 a0_1 l0_2 l0_3 l0_4) = some r := H
       have A16 := Aside0.mk A160
       clear A160
       have H' := Aside0.mk H
       clear H
       have hcz17_0 : wc.cell? ⟨gb139, 0, none⟩ = some (.int .i64 a0_0) := (blk_cell BK139.out 0).trans rfl
       have hcz17_1 : wc.cell? ⟨gb139, 1, none⟩ = some (.int .i64 a0_1) := (blk_cell BK139.out 1).trans rfl
       have hcz17_2 : wc.cell? ⟨gb139, 2, none⟩ = some (.slice A0_2 l0_2.length c0_2) := (blk_cell BK139.out 2).trans rfl
       have hcz17_3 : wc.cell? ⟨gb139, 3, none⟩ = some (.slice A0_3 l0_3.length c0_3) := (blk_cell BK139.out 3).trans rfl
       have hcz17_4 : wc.cell? ⟨gb139, 4, none⟩ = some (.slice A0_4 l0_4.length c0_4) := (blk_cell BK139.out 4).trans rfl
       have hfz17_0 := blk_frozen BK139.out 0
       have hfz17_1 := blk_frozen BK139.out 1
       have hfz17_2 := blk_frozen BK139.out 2
       have hfz17_3 := blk_frozen BK139.out 3
       have hfz17_4 := blk_frozen BK139.out 4
       go_wp2_with (first | (go_at_call 46; (with_reducible refine (spec_l4targetsOK.calls kj1 _ _ l0_4 (wrap64 (a0_0 * a0_1)) t140 _ ?side1 ?side2 A16.out).mono ?_); (case side1 => exact zc (Kd.C_below HR0_4.out HB.out)); (case side2 => exact HC0_4.out); rintro e w18 ⟨rfl, hb⟩; have n0_ := Aside0.mk (blk_below (g := gb139) (o := .cells #[.int .i64 a0_0, .int .i64 a0_1, .slice A0_2 l0_2.length c0_2, .slice A0_3 l0_3.length c0_3, .slice A0_4 l0_4.length c0_4] 36 (0, 0)) (zb BK139.out) hb); have n1_ := Aside0.mk (below_step (zs GE139.out) hb); clear BK139; clear HB; have BK139 := n0_; have HB := n1_; clear n0_ n1_; (try clear hb); (try clear hb2); (try clear hk); (try clear hi)))
       repeat (go_quiet (first | (go_at_call 46; (with_reducible refine (spec_l4targetsOK.calls kj1 _ _ l0_4 (wrap64 (a0_0 * a0_1)) t140 _ ?side1 ?side2 A16.out).mono ?_); (case side1 => exact zc (Kd.C_below HR0_4.out HB.out)); (case side2 => exact HC0_4.out); rintro e w18 ⟨rfl, hb⟩; have n0_ := Aside0.mk (blk_below (g := gb139) (o := .cells #[.int .i64 a0_0, .int .i64 a0_1, .slice A0_2 l0_2.length c0_2, .slice A0_3 l0_3.length c0_3, .slice A0_4 l0_4.length c0_4] 36 (0, 0)) (zb BK139.out) hb); have n1_ := Aside0.mk (below_step (zs GE139.out) hb); clear BK139; clear HB; have BK139 := n0_; have HB := n1_; clear n0_ n1_; (try clear hb); (try clear hb2); (try clear hk); (try clear hi))); try go_wp2_with (first | (go_at_call 46; (with_reducible refine (spec_l4targetsOK.calls kj1 _ _ l0_4 (wrap64 (a0_0 * a0_1)) t140 _ ?side1 ?side2 A16.out).mono ?_); (case side1 => exact zc (Kd.C_below HR0_4.out HB.out)); (case side2 => exact HC0_4.out); rintro e w18 ⟨rfl, hb⟩; have n0_ := Aside0.mk (blk_below (g := gb139) (o := .cells #[.int .i64 a0_0, .int .i64 a0_1, .slice A0_2 l0_2.length c0_2, .slice A0_3 l0_3.length c0_3, .slice A0_4 l0_4.length c0_4] 36 (0, 0)) (zb BK139.out) hb); have n1_ := Aside0.mk (below_step (zs GE139.out) hb); clear BK139; clear HB; have BK139 := n0_; have HB := n1_; clear n0_ n1_; (try clear hb); (try clear hb2); (try clear hk); (try clear hi))))
       go_meet
       case rel => exact ⟨_, (!t140), zr, H', ⟨by have := HJ1.out; first | omega | exact Nat.le_refl _⟩, ⟨zb BK139.out⟩, ⟨zs GE139.out⟩⟩
      ·rw [if_neg c15] at H
       have c15b0 : ((l0_3.length : Int) == (wrap64 (a0_0 * a0_1))) = false := beq_eq_false_iff_ne.mpr c15
       have c15b1 : ((l0_3.length : Int) != (wrap64 (a0_0 * a0_1))) = true := bne_iff_ne.mpr c15
       have H' := Aside0.mk H
       clear H
       have hcz19_0 : wc.cell? ⟨gb139, 0, none⟩ = some (.int .i64 a0_0) := (blk_cell BK139.out 0).trans rfl
       have hcz19_1 : wc.cell? ⟨gb139, 1, none⟩ = some (.int .i64 a0_1) := (blk_cell BK139.out 1).trans rfl
       have hcz19_2 : wc.cell? ⟨gb139, 2, none⟩ = some (.slice A0_2 l0_2.length c0_2) := (blk_cell BK139.out 2).trans rfl
       have hcz19_3 : wc.cell? ⟨gb139, 3, none⟩ = some (.slice A0_3 l0_3.length c0_3) := (blk_cell BK139.out 3).trans rfl
       have hcz19_4 : wc.cell? ⟨gb139, 4, none⟩ = some (.slice A0_4 l0_4.length c0_4) := (blk_cell BK139.out 4).trans rfl
       have hfz19_0 := blk_frozen BK139.out 0
       have hfz19_1 := blk_frozen BK139.out 1
       have hfz19_2 := blk_frozen BK139.out 2
       have hfz19_3 := blk_frozen BK139.out 3
       have hfz19_4 := blk_frozen BK139.out 4
       go_wp2
       repeat (go_quiet (fail); try go_wp2)
       go_meet
       case rel => exact ⟨_, (true), zr, H', ⟨by have := HJ1.out; first | omega | exact Nat.le_refl _⟩, ⟨zb BK139.out⟩, ⟨zs GE139.out⟩⟩
     ·rw [if_neg c14] at H
      have c14b0 : ((l0_2.length : Int) == (wrap64 (a0_0 * a0_1))) = false := beq_eq_false_iff_ne.mpr c14
      have c14b1 : ((l0_2.length : Int) != (wrap64 (a0_0 * a0_1))) = true := bne_iff_ne.mpr c14
      (first | rw [c14b0] | (simp only [i64_w, i32_w]; rw [c14b0]) | skip)
      have H' := Aside0.mk H
      clear H
      have hcz20_0 : wc.cell? ⟨gb139, 0, none⟩ = some (.int .i64 a0_0) := (blk_cell BK139.out 0).trans rfl
      have hcz20_1 : wc.cell? ⟨gb139, 1, none⟩ = some (.int .i64 a0_1) := (blk_cell BK139.out 1).trans rfl
      have hcz20_2 : wc.cell? ⟨gb139, 2, none⟩ = some (.slice A0_2 l0_2.length c0_2) := (blk_cell BK139.out 2).trans rfl
      have hcz20_3 : wc.cell? ⟨gb139, 3, none⟩ = some (.slice A0_3 l0_3.length c0_3) := (blk_cell BK139.out 3).trans rfl
      have hcz20_4 : wc.cell? ⟨gb139, 4, none⟩ = some (.slice A0_4 l0_4.length c0_4) := (blk_cell BK139.out 4).trans rfl
      have hfz20_0 := blk_frozen BK139.out 0
      have hfz20_1 := blk_frozen BK139.out 1
      have hfz20_2 := blk_frozen BK139.out 2
      have hfz20_3 := blk_frozen BK139.out 3
      have hfz20_4 := blk_frozen BK139.out 4
      go_wp2
      repeat (go_quiet (fail); try go_wp2)
      go_meet
      case rel => exact ⟨_, (true), zr, H', ⟨by have := HJ1.out; first | omega | exact Nat.le_refl _⟩, ⟨zb BK139.out⟩, ⟨zs GE139.out⟩⟩
    case rest =>
     clear HC12
     try clear c1
     try clear p2
     try clear c4
     try clear c4b0
     try clear c6
     try clear c6b0
     try clear p6
     try clear c8
     try clear c8b0
     try clear c11
     try clear c14
     try clear c14b0
     try clear c14b1
     try clear c15
     try clear c15b0
     try clear c15b1
     try clear c16
     try clear hcz10_0
     try clear hcz10_1
     try clear hcz10_2
     try clear hcz10_3
     try clear hcz10_4
     try clear hcz13_0
     try clear hcz13_1
     try clear hcz13_2
     try clear hcz13_3
     try clear hcz13_4
     try clear hcz17_0
     try clear hcz17_1
     try clear hcz17_2
     try clear hcz17_3
     try clear hcz17_4
     try clear hcz19_0
     try clear hcz19_1
     try clear hcz19_2
     try clear hcz19_3
     try clear hcz19_4
     try clear hcz20_0
     try clear hcz20_1
     try clear hcz20_2
     try clear hcz20_3
     try clear hcz20_4
     try clear hcz5_0
     try clear hcz5_1
     try clear hcz5_2
     try clear hcz5_3
     try clear hcz5_4
     try clear hcz7_0
     try clear hcz7_1
     try clear hcz7_2
     try clear hcz7_3
     try clear hcz7_4
     try clear hcz9_0
     try clear hcz9_1
     try clear hcz9_2
     try clear hcz9_3
     try clear hcz9_4
     try clear hfz10_0
     try clear hfz10_1
     try clear hfz10_2
     try clear hfz10_3
     try clear hfz10_4
     try clear hfz13_0
     try clear hfz13_1
     try clear hfz13_2
     try clear hfz13_3
     try clear hfz13_4
     try clear hfz17_0
     try clear hfz17_1
     try clear hfz17_2
     try clear hfz17_3
     try clear hfz17_4
     try clear hfz19_0
     try clear hfz19_1
     try clear hfz19_2
     try clear hfz19_3
     try clear hfz19_4
     try clear hfz20_0
     try clear hfz20_1
     try clear hfz20_2
     try clear hfz20_3
     try clear hfz20_4
     try clear hfz5_0
     try clear hfz5_1
     try clear hfz5_2
     try clear hfz5_3
     try clear hfz5_4
     try clear hfz7_0
     try clear hfz7_1
     try clear hfz7_2
     try clear hfz7_3
     try clear hfz7_4
     try clear hfz9_0
     try clear hfz9_1
     try clear hfz9_2
     try clear hfz9_3
     try clear hfz9_4
     try clear p2
     obtain ⟨kq, x50_11, rfl, HA, HJ11, BK139, HB⟩ := hcut
     cases kq with
     | zero => exact absurd HA.out (by simp [spec_ValidLayout.j1])
     | succ kj11 =>
      have H := HA.out
      clear HA
      simp only [spec_ValidLayout.j1] at H
      by_cases c21 : x50_11 = true
      ·subst c21
       have H1 : (some false) = some r := by rw [if_pos rfl] at H; exact H
       clear H
       have H := H1
       clear H1
       obtain rfl := Option.some.inj H
       go_wp2
       repeat (go_quiet (fail); try go_wp2)
       go_ret
       exact ⟨ze, (zs GE139.out)⟩
      ·replace c21 := Bool.eq_false_iff.mpr c21
       subst c21
       have H1 : (spec_ValidLayout.l0 kj11 (wrap64 (a0_0 * a0_1)) 0 a0_0 a0_1 l0_2 l0_3 l0_4) = some r := by rw [if_neg (show ¬ (false = true) by decide)] at H; exact H
       clear H
       have H := H1
       clear H1
       have H' := Aside0.mk H
       clear H
       go_wp2
       repeat (go_quiet (fail); try go_wp2)
       go_loopg [4] kj11 (fun kq v4 w' => ∃ (x4_3 : Int), v4 = .int .i64 x4_3 ∧ Aside0 (spec_ValidLayout.l0 kq (wrap64 (a0_0 * a0_1)) x4_3 a0_0 a0_1 l0_2 l0_3 l0_4 = some r) ∧ Aside0 (kq ≤ kj11) ∧ Aside0 (w'.heap[gb139]? = some (.cells #[.int .i64 a0_0, .int .i64 a0_1, (.slice A0_2 l0_2.length c0_2), (.slice A0_3 l0_3.length c0_3), (.slice A0_4 l0_4.length c0_4)] 36 (0, 0))) ∧ Aside0 (Below w.heap.size w w'))
       case atStart => exact ⟨(0), zr, H', ⟨Nat.le_refl _⟩, ⟨zb BK139.out⟩, ⟨zs GE139.out⟩⟩
       case round =>
        clear H'
        try clear c1
        try clear c2
        try clear p2
        try clear c4
        try clear c4b0
        try clear c6
        try clear c6b0
        try clear p6
        try clear c8
        try clear c8b0
        try clear c11
        try clear c14
        try clear c14b0
        try clear c14b1
        try clear c15
        try clear c15b0
        try clear c15b1
        try clear c16
        try clear c21
        try clear hcz10_0
        try clear hcz10_1
        try clear hcz10_2
        try clear hcz10_3
        try clear hcz10_4
        try clear hcz13_0
        try clear hcz13_1
        try clear hcz13_2
        try clear hcz13_3
        try clear hcz13_4
        try clear hcz17_0
        try clear hcz17_1
        try clear hcz17_2
        try clear hcz17_3
        try clear hcz17_4
        try clear hcz19_0
        try clear hcz19_1
        try clear hcz19_2
        try clear hcz19_3
        try clear hcz19_4
        try clear hcz20_0
        try clear hcz20_1
        try clear hcz20_2
        try clear hcz20_3
        try clear hcz20_4
        try clear hcz5_0
        try clear hcz5_1
        try clear hcz5_2
        try clear hcz5_3
        try clear hcz5_4
        try clear hcz7_0
        try clear hcz7_1
        try clear hcz7_2
        try clear hcz7_3
        try clear hcz7_4
        try clear hcz9_0
        try clear hcz9_1
        try clear hcz9_2
        try clear hcz9_3
        try clear hcz9_4
        try clear hfz10_0
        try clear hfz10_1
        try clear hfz10_2
        try clear hfz10_3
        try clear hfz10_4
        try clear hfz13_0
        try clear hfz13_1
        try clear hfz13_2
        try clear hfz13_3
        try clear hfz13_4
        try clear hfz17_0
        try clear hfz17_1
        try clear hfz17_2
        try clear hfz17_3
        try clear hfz17_4
        try clear hfz19_0
        try clear hfz19_1
        try clear hfz19_2
        try clear hfz19_3
        try clear hfz19_4
        try clear hfz20_0
        try clear hfz20_1
        try clear hfz20_2
        try clear hfz20_3
        try clear hfz20_4
        try clear hfz5_0
        try clear hfz5_1
        try clear hfz5_2
        try clear hfz5_3
        try clear hfz5_4
        try clear hfz7_0
        try clear hfz7_1
        try clear hfz7_2
        try clear hfz7_3
        try clear hfz7_4
        try clear hfz9_0
        try clear hfz9_1
        try clear hfz9_2
        try clear hfz9_3
        try clear hfz9_4
        try clear p2
        try clear p6
        obtain ⟨x4_3, rfl, HA, HK3, BK139, HB⟩ := hrel
        cases gk with
        | zero => exact absurd HA.out (by simp [spec_ValidLayout.l0])
        | succ k3 =>
         have H := HA.out
         clear HA
         simp only [spec_ValidLayout.l0] at H
         by_cases c22 : x4_3 < (wrap64 (a0_0 * a0_1))
         ·rw [if_pos c22] at H
          have c22b0 : decide (x4_3 < (wrap64 (a0_0 * a0_1))) = true := decide_eq_true c22
          clear c22
          have HC23 := Aside0.mk H
          clear H
          go_upto_region 9 with (fail)
          repeat (go_quiet (fail); go_upto_region 9 with (fail))
          go_cut [101] (fun v101 wc => ∃ (kq : Nat) (x101_22 : Bool), v101 = .bool x101_22 ∧ Aside0 (spec_ValidLayout.j3 kq (wrap64 (a0_0 * a0_1)) x4_3 x101_22 a0_0 a0_1 l0_2 l0_3 l0_4 = some r) ∧ Aside0 (kq ≤ k3) ∧ Aside0 (wc.heap[gb139]? = some (.cells #[.int .i64 a0_0, .int .i64 a0_1, (.slice A0_2 l0_2.length c0_2), (.slice A0_3 l0_3.length c0_3), (.slice A0_4 l0_4.length c0_4)] 36 (0, 0))) ∧ Aside0 (Below w.heap.size w wc))
          case first =>
           have H := HC23.out
           clear HC23
           by_cases c24 : 0 ≤ x4_3
           ·rw [if_pos c24] at H
            have c24b0 : decide (0 ≤ x4_3) = true := decide_eq_true c24
            clear c24
            (first | rw [c24b0] | (simp only [i64_w, i32_w]; rw [c24b0]) | skip)
            by_cases c25 : x4_3 < (l0_2.length : Int)
            ·rw [if_pos c25] at H
             have c25b0 : decide (x4_3 < (l0_2.length : Int)) = true := decide_eq_true c25
             clear c25
             by_cases c26 : (rd l0_2 x4_3) < 0
             ·rw [if_pos c26] at H
              have c26b0 : decide ((rd l0_2 x4_3) < 0) = true := decide_eq_true c26
              clear c26
              have H' := Aside0.mk H
              clear H
              have hcz27_0 : wr.cell? ⟨gb139, 0, none⟩ = some (.int .i64 a0_0) := (blk_cell BK139.out 0).trans rfl
              have hcz27_1 : wr.cell? ⟨gb139, 1, none⟩ = some (.int .i64 a0_1) := (blk_cell BK139.out 1).trans rfl
              have hcz27_2 : wr.cell? ⟨gb139, 2, none⟩ = some (.slice A0_2 l0_2.length c0_2) := (blk_cell BK139.out 2).trans rfl
              have hcz27_3 : wr.cell? ⟨gb139, 3, none⟩ = some (.slice A0_3 l0_3.length c0_3) := (blk_cell BK139.out 3).trans rfl
              have hcz27_4 : wr.cell? ⟨gb139, 4, none⟩ = some (.slice A0_4 l0_4.length c0_4) := (blk_cell BK139.out 4).trans rfl
              have hfz27_0 := blk_frozen BK139.out 0
              have hfz27_1 := blk_frozen BK139.out 1
              have hfz27_2 := blk_frozen BK139.out 2
              have hfz27_3 := blk_frozen BK139.out 3
              have hfz27_4 := blk_frozen BK139.out 4
              have p141 : 0 ≤ (x4_3 : Int) := zd
              have q141 : x4_3 < (l0_2.length : Int) := zd
              obtain ⟨ad141, e141, hx141_0⟩ := Kd.at_int HR0_2.out x4_3 p141 q141
              cases e141
              replace hx141_0 := (HB.out.cell (World.block_lt_of_cell? w _ hx141_0)).trans hx141_0
              replace p141 := eq_true p141
              replace q141 := eq_true q141
              go_wp2
              repeat (go_quiet (fail); try go_wp2)
              go_meet
              case rel => exact ⟨_, (true), zr, H', ⟨by have := HJ1.out; have := HJ11.out; have := HK3.out; first | omega | exact Nat.le_refl _⟩, ⟨zb BK139.out⟩, ⟨zs GE139.out⟩⟩
             ·rw [if_neg c26] at H
              have c26b0 : decide ((rd l0_2 x4_3) < 0) = false := decide_eq_false c26
              clear c26
              by_cases c28 : (rd l0_2 x4_3) > 9
              ·rw [if_pos c28] at H
               have c28b0 : decide (9 < (rd l0_2 x4_3)) = true := decide_eq_true c28
               clear c28
               have H' := Aside0.mk H
               clear H
               have hcz29_0 : wr.cell? ⟨gb139, 0, none⟩ = some (.int .i64 a0_0) := (blk_cell BK139.out 0).trans rfl
               have hcz29_1 : wr.cell? ⟨gb139, 1, none⟩ = some (.int .i64 a0_1) := (blk_cell BK139.out 1).trans rfl
               have hcz29_2 : wr.cell? ⟨gb139, 2, none⟩ = some (.slice A0_2 l0_2.length c0_2) := (blk_cell BK139.out 2).trans rfl
               have hcz29_3 : wr.cell? ⟨gb139, 3, none⟩ = some (.slice A0_3 l0_3.length c0_3) := (blk_cell BK139.out 3).trans rfl
               have hcz29_4 : wr.cell? ⟨gb139, 4, none⟩ = some (.slice A0_4 l0_4.length c0_4) := (blk_cell BK139.out 4).trans rfl
               have hfz29_0 := blk_frozen BK139.out 0
               have hfz29_1 := blk_frozen BK139.out 1
               have hfz29_2 := blk_frozen BK139.out 2
               have hfz29_3 := blk_frozen BK139.out 3
               have hfz29_4 := blk_frozen BK139.out 4
               have p141 : 0 ≤ (x4_3 : Int) := zd
               have q141 : x4_3 < (l0_2.length : Int) := zd
               obtain ⟨ad141, e141, hx141_0⟩ := Kd.at_int HR0_2.out x4_3 p141 q141
               cases e141
               replace hx141_0 := (HB.out.cell (World.block_lt_of_cell? w _ hx141_0)).trans hx141_0
               replace p141 := eq_true p141
               replace q141 := eq_true q141
               have p142 : 0 ≤ (x4_3 : Int) := zd
               have q142 : x4_3 < (l0_2.length : Int) := zd
               obtain ⟨ad142, e142, hx142_0⟩ := Kd.at_int HR0_2.out x4_3 p142 q142
               obtain rfl : ad141 = ad142 := (by injection e142)
               replace hx142_0 := (HB.out.cell (World.block_lt_of_cell? w _ hx142_0)).trans hx142_0
               replace p142 := eq_true p142
               replace q142 := eq_true q142
               go_wp2
               repeat (go_quiet (fail); try go_wp2)
               go_meet
               case rel => exact ⟨_, (true), zr, H', ⟨by have := HJ1.out; have := HJ11.out; have := HK3.out; first | omega | exact Nat.le_refl _⟩, ⟨zb BK139.out⟩, ⟨zs GE139.out⟩⟩
              ·rw [if_neg c28] at H
               have c28b0 : decide (9 < (rd l0_2 x4_3)) = false := decide_eq_false c28
               clear c28
               by_cases c30 : x4_3 < (l0_3.length : Int)
               ·rw [if_pos c30] at H
                have c30b0 : decide (x4_3 < (l0_3.length : Int)) = true := decide_eq_true c30
                clear c30
                by_cases c31 : (rd l0_3 x4_3) < 0
                ·rw [if_pos c31] at H
                 have c31b0 : decide ((rd l0_3 x4_3) < 0) = true := decide_eq_true c31
                 clear c31
                 have H' := Aside0.mk H
                 clear H
                 have hcz32_0 : wr.cell? ⟨gb139, 0, none⟩ = some (.int .i64 a0_0) := (blk_cell BK139.out 0).trans rfl
                 have hcz32_1 : wr.cell? ⟨gb139, 1, none⟩ = some (.int .i64 a0_1) := (blk_cell BK139.out 1).trans rfl
                 have hcz32_2 : wr.cell? ⟨gb139, 2, none⟩ = some (.slice A0_2 l0_2.length c0_2) := (blk_cell BK139.out 2).trans rfl
                 have hcz32_3 : wr.cell? ⟨gb139, 3, none⟩ = some (.slice A0_3 l0_3.length c0_3) := (blk_cell BK139.out 3).trans rfl
                 have hcz32_4 : wr.cell? ⟨gb139, 4, none⟩ = some (.slice A0_4 l0_4.length c0_4) := (blk_cell BK139.out 4).trans rfl
                 have hfz32_0 := blk_frozen BK139.out 0
                 have hfz32_1 := blk_frozen BK139.out 1
                 have hfz32_2 := blk_frozen BK139.out 2
                 have hfz32_3 := blk_frozen BK139.out 3
                 have hfz32_4 := blk_frozen BK139.out 4
                 have p141 : 0 ≤ (x4_3 : Int) := zd
                 have q141 : x4_3 < (l0_2.length : Int) := zd
                 obtain ⟨ad141, e141, hx141_0⟩ := Kd.at_int HR0_2.out x4_3 p141 q141
                 cases e141
                 replace hx141_0 := (HB.out.cell (World.block_lt_of_cell? w _ hx141_0)).trans hx141_0
                 replace p141 := eq_true p141
                 replace q141 := eq_true q141
                 have p142 : 0 ≤ (x4_3 : Int) := zd
                 have q142 : x4_3 < (l0_2.length : Int) := zd
                 obtain ⟨ad142, e142, hx142_0⟩ := Kd.at_int HR0_2.out x4_3 p142 q142
                 obtain rfl : ad141 = ad142 := (by injection e142)
                 replace hx142_0 := (HB.out.cell (World.block_lt_of_cell? w _ hx142_0)).trans hx142_0
                 replace p142 := eq_true p142
                 replace q142 := eq_true q142
                 have p143 : 0 ≤ (x4_3 : Int) := zd
                 have q143 : x4_3 < (l0_3.length : Int) := zd
                 obtain ⟨ad143, e143, hx143_0⟩ := Kd.at_int HR0_3.out x4_3 p143 q143
                 cases e143
                 replace hx143_0 := (HB.out.cell (World.block_lt_of_cell? w _ hx143_0)).trans hx143_0
                 replace p143 := eq_true p143
                 replace q143 := eq_true q143
                 go_wp2
                 repeat (go_quiet (fail); try go_wp2)
                 go_meet
                 case rel => exact ⟨_, (true), zr, H', ⟨by have := HJ1.out; have := HJ11.out; have := HK3.out; first | omega | exact Nat.le_refl _⟩, ⟨zb BK139.out⟩, ⟨zs GE139.out⟩⟩
                ·rw [if_neg c31] at H
                 have c31b0 : decide ((rd l0_3 x4_3) < 0) = false := decide_eq_false c31
                 clear c31
                 by_cases c33 : (rd l0_3 x4_3) > 15
                 ·rw [if_pos c33] at H
                  have c33b0 : decide (15 < (rd l0_3 x4_3)) = true := decide_eq_true c33
                  clear c33
                  have H' := Aside0.mk H
                  clear H
                  have hcz34_0 : wr.cell? ⟨gb139, 0, none⟩ = some (.int .i64 a0_0) := (blk_cell BK139.out 0).trans rfl
                  have hcz34_1 : wr.cell? ⟨gb139, 1, none⟩ = some (.int .i64 a0_1) := (blk_cell BK139.out 1).trans rfl
                  have hcz34_2 : wr.cell? ⟨gb139, 2, none⟩ = some (.slice A0_2 l0_2.length c0_2) := (blk_cell BK139.out 2).trans rfl
                  have hcz34_3 : wr.cell? ⟨gb139, 3, none⟩ = some (.slice A0_3 l0_3.length c0_3) := (blk_cell BK139.out 3).trans rfl
                  have hcz34_4 : wr.cell? ⟨gb139, 4, none⟩ = some (.slice A0_4 l0_4.length c0_4) := (blk_cell BK139.out 4).trans rfl
                  have hfz34_0 := blk_frozen BK139.out 0
                  have hfz34_1 := blk_frozen BK139.out 1
                  have hfz34_2 := blk_frozen BK139.out 2
                  have hfz34_3 := blk_frozen BK139.out 3
                  have hfz34_4 := blk_frozen BK139.out 4
                  have p141 : 0 ≤ (x4_3 : Int) := zd
                  have q141 : x4_3 < (l0_2.length : Int) := zd
                  obtain ⟨ad141, e141, hx141_0⟩ := Kd.at_int HR0_2.out x4_3 p141 q141
                  cases e141
                  replace hx141_0 := (HB.out.cell (World.block_lt_of_cell? w _ hx141_0)).trans hx141_0
                  replace p141 := eq_true p141
                  replace q141 := eq_true q141
                  have p142 : 0 ≤ (x4_3 : Int) := zd
                  have q142 : x4_3 < (l0_2.length : Int) := zd
                  obtain ⟨ad142, e142, hx142_0⟩ := Kd.at_int HR0_2.out x4_3 p142 q142
                  obtain rfl : ad141 = ad142 := (by injection e142)
                  replace hx142_0 := (HB.out.cell (World.block_lt_of_cell? w _ hx142_0)).trans hx142_0
                  replace p142 := eq_true p142
                  replace q142 := eq_true q142
                  have p143 : 0 ≤ (x4_3 : Int) := zd
                  have q143 : x4_3 < (l0_3.length : Int) := zd
                  obtain ⟨ad143, e143, hx143_0⟩ := Kd.at_int HR0_3.out x4_3 p143 q143
                  cases e143
                  replace hx143_0 := (HB.out.cell (World.block_lt_of_cell? w _ hx143_0)).trans hx143_0
                  replace p143 := eq_true p143
                  replace q143 := eq_true q143
                  have p144 : 0 ≤ (x4_3 : Int) := zd
                  have q144 : x4_3 < (l0_3.length : Int) := zd
                  obtain ⟨ad144, e144, hx144_0⟩ := Kd.at_int HR0_3.out x4_3 p144 q144
                  obtain rfl : ad143 = ad144 := (by injection e144)
                  replace hx144_0 := (HB.out.cell (World.block_lt_of_cell? w _ hx144_0)).trans hx144_0
                  replace p144 := eq_true p144
                  replace q144 := eq_true q144
                  go_wp2
                  repeat (go_quiet (fail); try go_wp2)
                  go_meet
                  case rel => exact ⟨_, (true), zr, H', ⟨by have := HJ1.out; have := HJ11.out; have := HK3.out; first | omega | exact Nat.le_refl _⟩, ⟨zb BK139.out⟩, ⟨zs GE139.out⟩⟩
                 ·rw [if_neg c33] at H
                  have c33b0 : decide (15 < (rd l0_3 x4_3)) = false := decide_eq_false c33
                  clear c33
                  by_cases c35 : (rd l0_2 x4_3) = 0
                  ·rw [if_pos c35] at H
                   have c35b0 : ((rd l0_2 x4_3) == 0) = true := beq_iff_eq.mpr c35
                   have c35b1 : ((rd l0_2 x4_3) != 0) = false := bne_eq_false_iff_eq.mpr c35
                   clear c35
                   have H' := Aside0.mk H
                   clear H
                   have hcz36_0 : wr.cell? ⟨gb139, 0, none⟩ = some (.int .i64 a0_0) := (blk_cell BK139.out 0).trans rfl
                   have hcz36_1 : wr.cell? ⟨gb139, 1, none⟩ = some (.int .i64 a0_1) := (blk_cell BK139.out 1).trans rfl
                   have hcz36_2 : wr.cell? ⟨gb139, 2, none⟩ = some (.slice A0_2 l0_2.length c0_2) := (blk_cell BK139.out 2).trans rfl
                   have hcz36_3 : wr.cell? ⟨gb139, 3, none⟩ = some (.slice A0_3 l0_3.length c0_3) := (blk_cell BK139.out 3).trans rfl
                   have hcz36_4 : wr.cell? ⟨gb139, 4, none⟩ = some (.slice A0_4 l0_4.length c0_4) := (blk_cell BK139.out 4).trans rfl
                   have hfz36_0 := blk_frozen BK139.out 0
                   have hfz36_1 := blk_frozen BK139.out 1
                   have hfz36_2 := blk_frozen BK139.out 2
                   have hfz36_3 := blk_frozen BK139.out 3
                   have hfz36_4 := blk_frozen BK139.out 4
                   have p141 : 0 ≤ (x4_3 : Int) := zd
                   have q141 : x4_3 < (l0_2.length : Int) := zd
                   obtain ⟨ad141, e141, hx141_0⟩ := Kd.at_int HR0_2.out x4_3 p141 q141
                   cases e141
                   replace hx141_0 := (HB.out.cell (World.block_lt_of_cell? w _ hx141_0)).trans hx141_0
                   replace p141 := eq_true p141
                   replace q141 := eq_true q141
                   have p142 : 0 ≤ (x4_3 : Int) := zd
                   have q142 : x4_3 < (l0_2.length : Int) := zd
                   obtain ⟨ad142, e142, hx142_0⟩ := Kd.at_int HR0_2.out x4_3 p142 q142
                   obtain rfl : ad141 = ad142 := (by injection e142)
                   replace hx142_0 := (HB.out.cell (World.block_lt_of_cell? w _ hx142_0)).trans hx142_0
                   replace p142 := eq_true p142
                   replace q142 := eq_true q142
                   have p143 : 0 ≤ (x4_3 : Int) := zd
                   have q143 : x4_3 < (l0_3.length : Int) := zd
                   obtain ⟨ad143, e143, hx143_0⟩ := Kd.at_int HR0_3.out x4_3 p143 q143
                   cases e143
                   replace hx143_0 := (HB.out.cell (World.block_lt_of_cell? w _ hx143_0)).trans hx143_0
                   replace p143 := eq_true p143
                   replace q143 := eq_true q143
                   have p144 : 0 ≤ (x4_3 : Int) := zd
                   have q144 : x4_3 < (l0_3.length : Int) := zd
                   obtain ⟨ad144, e144, hx144_0⟩ := Kd.at_int HR0_3.out x4_3 p144 q144
                   obtain rfl : ad143 = ad144 := (by injection e144)
                   replace hx144_0 := (HB.out.cell (World.block_lt_of_cell? w _ hx144_0)).trans hx144_0
                   replace p144 := eq_true p144
                   replace q144 := eq_true q144
                   have p145 : 0 ≤ (x4_3 : Int) := zd
                   have q145 : x4_3 < (l0_2.length : Int) := zd
                   obtain ⟨ad145, e145, hx145_0⟩ := Kd.at_int HR0_2.out x4_3 p145 q145
                   obtain rfl : ad141 = ad145 := (by injection e145)
                   replace hx145_0 := (HB.out.cell (World.block_lt_of_cell? w _ hx145_0)).trans hx145_0
                   replace p145 := eq_true p145
                   replace q145 := eq_true q145
                   have p146 : 0 ≤ (x4_3 : Int) := zd
                   have q146 : x4_3 < (l0_3.length : Int) := zd
                   obtain ⟨ad146, e146, hx146_0⟩ := Kd.at_int HR0_3.out x4_3 p146 q146
                   obtain rfl : ad143 = ad146 := (by injection e146)
                   replace hx146_0 := (HB.out.cell (World.block_lt_of_cell? w _ hx146_0)).trans hx146_0
                   replace p146 := eq_true p146
                   replace q146 := eq_true q146
                   go_wp2
                   repeat (go_quiet (fail); try go_wp2)
                   go_meet
                   case rel => exact ⟨_, (((rd l0_3 x4_3) != 0)), zr, H', ⟨by have := HJ1.out; have := HJ11.out; have := HK3.out; first | omega | exact Nat.le_refl _⟩, ⟨zb BK139.out⟩, ⟨zs GE139.out⟩⟩
                  ·rw [if_neg c35] at H
                   have c35b0 : ((rd l0_2 x4_3) == 0) = false := beq_eq_false_iff_ne.mpr c35
                   have c35b1 : ((rd l0_2 x4_3) != 0) = true := bne_iff_ne.mpr c35
                   have H' := Aside0.mk H
                   clear H
                   have hcz37_0 : wr.cell? ⟨gb139, 0, none⟩ = some (.int .i64 a0_0) := (blk_cell BK139.out 0).trans rfl
                   have hcz37_1 : wr.cell? ⟨gb139, 1, none⟩ = some (.int .i64 a0_1) := (blk_cell BK139.out 1).trans rfl
                   have hcz37_2 : wr.cell? ⟨gb139, 2, none⟩ = some (.slice A0_2 l0_2.length c0_2) := (blk_cell BK139.out 2).trans rfl
                   have hcz37_3 : wr.cell? ⟨gb139, 3, none⟩ = some (.slice A0_3 l0_3.length c0_3) := (blk_cell BK139.out 3).trans rfl
                   have hcz37_4 : wr.cell? ⟨gb139, 4, none⟩ = some (.slice A0_4 l0_4.length c0_4) := (blk_cell BK139.out 4).trans rfl
                   have hfz37_0 := blk_frozen BK139.out 0
                   have hfz37_1 := blk_frozen BK139.out 1
                   have hfz37_2 := blk_frozen BK139.out 2
                   have hfz37_3 := blk_frozen BK139.out 3
                   have hfz37_4 := blk_frozen BK139.out 4
                   have p141 : 0 ≤ (x4_3 : Int) := zd
                   have q141 : x4_3 < (l0_2.length : Int) := zd
                   obtain ⟨ad141, e141, hx141_0⟩ := Kd.at_int HR0_2.out x4_3 p141 q141
                   cases e141
                   replace hx141_0 := (HB.out.cell (World.block_lt_of_cell? w _ hx141_0)).trans hx141_0
                   replace p141 := eq_true p141
                   replace q141 := eq_true q141
                   have p142 : 0 ≤ (x4_3 : Int) := zd
                   have q142 : x4_3 < (l0_2.length : Int) := zd
                   obtain ⟨ad142, e142, hx142_0⟩ := Kd.at_int HR0_2.out x4_3 p142 q142
                   obtain rfl : ad141 = ad142 := (by injection e142)
                   replace hx142_0 := (HB.out.cell (World.block_lt_of_cell? w _ hx142_0)).trans hx142_0
                   replace p142 := eq_true p142
                   replace q142 := eq_true q142
                   have p143 : 0 ≤ (x4_3 : Int) := zd
                   have q143 : x4_3 < (l0_3.length : Int) := zd
                   obtain ⟨ad143, e143, hx143_0⟩ := Kd.at_int HR0_3.out x4_3 p143 q143
                   cases e143
                   replace hx143_0 := (HB.out.cell (World.block_lt_of_cell? w _ hx143_0)).trans hx143_0
                   replace p143 := eq_true p143
                   replace q143 := eq_true q143
                   have p144 : 0 ≤ (x4_3 : Int) := zd
                   have q144 : x4_3 < (l0_3.length : Int) := zd
                   obtain ⟨ad144, e144, hx144_0⟩ := Kd.at_int HR0_3.out x4_3 p144 q144
                   obtain rfl : ad143 = ad144 := (by injection e144)
                   replace hx144_0 := (HB.out.cell (World.block_lt_of_cell? w _ hx144_0)).trans hx144_0
                   replace p144 := eq_true p144
                   replace q144 := eq_true q144
                   have p145 : 0 ≤ (x4_3 : Int) := zd
                   have q145 : x4_3 < (l0_2.length : Int) := zd
                   obtain ⟨ad145, e145, hx145_0⟩ := Kd.at_int HR0_2.out x4_3 p145 q145
                   obtain rfl : ad141 = ad145 := (by injection e145)
                   replace hx145_0 := (HB.out.cell (World.block_lt_of_cell? w _ hx145_0)).trans hx145_0
                   replace p145 := eq_true p145
                   replace q145 := eq_true q145
                   go_wp2
                   repeat (go_quiet (fail); try go_wp2)
                   go_meet
                   case rel => exact ⟨_, (false), zr, H', ⟨by have := HJ1.out; have := HJ11.out; have := HK3.out; first | omega | exact Nat.le_refl _⟩, ⟨zb BK139.out⟩, ⟨zs GE139.out⟩⟩
               ·rw [if_neg c30] at H
                exact absurd H (by simp)
            ·rw [if_neg c25] at H
             exact absurd H (by simp)
           ·rw [if_neg c24] at H
            exact absurd H (by simp)
          case rest =>
           clear HC23
           try clear c1
           try clear p1
           try clear q1
           try clear hx1
           try clear c2
           try clear p2
           try clear c3
           try clear c4
           try clear c4b0
           try clear c6
           try clear c6b0
           try clear p6
           try clear c8
           try clear c8b0
           try clear c11
           try clear c14
           try clear c14b0
           try clear c14b1
           try clear p14
           try clear q14
           try clear hx14
           try clear c15
           try clear c15b0
           try clear c15b1
           try clear c16
           try clear c21
           try clear c22
           try clear c22b0
           try clear c24
           try clear c24b0
           try clear c25
           try clear c25b0
           try clear c26
           try clear c26b0
           try clear c28
           try clear c28b0
           try clear c30
           try clear c30b0
           try clear c31
           try clear c31b0
           try clear c33
           try clear c33b0
           try clear c35
           try clear c35b0
           try clear c35b1
           try clear hcz10_0
           try clear hcz10_1
           try clear hcz10_2
           try clear hcz10_3
           try clear hcz10_4
           try clear hcz13_0
           try clear hcz13_1
           try clear hcz13_2
           try clear hcz13_3
           try clear hcz13_4
           try clear hcz17_0
           try clear hcz17_1
           try clear hcz17_2
           try clear hcz17_3
           try clear hcz17_4
           try clear hcz19_0
           try clear hcz19_1
           try clear hcz19_2
           try clear hcz19_3
           try clear hcz19_4
           try clear hcz20_0
           try clear hcz20_1
           try clear hcz20_2
           try clear hcz20_3
           try clear hcz20_4
           try clear hcz27_0
           try clear hcz27_1
           try clear hcz27_2
           try clear hcz27_3
           try clear hcz27_4
           try clear hcz29_0
           try clear hcz29_1
           try clear hcz29_2
           try clear hcz29_3
           try clear hcz29_4
           try clear hcz32_0
           try clear hcz32_1
           try clear hcz32_2
           try clear hcz32_3
           try clear hcz32_4
           try clear hcz34_0
           try clear hcz34_1
           try clear hcz34_2
           try clear hcz34_3
           try clear hcz34_4
           try clear hcz36_0
           try clear hcz36_1
           try clear hcz36_2
           try clear hcz36_3
           try clear hcz36_4
           try clear hcz37_0
           try clear hcz37_1
           try clear hcz37_2
           try clear hcz37_3
           try clear hcz37_4
           try clear hcz5_0
           try clear hcz5_1
           try clear hcz5_2
           try clear hcz5_3
           try clear hcz5_4
           try clear hcz7_0
           try clear hcz7_1
           try clear hcz7_2
           try clear hcz7_3
           try clear hcz7_4
           try clear hcz9_0
           try clear hcz9_1
           try clear hcz9_2
           try clear hcz9_3
           try clear hcz9_4
           try clear hfz10_0
           try clear hfz10_1
           try clear hfz10_2
           try clear hfz10_3
           try clear hfz10_4
           try clear hfz13_0
           try clear hfz13_1
           try clear hfz13_2
           try clear hfz13_3
           try clear hfz13_4
           try clear hfz17_0
           try clear hfz17_1
           try clear hfz17_2
           try clear hfz17_3
           try clear hfz17_4
           try clear hfz19_0
           try clear hfz19_1
           try clear hfz19_2
           try clear hfz19_3
           try clear hfz19_4
           try clear hfz20_0
           try clear hfz20_1
           try clear hfz20_2
           try clear hfz20_3
           try clear hfz20_4
           try clear hfz27_0
           try clear hfz27_1
           try clear hfz27_2
           try clear hfz27_3
           try clear hfz27_4
           try clear hfz29_0
           try clear hfz29_1
           try clear hfz29_2
           try clear hfz29_3
           try clear hfz29_4
           try clear hfz32_0
           try clear hfz32_1
           try clear hfz32_2
           try clear hfz32_3
           try clear hfz32_4
           try clear hfz34_0
           try clear hfz34_1
           try clear hfz34_2
           try clear hfz34_3
           try clear hfz34_4
           try clear hfz36_0
           try clear hfz36_1
           try clear hfz36_2
           try clear hfz36_3
           try clear hfz36_4
           try clear hfz37_0
           try clear hfz37_1
           try clear hfz37_2
           try clear hfz37_3
           try clear hfz37_4
           try clear hfz5_0
           try clear hfz5_1
           try clear hfz5_2
           try clear hfz5_3
           try clear hfz5_4
           try clear hfz7_0
           try clear hfz7_1
           try clear hfz7_2
           try clear hfz7_3
           try clear hfz7_4
           try clear hfz9_0
           try clear hfz9_1
           try clear hfz9_2
           try clear hfz9_3
           try clear hfz9_4
           try clear hx141_0
           try clear hx142_0
           try clear hx143_0
           try clear hx144_0
           try clear hx145_0
           try clear hx146_0
           try clear p141
           try clear p142
           try clear p143
           try clear p144
           try clear p145
           try clear p146
           try clear p2
           try clear p6
           try clear q141
           try clear q142
           try clear q143
           try clear q144
           try clear q145
           try clear q146
           obtain ⟨kq, x101_22, rfl, HA, HJ22, BK139, HB⟩ := hcut
           cases kq with
           | zero => exact absurd HA.out (by simp [spec_ValidLayout.j3])
           | succ kj22 =>
            have H := HA.out
            clear HA
            simp only [spec_ValidLayout.j3] at H
            by_cases c38 : x101_22 = true
            ·subst c38
             have H1 : (some false) = some r := by rw [if_pos rfl] at H; exact H
             clear H
             have H := H1
             clear H1
             obtain rfl := Option.some.inj H
             go_wp2
             repeat (go_quiet (fail); try go_wp2)
             go_ret
             exact ⟨ze, (zs GE139.out)⟩
            ·replace c38 := Bool.eq_false_iff.mpr c38
             subst c38
             have H1 : (if 0 ≤ x4_3 then (if x4_3 < (l0_3.length : Int) then ((spec_l4bits.f kj22 (rd l0_3 x4_3)).bind fun t148 => (spec_ValidLayout.l1 kj22 (wrap64 (a0_0 * a0_1)) x4_3 t148 0 a0_0 a0_1 l0_2 l0_3 l0_4)) else (none)) else (none)) = some r := by rw [if_neg (show ¬ (false = true) by decide)] at H; exact H
             clear H
             have H := H1
             clear H1
             by_cases c39 : 0 ≤ x4_3
             ·rw [if_pos c39] at H
              have c39b0 : decide (0 ≤ x4_3) = true := decide_eq_true c39
              clear c39
              by_cases c40 : x4_3 < (l0_3.length : Int)
              ·rw [if_pos c40] at H
               have c40b0 : decide (x4_3 < (l0_3.length : Int)) = true := decide_eq_true c40
               clear c40
               replace H := Option.bind_eq_some_iff.mp H
               obtain ⟨t148, A410, H⟩ := H
               replace H : (spec_ValidLayout.l1 kj22 (wrap64 (a0_0 * a0_1)) x4_3 t148 0 a0_0 a0_1 l0_2 l0_3 l0_4) = some r := H
               have A41 := Aside0.mk A410
               clear A410
               have H' := Aside0.mk H
               clear H
               have hcz42_0 : wc.cell? ⟨gb139, 0, none⟩ = some (.int .i64 a0_0) := (blk_cell BK139.out 0).trans rfl
               have hcz42_1 : wc.cell? ⟨gb139, 1, none⟩ = some (.int .i64 a0_1) := (blk_cell BK139.out 1).trans rfl
               have hcz42_2 : wc.cell? ⟨gb139, 2, none⟩ = some (.slice A0_2 l0_2.length c0_2) := (blk_cell BK139.out 2).trans rfl
               have hcz42_3 : wc.cell? ⟨gb139, 3, none⟩ = some (.slice A0_3 l0_3.length c0_3) := (blk_cell BK139.out 3).trans rfl
               have hcz42_4 : wc.cell? ⟨gb139, 4, none⟩ = some (.slice A0_4 l0_4.length c0_4) := (blk_cell BK139.out 4).trans rfl
               have hfz42_0 := blk_frozen BK139.out 0
               have hfz42_1 := blk_frozen BK139.out 1
               have hfz42_2 := blk_frozen BK139.out 2
               have hfz42_3 := blk_frozen BK139.out 3
               have hfz42_4 := blk_frozen BK139.out 4
               have p147 : 0 ≤ (x4_3 : Int) := zd
               have q147 : x4_3 < (l0_3.length : Int) := zd
               obtain ⟨ad147, e147, hx147_0⟩ := Kd.at_int HR0_3.out x4_3 p147 q147
               cases e147
               replace hx147_0 := (HB.out.cell (World.block_lt_of_cell? w _ hx147_0)).trans hx147_0
               replace p147 := eq_true p147
               replace q147 := eq_true q147
               go_wp2_with (first | (go_at_call 47; (with_reducible refine (spec_l4bits.calls kj22 (rd l0_3 x4_3) t148 _ A41.out).mono ?_); rintro e w43 ⟨v149, rfl, ho0, hb⟩; have n0_ := Aside0.mk (Kd.R_lower ho0 (below_size (zs GE139.out))); have n1_ := Aside0.mk (blk_below (g := gb139) (o := .cells #[.int .i64 a0_0, .int .i64 a0_1, .slice A0_2 l0_2.length c0_2, .slice (some ad147) l0_3.length c0_3, .slice A0_4 l0_4.length c0_4] 36 (0, 0)) (zb BK139.out) hb); have n2_ := Aside0.mk (below_step (zs GE139.out) hb); clear BK139; clear HB; have HO150 := n0_; have BK139 := n1_; have HB := n2_; clear n0_ n1_ n2_; (try clear hb); (try clear hb2); (try clear hk); (try clear hi); (try clear ho0)))
               repeat (go_quiet (first | (go_at_call 47; (with_reducible refine (spec_l4bits.calls kj22 (rd l0_3 x4_3) t148 _ A41.out).mono ?_); rintro e w43 ⟨v149, rfl, ho0, hb⟩; have n0_ := Aside0.mk (Kd.R_lower ho0 (below_size (zs GE139.out))); have n1_ := Aside0.mk (blk_below (g := gb139) (o := .cells #[.int .i64 a0_0, .int .i64 a0_1, .slice A0_2 l0_2.length c0_2, .slice (some ad147) l0_3.length c0_3, .slice A0_4 l0_4.length c0_4] 36 (0, 0)) (zb BK139.out) hb); have n2_ := Aside0.mk (below_step (zs GE139.out) hb); clear BK139; clear HB; have HO150 := n0_; have BK139 := n1_; have HB := n2_; clear n0_ n1_ n2_; (try clear hb); (try clear hb2); (try clear hk); (try clear hi); (try clear ho0))); try go_wp2_with (first | (go_at_call 47; (with_reducible refine (spec_l4bits.calls kj22 (rd l0_3 x4_3) t148 _ A41.out).mono ?_); rintro e w43 ⟨v149, rfl, ho0, hb⟩; have n0_ := Aside0.mk (Kd.R_lower ho0 (below_size (zs GE139.out))); have n1_ := Aside0.mk (blk_below (g := gb139) (o := .cells #[.int .i64 a0_0, .int .i64 a0_1, .slice A0_2 l0_2.length c0_2, .slice (some ad147) l0_3.length c0_3, .slice A0_4 l0_4.length c0_4] 36 (0, 0)) (zb BK139.out) hb); have n2_ := Aside0.mk (below_step (zs GE139.out) hb); clear BK139; clear HB; have HO150 := n0_; have BK139 := n1_; have HB := n2_; clear n0_ n1_ n2_; (try clear hb); (try clear hb2); (try clear hk); (try clear hi); (try clear ho0))))
               go_loopg [6] kj22 (fun kq v6 w' => ∃ (x6_5 : Int), v6 = .int .i64 x6_5 ∧ Aside0 (spec_ValidLayout.l1 kq (wrap64 (a0_0 * a0_1)) x4_3 t148 x6_5 a0_0 a0_1 l0_2 l0_3 l0_4 = some r) ∧ Aside0 (kq ≤ kj22) ∧ Aside0 (Kd.R Kd.bool 4 w' w.heap.size (fun _ => True) v149 t148) ∧ Aside0 (w'.heap[gb139]? = some (.cells #[.int .i64 a0_0, .int .i64 a0_1, (.slice A0_2 l0_2.length c0_2), (.slice (some ad147) l0_3.length c0_3), (.slice A0_4 l0_4.length c0_4)] 36 (0, 0))) ∧ Aside0 (Below w.heap.size w w'))
               case atStart => exact ⟨(0), zr, H', ⟨Nat.le_refl _⟩, ⟨by (with_reducible repeat (first | apply Kd.R_alloc | apply Kd.R_drewN | apply Kd.R_drew)); exact HO150.out⟩, ⟨zb BK139.out⟩, ⟨zs GE139.out⟩⟩
               case round =>
                clear H'
                try clear c1
                try clear p1
                try clear q1
                try clear hx1
                try clear c2
                try clear p2
                try clear c3
                try clear c4
                try clear c4b0
                try clear c6
                try clear c6b0
                try clear p6
                try clear c8
                try clear c8b0
                try clear c11
                try clear c14
                try clear c14b0
                try clear c14b1
                try clear p14
                try clear q14
                try clear hx14
                try clear c15
                try clear c15b0
                try clear c15b1
                try clear c16
                try clear c21
                try clear c22
                try clear c22b0
                try clear c24
                try clear c24b0
                try clear c25
                try clear c25b0
                try clear c26
                try clear c26b0
                try clear c28
                try clear c28b0
                try clear c30
                try clear c30b0
                try clear c31
                try clear c31b0
                try clear c33
                try clear c33b0
                try clear c35
                try clear c35b0
                try clear c35b1
                try clear c38
                try clear c39
                try clear c39b0
                try clear c40
                try clear c40b0
                try clear hcz10_0
                try clear hcz10_1
                try clear hcz10_2
                try clear hcz10_3
                try clear hcz10_4
                try clear hcz13_0
                try clear hcz13_1
                try clear hcz13_2
                try clear hcz13_3
                try clear hcz13_4
                try clear hcz17_0
                try clear hcz17_1
                try clear hcz17_2
                try clear hcz17_3
                try clear hcz17_4
                try clear hcz19_0
                try clear hcz19_1
                try clear hcz19_2
                try clear hcz19_3
                try clear hcz19_4
                try clear hcz20_0
                try clear hcz20_1
                try clear hcz20_2
                try clear hcz20_3
                try clear hcz20_4
                try clear hcz27_0
                try clear hcz27_1
                try clear hcz27_2
                try clear hcz27_3
                try clear hcz27_4
                try clear hcz29_0
                try clear hcz29_1
                try clear hcz29_2
                try clear hcz29_3
                try clear hcz29_4
                try clear hcz32_0
                try clear hcz32_1
                try clear hcz32_2
                try clear hcz32_3
                try clear hcz32_4
                try clear hcz34_0
                try clear hcz34_1
                try clear hcz34_2
                try clear hcz34_3
                try clear hcz34_4
                try clear hcz36_0
                try clear hcz36_1
                try clear hcz36_2
                try clear hcz36_3
                try clear hcz36_4
                try clear hcz37_0
                try clear hcz37_1
                try clear hcz37_2
                try clear hcz37_3
                try clear hcz37_4
                try clear hcz42_0
                try clear hcz42_1
                try clear hcz42_2
                try clear hcz42_3
                try clear hcz42_4
                try clear hcz5_0
                try clear hcz5_1
                try clear hcz5_2
                try clear hcz5_3
                try clear hcz5_4
                try clear hcz7_0
                try clear hcz7_1
                try clear hcz7_2
                try clear hcz7_3
                try clear hcz7_4
                try clear hcz9_0
                try clear hcz9_1
                try clear hcz9_2
                try clear hcz9_3
                try clear hcz9_4
                try clear hfz10_0
                try clear hfz10_1
                try clear hfz10_2
                try clear hfz10_3
                try clear hfz10_4
                try clear hfz13_0
                try clear hfz13_1
                try clear hfz13_2
                try clear hfz13_3
                try clear hfz13_4
                try clear hfz17_0
                try clear hfz17_1
                try clear hfz17_2
                try clear hfz17_3
                try clear hfz17_4
                try clear hfz19_0
                try clear hfz19_1
                try clear hfz19_2
                try clear hfz19_3
                try clear hfz19_4
                try clear hfz20_0
                try clear hfz20_1
                try clear hfz20_2
                try clear hfz20_3
                try clear hfz20_4
                try clear hfz27_0
                try clear hfz27_1
                try clear hfz27_2
                try clear hfz27_3
                try clear hfz27_4
                try clear hfz29_0
                try clear hfz29_1
                try clear hfz29_2
                try clear hfz29_3
                try clear hfz29_4
                try clear hfz32_0
                try clear hfz32_1
                try clear hfz32_2
                try clear hfz32_3
                try clear hfz32_4
                try clear hfz34_0
                try clear hfz34_1
                try clear hfz34_2
                try clear hfz34_3
                try clear hfz34_4
                try clear hfz36_0
                try clear hfz36_1
                try clear hfz36_2
                try clear hfz36_3
                try clear hfz36_4
                try clear hfz37_0
                try clear hfz37_1
                try clear hfz37_2
                try clear hfz37_3
                try clear hfz37_4
                try clear hfz42_0
                try clear hfz42_1
                try clear hfz42_2
                try clear hfz42_3
                try clear hfz42_4
                try clear hfz5_0
                try clear hfz5_1
                try clear hfz5_2
                try clear hfz5_3
                try clear hfz5_4
                try clear hfz7_0
                try clear hfz7_1
                try clear hfz7_2
                try clear hfz7_3
                try clear hfz7_4
                try clear hfz9_0
                try clear hfz9_1
                try clear hfz9_2
                try clear hfz9_3
                try clear hfz9_4
                try clear hx141_0
                try clear hx142_0
                try clear hx143_0
                try clear hx144_0
                try clear hx145_0
                try clear hx146_0
                try clear hx147_0
                try clear p1
                try clear p14
                try clear p141
                try clear p142
                try clear p143
                try clear p144
                try clear p145
                try clear p146
                try clear p147
                try clear p2
                try clear p6
                try clear q1
                try clear q14
                try clear q141
                try clear q142
                try clear q143
                try clear q144
                try clear q145
                try clear q146
                try clear q147
                obtain ⟨x6_5, rfl, HA, HK5, HO_5, BK139, HB⟩ := hrel
                cases gk with
                | zero => exact absurd HA.out (by simp [spec_ValidLayout.l1])
                | succ k5 =>
                 have H := HA.out
                 clear HA
                 simp only [spec_ValidLayout.l1] at H
                 by_cases c44 : x6_5 < 4
                 ·rw [if_pos c44] at H
                  have c44b0 : decide (x6_5 < 4) = true := decide_eq_true c44
                  clear c44
                  replace H := Option.bind_eq_some_iff.mp H
                  obtain ⟨t151, A450, H⟩ := H
                  replace H : (if 0 ≤ x6_5 then (if x6_5 < (t148.length : Int) then (if rdOf false t148 x6_5 = true then (if t151 < 0 then (some false) else (if 0 ≤ t151 then (if t151 < (l0_2.length : Int) then (if (rd l0_2 t151) = 0 then (some false) else (spec_ValidLayout.l1 k5 (wrap64 (a0_0 * a0_1)) x4_3 t148 (wrap64 (x6_5 + 1)) a0_0 a0_1 l0_2 l0_3 l0_4)) else (none)) else (none))) else (spec_ValidLayout.l1 k5 (wrap64 (a0_0 * a0_1)) x4_3 t148 (wrap64 (x6_5 + 1)) a0_0 a0_1 l0_2 l0_3 l0_4)) else (none)) else (none)) = some r := H
                  have A45 := Aside0.mk A450
                  clear A450
                  by_cases c46 : 0 ≤ x6_5
                  ·rw [if_pos c46] at H
                   have c46b0 : decide (0 ≤ x6_5) = true := decide_eq_true c46
                   clear c46
                   by_cases c47 : x6_5 < (t148.length : Int)
                   ·rw [if_pos c47] at H
                    have c47b0 : decide (x6_5 < (t148.length : Int)) = true := decide_eq_true c47
                    clear c47
                    obtain ⟨bq48, hbq48⟩ : ∃ b_ : Bool, b_ = (rdOf false t148 x6_5) := ⟨_, rfl⟩
                    replace H : (if bq48 = true then (if t151 < 0 then (some false) else (if 0 ≤ t151 then (if t151 < (l0_2.length : Int) then (if (rd l0_2 t151) = 0 then (some false) else (spec_ValidLayout.l1 k5 (wrap64 (a0_0 * a0_1)) x4_3 t148 (wrap64 (x6_5 + 1)) a0_0 a0_1 l0_2 l0_3 l0_4)) else (none)) else (none))) else (spec_ValidLayout.l1 k5 (wrap64 (a0_0 * a0_1)) x4_3 t148 (wrap64 (x6_5 + 1)) a0_0 a0_1 l0_2 l0_3 l0_4)) = some r := by rw [← hbq48] at H; exact H
                    have Nbq48 := Aside0.mk hbq48
                    clear hbq48
                    by_cases c49 : bq48 = true
                    ·subst c49
                     have H1 : (if t151 < 0 then (some false) else (if 0 ≤ t151 then (if t151 < (l0_2.length : Int) then (if (rd l0_2 t151) = 0 then (some false) else (spec_ValidLayout.l1 k5 (wrap64 (a0_0 * a0_1)) x4_3 t148 (wrap64 (x6_5 + 1)) a0_0 a0_1 l0_2 l0_3 l0_4)) else (none)) else (none))) = some r := by rw [if_pos rfl] at H; exact H
                     clear H
                     have H := H1
                     clear H1
                     by_cases c50 : t151 < 0
                     ·rw [if_pos c50] at H
                      have c50b0 : decide (t151 < 0) = true := decide_eq_true c50
                      clear c50
                      obtain rfl := Option.some.inj H
                      have hcz51_0 : wr.cell? ⟨gb139, 0, none⟩ = some (.int .i64 a0_0) := (blk_cell BK139.out 0).trans rfl
                      have hcz51_1 : wr.cell? ⟨gb139, 1, none⟩ = some (.int .i64 a0_1) := (blk_cell BK139.out 1).trans rfl
                      have hcz51_2 : wr.cell? ⟨gb139, 2, none⟩ = some (.slice A0_2 l0_2.length c0_2) := (blk_cell BK139.out 2).trans rfl
                      have hcz51_3 : wr.cell? ⟨gb139, 3, none⟩ = some (.slice (some ad147) l0_3.length c0_3) := (blk_cell BK139.out 3).trans rfl
                      have hcz51_4 : wr.cell? ⟨gb139, 4, none⟩ = some (.slice A0_4 l0_4.length c0_4) := (blk_cell BK139.out 4).trans rfl
                      have hfz51_0 := blk_frozen BK139.out 0
                      have hfz51_1 := blk_frozen BK139.out 1
                      have hfz51_2 := blk_frozen BK139.out 2
                      have hfz51_3 := blk_frozen BK139.out 3
                      have hfz51_4 := blk_frozen BK139.out 4
                      go_wp2_with (first | (go_at_call 48; (with_reducible refine (spec_l4to.calls a0_0 a0_1 x4_3 x6_5 t151 _ A45.out).mono ?_); rintro e w' ⟨rfl, ⟨nd, rfl⟩⟩; (try first | exact ⟨rfl, _, World.drewN_drewN _ _ _⟩ | exact ⟨rfl, _, Eq.trans (World.drewN_drewN _ _ _) (congrArg (World.drewN _) (Nat.add_assoc _ _ _))⟩); obtain ⟨Ao52, co52, eo52⟩ := Kd.R_slice HO_5.out; subst eo52; have p152 : 0 ≤ (x6_5 : Int) := zd; have q152 : x6_5 < (t148.length : Int) := zd; obtain ⟨ad152, e152, hx152_0⟩ := Kd.at_bool (Kd.R_reads' HO_5.out).2.2 x6_5 p152 q152; (try rw [← Nbq48.out] at hx152_0); cases e152; replace p152 := eq_true p152; replace q152 := eq_true q152))
                      repeat (go_quiet (first | (go_at_call 48; (with_reducible refine (spec_l4to.calls a0_0 a0_1 x4_3 x6_5 t151 _ A45.out).mono ?_); rintro e w' ⟨rfl, ⟨nd, rfl⟩⟩; (try first | exact ⟨rfl, _, World.drewN_drewN _ _ _⟩ | exact ⟨rfl, _, Eq.trans (World.drewN_drewN _ _ _) (congrArg (World.drewN _) (Nat.add_assoc _ _ _))⟩); obtain ⟨Ao52, co52, eo52⟩ := Kd.R_slice HO_5.out; subst eo52; have p152 : 0 ≤ (x6_5 : Int) := zd; have q152 : x6_5 < (t148.length : Int) := zd; obtain ⟨ad152, e152, hx152_0⟩ := Kd.at_bool (Kd.R_reads' HO_5.out).2.2 x6_5 p152 q152; (try rw [← Nbq48.out] at hx152_0); cases e152; replace p152 := eq_true p152; replace q152 := eq_true q152)); try go_wp2_with (first | (go_at_call 48; (with_reducible refine (spec_l4to.calls a0_0 a0_1 x4_3 x6_5 t151 _ A45.out).mono ?_); rintro e w' ⟨rfl, ⟨nd, rfl⟩⟩; (try first | exact ⟨rfl, _, World.drewN_drewN _ _ _⟩ | exact ⟨rfl, _, Eq.trans (World.drewN_drewN _ _ _) (congrArg (World.drewN _) (Nat.add_assoc _ _ _))⟩); obtain ⟨Ao52, co52, eo52⟩ := Kd.R_slice HO_5.out; subst eo52; have p152 : 0 ≤ (x6_5 : Int) := zd; have q152 : x6_5 < (t148.length : Int) := zd; obtain ⟨ad152, e152, hx152_0⟩ := Kd.at_bool (Kd.R_reads' HO_5.out).2.2 x6_5 p152 q152; (try rw [← Nbq48.out] at hx152_0); cases e152; replace p152 := eq_true p152; replace q152 := eq_true q152)))
                      go_ret
                      exact ⟨ze, (zs GE139.out)⟩
                     ·rw [if_neg c50] at H
                      have c50b0 : decide (t151 < 0) = false := decide_eq_false c50
                      clear c50
                      by_cases c53 : 0 ≤ t151
                      ·rw [if_pos c53] at H
                       have c53b0 : decide (0 ≤ t151) = true := decide_eq_true c53
                       clear c53
                       by_cases c54 : t151 < (l0_2.length : Int)
                       ·rw [if_pos c54] at H
                        have c54b0 : decide (t151 < (l0_2.length : Int)) = true := decide_eq_true c54
                        clear c54
                        by_cases c55 : (rd l0_2 t151) = 0
                        ·rw [if_pos c55] at H
                         have c55b0 : ((rd l0_2 t151) == 0) = true := beq_iff_eq.mpr c55
                         have c55b1 : ((rd l0_2 t151) != 0) = false := bne_eq_false_iff_eq.mpr c55
                         clear c55
                         obtain rfl := Option.some.inj H
                         have hcz56_0 : wr.cell? ⟨gb139, 0, none⟩ = some (.int .i64 a0_0) := (blk_cell BK139.out 0).trans rfl
                         have hcz56_1 : wr.cell? ⟨gb139, 1, none⟩ = some (.int .i64 a0_1) := (blk_cell BK139.out 1).trans rfl
                         have hcz56_2 : wr.cell? ⟨gb139, 2, none⟩ = some (.slice A0_2 l0_2.length c0_2) := (blk_cell BK139.out 2).trans rfl
                         have hcz56_3 : wr.cell? ⟨gb139, 3, none⟩ = some (.slice (some ad147) l0_3.length c0_3) := (blk_cell BK139.out 3).trans rfl
                         have hcz56_4 : wr.cell? ⟨gb139, 4, none⟩ = some (.slice A0_4 l0_4.length c0_4) := (blk_cell BK139.out 4).trans rfl
                         have hfz56_0 := blk_frozen BK139.out 0
                         have hfz56_1 := blk_frozen BK139.out 1
                         have hfz56_2 := blk_frozen BK139.out 2
                         have hfz56_3 := blk_frozen BK139.out 3
                         have hfz56_4 := blk_frozen BK139.out 4
                         go_wp2_with (first | (go_at_call 48; (with_reducible refine (spec_l4to.calls a0_0 a0_1 x4_3 x6_5 t151 _ A45.out).mono ?_); rintro e w' ⟨rfl, ⟨nd, rfl⟩⟩; (try first | exact ⟨rfl, _, World.drewN_drewN _ _ _⟩ | exact ⟨rfl, _, Eq.trans (World.drewN_drewN _ _ _) (congrArg (World.drewN _) (Nat.add_assoc _ _ _))⟩); obtain ⟨Ao57, co57, eo57⟩ := Kd.R_slice HO_5.out; subst eo57; have p152 : 0 ≤ (x6_5 : Int) := zd; have q152 : x6_5 < (t148.length : Int) := zd; obtain ⟨ad152, e152, hx152_0⟩ := Kd.at_bool (Kd.R_reads' HO_5.out).2.2 x6_5 p152 q152; (try rw [← Nbq48.out] at hx152_0); cases e152; replace p152 := eq_true p152; replace q152 := eq_true q152; have p153 : 0 ≤ (t151 : Int) := zd; have q153 : t151 < (l0_2.length : Int) := zd; obtain ⟨ad153, e153, hx153_0⟩ := Kd.at_int HR0_2.out t151 p153 q153; cases e153; replace hx153_0 := (HB.out.cell (World.block_lt_of_cell? w _ hx153_0)).trans hx153_0; replace p153 := eq_true p153; replace q153 := eq_true q153))
                         repeat (go_quiet (first | (go_at_call 48; (with_reducible refine (spec_l4to.calls a0_0 a0_1 x4_3 x6_5 t151 _ A45.out).mono ?_); rintro e w' ⟨rfl, ⟨nd, rfl⟩⟩; (try first | exact ⟨rfl, _, World.drewN_drewN _ _ _⟩ | exact ⟨rfl, _, Eq.trans (World.drewN_drewN _ _ _) (congrArg (World.drewN _) (Nat.add_assoc _ _ _))⟩); obtain ⟨Ao57, co57, eo57⟩ := Kd.R_slice HO_5.out; subst eo57; have p152 : 0 ≤ (x6_5 : Int) := zd; have q152 : x6_5 < (t148.length : Int) := zd; obtain ⟨ad152, e152, hx152_0⟩ := Kd.at_bool (Kd.R_reads' HO_5.out).2.2 x6_5 p152 q152; (try rw [← Nbq48.out] at hx152_0); cases e152; replace p152 := eq_true p152; replace q152 := eq_true q152; have p153 : 0 ≤ (t151 : Int) := zd; have q153 : t151 < (l0_2.length : Int) := zd; obtain ⟨ad153, e153, hx153_0⟩ := Kd.at_int HR0_2.out t151 p153 q153; cases e153; replace hx153_0 := (HB.out.cell (World.block_lt_of_cell? w _ hx153_0)).trans hx153_0; replace p153 := eq_true p153; replace q153 := eq_true q153)); try go_wp2_with (first | (go_at_call 48; (with_reducible refine (spec_l4to.calls a0_0 a0_1 x4_3 x6_5 t151 _ A45.out).mono ?_); rintro e w' ⟨rfl, ⟨nd, rfl⟩⟩; (try first | exact ⟨rfl, _, World.drewN_drewN _ _ _⟩ | exact ⟨rfl, _, Eq.trans (World.drewN_drewN _ _ _) (congrArg (World.drewN _) (Nat.add_assoc _ _ _))⟩); obtain ⟨Ao57, co57, eo57⟩ := Kd.R_slice HO_5.out; subst eo57; have p152 : 0 ≤ (x6_5 : Int) := zd; have q152 : x6_5 < (t148.length : Int) := zd; obtain ⟨ad152, e152, hx152_0⟩ := Kd.at_bool (Kd.R_reads' HO_5.out).2.2 x6_5 p152 q152; (try rw [← Nbq48.out] at hx152_0); cases e152; replace p152 := eq_true p152; replace q152 := eq_true q152; have p153 : 0 ≤ (t151 : Int) := zd; have q153 : t151 < (l0_2.length : Int) := zd; obtain ⟨ad153, e153, hx153_0⟩ := Kd.at_int HR0_2.out t151 p153 q153; cases e153; replace hx153_0 := (HB.out.cell (World.block_lt_of_cell? w _ hx153_0)).trans hx153_0; replace p153 := eq_true p153; replace q153 := eq_true q153)))
                         go_ret
                         exact ⟨ze, (zs GE139.out)⟩
                        ·rw [if_neg c55] at H
                         have c55b0 : ((rd l0_2 t151) == 0) = false := beq_eq_false_iff_ne.mpr c55
                         have c55b1 : ((rd l0_2 t151) != 0) = true := bne_iff_ne.mpr c55
                         have H' := Aside0.mk H
                         clear H
                         have hcz58_0 : wr.cell? ⟨gb139, 0, none⟩ = some (.int .i64 a0_0) := (blk_cell BK139.out 0).trans rfl
                         have hcz58_1 : wr.cell? ⟨gb139, 1, none⟩ = some (.int .i64 a0_1) := (blk_cell BK139.out 1).trans rfl
                         have hcz58_2 : wr.cell? ⟨gb139, 2, none⟩ = some (.slice A0_2 l0_2.length c0_2) := (blk_cell BK139.out 2).trans rfl
                         have hcz58_3 : wr.cell? ⟨gb139, 3, none⟩ = some (.slice (some ad147) l0_3.length c0_3) := (blk_cell BK139.out 3).trans rfl
                         have hcz58_4 : wr.cell? ⟨gb139, 4, none⟩ = some (.slice A0_4 l0_4.length c0_4) := (blk_cell BK139.out 4).trans rfl
                         have hfz58_0 := blk_frozen BK139.out 0
                         have hfz58_1 := blk_frozen BK139.out 1
                         have hfz58_2 := blk_frozen BK139.out 2
                         have hfz58_3 := blk_frozen BK139.out 3
                         have hfz58_4 := blk_frozen BK139.out 4
                         go_wp2_with (first | (go_at_call 48; (with_reducible refine (spec_l4to.calls a0_0 a0_1 x4_3 x6_5 t151 _ A45.out).mono ?_); rintro e w' ⟨rfl, ⟨nd, rfl⟩⟩; (try first | exact ⟨rfl, _, World.drewN_drewN _ _ _⟩ | exact ⟨rfl, _, Eq.trans (World.drewN_drewN _ _ _) (congrArg (World.drewN _) (Nat.add_assoc _ _ _))⟩); obtain ⟨Ao59, co59, eo59⟩ := Kd.R_slice HO_5.out; subst eo59; have p152 : 0 ≤ (x6_5 : Int) := zd; have q152 : x6_5 < (t148.length : Int) := zd; obtain ⟨ad152, e152, hx152_0⟩ := Kd.at_bool (Kd.R_reads' HO_5.out).2.2 x6_5 p152 q152; (try rw [← Nbq48.out] at hx152_0); cases e152; replace p152 := eq_true p152; replace q152 := eq_true q152; have p153 : 0 ≤ (t151 : Int) := zd; have q153 : t151 < (l0_2.length : Int) := zd; obtain ⟨ad153, e153, hx153_0⟩ := Kd.at_int HR0_2.out t151 p153 q153; cases e153; replace hx153_0 := (HB.out.cell (World.block_lt_of_cell? w _ hx153_0)).trans hx153_0; replace p153 := eq_true p153; replace q153 := eq_true q153))
                         repeat (go_quiet (first | (go_at_call 48; (with_reducible refine (spec_l4to.calls a0_0 a0_1 x4_3 x6_5 t151 _ A45.out).mono ?_); rintro e w' ⟨rfl, ⟨nd, rfl⟩⟩; (try first | exact ⟨rfl, _, World.drewN_drewN _ _ _⟩ | exact ⟨rfl, _, Eq.trans (World.drewN_drewN _ _ _) (congrArg (World.drewN _) (Nat.add_assoc _ _ _))⟩); obtain ⟨Ao59, co59, eo59⟩ := Kd.R_slice HO_5.out; subst eo59; have p152 : 0 ≤ (x6_5 : Int) := zd; have q152 : x6_5 < (t148.length : Int) := zd; obtain ⟨ad152, e152, hx152_0⟩ := Kd.at_bool (Kd.R_reads' HO_5.out).2.2 x6_5 p152 q152; (try rw [← Nbq48.out] at hx152_0); cases e152; replace p152 := eq_true p152; replace q152 := eq_true q152; have p153 : 0 ≤ (t151 : Int) := zd; have q153 : t151 < (l0_2.length : Int) := zd; obtain ⟨ad153, e153, hx153_0⟩ := Kd.at_int HR0_2.out t151 p153 q153; cases e153; replace hx153_0 := (HB.out.cell (World.block_lt_of_cell? w _ hx153_0)).trans hx153_0; replace p153 := eq_true p153; replace q153 := eq_true q153)); try go_wp2_with (first | (go_at_call 48; (with_reducible refine (spec_l4to.calls a0_0 a0_1 x4_3 x6_5 t151 _ A45.out).mono ?_); rintro e w' ⟨rfl, ⟨nd, rfl⟩⟩; (try first | exact ⟨rfl, _, World.drewN_drewN _ _ _⟩ | exact ⟨rfl, _, Eq.trans (World.drewN_drewN _ _ _) (congrArg (World.drewN _) (Nat.add_assoc _ _ _))⟩); obtain ⟨Ao59, co59, eo59⟩ := Kd.R_slice HO_5.out; subst eo59; have p152 : 0 ≤ (x6_5 : Int) := zd; have q152 : x6_5 < (t148.length : Int) := zd; obtain ⟨ad152, e152, hx152_0⟩ := Kd.at_bool (Kd.R_reads' HO_5.out).2.2 x6_5 p152 q152; (try rw [← Nbq48.out] at hx152_0); cases e152; replace p152 := eq_true p152; replace q152 := eq_true q152; have p153 : 0 ≤ (t151 : Int) := zd; have q153 : t151 < (l0_2.length : Int) := zd; obtain ⟨ad153, e153, hx153_0⟩ := Kd.at_int HR0_2.out t151 p153 q153; cases e153; replace hx153_0 := (HB.out.cell (World.block_lt_of_cell? w _ hx153_0)).trans hx153_0; replace p153 := eq_true p153; replace q153 := eq_true q153)))
                         go_roundg k5
                         case measure => have := HJ1.out; have := HJ11.out; have := HK3.out; have := HJ22.out; have := HK5.out; omega
                         case rel => exact ⟨(wrap64 (x6_5 + 1)), zr, H', ⟨by have := HJ1.out; have := HJ11.out; have := HK3.out; have := HJ22.out; have := HK5.out; omega⟩, ⟨by (with_reducible repeat (first | apply Kd.R_alloc | apply Kd.R_drewN | apply Kd.R_drew)); exact HO_5.out⟩, ⟨zb BK139.out⟩, ⟨zs GE139.out⟩⟩
                       ·rw [if_neg c54] at H
                        exact absurd H (by simp)
                      ·rw [if_neg c53] at H
                       exact absurd H (by simp)
                    ·replace c49 := Bool.eq_false_iff.mpr c49
                     subst c49
                     have H1 : (spec_ValidLayout.l1 k5 (wrap64 (a0_0 * a0_1)) x4_3 t148 (wrap64 (x6_5 + 1)) a0_0 a0_1 l0_2 l0_3 l0_4) = some r := by rw [if_neg (show ¬ (false = true) by decide)] at H; exact H
                     clear H
                     have H := H1
                     clear H1
                     have H' := Aside0.mk H
                     clear H
                     have hcz60_0 : wr.cell? ⟨gb139, 0, none⟩ = some (.int .i64 a0_0) := (blk_cell BK139.out 0).trans rfl
                     have hcz60_1 : wr.cell? ⟨gb139, 1, none⟩ = some (.int .i64 a0_1) := (blk_cell BK139.out 1).trans rfl
                     have hcz60_2 : wr.cell? ⟨gb139, 2, none⟩ = some (.slice A0_2 l0_2.length c0_2) := (blk_cell BK139.out 2).trans rfl
                     have hcz60_3 : wr.cell? ⟨gb139, 3, none⟩ = some (.slice (some ad147) l0_3.length c0_3) := (blk_cell BK139.out 3).trans rfl
                     have hcz60_4 : wr.cell? ⟨gb139, 4, none⟩ = some (.slice A0_4 l0_4.length c0_4) := (blk_cell BK139.out 4).trans rfl
                     have hfz60_0 := blk_frozen BK139.out 0
                     have hfz60_1 := blk_frozen BK139.out 1
                     have hfz60_2 := blk_frozen BK139.out 2
                     have hfz60_3 := blk_frozen BK139.out 3
                     have hfz60_4 := blk_frozen BK139.out 4
                     go_wp2_with (first | (go_at_call 48; (with_reducible refine (spec_l4to.calls a0_0 a0_1 x4_3 x6_5 t151 _ A45.out).mono ?_); rintro e w' ⟨rfl, ⟨nd, rfl⟩⟩; (try first | exact ⟨rfl, _, World.drewN_drewN _ _ _⟩ | exact ⟨rfl, _, Eq.trans (World.drewN_drewN _ _ _) (congrArg (World.drewN _) (Nat.add_assoc _ _ _))⟩); obtain ⟨Ao61, co61, eo61⟩ := Kd.R_slice HO_5.out; subst eo61; have p152 : 0 ≤ (x6_5 : Int) := zd; have q152 : x6_5 < (t148.length : Int) := zd; obtain ⟨ad152, e152, hx152_0⟩ := Kd.at_bool (Kd.R_reads' HO_5.out).2.2 x6_5 p152 q152; (try rw [← Nbq48.out] at hx152_0); cases e152; replace p152 := eq_true p152; replace q152 := eq_true q152))
                     repeat (go_quiet (first | (go_at_call 48; (with_reducible refine (spec_l4to.calls a0_0 a0_1 x4_3 x6_5 t151 _ A45.out).mono ?_); rintro e w' ⟨rfl, ⟨nd, rfl⟩⟩; (try first | exact ⟨rfl, _, World.drewN_drewN _ _ _⟩ | exact ⟨rfl, _, Eq.trans (World.drewN_drewN _ _ _) (congrArg (World.drewN _) (Nat.add_assoc _ _ _))⟩); obtain ⟨Ao61, co61, eo61⟩ := Kd.R_slice HO_5.out; subst eo61; have p152 : 0 ≤ (x6_5 : Int) := zd; have q152 : x6_5 < (t148.length : Int) := zd; obtain ⟨ad152, e152, hx152_0⟩ := Kd.at_bool (Kd.R_reads' HO_5.out).2.2 x6_5 p152 q152; (try rw [← Nbq48.out] at hx152_0); cases e152; replace p152 := eq_true p152; replace q152 := eq_true q152)); try go_wp2_with (first | (go_at_call 48; (with_reducible refine (spec_l4to.calls a0_0 a0_1 x4_3 x6_5 t151 _ A45.out).mono ?_); rintro e w' ⟨rfl, ⟨nd, rfl⟩⟩; (try first | exact ⟨rfl, _, World.drewN_drewN _ _ _⟩ | exact ⟨rfl, _, Eq.trans (World.drewN_drewN _ _ _) (congrArg (World.drewN _) (Nat.add_assoc _ _ _))⟩); obtain ⟨Ao61, co61, eo61⟩ := Kd.R_slice HO_5.out; subst eo61; have p152 : 0 ≤ (x6_5 : Int) := zd; have q152 : x6_5 < (t148.length : Int) := zd; obtain ⟨ad152, e152, hx152_0⟩ := Kd.at_bool (Kd.R_reads' HO_5.out).2.2 x6_5 p152 q152; (try rw [← Nbq48.out] at hx152_0); cases e152; replace p152 := eq_true p152; replace q152 := eq_true q152)))
                     go_roundg k5
                     case measure => have := HJ1.out; have := HJ11.out; have := HK3.out; have := HJ22.out; have := HK5.out; omega
                     case rel => exact ⟨(wrap64 (x6_5 + 1)), zr, H', ⟨by have := HJ1.out; have := HJ11.out; have := HK3.out; have := HJ22.out; have := HK5.out; omega⟩, ⟨by (with_reducible repeat (first | apply Kd.R_alloc | apply Kd.R_drewN | apply Kd.R_drew)); exact HO_5.out⟩, ⟨zb BK139.out⟩, ⟨zs GE139.out⟩⟩
                   ·rw [if_neg c47] at H
                    exact absurd H (by simp)
                  ·rw [if_neg c46] at H
                   exact absurd H (by simp)
                 ·rw [if_neg c44] at H
                  have c44b0 : decide (x6_5 < 4) = false := decide_eq_false c44
                  clear c44
                  have H' := Aside0.mk H
                  clear H
                  go_wp2
                  repeat (go_quiet (fail); try go_wp2)
                  go_roundg k5
                  case measure => have := HJ1.out; have := HJ11.out; have := HK3.out; have := HJ22.out; have := HK5.out; omega
                  case rel => exact ⟨(wrap64 (x4_3 + 1)), zr, H', ⟨by have := HJ1.out; have := HJ11.out; have := HK3.out; have := HJ22.out; have := HK5.out; omega⟩, ⟨zb BK139.out⟩, ⟨zs GE139.out⟩⟩
              ·rw [if_neg c40] at H
               exact absurd H (by simp)
             ·rw [if_neg c39] at H
              exact absurd H (by simp)
         ·rw [if_neg c22] at H
          have c22b0 : decide (x4_3 < (wrap64 (a0_0 * a0_1))) = false := decide_eq_false c22
          clear c22
          have H' := Aside0.mk H
          clear H
          go_wp2
          repeat (go_quiet (fail); try go_wp2)
          go_loopg [8] k3 (fun kq v8 w' => ∃ (x8_4 : Int), v8 = .int .i64 x8_4 ∧ Aside0 (spec_ValidLayout.l2 kq x8_4 a0_0 a0_1 l0_2 l0_3 l0_4 = some r) ∧ Aside0 (kq ≤ k3) ∧ Aside0 (w'.heap[gb139]? = some (.cells #[.int .i64 a0_0, .int .i64 a0_1, (.slice A0_2 l0_2.length c0_2), (.slice A0_3 l0_3.length c0_3), (.slice A0_4 l0_4.length c0_4)] 36 (0, 0))) ∧ Aside0 (Below w.heap.size w w'))
          case atStart => exact ⟨(0), zr, H', ⟨Nat.le_refl _⟩, ⟨zb BK139.out⟩, ⟨zs GE139.out⟩⟩
          case round =>
           clear H'
           try clear c1
           try clear p1
           try clear q1
           try clear hx1
           try clear c2
           try clear p2
           try clear c3
           try clear c4
           try clear c4b0
           try clear q4
           try clear c5
           try clear c6
           try clear c6b0
           try clear p6
           try clear c8
           try clear c8b0
           try clear c11
           try clear c14
           try clear c14b0
           try clear c14b1
           try clear p14
           try clear q14
           try clear hx14
           try clear c15
           try clear c15b0
           try clear c15b1
           try clear p15
           try clear q15
           try clear hx15
           try clear c16
           try clear c21
           try clear c22
           try clear c22b0
           try clear c24
           try clear c24b0
           try clear c25
           try clear c25b0
           try clear c26
           try clear c26b0
           try clear c28
           try clear c28b0
           try clear c30
           try clear c30b0
           try clear c31
           try clear c31b0
           try clear c33
           try clear c33b0
           try clear c35
           try clear c35b0
           try clear c35b1
           try clear c38
           try clear c39
           try clear c39b0
           try clear c40
           try clear c40b0
           try clear c44
           try clear c44b0
           try clear c46
           try clear c46b0
           try clear c47
           try clear c47b0
           try clear q48
           try clear c49
           try clear c50
           try clear c50b0
           try clear c53
           try clear c53b0
           try clear c54
           try clear c54b0
           try clear c55
           try clear c55b0
           try clear c55b1
           try clear hcz10_0
           try clear hcz10_1
           try clear hcz10_2
           try clear hcz10_3
           try clear hcz10_4
           try clear hcz13_0
           try clear hcz13_1
           try clear hcz13_2
           try clear hcz13_3
           try clear hcz13_4
           try clear hcz17_0
           try clear hcz17_1
           try clear hcz17_2
           try clear hcz17_3
           try clear hcz17_4
           try clear hcz19_0
           try clear hcz19_1
           try clear hcz19_2
           try clear hcz19_3
           try clear hcz19_4
           try clear hcz20_0
           try clear hcz20_1
           try clear hcz20_2
           try clear hcz20_3
           try clear hcz20_4
           try clear hcz27_0
           try clear hcz27_1
           try clear hcz27_2
           try clear hcz27_3
           try clear hcz27_4
           try clear hcz29_0
           try clear hcz29_1
           try clear hcz29_2
           try clear hcz29_3
           try clear hcz29_4
           try clear hcz32_0
           try clear hcz32_1
           try clear hcz32_2
           try clear hcz32_3
           try clear hcz32_4
           try clear hcz34_0
           try clear hcz34_1
           try clear hcz34_2
           try clear hcz34_3
           try clear hcz34_4
           try clear hcz36_0
           try clear hcz36_1
           try clear hcz36_2
           try clear hcz36_3
           try clear hcz36_4
           try clear hcz37_0
           try clear hcz37_1
           try clear hcz37_2
           try clear hcz37_3
           try clear hcz37_4
           try clear hcz42_0
           try clear hcz42_1
           try clear hcz42_2
           try clear hcz42_3
           try clear hcz42_4
           try clear hcz51_0
           try clear hcz51_1
           try clear hcz51_2
           try clear hcz51_3
           try clear hcz51_4
           try clear hcz56_0
           try clear hcz56_1
           try clear hcz56_2
           try clear hcz56_3
           try clear hcz56_4
           try clear hcz58_0
           try clear hcz58_1
           try clear hcz58_2
           try clear hcz58_3
           try clear hcz58_4
           try clear hcz5_0
           try clear hcz5_1
           try clear hcz5_2
           try clear hcz5_3
           try clear hcz5_4
           try clear hcz60_0
           try clear hcz60_1
           try clear hcz60_2
           try clear hcz60_3
           try clear hcz60_4
           try clear hcz7_0
           try clear hcz7_1
           try clear hcz7_2
           try clear hcz7_3
           try clear hcz7_4
           try clear hcz9_0
           try clear hcz9_1
           try clear hcz9_2
           try clear hcz9_3
           try clear hcz9_4
           try clear hfz10_0
           try clear hfz10_1
           try clear hfz10_2
           try clear hfz10_3
           try clear hfz10_4
           try clear hfz13_0
           try clear hfz13_1
           try clear hfz13_2
           try clear hfz13_3
           try clear hfz13_4
           try clear hfz17_0
           try clear hfz17_1
           try clear hfz17_2
           try clear hfz17_3
           try clear hfz17_4
           try clear hfz19_0
           try clear hfz19_1
           try clear hfz19_2
           try clear hfz19_3
           try clear hfz19_4
           try clear hfz20_0
           try clear hfz20_1
           try clear hfz20_2
           try clear hfz20_3
           try clear hfz20_4
           try clear hfz27_0
           try clear hfz27_1
           try clear hfz27_2
           try clear hfz27_3
           try clear hfz27_4
           try clear hfz29_0
           try clear hfz29_1
           try clear hfz29_2
           try clear hfz29_3
           try clear hfz29_4
           try clear hfz32_0
           try clear hfz32_1
           try clear hfz32_2
           try clear hfz32_3
           try clear hfz32_4
           try clear hfz34_0
           try clear hfz34_1
           try clear hfz34_2
           try clear hfz34_3
           try clear hfz34_4
           try clear hfz36_0
           try clear hfz36_1
           try clear hfz36_2
           try clear hfz36_3
           try clear hfz36_4
           try clear hfz37_0
           try clear hfz37_1
           try clear hfz37_2
           try clear hfz37_3
           try clear hfz37_4
           try clear hfz42_0
           try clear hfz42_1
           try clear hfz42_2
           try clear hfz42_3
           try clear hfz42_4
           try clear hfz51_0
           try clear hfz51_1
           try clear hfz51_2
           try clear hfz51_3
           try clear hfz51_4
           try clear hfz56_0
           try clear hfz56_1
           try clear hfz56_2
           try clear hfz56_3
           try clear hfz56_4
           try clear hfz58_0
           try clear hfz58_1
           try clear hfz58_2
           try clear hfz58_3
           try clear hfz58_4
           try clear hfz5_0
           try clear hfz5_1
           try clear hfz5_2
           try clear hfz5_3
           try clear hfz5_4
           try clear hfz60_0
           try clear hfz60_1
           try clear hfz60_2
           try clear hfz60_3
           try clear hfz60_4
           try clear hfz7_0
           try clear hfz7_1
           try clear hfz7_2
           try clear hfz7_3
           try clear hfz7_4
           try clear hfz9_0
           try clear hfz9_1
           try clear hfz9_2
           try clear hfz9_3
           try clear hfz9_4
           try clear hx141_0
           try clear hx142_0
           try clear hx143_0
           try clear hx144_0
           try clear hx145_0
           try clear hx146_0
           try clear hx147_0
           try clear hx152_0
           try clear hx153_0
           try clear p1
           try clear p14
           try clear p141
           try clear p142
           try clear p143
           try clear p144
           try clear p145
           try clear p146
           try clear p147
           try clear p152
           try clear p153
           try clear p2
           try clear p6
           try clear q1
           try clear q14
           try clear q141
           try clear q142
           try clear q143
           try clear q144
           try clear q145
           try clear q146
           try clear q147
           try clear q152
           try clear q153
           obtain ⟨x8_4, rfl, HA, HK4, BK139, HB⟩ := hrel
           cases gk with
           | zero => exact absurd HA.out (by simp [spec_ValidLayout.l2])
           | succ k4 =>
            have H := HA.out
            clear HA
            simp only [spec_ValidLayout.l2] at H
            by_cases c62 : x8_4 < (l0_4.length : Int)
            ·rw [if_pos c62] at H
             have c62b0 : decide (x8_4 < (l0_4.length : Int)) = true := decide_eq_true c62
             clear c62
             by_cases c63 : 0 ≤ x8_4
             ·rw [if_pos c63] at H
              have c63b0 : decide (0 ≤ x8_4) = true := decide_eq_true c63
              clear c63
              by_cases c64 : 0 ≤ ((rd_T74 l0_4 x8_4).f2)
              ·rw [if_pos c64] at H
               have c64b0 : decide (0 ≤ ((rd_T74 l0_4 x8_4).f2)) = true := decide_eq_true c64
               clear c64
               by_cases c65 : ((rd_T74 l0_4 x8_4).f2) < (l0_2.length : Int)
               ·rw [if_pos c65] at H
                have c65b0 : decide (((rd_T74 l0_4 x8_4).f2) < (l0_2.length : Int)) = true := decide_eq_true c65
                clear c65
                by_cases c66 : (rd l0_2 ((rd_T74 l0_4 x8_4).f2)) = 0
                ·rw [if_pos c66] at H
                 have c66b0 : ((rd l0_2 ((rd_T74 l0_4 x8_4).f2)) == 0) = true := beq_iff_eq.mpr c66
                 have c66b1 : ((rd l0_2 ((rd_T74 l0_4 x8_4).f2)) != 0) = false := bne_eq_false_iff_eq.mpr c66
                 clear c66
                 obtain rfl := Option.some.inj H
                 have hcz67_0 : wr.cell? ⟨gb139, 0, none⟩ = some (.int .i64 a0_0) := (blk_cell BK139.out 0).trans rfl
                 have hcz67_1 : wr.cell? ⟨gb139, 1, none⟩ = some (.int .i64 a0_1) := (blk_cell BK139.out 1).trans rfl
                 have hcz67_2 : wr.cell? ⟨gb139, 2, none⟩ = some (.slice A0_2 l0_2.length c0_2) := (blk_cell BK139.out 2).trans rfl
                 have hcz67_3 : wr.cell? ⟨gb139, 3, none⟩ = some (.slice A0_3 l0_3.length c0_3) := (blk_cell BK139.out 3).trans rfl
                 have hcz67_4 : wr.cell? ⟨gb139, 4, none⟩ = some (.slice A0_4 l0_4.length c0_4) := (blk_cell BK139.out 4).trans rfl
                 have hfz67_0 := blk_frozen BK139.out 0
                 have hfz67_1 := blk_frozen BK139.out 1
                 have hfz67_2 := blk_frozen BK139.out 2
                 have hfz67_3 := blk_frozen BK139.out 3
                 have hfz67_4 := blk_frozen BK139.out 4
                 have p154 : 0 ≤ (x8_4 : Int) := zd
                 have q154 : x8_4 < (l0_4.length : Int) := zd
                 obtain ⟨ad154, A154_0, c154_0, e154, hx154_0, hx154_1, hx154_2, hl154_0, hi154_0⟩ := at_T74 HR0_4.out x8_4 p154 q154
                 cases e154
                 replace hx154_0 := (HB.out.cell (World.block_lt_of_cell? w _ hx154_0)).trans hx154_0
                 replace hx154_1 := (HB.out.cell (World.block_lt_of_cell? w _ hx154_1)).trans hx154_1
                 replace hx154_2 := (HB.out.cell (World.block_lt_of_cell? w _ hx154_2)).trans hx154_2
                 have HR154_0 := Aside0.mk hi154_0
                 have HC154_0 := Aside0.mk hl154_0
                 clear hi154_0 hl154_0
                 replace p154 := eq_true p154
                 replace q154 := eq_true q154
                 have p155 : 0 ≤ (((rd_T74 l0_4 x8_4).f2) : Int) := zd
                 have q155 : ((rd_T74 l0_4 x8_4).f2) < (l0_2.length : Int) := zd
                 obtain ⟨ad155, e155, hx155_0⟩ := Kd.at_int HR0_2.out ((rd_T74 l0_4 x8_4).f2) p155 q155
                 cases e155
                 replace hx155_0 := (HB.out.cell (World.block_lt_of_cell? w _ hx155_0)).trans hx155_0
                 replace p155 := eq_true p155
                 replace q155 := eq_true q155
                 go_wp2
                 repeat (go_quiet (fail); try go_wp2)
                 go_ret
                 exact ⟨ze, (zs GE139.out)⟩
                ·rw [if_neg c66] at H
                 have c66b0 : ((rd l0_2 ((rd_T74 l0_4 x8_4).f2)) == 0) = false := beq_eq_false_iff_ne.mpr c66
                 have c66b1 : ((rd l0_2 ((rd_T74 l0_4 x8_4).f2)) != 0) = true := bne_iff_ne.mpr c66
                 have H' := Aside0.mk H
                 clear H
                 have hcz68_0 : wr.cell? ⟨gb139, 0, none⟩ = some (.int .i64 a0_0) := (blk_cell BK139.out 0).trans rfl
                 have hcz68_1 : wr.cell? ⟨gb139, 1, none⟩ = some (.int .i64 a0_1) := (blk_cell BK139.out 1).trans rfl
                 have hcz68_2 : wr.cell? ⟨gb139, 2, none⟩ = some (.slice A0_2 l0_2.length c0_2) := (blk_cell BK139.out 2).trans rfl
                 have hcz68_3 : wr.cell? ⟨gb139, 3, none⟩ = some (.slice A0_3 l0_3.length c0_3) := (blk_cell BK139.out 3).trans rfl
                 have hcz68_4 : wr.cell? ⟨gb139, 4, none⟩ = some (.slice A0_4 l0_4.length c0_4) := (blk_cell BK139.out 4).trans rfl
                 have hfz68_0 := blk_frozen BK139.out 0
                 have hfz68_1 := blk_frozen BK139.out 1
                 have hfz68_2 := blk_frozen BK139.out 2
                 have hfz68_3 := blk_frozen BK139.out 3
                 have hfz68_4 := blk_frozen BK139.out 4
                 have p154 : 0 ≤ (x8_4 : Int) := zd
                 have q154 : x8_4 < (l0_4.length : Int) := zd
                 obtain ⟨ad154, A154_0, c154_0, e154, hx154_0, hx154_1, hx154_2, hl154_0, hi154_0⟩ := at_T74 HR0_4.out x8_4 p154 q154
                 cases e154
                 replace hx154_0 := (HB.out.cell (World.block_lt_of_cell? w _ hx154_0)).trans hx154_0
                 replace hx154_1 := (HB.out.cell (World.block_lt_of_cell? w _ hx154_1)).trans hx154_1
                 replace hx154_2 := (HB.out.cell (World.block_lt_of_cell? w _ hx154_2)).trans hx154_2
                 have HR154_0 := Aside0.mk hi154_0
                 have HC154_0 := Aside0.mk hl154_0
                 clear hi154_0 hl154_0
                 replace p154 := eq_true p154
                 replace q154 := eq_true q154
                 have p155 : 0 ≤ (((rd_T74 l0_4 x8_4).f2) : Int) := zd
                 have q155 : ((rd_T74 l0_4 x8_4).f2) < (l0_2.length : Int) := zd
                 obtain ⟨ad155, e155, hx155_0⟩ := Kd.at_int HR0_2.out ((rd_T74 l0_4 x8_4).f2) p155 q155
                 cases e155
                 replace hx155_0 := (HB.out.cell (World.block_lt_of_cell? w _ hx155_0)).trans hx155_0
                 replace p155 := eq_true p155
                 replace q155 := eq_true q155
                 go_wp2
                 repeat (go_quiet (fail); try go_wp2)
                 go_roundg k4
                 case measure => have := HJ1.out; have := HJ11.out; have := HK3.out; have := HK4.out; omega
                 case rel => exact ⟨(wrap64 (x8_4 + 1)), zr, H', ⟨by have := HJ1.out; have := HJ11.out; have := HK3.out; have := HK4.out; omega⟩, ⟨zb BK139.out⟩, ⟨zs GE139.out⟩⟩
               ·rw [if_neg c65] at H
                exact absurd H (by simp)
              ·rw [if_neg c64] at H
               exact absurd H (by simp)
             ·rw [if_neg c63] at H
              exact absurd H (by simp)
            ·rw [if_neg c62] at H
             have c62b0 : decide (x8_4 < (l0_4.length : Int)) = false := decide_eq_false c62
             clear c62
             obtain rfl := Option.some.inj H
             have hcz69_0 : wr.cell? ⟨gb139, 0, none⟩ = some (.int .i64 a0_0) := (blk_cell BK139.out 0).trans rfl
             have hcz69_1 : wr.cell? ⟨gb139, 1, none⟩ = some (.int .i64 a0_1) := (blk_cell BK139.out 1).trans rfl
             have hcz69_2 : wr.cell? ⟨gb139, 2, none⟩ = some (.slice A0_2 l0_2.length c0_2) := (blk_cell BK139.out 2).trans rfl
             have hcz69_3 : wr.cell? ⟨gb139, 3, none⟩ = some (.slice A0_3 l0_3.length c0_3) := (blk_cell BK139.out 3).trans rfl
             have hcz69_4 : wr.cell? ⟨gb139, 4, none⟩ = some (.slice A0_4 l0_4.length c0_4) := (blk_cell BK139.out 4).trans rfl
             have hfz69_0 := blk_frozen BK139.out 0
             have hfz69_1 := blk_frozen BK139.out 1
             have hfz69_2 := blk_frozen BK139.out 2
             have hfz69_3 := blk_frozen BK139.out 3
             have hfz69_4 := blk_frozen BK139.out 4
             go_wp2
             repeat (go_quiet (fail); try go_wp2)
             go_ret
             exact ⟨ze, (zs GE139.out)⟩

end Go.Proofs.YtiboccbaaphbhaaDoor.PFnExactValidLayout
