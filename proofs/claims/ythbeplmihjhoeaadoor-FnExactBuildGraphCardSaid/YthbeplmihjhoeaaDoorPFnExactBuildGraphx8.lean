-- made by wip/tools/myprint.py (this session's own program, over the kit's printer)
import Derived.Test.YthbeplmihjhoeaaDoorPFnExactBuildGraphx0
import Derived.Test.YthbeplmihjhoeaaDoorPFnExactBuildGraphx7
namespace Go.Proofs.YthbeplmihjhoeaaDoor.PFnExactBuildGraph
open Go.RowKit Go.Proofs.YthbeplmihjhoeaaDoorW.PrintWords Go.Proofs.YthbeplmihjhoeaaDoorW.PrintLast Go.Proofs.YthbeplmihjhoeaaDoorW.PrintMore
attribute [local go_sem] max2_int min2_int max_two min_two max_three min_three max_four min_four   -- for this text's walks alone
set_option linter.unusedVariables false
set_option linter.unusedSimpArgs false

/-! ### impl_ValidLayout_any: function 9001 -/
def impl_ValidLayout_any.at (ts : List (S120)) (cost : List Int) : Nat → Int → Option Int
 | 0, _ => some (-1)
 | d + 1, i => if i < (ts.length : Int) then (if 0 ≤ (rd_T120 ts i).f2 ∧ (rd_T120 ts i).f2 < (cost.length : Int) then (if (rd cost (rd_T120 ts i).f2 == 0) = true then some i else impl_ValidLayout_any.at ts cost d (i + 1)) else none) else some (-1)
def impl_ValidLayout_any.f (l0 : List (S120)) (a1_0 a1_1 : Int) (l1_2 l1_3 : List Int) (l1_4 : List (S120)) : Option Bool := if l0.length ≤ 1048576 then (impl_ValidLayout_any.at l0 l1_2 l0.length 0).bind fun r => some (decide (0 ≤ r)) else none
set_option maxHeartbeats 4000000 in
set_option maxRecDepth 100000 in
theorem impl_ValidLayout_any.same (x1 x2 : Int) (A1 : Option Addr) (c1 n1 : Nat) (a1_0 a1_1 : Int) (A1_2 : Option Addr) (c1_2 : Nat) (l1_2 : List Int) (A1_3 : Option Addr) (c1_3 : Nat) (l1_3 : List Int) (A1_4 : Option Addr) (c1_4 : Nat) (l1_4 : List (S120)) (gb : Nat) (w : World) (hr : Kd.C (Kd.int .i64) w A1_2 l1_2.length l1_2)
  (h0 : 0 ≤ x2) (h1 : x2 < (l1_2.length : Int)) (hg : w.heap[gb]? = some (.cells #[.int .i64 a1_0, .int .i64 a1_1, .slice A1_2 l1_2.length c1_2, .slice A1_3 l1_3.length c1_3, .slice A1_4 l1_4.length c1_4] 33 (0, 0))) :
  Calls Tryd.prog 141 #[.agg #[.slice A1 n1 c1, .int .i64 x1, .int .i64 x2], .pointer (some ⟨gb, 0, none⟩)] w fun e w' => e = .returned (.bool (rd l1_2 x2 == 0)) ∧ Below w.heap.size w w' := by
 have hu74 := Tryd.underlying120
 have HG := zA hg
 clear hg
 have hgl := blk_lt HG.out
 obtain ⟨ad, e, hx⟩ := Kd.at_int hr x2 h0 h1
 cases e
 have hcell := ((below_alloc (Below.refl w.heap.size w) (.cells #[.slice A1 n1 c1, .int .i64 x1, .int .i64 x2] 120 (0, 0))).cell (p := ⟨gb, 2, none⟩) hgl).trans ((blk_cell HG.out 2).trans rfl)
 have hx' := ((below_alloc (Below.refl w.heap.size w) (.cells #[.slice A1 n1 c1, .int .i64 x1, .int .i64 x2] 120 (0, 0))).cell (World.block_lt_of_cell? w _ hx)).trans hx
 clear hr hx
 replace h0 := eq_true h0
 replace h1 := eq_true h1
 go_enter Tryd.func141, Tryd.ntmps141
 go_wp2

 go_ret
 exact ⟨rfl, below_alloc (Below.refl _ _) _⟩
set_option maxHeartbeats 4000000 in
set_option maxRecDepth 100000 in
theorem impl_ValidLayout_any.idx (A0 : Option Addr) (c0 : Nat) (l0 : List (S120)) (a1_0 a1_1 : Int) (A1_2 : Option Addr) (c1_2 : Nat) (l1_2 : List Int) (A1_3 : Option Addr) (c1_3 : Nat) (l1_3 : List Int) (A1_4 : Option Addr) (c1_4 : Nat) (l1_4 : List (S120)) (gb : Nat) (R : Int) (w : World) (hr0 : Kd.C k120 w A0 l0.length l0) (hr : Kd.C (Kd.int .i64) w A1_2 l1_2.length l1_2) (hg : w.heap[gb]? = some (.cells #[.int .i64 a1_0, .int .i64 a1_1, .slice A1_2 l1_2.length c1_2, .slice A1_3 l1_3.length c1_3, .slice A1_4 l1_4.length c1_4] 33 (0, 0))) (hl : l0.length ≤ 1048576) (hf : impl_ValidLayout_any.at l0 l1_2 l0.length 0 = some R) :
  Calls Tryd.prog 127 #[.slice A0 l0.length c0, .func (.func 141) #[] #[.pointer (some ⟨gb, 0, none⟩)]] w fun e w' => e = .returned (.int .i64 R) ∧ Below w.heap.size w w' := by
 have hu74 := Tryd.underlying120
 have HR0 := zA hr0
 have HR1 := zA hr
 have HG := zA hg
 have HSM := zA hl
 have HF := zA hf
 clear hr0 hr hg hl hf
 have HB := zA (Below.refl w.heap.size w)
 go_enter Tryd.func127, Tryd.ntmps127
 go_wp2
 go_loopg [8] (l0.length) (fun kq v8 w' => ∃ (i : Int), v8 = .int .i64 i ∧ Aside0 (impl_ValidLayout_any.at l0 l1_2 kq i = some R) ∧ Aside0 (0 ≤ i ∧ (kq : Int) + i = l0.length) ∧ Aside0 (Below w.heap.size w w'))
 case atStart => exact ⟨0, rfl, HF, ⟨by omega⟩, HB⟩
 case round =>
  clear HF HB
  obtain ⟨i, rfl, HF, HI, HB⟩ := hrel
  by_cases c4 : i < (l0.length : Int)
  ·have c4b0 : decide (i < (l0.length : Int)) = true := decide_eq_true c4
   have p133 : 0 ≤ (i : Int) := HI.out.1
   have q133 : i < (l0.length : Int) := c4
   obtain ⟨ad, An, cn, e133, hx0, hx1, hx2, hl133, hi133⟩ := at_T120 HR0.out i p133 q133
   cases e133
   replace hx0 := zx HB.out hx0
   replace hx1 := zx HB.out hx1
   replace hx2 := zx HB.out hx2
   clear hl133 hi133
   cases gk with
   | zero => exact absurd HI.out.2 (by omega)
   | succ k1 =>
    have H := HF.out
    clear HF
    rw [impl_ValidLayout_any.at, if_pos c4] at H
    clear c4
    replace p133 := eq_true p133
    replace q133 := eq_true q133
    by_cases cr : 0 ≤ (rd_T120 l0 i).f2 ∧ (rd_T120 l0 i).f2 < (l1_2.length : Int)
    ·rw [if_pos cr] at H
     have CR := zA cr
     clear cr
     by_cases ce : (rd l1_2 (rd_T120 l0 i).f2 == 0) = true
     ·rw [if_pos ce] at H
      obtain rfl := Option.some.inj H
      go_wp2_with (go_at_call 141; refine (impl_ValidLayout_any.same (rd_T120 l0 i).f1 (rd_T120 l0 i).f2 An cn _ a1_0 a1_1 A1_2 c1_2 l1_2 A1_3 c1_3 l1_3 A1_4 c1_4 l1_4 gb _ (Kd.C_below HR1.out HB.out) CR.out.1 CR.out.2 (blk_below HG.out HB.out)).mono ?_; rintro e w17 ⟨rfl, hb⟩; have n1_ := zA (below_step HB.out hb); clear HB hb; have HB := n1_; clear n1_)
      go_ret
      exact ⟨rfl, HB.out⟩
     ·rw [if_neg ce] at H
      have ce' : (rd l1_2 (rd_T120 l0 i).f2 == 0) = false := by simpa using ce
      clear ce
      have H' := zA H
      clear H
      go_wp2_with (go_at_call 141; refine (impl_ValidLayout_any.same (rd_T120 l0 i).f1 (rd_T120 l0 i).f2 An cn _ a1_0 a1_1 A1_2 c1_2 l1_2 A1_3 c1_3 l1_3 A1_4 c1_4 l1_4 gb _ (Kd.C_below HR1.out HB.out) CR.out.1 CR.out.2 (blk_below HG.out HB.out)).mono ?_; rintro e w17 ⟨rfl, hb⟩; have n1_ := zA (below_step HB.out hb); clear HB hb; have HB := n1_; clear n1_)
      go_roundg k1
      case measure => omega
      case rel => exact ⟨i + 1, by have := HI.out; have := HSM.out; have := of_eq_true q133; rw [show wrap64 (i + 1) = i + 1 by unfold wrap64; omega], H', ⟨by have := HI.out; omega⟩, HB⟩
    ·rw [if_neg cr] at H; cases H
  ·have c4b0 : decide (i < (l0.length : Int)) = false := decide_eq_false c4
   have : R = -1 := by
    have H := HF.out
    cases gk with
    | zero => exact (Option.some.inj H).symm
    | succ k1 => rw [impl_ValidLayout_any.at, if_neg c4] at H; exact (Option.some.inj H).symm
   subst this
   clear c4 HF
   go_wp2
   go_ret
   exact ⟨rfl, HB.out⟩
set_option maxHeartbeats 4000000 in
set_option maxRecDepth 100000 in
theorem impl_ValidLayout_any.calls {gb : Nat} (A0 : Option Addr) (c0 : Nat) (l0 : List (S120)) (a1_0 a1_1 : Int) (A1_2 : Option Addr) (c1_2 : Nat) (l1_2 : List Int) (A1_3 : Option Addr) (c1_3 : Nat) (l1_3 : List Int) (A1_4 : Option Addr) (c1_4 : Nat) (l1_4 : List (S120)) (r : Bool) (w : World) (hr0 : Kd.C k120 w A0 l0.length l0) (hc0 : l0.length ≤ c0) (hr1_2 : Kd.C (Kd.int .i64) w A1_2 l1_2.length l1_2) (hc1_2 : l1_2.length ≤ c1_2) (hr1_3 : Kd.C (Kd.int .i64) w A1_3 l1_3.length l1_3) (hc1_3 : l1_3.length ≤ c1_3) (hr1_4 : Kd.C k120 w A1_4 l1_4.length l1_4) (hc1_4 : l1_4.length ≤ c1_4) (hg : w.heap[gb]? = some (.cells #[.int .i64 a1_0, .int .i64 a1_1, .slice A1_2 l1_2.length c1_2, .slice A1_3 l1_3.length c1_3, .slice A1_4 l1_4.length c1_4] 33 (0, 0))) (h : impl_ValidLayout_any.f l0 a1_0 a1_1 l1_2 l1_3 l1_4 = some r) :
  Calls Tryd.prog 140 #[.slice A0 l0.length c0, .func (.func 141) #[] #[.pointer (some ⟨gb, 0, none⟩)]] w fun e w' => e = .returned (.bool r) ∧ Below w.heap.size w w' := by
 unfold impl_ValidLayout_any.f at h
 by_cases hl : l0.length ≤ 1048576
 ·rw [if_pos hl] at h
  obtain ⟨R, hf, h⟩ := Option.bind_eq_some_iff.mp h
  obtain rfl := Option.some.inj h
  have I := zA (impl_ValidLayout_any.idx A0 c0 l0 a1_0 a1_1 A1_2 c1_2 l1_2 A1_3 c1_3 l1_3 A1_4 c1_4 l1_4 gb R w hr0 hr1_2 hg hl hf)
  clear hr0 hc0 hr1_2 hc1_2 hr1_3 hc1_3 hr1_4 hc1_4 hg h hf hl
  go_enter Tryd.func140, Tryd.ntmps140
  go_wp2_with (go_at_call 127; refine I.out.mono ?_; rintro e w17 ⟨rfl, hb⟩)
  go_ret
  exact ⟨rfl, hb⟩
 ·rw [if_neg hl] at h; cases h

/-! ### impl_ValidLayout: function 74 -/
mutual
def impl_ValidLayout.j0 : Nat → Bool → Int → Int → List Int → List Int → List (S120) → Option (Bool)
 | 0, _, _, _, _, _, _ => none
 | k + 1, x38, x262000, x262001, x262002, x262003, x262004 => if x38 = true then (some false) else (impl_ValidLayout.l0 k x262002 (x262002.length : Int) 0 x262000 x262001 x262002 x262003 x262004)
def impl_ValidLayout.l0 : Nat → List Int → Int → Int → Int → Int → List Int → List Int → List (S120) → Option (Bool)
 | 0, _, _, _, _, _, _, _, _ => none
 | k + 1, x40, x41, x42, x262000, x262001, x262002, x262003, x262004 => if x42 < x41 then (if 0 ≤ x42 then (if x42 < (x40.length : Int) then (if (rd x40 x42) < 0 then (some false) else (if (rd x40 x42) > 9 then (some false) else (impl_ValidLayout.l0 k x40 x41 (wrap64 (x42 + 1)) x262000 x262001 x262002 x262003 x262004))) else (none)) else (none)) else (impl_ValidLayout.l1 k x262003 (x262003.length : Int) 0 x262000 x262001 x262002 x262003 x262004)
def impl_ValidLayout.l1 : Nat → List Int → Int → Int → Int → Int → List Int → List Int → List (S120) → Option (Bool)
 | 0, _, _, _, _, _, _, _, _ => none
 | k + 1, x54, x55, x56, x262000, x262001, x262002, x262003, x262004 => if x56 < x55 then (if 0 ≤ x56 then (if x56 < (x54.length : Int) then (if (rd x54 x56) < 0 then (some false) else ((impl_free.f k x262000 x262001 x262002 x56).bind fun t266 => (if (Go.bits .andNot .i64 (rd x54 x56) t266) = 0 then (if x56 < (x262002.length : Int) then (if (rd x262002 x56) = 0 then (if (rd x54 x56) = 0 then (impl_ValidLayout.l1 k x54 x55 (wrap64 (x56 + 1)) x262000 x262001 x262002 x262003 x262004) else (some false)) else (impl_ValidLayout.l1 k x54 x55 (wrap64 (x56 + 1)) x262000 x262001 x262002 x262003 x262004)) else (none)) else (some false)))) else (none)) else (none)) else ((impl_targetsOk.f k x262004 (wrap64 (x262000 * x262001))).bind fun t268 => (if t268 = true then ((impl_ValidLayout_any.f x262004 x262000 x262001 x262002 x262003 x262004).bind fun t269 => (some (!t269))) else (some false)))
end
def impl_ValidLayout.f (k : Nat) (a0_0 : Int) (a0_1 : Int) (l0_2 : List Int) (l0_3 : List Int) (l0_4 : List (S120)) : Option (Bool) := (impl_sideOk.f a0_0).bind fun t262 => (if t262 = true then ((impl_sideOk.f a0_1).bind fun t263 => (if t263 = true then (if (l0_2.length : Int) = (wrap64 (a0_0 * a0_1)) then (impl_ValidLayout.j0 k ((l0_3.length : Int) != (wrap64 (a0_0 * a0_1))) a0_0 a0_1 l0_2 l0_3 l0_4) else (impl_ValidLayout.j0 k true a0_0 a0_1 l0_2 l0_3 l0_4)) else (impl_ValidLayout.j0 k true a0_0 a0_1 l0_2 l0_3 l0_4))) else (impl_ValidLayout.j0 k true a0_0 a0_1 l0_2 l0_3 l0_4))
theorem impl_ValidLayout.mono_l : ∀ k, (∀ y0 y1 y2 y3 y4 y5, LeO (impl_ValidLayout.j0 k y0 y1 y2 y3 y4 y5) (impl_ValidLayout.j0 (k + 1) y0 y1 y2 y3 y4 y5)) ∧ (∀ y0 y1 y2 y3 y4 y5 y6 y7, LeO (impl_ValidLayout.l0 k y0 y1 y2 y3 y4 y5 y6 y7) (impl_ValidLayout.l0 (k + 1) y0 y1 y2 y3 y4 y5 y6 y7)) ∧ (∀ y0 y1 y2 y3 y4 y5 y6 y7, LeO (impl_ValidLayout.l1 k y0 y1 y2 y3 y4 y5 y6 y7) (impl_ValidLayout.l1 (k + 1) y0 y1 y2 y3 y4 y5 y6 y7))
 | 0 => ⟨fun _ _ _ _ _ _ r h => by simp [impl_ValidLayout.j0] at h, fun _ _ _ _ _ _ _ _ r h => by simp [impl_ValidLayout.l0] at h, fun _ _ _ _ _ _ _ _ r h => by simp [impl_ValidLayout.l1] at h⟩
 | k + 1 => by
  obtain ⟨ih0, ih1, ih2⟩ := impl_ValidLayout.mono_l k
  refine ⟨?_, ?_, ?_⟩
  ·intro y0 y1 y2 y3 y4 y5
   unfold impl_ValidLayout.j0
   have m1 := @impl_free.mono
   have m2 := @impl_targetsOk.mono
   exact zm
  ·intro y0 y1 y2 y3 y4 y5 y6 y7
   unfold impl_ValidLayout.l0
   have m1 := @impl_free.mono
   have m2 := @impl_targetsOk.mono
   exact zm
  ·intro y0 y1 y2 y3 y4 y5 y6 y7
   unfold impl_ValidLayout.l1
   have m1 := @impl_free.mono
   have m2 := @impl_targetsOk.mono
   exact zm
theorem impl_ValidLayout.mono : ∀ a0 a1 a2 a3 a4 k, LeO (impl_ValidLayout.f k a0 a1 a2 a3 a4) (impl_ValidLayout.f (k + 1) a0 a1 a2 a3 a4) := by
 intro a0 a1 a2 a3 a4 k
 obtain ⟨ih0, ih1, ih2⟩ := impl_ValidLayout.mono_l k
 unfold impl_ValidLayout.f
 have m1 := @impl_free.mono
 have m2 := @impl_targetsOk.mono
 exact zm
set_option maxHeartbeats 8000000 in
set_option maxRecDepth 100000 in
theorem impl_ValidLayout.calls (k : Nat) (a0_0 : Int) (a0_1 : Int) (A0_2 : Option Addr) (c0_2 : Nat) (l0_2 : List Int) (A0_3 : Option Addr) (c0_3 : Nat) (l0_3 : List Int) (A0_4 : Option Addr) (c0_4 : Nat) (l0_4 : List (S120)) (r : Bool) (w : World) (hr0_2 : Kd.C (Kd.int .i64) w A0_2 l0_2.length l0_2) (hc0_2 : l0_2.length ≤ c0_2) (hr0_3 : Kd.C (Kd.int .i64) w A0_3 l0_3.length l0_3) (hc0_3 : l0_3.length ≤ c0_3) (hr0_4 : Kd.C k120 w A0_4 l0_4.length l0_4) (hc0_4 : l0_4.length ≤ c0_4) (hL : LaidW w) (h : impl_ValidLayout.f k a0_0 a0_1 l0_2 l0_3 l0_4 = some r) :
  Calls Tryd.prog 74 #[.agg #[.int .i64 a0_0, .int .i64 a0_1, .slice A0_2 l0_2.length c0_2, .slice A0_3 l0_3.length c0_3, .slice A0_4 l0_4.length c0_4]] w fun e w' => e = .returned (.bool r) ∧ Below w.heap.size w w' := by
 have hu33 := Tryd.underlying33
 have HR0_2 := zA hr0_2
 have HC0_2 := zA hc0_2
 clear hr0_2 hc0_2
 have HR0_3 := zA hr0_3
 have HC0_3 := zA hc0_3
 clear hr0_3 hc0_3
 have HR0_4 := zA hr0_4
 have HC0_4 := zA hc0_4
 clear hr0_4 hc0_4
 have HLD := zA hL
 clear hL
 have HB := zA (Below.refl w.heap.size w)
 have H : ((impl_sideOk.f a0_0).bind fun t262 => (if t262 = true then ((impl_sideOk.f a0_1).bind fun t263 => (if t263 = true then (if (l0_2.length : Int) = (wrap64 (a0_0 * a0_1)) then (impl_ValidLayout.j0 k ((l0_3.length : Int) != (wrap64 (a0_0 * a0_1))) a0_0 a0_1 l0_2 l0_3 l0_4) else (impl_ValidLayout.j0 k true a0_0 a0_1 l0_2 l0_3 l0_4)) else (impl_ValidLayout.j0 k true a0_0 a0_1 l0_2 l0_3 l0_4))) else (impl_ValidLayout.j0 k true a0_0 a0_1 l0_2 l0_3 l0_4))) = some r := h
 clear h
 have HC2 := zA H
 clear H
 go_enter Tryd.func74, Tryd.ntmps74
 go_upto_region 1 with (first | ((with_reducible refine gate_dst (N := 1) rfl ?_); (try (refine gate_guard (by rfl) ?_; dsimp only)); refine box_event ?hg (N := 1) ?hd (cs := #[.int .i64 a0_0, .int .i64 a0_1, .slice A0_2 l0_2.length c0_2, .slice A0_3 l0_3.length c0_3, .slice A0_4 l0_4.length c0_4]) (t := 33) ?hr ?_; (case hd => rfl); (case hg => rfl); (case hr => first | (go_simp; done) | (go_simp; rfl)); intro gb261 hg w3 hbox hb; have n0_ := zA (below_step z_ hb); have n1_ := zA (hbox); have n2_ := zA ((by rw [hg]; exact (below_size z_) : w.heap.size ≤ gb261)); have n3_ := zA ((by rw [hg]; exact (below_size z_) : w.heap.size ≤ gb261)); clear HB; have HB := n0_; have BK261 := n1_; have GW261 := n2_; have GE261 := n3_; clear n0_ n1_ n2_ n3_; clear hb hbox hg))
 (try simp only [Act.put, List.setIfInBounds_toArray, List.set_cons_zero, List.set_cons_succ])
 go_cut [38] (fun v38 wc => ∃ (kq : Nat) (x38_1 : Bool), v38 = .bool x38_1 ∧ Aside0 (impl_ValidLayout.j0 kq x38_1 a0_0 a0_1 l0_2 l0_3 l0_4 = some r) ∧ Aside0 (kq ≤ k) ∧ Aside0 (wc.heap[gb261]? = some (.cells #[.int .i64 a0_0, .int .i64 a0_1, (.slice A0_2 l0_2.length c0_2), (.slice A0_3 l0_3.length c0_3), (.slice A0_4 l0_4.length c0_4)] 33 (0, 0))) ∧ Aside0 (Below w.heap.size w wc))
 case first =>
  have H := HC2.out
  clear HC2
  replace H := Option.bind_eq_some_iff.mp H
  obtain ⟨t262, A40, H⟩ := H
  replace H : (if t262 = true then ((impl_sideOk.f a0_1).bind fun t263 => (if t263 = true then (if (l0_2.length : Int) = (wrap64 (a0_0 * a0_1)) then (impl_ValidLayout.j0 k ((l0_3.length : Int) != (wrap64 (a0_0 * a0_1))) a0_0 a0_1 l0_2 l0_3 l0_4) else (impl_ValidLayout.j0 k true a0_0 a0_1 l0_2 l0_3 l0_4)) else (impl_ValidLayout.j0 k true a0_0 a0_1 l0_2 l0_3 l0_4))) else (impl_ValidLayout.j0 k true a0_0 a0_1 l0_2 l0_3 l0_4)) = some r := H
  have A4 := zA A40
  clear A40
  by_cases c5 : t262 = true
  ·subst c5
   have H1 : ((impl_sideOk.f a0_1).bind fun t263 => (if t263 = true then (if (l0_2.length : Int) = (wrap64 (a0_0 * a0_1)) then (impl_ValidLayout.j0 k ((l0_3.length : Int) != (wrap64 (a0_0 * a0_1))) a0_0 a0_1 l0_2 l0_3 l0_4) else (impl_ValidLayout.j0 k true a0_0 a0_1 l0_2 l0_3 l0_4)) else (impl_ValidLayout.j0 k true a0_0 a0_1 l0_2 l0_3 l0_4))) = some r := by rw [if_pos rfl] at H; exact H
   clear H
   have H := H1
   clear H1
   replace H := Option.bind_eq_some_iff.mp H
   obtain ⟨t263, A60, H⟩ := H
   replace H : (if t263 = true then (if (l0_2.length : Int) = (wrap64 (a0_0 * a0_1)) then (impl_ValidLayout.j0 k ((l0_3.length : Int) != (wrap64 (a0_0 * a0_1))) a0_0 a0_1 l0_2 l0_3 l0_4) else (impl_ValidLayout.j0 k true a0_0 a0_1 l0_2 l0_3 l0_4)) else (impl_ValidLayout.j0 k true a0_0 a0_1 l0_2 l0_3 l0_4)) = some r := H
   have A6 := zA A60
   clear A60
   by_cases c7 : t263 = true
   ·subst c7
    have H1 : (if (l0_2.length : Int) = (wrap64 (a0_0 * a0_1)) then (impl_ValidLayout.j0 k ((l0_3.length : Int) != (wrap64 (a0_0 * a0_1))) a0_0 a0_1 l0_2 l0_3 l0_4) else (impl_ValidLayout.j0 k true a0_0 a0_1 l0_2 l0_3 l0_4)) = some r := by rw [if_pos rfl] at H; exact H
    clear H
    have H := H1
    clear H1
    by_cases c8 : (l0_2.length : Int) = (wrap64 (a0_0 * a0_1))
    ·rw [if_pos c8] at H
     have c8b0 : ((l0_2.length : Int) == (wrap64 (a0_0 * a0_1))) = true := beq_iff_eq.mpr c8
     have c8b1 : ((l0_2.length : Int) != (wrap64 (a0_0 * a0_1))) = false := bne_eq_false_iff_eq.mpr c8
     clear c8
     (first | rw [c8b0] | (simp only [i64_w, i32_w]; rw [c8b0]) | skip)
     have H' := zA H
     clear H
     obtain ⟨hcz9_0, hcz9_1, hcz9_2, hcz9_3, hcz9_4, hfz9_0, hfz9_1, hfz9_2, hfz9_3, hfz9_4⟩ := zh5 BK261.out
     go_wp2_with (first | ((with_reducible refine gate_callee (f := 138) rfl ?_); refine goesL_ (some 9) rfl rfl Tryd.func138 (by kernel_rfl) rfl #[.int .i64 a0_0] rfl za ?_; (with_reducible refine (impl_sideOk.calls a0_0 true _ A4.out).mono ?_); rintro e w' ⟨rfl, ⟨nd, rfl⟩⟩; refine ⟨_, rfl, ?_⟩) | (go_at_call 138; (with_reducible refine (impl_sideOk.calls a0_1 true _ A6.out).mono ?_); rintro e w' ⟨rfl, ⟨nd, rfl⟩⟩))
     go_meet
     case rel => exact ⟨_, (((l0_3.length : Int) != (wrap64 (a0_0 * a0_1)))), zr, H', ⟨by first | omega | exact Nat.le_refl _⟩, ⟨zb BK261.out⟩, ⟨zs GE261.out⟩⟩
    ·rw [if_neg c8] at H
     have c8b0 : ((l0_2.length : Int) == (wrap64 (a0_0 * a0_1))) = false := beq_eq_false_iff_ne.mpr c8
     have c8b1 : ((l0_2.length : Int) != (wrap64 (a0_0 * a0_1))) = true := bne_iff_ne.mpr c8
     (first | rw [c8b0] | (simp only [i64_w, i32_w]; rw [c8b0]) | skip)
     have H' := zA H
     clear H
     obtain ⟨hcz10_0, hcz10_1, hcz10_2, hcz10_3, hcz10_4, hfz10_0, hfz10_1, hfz10_2, hfz10_3, hfz10_4⟩ := zh5 BK261.out
     go_wp2_with (first | ((with_reducible refine gate_callee (f := 138) rfl ?_); refine goesL_ (some 9) rfl rfl Tryd.func138 (by kernel_rfl) rfl #[.int .i64 a0_0] rfl za ?_; (with_reducible refine (impl_sideOk.calls a0_0 true _ A4.out).mono ?_); rintro e w' ⟨rfl, ⟨nd, rfl⟩⟩; refine ⟨_, rfl, ?_⟩) | (go_at_call 138; (with_reducible refine (impl_sideOk.calls a0_1 true _ A6.out).mono ?_); rintro e w' ⟨rfl, ⟨nd, rfl⟩⟩))
     go_meet
     case rel => exact ⟨_, (true), zr, H', ⟨by first | omega | exact Nat.le_refl _⟩, ⟨zb BK261.out⟩, ⟨zs GE261.out⟩⟩
   ·replace c7 := Bool.eq_false_iff.mpr c7
    subst c7
    have H1 : (impl_ValidLayout.j0 k true a0_0 a0_1 l0_2 l0_3 l0_4) = some r := by rw [if_neg (show ¬ (false = true) by decide)] at H; exact H
    clear H
    have H := H1
    clear H1
    have H' := zA H
    clear H
    obtain ⟨hcz11_0, hcz11_1, hcz11_2, hcz11_3, hcz11_4, hfz11_0, hfz11_1, hfz11_2, hfz11_3, hfz11_4⟩ := zh5 BK261.out
    go_wp2_with (first | ((with_reducible refine gate_callee (f := 138) rfl ?_); refine goesL_ (some 9) rfl rfl Tryd.func138 (by kernel_rfl) rfl #[.int .i64 a0_0] rfl za ?_; (with_reducible refine (impl_sideOk.calls a0_0 true _ A4.out).mono ?_); rintro e w' ⟨rfl, ⟨nd, rfl⟩⟩; refine ⟨_, rfl, ?_⟩) | (go_at_call 138; (with_reducible refine (impl_sideOk.calls a0_1 false _ A6.out).mono ?_); rintro e w' ⟨rfl, ⟨nd, rfl⟩⟩))
    go_meet
    case rel => exact ⟨_, (true), zr, H', ⟨by first | omega | exact Nat.le_refl _⟩, ⟨zb BK261.out⟩, ⟨zs GE261.out⟩⟩
  ·replace c5 := Bool.eq_false_iff.mpr c5
   subst c5
   have H1 : (impl_ValidLayout.j0 k true a0_0 a0_1 l0_2 l0_3 l0_4) = some r := by rw [if_neg (show ¬ (false = true) by decide)] at H; exact H
   clear H
   have H := H1
   clear H1
   have H' := zA H
   clear H
   obtain ⟨hcz12_0, hcz12_1, hcz12_2, hcz12_3, hcz12_4, hfz12_0, hfz12_1, hfz12_2, hfz12_3, hfz12_4⟩ := zh5 BK261.out
   go_wp2_with (first | ((with_reducible refine gate_callee (f := 138) rfl ?_); refine goesL_ (some 9) rfl rfl Tryd.func138 (by kernel_rfl) rfl #[.int .i64 a0_0] rfl za ?_; (with_reducible refine (impl_sideOk.calls a0_0 false _ A4.out).mono ?_); rintro e w' ⟨rfl, ⟨nd, rfl⟩⟩; refine ⟨_, rfl, ?_⟩))
   go_meet
   case rel => exact ⟨_, (true), zr, H', ⟨by first | omega | exact Nat.le_refl _⟩, ⟨zb BK261.out⟩, ⟨zs GE261.out⟩⟩
 case rest =>
  clear HC2
  (try clear c1); (try clear p2); (try clear c5); (try clear p6); (try clear c7); (try clear c8); (try clear c8b0); (try clear c8b1); (try clear hcz10_0 hcz10_1 hcz10_2 hcz10_3 hcz10_4); (try clear hcz11_0 hcz11_1 hcz11_2 hcz11_3 hcz11_4); (try clear hcz12_0 hcz12_1 hcz12_2 hcz12_3 hcz12_4); (try clear hcz9_0 hcz9_1 hcz9_2 hcz9_3 hcz9_4); (try clear hfz10_0 hfz10_1 hfz10_2 hfz10_3 hfz10_4); (try clear hfz11_0 hfz11_1 hfz11_2 hfz11_3 hfz11_4); (try clear hfz12_0 hfz12_1 hfz12_2 hfz12_3 hfz12_4); (try clear hfz9_0 hfz9_1 hfz9_2 hfz9_3 hfz9_4)
  obtain ⟨kq, x38_1, rfl, HA, HJ1, BK261, HB⟩ := hcut
  cases kq with
  | zero => exact absurd HA.out (by simp [impl_ValidLayout.j0])
  | succ kj1 =>
   have H := HA.out
   clear HA
   simp only [impl_ValidLayout.j0] at H
   by_cases c13 : x38_1 = true
   ·subst c13
    have H1 : (some false) = some r := by rw [if_pos rfl] at H; exact H
    clear H
    have H := H1
    clear H1
    obtain rfl := Option.some.inj H
    go_wp2
    go_ret
    exact ⟨ze, (zs GE261.out)⟩
   ·replace c13 := Bool.eq_false_iff.mpr c13
    subst c13
    have H1 : (impl_ValidLayout.l0 kj1 l0_2 (l0_2.length : Int) 0 a0_0 a0_1 l0_2 l0_3 l0_4) = some r := by rw [if_neg (show ¬ (false = true) by decide)] at H; exact H
    clear H
    have H := H1
    clear H1
    have H' := zA H
    clear H
    obtain ⟨hcz14_0, hcz14_1, hcz14_2, hcz14_3, hcz14_4, hfz14_0, hfz14_1, hfz14_2, hfz14_3, hfz14_4⟩ := zh5 BK261.out
    go_wp2
    go_loopg [42] kj1 (fun kq v42 w' => ∃ (x42_2 : Int), v42 = .int .i64 x42_2 ∧ Aside0 (impl_ValidLayout.l0 kq l0_2 (l0_2.length : Int) x42_2 a0_0 a0_1 l0_2 l0_3 l0_4 = some r) ∧ Aside0 (kq ≤ kj1) ∧ Aside0 (w'.heap[gb261]? = some (.cells #[.int .i64 a0_0, .int .i64 a0_1, (.slice A0_2 l0_2.length c0_2), (.slice A0_3 l0_3.length c0_3), (.slice A0_4 l0_4.length c0_4)] 33 (0, 0))) ∧ Aside0 (Below w.heap.size w w'))
    case atStart => exact ⟨(0), zr, H', ⟨Nat.le_refl _⟩, ⟨zb BK261.out⟩, ⟨zs GE261.out⟩⟩
    case round =>
     clear H'
     (try clear c1); (try clear p2); (try clear c5); (try clear p6); (try clear c7); (try clear c8); (try clear c8b0); (try clear c8b1); (try clear c13); (try clear hcz10_0 hcz10_1 hcz10_2 hcz10_3 hcz10_4); (try clear hcz11_0 hcz11_1 hcz11_2 hcz11_3 hcz11_4); (try clear hcz12_0 hcz12_1 hcz12_2 hcz12_3 hcz12_4); (try clear hcz14_0 hcz14_1 hcz14_2 hcz14_3 hcz14_4); (try clear hcz9_0 hcz9_1 hcz9_2 hcz9_3 hcz9_4); (try clear hfz10_0 hfz10_1 hfz10_2 hfz10_3 hfz10_4); (try clear hfz11_0 hfz11_1 hfz11_2 hfz11_3 hfz11_4); (try clear hfz12_0 hfz12_1 hfz12_2 hfz12_3 hfz12_4); (try clear hfz14_0 hfz14_1 hfz14_2 hfz14_3 hfz14_4); (try clear hfz9_0 hfz9_1 hfz9_2 hfz9_3 hfz9_4); (try clear p2); (try clear p6)
     obtain ⟨x42_2, rfl, HA, HK2, BK261, HB⟩ := hrel
     cases gk with
     | zero => exact absurd HA.out (by simp [impl_ValidLayout.l0])
     | succ k2 =>
      have H := HA.out
      clear HA
      simp only [impl_ValidLayout.l0] at H
      by_cases c15 : x42_2 < (l0_2.length : Int)
      ·rw [if_pos c15] at H
       have c15b0 : decide (x42_2 < (l0_2.length : Int)) = true := decide_eq_true c15
       clear c15
       by_cases c16 : 0 ≤ x42_2
       ·rw [if_pos c16] at H
        have c16b0 : decide (0 ≤ x42_2) = true := decide_eq_true c16
        clear c16
        by_cases c17 : x42_2 < (l0_2.length : Int)
        ·rw [if_pos c17] at H
         have c17b0 : decide (x42_2 < (l0_2.length : Int)) = true := decide_eq_true c17
         clear c17
         by_cases c18 : (rd l0_2 x42_2) < 0
         ·rw [if_pos c18] at H
          have c18b0 : decide ((rd l0_2 x42_2) < 0) = true := decide_eq_true c18
          clear c18
          obtain rfl := Option.some.inj H
          have p264 : 0 ≤ (x42_2 : Int) := zd
          have q264 : x42_2 < (l0_2.length : Int) := zd
          obtain ⟨ad264, e264, hx264_0⟩ := Kd.at_int HR0_2.out x42_2 p264 q264
          cases e264
          replace hx264_0 := zx HB.out hx264_0
          replace p264 := eq_true p264
          replace q264 := eq_true q264
          go_wp2
          go_ret
          exact ⟨ze, (zs GE261.out)⟩
         ·rw [if_neg c18] at H
          have c18b0 : decide ((rd l0_2 x42_2) < 0) = false := decide_eq_false c18
          clear c18
          by_cases c19 : (rd l0_2 x42_2) > 9
          ·rw [if_pos c19] at H
           have c19b0 : decide (9 < (rd l0_2 x42_2)) = true := decide_eq_true c19
           clear c19
           obtain rfl := Option.some.inj H
           have p264 : 0 ≤ (x42_2 : Int) := zd
           have q264 : x42_2 < (l0_2.length : Int) := zd
           obtain ⟨ad264, e264, hx264_0⟩ := Kd.at_int HR0_2.out x42_2 p264 q264
           cases e264
           replace hx264_0 := zx HB.out hx264_0
           replace p264 := eq_true p264
           replace q264 := eq_true q264
           go_wp2
           go_ret
           exact ⟨ze, (zs GE261.out)⟩
          ·rw [if_neg c19] at H
           have c19b0 : decide (9 < (rd l0_2 x42_2)) = false := decide_eq_false c19
           clear c19
           have H' := zA H
           clear H
           have p264 : 0 ≤ (x42_2 : Int) := zd
           have q264 : x42_2 < (l0_2.length : Int) := zd
           obtain ⟨ad264, e264, hx264_0⟩ := Kd.at_int HR0_2.out x42_2 p264 q264
           cases e264
           replace hx264_0 := zx HB.out hx264_0
           replace p264 := eq_true p264
           replace q264 := eq_true q264
           go_wp2
           go_roundg k2
           case measure => have := HJ1.out; have := HK2.out; omega
           case rel => exact ⟨(wrap64 (x42_2 + 1)), zr, H', ⟨by have := HJ1.out; have := HK2.out; omega⟩, ⟨zb BK261.out⟩, ⟨zs GE261.out⟩⟩
        ·rw [if_neg c17] at H
         exact absurd H (by simp)
       ·rw [if_neg c16] at H
        exact absurd H (by simp)
      ·rw [if_neg c15] at H
       have c15b0 : decide (x42_2 < (l0_2.length : Int)) = false := decide_eq_false c15
       clear c15
       have H' := zA H
       clear H
       obtain ⟨hcz20_0, hcz20_1, hcz20_2, hcz20_3, hcz20_4, hfz20_0, hfz20_1, hfz20_2, hfz20_3, hfz20_4⟩ := zh5 BK261.out
       go_wp2
       go_loopg [56] k2 (fun kq v56 w' => ∃ (x56_3 : Int), v56 = .int .i64 x56_3 ∧ Aside0 (impl_ValidLayout.l1 kq l0_3 (l0_3.length : Int) x56_3 a0_0 a0_1 l0_2 l0_3 l0_4 = some r) ∧ Aside0 (kq ≤ k2) ∧ Aside0 (w'.heap[gb261]? = some (.cells #[.int .i64 a0_0, .int .i64 a0_1, (.slice A0_2 l0_2.length c0_2), (.slice A0_3 l0_3.length c0_3), (.slice A0_4 l0_4.length c0_4)] 33 (0, 0))) ∧ Aside0 (Below w.heap.size w w'))
       case atStart => exact ⟨(0), zr, H', ⟨Nat.le_refl _⟩, ⟨zb BK261.out⟩, ⟨zs GE261.out⟩⟩
       case round =>
        clear H'
        (try clear c1); (try clear p2); (try clear q2); (try clear hx2); (try clear c5); (try clear p6); (try clear c7); (try clear c8); (try clear c8b0); (try clear c8b1); (try clear c13); (try clear c15); (try clear c15b0); (try clear c16); (try clear c16b0); (try clear c17); (try clear c17b0); (try clear c18); (try clear c18b0); (try clear c19); (try clear c19b0); (try clear hcz10_0 hcz10_1 hcz10_2 hcz10_3 hcz10_4); (try clear hcz11_0 hcz11_1 hcz11_2 hcz11_3 hcz11_4); (try clear hcz12_0 hcz12_1 hcz12_2 hcz12_3 hcz12_4); (try clear hcz14_0 hcz14_1 hcz14_2 hcz14_3 hcz14_4); (try clear hcz20_0 hcz20_1 hcz20_2 hcz20_3 hcz20_4); (try clear hcz9_0 hcz9_1 hcz9_2 hcz9_3 hcz9_4); (try clear hfz10_0 hfz10_1 hfz10_2 hfz10_3 hfz10_4); (try clear hfz11_0 hfz11_1 hfz11_2 hfz11_3 hfz11_4); (try clear hfz12_0 hfz12_1 hfz12_2 hfz12_3 hfz12_4); (try clear hfz14_0 hfz14_1 hfz14_2 hfz14_3 hfz14_4); (try clear hfz20_0 hfz20_1 hfz20_2 hfz20_3 hfz20_4); (try clear hfz9_0 hfz9_1 hfz9_2 hfz9_3 hfz9_4); (try clear hx264_0); (try clear p2); (try clear p264); (try clear p6); (try clear q264)
        obtain ⟨x56_3, rfl, HA, HK3, BK261, HB⟩ := hrel
        cases gk with
        | zero => exact absurd HA.out (by simp [impl_ValidLayout.l1])
        | succ k3 =>
         have H := HA.out
         clear HA
         simp only [impl_ValidLayout.l1] at H
         by_cases c21 : x56_3 < (l0_3.length : Int)
         ·rw [if_pos c21] at H
          have c21b0 : decide (x56_3 < (l0_3.length : Int)) = true := decide_eq_true c21
          clear c21
          by_cases c22 : 0 ≤ x56_3
          ·rw [if_pos c22] at H
           have c22b0 : decide (0 ≤ x56_3) = true := decide_eq_true c22
           clear c22
           by_cases c23 : x56_3 < (l0_3.length : Int)
           ·rw [if_pos c23] at H
            have c23b0 : decide (x56_3 < (l0_3.length : Int)) = true := decide_eq_true c23
            clear c23
            by_cases c24 : (rd l0_3 x56_3) < 0
            ·rw [if_pos c24] at H
             have c24b0 : decide ((rd l0_3 x56_3) < 0) = true := decide_eq_true c24
             clear c24
             obtain rfl := Option.some.inj H
             have p265 : 0 ≤ (x56_3 : Int) := zd
             have q265 : x56_3 < (l0_3.length : Int) := zd
             obtain ⟨ad265, e265, hx265_0⟩ := Kd.at_int HR0_3.out x56_3 p265 q265
             cases e265
             replace hx265_0 := zx HB.out hx265_0
             replace p265 := eq_true p265
             replace q265 := eq_true q265
             go_wp2
             go_ret
             exact ⟨ze, (zs GE261.out)⟩
            ·rw [if_neg c24] at H
             have c24b0 : decide ((rd l0_3 x56_3) < 0) = false := decide_eq_false c24
             clear c24
             replace H := Option.bind_eq_some_iff.mp H
             obtain ⟨t266, A250, H⟩ := H
             replace H : (if (Go.bits .andNot .i64 (rd l0_3 x56_3) t266) = 0 then (if x56_3 < (l0_2.length : Int) then (if (rd l0_2 x56_3) = 0 then (if (rd l0_3 x56_3) = 0 then (impl_ValidLayout.l1 k3 l0_3 (l0_3.length : Int) (wrap64 (x56_3 + 1)) a0_0 a0_1 l0_2 l0_3 l0_4) else (some false)) else (impl_ValidLayout.l1 k3 l0_3 (l0_3.length : Int) (wrap64 (x56_3 + 1)) a0_0 a0_1 l0_2 l0_3 l0_4)) else (none)) else (some false)) = some r := H
             have A25 := zA A250
             clear A250
             by_cases c26 : (Go.bits .andNot .i64 (rd l0_3 x56_3) t266) = 0
             ·rw [if_pos c26] at H
              have c26b0 : ((Go.bits .andNot .i64 (rd l0_3 x56_3) t266) == 0) = true := beq_iff_eq.mpr c26
              have c26b1 : ((Go.bits .andNot .i64 (rd l0_3 x56_3) t266) != 0) = false := bne_eq_false_iff_eq.mpr c26
              clear c26
              by_cases c27 : x56_3 < (l0_2.length : Int)
              ·rw [if_pos c27] at H
               have c27b0 : decide (x56_3 < (l0_2.length : Int)) = true := decide_eq_true c27
               clear c27
               by_cases c28 : (rd l0_2 x56_3) = 0
               ·rw [if_pos c28] at H
                have c28b0 : ((rd l0_2 x56_3) == 0) = true := beq_iff_eq.mpr c28
                have c28b1 : ((rd l0_2 x56_3) != 0) = false := bne_eq_false_iff_eq.mpr c28
                clear c28
                by_cases c29 : (rd l0_3 x56_3) = 0
                ·rw [if_pos c29] at H
                 have c29b0 : ((rd l0_3 x56_3) == 0) = true := beq_iff_eq.mpr c29
                 have c29b1 : ((rd l0_3 x56_3) != 0) = false := bne_eq_false_iff_eq.mpr c29
                 clear c29
                 have H' := zA H
                 clear H
                 have p265 : 0 ≤ (x56_3 : Int) := zd
                 have q265 : x56_3 < (l0_3.length : Int) := zd
                 obtain ⟨ad265, e265, hx265_0⟩ := Kd.at_int HR0_3.out x56_3 p265 q265
                 cases e265
                 replace hx265_0 := zx HB.out hx265_0
                 replace p265 := eq_true p265
                 replace q265 := eq_true q265
                 obtain ⟨hcz30_0, hcz30_1, hcz30_2, hcz30_3, hcz30_4, hfz30_0, hfz30_1, hfz30_2, hfz30_3, hfz30_4⟩ := zh5 BK261.out
                 go_wp2_with (first | (go_at_call 95; (with_reducible refine (impl_free.calls k3 a0_0 a0_1 _ _ l0_2 x56_3 t266 _ ?side1 ?side2 A25.out).mono ?_); (case side1 => exact zc (Kd.C_below HR0_2.out HB.out)); (case side2 => exact HC0_2.out); rintro e w' ⟨rfl, ⟨nd, rfl⟩⟩; have p267 : 0 ≤ (x56_3 : Int) := zd; have q267 : x56_3 < (l0_2.length : Int) := zd; obtain ⟨ad267, e267, hx267_0⟩ := Kd.at_int HR0_2.out x56_3 p267 q267; cases e267; replace hx267_0 := zx HB.out hx267_0; replace p267 := eq_true p267; replace q267 := eq_true q267))
                 go_roundg k3
                 case measure => have := HJ1.out; have := HK2.out; have := HK3.out; omega
                 case rel => exact ⟨(wrap64 (x56_3 + 1)), zr, H', ⟨by have := HJ1.out; have := HK2.out; have := HK3.out; omega⟩, ⟨zb BK261.out⟩, ⟨zs GE261.out⟩⟩
                ·rw [if_neg c29] at H
                 have c29b0 : ((rd l0_3 x56_3) == 0) = false := beq_eq_false_iff_ne.mpr c29
                 have c29b1 : ((rd l0_3 x56_3) != 0) = true := bne_iff_ne.mpr c29
                 obtain rfl := Option.some.inj H
                 have p265 : 0 ≤ (x56_3 : Int) := zd
                 have q265 : x56_3 < (l0_3.length : Int) := zd
                 obtain ⟨ad265, e265, hx265_0⟩ := Kd.at_int HR0_3.out x56_3 p265 q265
                 cases e265
                 replace hx265_0 := zx HB.out hx265_0
                 replace p265 := eq_true p265
                 replace q265 := eq_true q265
                 obtain ⟨hcz31_0, hcz31_1, hcz31_2, hcz31_3, hcz31_4, hfz31_0, hfz31_1, hfz31_2, hfz31_3, hfz31_4⟩ := zh5 BK261.out
                 go_wp2_with (first | (go_at_call 95; (with_reducible refine (impl_free.calls k3 a0_0 a0_1 _ _ l0_2 x56_3 t266 _ ?side1 ?side2 A25.out).mono ?_); (case side1 => exact zc (Kd.C_below HR0_2.out HB.out)); (case side2 => exact HC0_2.out); rintro e w' ⟨rfl, ⟨nd, rfl⟩⟩; have p267 : 0 ≤ (x56_3 : Int) := zd; have q267 : x56_3 < (l0_2.length : Int) := zd; obtain ⟨ad267, e267, hx267_0⟩ := Kd.at_int HR0_2.out x56_3 p267 q267; cases e267; replace hx267_0 := zx HB.out hx267_0; replace p267 := eq_true p267; replace q267 := eq_true q267))
                 go_ret
                 exact ⟨ze, (zs GE261.out)⟩
               ·rw [if_neg c28] at H
                have c28b0 : ((rd l0_2 x56_3) == 0) = false := beq_eq_false_iff_ne.mpr c28
                have c28b1 : ((rd l0_2 x56_3) != 0) = true := bne_iff_ne.mpr c28
                have H' := zA H
                clear H
                have p265 : 0 ≤ (x56_3 : Int) := zd
                have q265 : x56_3 < (l0_3.length : Int) := zd
                obtain ⟨ad265, e265, hx265_0⟩ := Kd.at_int HR0_3.out x56_3 p265 q265
                cases e265
                replace hx265_0 := zx HB.out hx265_0
                replace p265 := eq_true p265
                replace q265 := eq_true q265
                obtain ⟨hcz32_0, hcz32_1, hcz32_2, hcz32_3, hcz32_4, hfz32_0, hfz32_1, hfz32_2, hfz32_3, hfz32_4⟩ := zh5 BK261.out
                go_wp2_with (first | (go_at_call 95; (with_reducible refine (impl_free.calls k3 a0_0 a0_1 _ _ l0_2 x56_3 t266 _ ?side1 ?side2 A25.out).mono ?_); (case side1 => exact zc (Kd.C_below HR0_2.out HB.out)); (case side2 => exact HC0_2.out); rintro e w' ⟨rfl, ⟨nd, rfl⟩⟩; have p267 : 0 ≤ (x56_3 : Int) := zd; have q267 : x56_3 < (l0_2.length : Int) := zd; obtain ⟨ad267, e267, hx267_0⟩ := Kd.at_int HR0_2.out x56_3 p267 q267; cases e267; replace hx267_0 := zx HB.out hx267_0; replace p267 := eq_true p267; replace q267 := eq_true q267))
                go_roundg k3
                case measure => have := HJ1.out; have := HK2.out; have := HK3.out; omega
                case rel => exact ⟨(wrap64 (x56_3 + 1)), zr, H', ⟨by have := HJ1.out; have := HK2.out; have := HK3.out; omega⟩, ⟨zb BK261.out⟩, ⟨zs GE261.out⟩⟩
              ·rw [if_neg c27] at H
               exact absurd H (by simp)
             ·rw [if_neg c26] at H
              have c26b0 : ((Go.bits .andNot .i64 (rd l0_3 x56_3) t266) == 0) = false := beq_eq_false_iff_ne.mpr c26
              have c26b1 : ((Go.bits .andNot .i64 (rd l0_3 x56_3) t266) != 0) = true := bne_iff_ne.mpr c26
              obtain rfl := Option.some.inj H
              have p265 : 0 ≤ (x56_3 : Int) := zd
              have q265 : x56_3 < (l0_3.length : Int) := zd
              obtain ⟨ad265, e265, hx265_0⟩ := Kd.at_int HR0_3.out x56_3 p265 q265
              cases e265
              replace hx265_0 := zx HB.out hx265_0
              replace p265 := eq_true p265
              replace q265 := eq_true q265
              obtain ⟨hcz33_0, hcz33_1, hcz33_2, hcz33_3, hcz33_4, hfz33_0, hfz33_1, hfz33_2, hfz33_3, hfz33_4⟩ := zh5 BK261.out
              go_wp2_with (first | (go_at_call 95; (with_reducible refine (impl_free.calls k3 a0_0 a0_1 _ _ l0_2 x56_3 t266 _ ?side1 ?side2 A25.out).mono ?_); (case side1 => exact zc (Kd.C_below HR0_2.out HB.out)); (case side2 => exact HC0_2.out); rintro e w' ⟨rfl, ⟨nd, rfl⟩⟩))
              go_ret
              exact ⟨ze, (zs GE261.out)⟩
           ·rw [if_neg c23] at H
            exact absurd H (by simp)
          ·rw [if_neg c22] at H
           exact absurd H (by simp)
         ·rw [if_neg c21] at H
          have c21b0 : decide (x56_3 < (l0_3.length : Int)) = false := decide_eq_false c21
          clear c21
          replace H := Option.bind_eq_some_iff.mp H
          obtain ⟨t268, A340, H⟩ := H
          replace H : (if t268 = true then ((impl_ValidLayout_any.f l0_4 a0_0 a0_1 l0_2 l0_3 l0_4).bind fun t269 => (some (!t269))) else (some false)) = some r := H
          have A34 := zA A340
          clear A340
          by_cases c35 : t268 = true
          ·subst c35
           have H1 : ((impl_ValidLayout_any.f l0_4 a0_0 a0_1 l0_2 l0_3 l0_4).bind fun t269 => (some (!t269))) = some r := by rw [if_pos rfl] at H; exact H
           clear H
           have H := H1
           clear H1
           replace H := Option.bind_eq_some_iff.mp H
           obtain ⟨t269, A360, H⟩ := H
           replace H : (some (!t269)) = some r := H
           have A36 := zA A360
           clear A360
           obtain rfl := Option.some.inj H
           obtain ⟨hcz37_0, hcz37_1, hcz37_2, hcz37_3, hcz37_4, hfz37_0, hfz37_1, hfz37_2, hfz37_3, hfz37_4⟩ := zh5 BK261.out
           go_wp2_with (first | ((with_reducible refine gate_callee (f := 139) rfl ?_); refine goesL_ (some 96) rfl rfl Tryd.func139 (by kernel_rfl) rfl #[.slice A0_4 l0_4.length c0_4, .int .i64 (wrap64 (a0_0 * a0_1))] rfl za ?_; (with_reducible refine (impl_targetsOk.calls k3 _ _ l0_4 (wrap64 (a0_0 * a0_1)) true _ ?side1 ?side2 ?side3 A34.out).mono ?_); (case side1 => exact zc (Kd.C_below HR0_4.out HB.out)); (case side2 => exact HC0_4.out); (case side3 => exact LaidW.below HLD.out (zs GE261.out)); rintro e w38 ⟨rfl, hb⟩; refine ⟨_, rfl, ?_⟩; have n0_ := zA (zB BK261.out hb); have n1_ := zA (below_step (zs GE261.out) hb); clear BK261 HB; have BK261 := n0_; have HB := n1_; clear n0_ n1_; (try clear hb); (try clear hb2); (try clear hk); (try clear hi); obtain ⟨hcz39_0, hcz39_1, hcz39_2, hcz39_3, hcz39_4, hfz39_0, hfz39_1, hfz39_2, hfz39_3, hfz39_4⟩ := zh5 BK261.out) | (go_at_call 140; (with_reducible refine (impl_ValidLayout_any.calls _ _ l0_4 a0_0 a0_1 A0_2 c0_2 l0_2 A0_3 c0_3 l0_3 A0_4 c0_4 l0_4 t269 _ ?side1 ?side2 ?side3 ?side4 ?side5 ?side6 ?side7 ?side8 ?side9 A36.out).mono ?_); (case side1 => exact zc (Kd.C_below HR0_4.out HB.out)); (case side2 => exact HC0_4.out); (case side3 => exact zc (Kd.C_below HR0_2.out HB.out)); (case side4 => exact HC0_2.out); (case side5 => exact zc (Kd.C_below HR0_3.out HB.out)); (case side6 => exact HC0_3.out); (case side7 => exact zc (Kd.C_below HR0_4.out HB.out)); (case side8 => exact HC0_4.out); (case side9 => (with_reducible repeat (first | refine blk_drewN ?_ _ | refine blk_drew ?_ | refine blk_alloc ?_ _)); exact Aside0.out (by assumption)); rintro e w40 ⟨rfl, hb⟩; have n0_ := zA (zB BK261.out hb); have n1_ := zA (below_step (zs GE261.out) hb); clear BK261 HB; have BK261 := n0_; have HB := n1_; clear n0_ n1_; (try clear hb); (try clear hb2); (try clear hk); (try clear hi)))
           go_ret
           exact ⟨ze, (zs GE261.out)⟩
          ·replace c35 := Bool.eq_false_iff.mpr c35
           subst c35
           have H1 : (some false) = some r := by rw [if_neg (show ¬ (false = true) by decide)] at H; exact H
           clear H
           have H := H1
           clear H1
           obtain rfl := Option.some.inj H
           obtain ⟨hcz41_0, hcz41_1, hcz41_2, hcz41_3, hcz41_4, hfz41_0, hfz41_1, hfz41_2, hfz41_3, hfz41_4⟩ := zh5 BK261.out
           go_wp2_with (first | ((with_reducible refine gate_callee (f := 139) rfl ?_); refine goesL_ (some 96) rfl rfl Tryd.func139 (by kernel_rfl) rfl #[.slice A0_4 l0_4.length c0_4, .int .i64 (wrap64 (a0_0 * a0_1))] rfl za ?_; (with_reducible refine (impl_targetsOk.calls k3 _ _ l0_4 (wrap64 (a0_0 * a0_1)) false _ ?side1 ?side2 ?side3 A34.out).mono ?_); (case side1 => exact zc (Kd.C_below HR0_4.out HB.out)); (case side2 => exact HC0_4.out); (case side3 => exact LaidW.below HLD.out (zs GE261.out)); rintro e w42 ⟨rfl, hb⟩; refine ⟨_, rfl, ?_⟩; have n0_ := zA (zB BK261.out hb); have n1_ := zA (below_step (zs GE261.out) hb); clear BK261 HB; have BK261 := n0_; have HB := n1_; clear n0_ n1_; (try clear hb); (try clear hb2); (try clear hk); (try clear hi)))
           go_ret
           exact ⟨ze, (zs GE261.out)⟩

-- NOT PRINTED: function 76 (impl_Graph_add)

end Go.Proofs.YthbeplmihjhoeaaDoor.PFnExactBuildGraph
