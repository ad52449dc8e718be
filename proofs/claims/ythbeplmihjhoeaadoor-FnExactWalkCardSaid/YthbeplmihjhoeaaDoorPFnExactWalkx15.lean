-- made by wip/tools/myprint.py (this session's own program, over the kit's printer)
import Derived.Test.YthbeplmihjhoeaaDoorPFnExactWalkx0
import Derived.Test.YthbeplmihjhoeaaDoorPFnExactWalkx14
namespace Go.Proofs.YthbeplmihjhoeaaDoor.PFnExactWalk
open Go.RowKit Go.Proofs.YthbeplmihjhoeaaDoorW.PrintWords Go.Proofs.YthbeplmihjhoeaaDoorW.PrintLast Go.Proofs.YthbeplmihjhoeaaDoorW.PrintMore
attribute [local go_sem] max2_int min2_int max_two min_two max_three min_three max_four min_four   -- for this text's walks alone
set_option linter.unusedVariables false
set_option linter.unusedSimpArgs false

/-! ### laws_markTables: function 28 -/
def laws_markTables.f (a0_0 a0_1 : Int) (l0_2 : List S120) (l0_3 l0_4 : List (List Int)) (a1 : Int) : Option Int := (laws_markTargetS.f l0_2 a1).bind fun t => (laws_markIntSS.f l0_3 t).bind fun u => laws_markIntSS.f l0_4 u
set_option maxHeartbeats 8000000 in
set_option maxRecDepth 100000 in
theorem laws_markTables.calls (a0_0 a0_1 : Int) (P0_2 : Nat → Prop) (u0_2 : Value) (l0_2 : List S120) (P0_3 : Nat → Prop) (u0_3 : Value) (l0_3 : List (List Int)) (P0_4 : Nat → Prop) (u0_4 : Value) (l0_4 : List (List Int)) (a1 r : Int) (w0 w : World) (hB : Below w0.heap.size w0 w)
  (hT : Kd.S k120 120 w w0.heap.size P0_2 u0_2 l0_2) (hD : Kd.S (Kd.slice 3 (Kd.int .i64)) 22 w w0.heap.size P0_3 u0_3 l0_3) (hH : Kd.S (Kd.slice 3 (Kd.int .i64)) 22 w w0.heap.size P0_4 u0_4 l0_4) (h : laws_markTables.f a0_0 a0_1 l0_2 l0_3 l0_4 a1 = some r) :
  Calls Tryd.prog 28 #[.agg #[.int .i64 a0_0, .int .i64 a0_1, u0_2, u0_3, u0_4], .int .i64 a1] w fun e w' => e = .returned (.int .i64 r) ∧ Below w0.heap.size w0 w' ∧ Kept w w' (fun k_ => ((P0_2 k_ ∧ IsT w k_ [120, 5]) ∨ (P0_3 k_ ∧ IsT w k_ [22, 3])) ∨ (P0_4 k_ ∧ IsT w k_ [22, 3])) := by
 have hu48 := Tryd.underlying47
 obtain ⟨AT, cT, eT⟩ := Kd.S_slice hT
 obtain ⟨AD, cD, eD⟩ := Kd.S_slice hD
 obtain ⟨AH, cH, eH⟩ := Kd.S_slice hH
 subst eT eD eH
 obtain ⟨t, B1, h⟩ := Option.bind_eq_some_iff.mp h
 obtain ⟨u, B2, B3⟩ := Option.bind_eq_some_iff.mp h
 have et : t = a1 + totalT l0_2 := by
  unfold laws_markTargetS.f at B1
  split at B1
  ·exact (Option.some.inj B1).symm
  ·cases B1
 subst et
 have eu : u = a1 + totalT l0_2 + totalL l0_3 := by
  unfold laws_markIntSS.f at B2
  split at B2
  ·exact (Option.some.inj B2).symm
  ·cases B2
 subst eu
 have er : r = a1 + totalT l0_2 + totalL l0_3 + totalL l0_4 := by
  unfold laws_markIntSS.f at B3
  split at B3
  ·exact (Option.some.inj B3).symm
  ·cases B3
 subst er
 clear h
 have A1 := Aside0.mk B1
 have A2 := Aside0.mk B2
 have A3 := Aside0.mk B3
 have HT := Aside0.mk hT
 have HD := Aside0.mk (Kd.S_R hD)
 have HH := Aside0.mk (Kd.S_R hH)
 have HK := Aside0.mk (Kept.refl w (fun k_ => ((P0_2 k_ ∧ IsT w k_ [120, 5]) ∨ (P0_3 k_ ∧ IsT w k_ [22, 3])) ∨ (P0_4 k_ ∧ IsT w k_ [22, 3])))
 have HB := Aside0.mk hB
 clear B1 B2 B3 hT hD hH hB
 go_enter Tryd.func28, Tryd.ntmps28
 go_wp2_with (first | ((with_reducible refine gate_dst (N := 2) rfl ?_); refine box_event ?hg (N := 2) ?hd (cs := #[.int .i64 a0_0, .int .i64 a0_1, .slice AT l0_2.length cT, .slice AD l0_3.length cD, .slice AH l0_4.length cH]) (t := 47) ?hr ?_; (case hd => rfl); (case hg => rfl); (case hr => first | (go_simp; done) | (go_simp; rfl)); intro gb hg w6 hbox hb; have n0_ := Aside0.mk (below_step z_ hb); have n1_ := Aside0.mk hbox; have n2_ := Aside0.mk (Kd.S_below (by (with_reducible repeat (first | apply Kd.S_alloc | apply Kd.S_drewN | apply Kd.S_drew)); exact HT.out) hb); have n3_ := Aside0.mk (Kd.R_below (by (with_reducible repeat (first | apply Kd.R_alloc | apply Kd.R_drewN | apply Kd.R_drew)); exact HD.out) hb); have n4_ := Aside0.mk (Kd.R_below (by (with_reducible repeat (first | apply Kd.R_alloc | apply Kd.R_drewN | apply Kd.R_drew)); exact HH.out) hb); have n5_ := Aside0.mk ((HK.out.below (by repeat (first | exact Below.refl _ _ | apply below_alloc | apply pw_below_drewN | apply below_drew1))).below hb); clear HB HT HD HH HK hb hbox hg; have HB := n0_; have BK := n1_; have HT := n2_; have HD := n3_; have HH := n4_; have HK := n5_; clear n0_ n1_ n2_ n3_ n4_ n5_; have hc2 : w6.cell? ⟨gb, 2, none⟩ = some (.slice AT l0_2.length cT) := (blk_cell BK.out 2).trans rfl; have hc3 : w6.cell? ⟨gb, 3, none⟩ = some (.slice AD l0_3.length cD) := (blk_cell BK.out 3).trans rfl; have hc4 : w6.cell? ⟨gb, 4, none⟩ = some (.slice AH l0_4.length cH) := (blk_cell BK.out 4).trans rfl) | (go_at_call 78; (refine (laws_markTargetS.calls P0_2 _ l0_2 a1 _ w0 _ ?s1 ?s2 A1.out).mono ?_); (case s1 => repeat (first | (with_reducible first | exact HB.out | apply below_alloc | apply pw_below_drewN | apply below_drew1) | exact HB.out)); (case s2 => exact (by (with_reducible repeat (first | apply Kd.S_alloc | apply Kd.S_drewN | apply Kd.S_drew)); exact HT.out)); rintro e w7 ⟨rfl, hb, hk⟩; have n0_ := Aside0.mk hb; have n1_ := Aside0.mk (blk_keptT (by (with_reducible repeat (first | refine blk_drewN ?_ _ | refine blk_drew ?_ | refine blk_alloc ?_ _)); exact BK.out) hk (by decide)); have n3_ := Aside0.mk (R_keptT (by (with_reducible repeat (first | apply Kd.R_alloc | apply Kd.R_drewN | apply Kd.R_drew)); exact HD.out) hk (by decide)); have n4_ := Aside0.mk (R_keptT (by (with_reducible repeat (first | apply Kd.R_alloc | apply Kd.R_drewN | apply Kd.R_drew)); exact HH.out) hk (by decide)); have n5_ := Aside0.mk (Kept.thenT (HK.out.below (by repeat (first | exact Below.refl _ _ | apply below_alloc | apply pw_below_drewN | apply below_drew1))) hk (fun _ p q => .inl (.inl ⟨p, q⟩))); clear HB BK HT HD HH HK hb hk; have HB := n0_; have BK := n1_; have HD := n3_; have HH := n4_; have HK := n5_; clear n0_ n1_ n3_ n4_ n5_; have hc2 : w7.cell? ⟨gb, 2, none⟩ = some (.slice AT l0_2.length cT) := (blk_cell BK.out 2).trans rfl; have hc3 : w7.cell? ⟨gb, 3, none⟩ = some (.slice AD l0_3.length cD) := (blk_cell BK.out 3).trans rfl; have hc4 : w7.cell? ⟨gb, 4, none⟩ = some (.slice AH l0_4.length cH) := (blk_cell BK.out 4).trans rfl) | ((with_reducible refine gate_callee (f := 88) rfl ?_); refine goesL_ (some 12) rfl rfl Tryd.func88 (by kernel_rfl) rfl #[.slice AD l0_3.length cD, .int .i64 (a1 + totalT l0_2)] rfl za ?_; (refine (laws_markIntSS.calls P0_3 _ l0_3 (a1 + totalT l0_2) _ w0 _ ?s1 ?s2 A2.out).mono ?_); (case s1 => repeat (first | (with_reducible first | exact HB.out | apply below_alloc | apply pw_below_drewN | apply below_drew1) | exact HB.out)); (case s2 => exact (by (with_reducible repeat (first | apply Kd.R_alloc | apply Kd.R_drewN | apply Kd.R_drew)); exact HD.out)); rintro e w8 ⟨rfl, hb, hk⟩; refine ⟨_, rfl, ?_⟩; obtain ⟨ys, hyl, hyj, hyR⟩ := hk.rows (by (with_reducible repeat (first | apply Kd.R_alloc | apply Kd.R_drewN | apply Kd.R_drew)); exact HH.out); have n0_ := Aside0.mk hb; have n1_ := Aside0.mk (blk_keptT (by (with_reducible repeat (first | refine blk_drewN ?_ _ | refine blk_drew ?_ | refine blk_alloc ?_ _)); exact BK.out) hk.kept (by decide)); have n4_ := Aside0.mk hyR; have n5_ := Aside0.mk (Kept.thenT (HK.out.below (by repeat (first | exact Below.refl _ _ | apply below_alloc | apply pw_below_drewN | apply below_drew1))) hk.kept (fun _ p q => .inl (.inr ⟨p, q⟩))); have LY := Aside0.mk (totalL_len l0_4 ys hyl hyj); have LL := Aside0.mk hyl; clear HB BK HD HH HK hb hk hyl hyj hyR; have HB := n0_; have BK := n1_; have HH := n4_; have HK := n5_; clear n0_ n1_ n4_ n5_; have hc2 : w8.cell? ⟨gb, 2, none⟩ = some (.slice AT l0_2.length cT) := (blk_cell BK.out 2).trans rfl; have hc3 : w8.cell? ⟨gb, 3, none⟩ = some (.slice AD l0_3.length cD) := (blk_cell BK.out 3).trans rfl; have hc4 : w8.cell? ⟨gb, 4, none⟩ = some (.slice AH l0_4.length cH) := (blk_cell BK.out 4).trans rfl) | ((with_reducible refine gate_callee (f := 88) rfl ?_); refine goesL_ (some 16) rfl rfl Tryd.func88 (by kernel_rfl) rfl #[.slice AH l0_4.length cH, .int .i64 (a1 + totalT l0_2 + totalL l0_3)] rfl za ?_; (refine (laws_markIntSS.calls P0_4 _ ys (a1 + totalT l0_2 + totalL l0_3) (a1 + totalT l0_2 + totalL l0_3 + totalL l0_4) w0 _ ?s1 ?s2 ?s3).mono ?_); (case s1 => repeat (first | (with_reducible first | exact HB.out | apply below_alloc | apply pw_below_drewN | apply below_drew1) | exact HB.out)); (case s2 => exact (by (with_reducible repeat (first | apply Kd.R_alloc | apply Kd.R_drewN | apply Kd.R_drew)); exact HH.out)); (case s3 => unfold laws_markIntSS.f; rw [LY.out.1, LY.out.2]; exact A3.out); rintro e w9 ⟨rfl, hb, hk⟩; refine ⟨_, rfl, ?_⟩; have n0_ := Aside0.mk hb; have n5_ := Aside0.mk (Kept.thenT (HK.out.below (by repeat (first | exact Below.refl _ _ | apply below_alloc | apply pw_below_drewN | apply below_drew1))) hk.kept (fun _ p q => .inr ⟨p, q⟩)); clear HB BK HH HK hb hk; have HB := n0_; have HK := n5_; clear n0_ n5_))
 go_ret
 exact ⟨rfl, by repeat (first | (with_reducible first | exact HB.out | apply below_alloc | apply pw_below_drewN | apply below_drew1) | exact HB.out), HK.out.below (by repeat (first | exact Below.refl _ _ | apply below_alloc | apply pw_below_drewN | apply below_drew1))⟩

/-! ### laws_heldIntS: function 30 -/
def laws_heldIntS.l0 : Nat → List Int → Int → Int → Option (Int)
 | 0, _, _, _ => none
 | k + 1, x0, x1, x5 => if x5 < (x0.length : Int) then (if 0 ≤ x5 then (if (rd x0 x5) = x1 then (laws_heldIntS.l0 k x0 (wrap64 (x1 + 1)) (wrap64 (x5 + 1))) else (some (-1))) else (none)) else (some x1)
def laws_heldIntS.f (k : Nat) (l0 : List Int) (a1 : Int) : Option (Int) := laws_heldIntS.l0 k l0 a1 0
theorem laws_heldIntS.mono_l : ∀ k, (∀ y0 y1 y2, LeO (laws_heldIntS.l0 k y0 y1 y2) (laws_heldIntS.l0 (k + 1) y0 y1 y2))
 | 0 => fun _ _ _ r h => by simp [laws_heldIntS.l0] at h
 | k + 1 => by
  have ih0 := laws_heldIntS.mono_l k
  ·intro y0 y1 y2
   unfold laws_heldIntS.l0
   repeat' first
   | (with_reducible exact ih0 _ _ _)
   | (with_reducible exact LeO.refl _)
   | (with_reducible exact LeO.none _)
   | (with_reducible refine LeO.ite ?_ ?_)
   | (with_reducible refine LeO.bind ?_ (fun _ => ?_))
   | exact LeO.none _
   | refine LeO.ite ?_ ?_
   | refine LeO.bind ?_ (fun _ => ?_)
theorem laws_heldIntS.mono : ∀ a0 a1 k, LeO (laws_heldIntS.f k a0 a1) (laws_heldIntS.f (k + 1) a0 a1) := by
 intro a0 a1 k
 have ih0 := laws_heldIntS.mono_l k
 unfold laws_heldIntS.f
 repeat' first
   | (with_reducible exact ih0 _ _ _)
   | (with_reducible exact LeO.refl _)
   | (with_reducible exact LeO.none _)
   | (with_reducible refine LeO.ite ?_ ?_)
   | (with_reducible refine LeO.bind ?_ (fun _ => ?_))
   | exact LeO.none _
   | refine LeO.ite ?_ ?_
   | refine LeO.bind ?_ (fun _ => ?_)
set_option maxHeartbeats 8000000 in
set_option maxRecDepth 100000 in
theorem laws_heldIntS.calls (k : Nat) (A0 : Option Addr) (c0 : Nat) (l0 : List Int) (a1 : Int) (r : Int) (w : World) (hr0 : Kd.C (Kd.int .i64) w A0 l0.length l0) (hc0 : l0.length ≤ c0) (h : laws_heldIntS.f k l0 a1 = some r) :
  Calls Tryd.prog 30 #[.slice A0 l0.length c0, .int .i64 a1] w fun e w' => e = .returned (.int .i64 r) ∧ Drawn0 w w' := by
 have HR0 := Aside0.mk hr0
 have HC0 := Aside0.mk hc0
 clear hr0 hc0
 have H : (laws_heldIntS.l0 k l0 a1 0) = some r := h
 clear h
 have H' := Aside0.mk H
 clear H
 go_enter Tryd.func30, Tryd.ntmps30
 go_wp2
 go_loopg [1, 5] k (fun kq v1 v5 w' => ∃ (x1_1 : Int) (x5_1 : Int), v1 = .int .i64 x1_1 ∧ v5 = .int .i64 x5_1 ∧ Aside0 (laws_heldIntS.l0 kq l0 x1_1 x5_1 = some r) ∧ Aside0 (kq ≤ k) ∧ Drawn0 w w')
 case atStart => exact ⟨(a1), (0), zr, zr, H', ⟨Nat.le_refl _⟩, by repeat (first | exact Drawn0.refl _ | apply Drawn0.step)⟩
 case round =>
  clear H'
  try clear p2
  obtain ⟨x1_1, x5_1, rfl, rfl, HA, HK1, ⟨m1, rfl⟩⟩ := hrel
  cases gk with
  | zero => exact absurd HA.out (by simp [laws_heldIntS.l0])
  | succ k1 =>
   have H := HA.out
   clear HA
   simp only [laws_heldIntS.l0] at H
   by_cases c3 : x5_1 < (l0.length : Int)
   ·rw [if_pos c3] at H
    have c3b0 : decide (x5_1 < (l0.length : Int)) = true := decide_eq_true c3
    clear c3
    by_cases c4 : 0 ≤ x5_1
    ·rw [if_pos c4] at H
     have c4b0 : decide (0 ≤ x5_1) = true := decide_eq_true c4
     clear c4
     by_cases c5 : (rd l0 x5_1) = x1_1
     ·rw [if_pos c5] at H
      have c5b0 : ((rd l0 x5_1) == x1_1) = true := beq_iff_eq.mpr c5
      have c5b1 : ((rd l0 x5_1) != x1_1) = false := bne_eq_false_iff_eq.mpr c5
      clear c5
      have H' := Aside0.mk H
      clear H
      have p289 : 0 ≤ (x5_1 : Int) := zd
      have q289 : x5_1 < (l0.length : Int) := zd
      obtain ⟨ad289, e289, hx289_0⟩ := Kd.at_int HR0.out x5_1 p289 q289
      cases e289
      replace p289 := eq_true p289
      replace q289 := eq_true q289
      go_wp2
      go_roundg k1
      case measure => have := HK1.out; omega
      case rel => exact ⟨(wrap64 (x1_1 + 1)), (wrap64 (x5_1 + 1)), zr, zr, H', ⟨by have := HK1.out; omega⟩, by repeat (first | exact Drawn0.refl _ | apply Drawn0.step)⟩
     ·rw [if_neg c5] at H
      have c5b0 : ((rd l0 x5_1) == x1_1) = false := beq_eq_false_iff_ne.mpr c5
      have c5b1 : ((rd l0 x5_1) != x1_1) = true := bne_iff_ne.mpr c5
      obtain rfl := Option.some.inj H
      have p289 : 0 ≤ (x5_1 : Int) := zd
      have q289 : x5_1 < (l0.length : Int) := zd
      obtain ⟨ad289, e289, hx289_0⟩ := Kd.at_int HR0.out x5_1 p289 q289
      cases e289
      replace p289 := eq_true p289
      replace q289 := eq_true q289
      go_wp2
      go_ret
      exact ⟨by first | rfl | (simp; done) | (simp [*]; done), by repeat (first | exact Drawn0.refl _ | apply Drawn0.step)⟩
    ·rw [if_neg c4] at H
     exact absurd H (by simp)
   ·rw [if_neg c3] at H
    have c3b0 : decide (x5_1 < (l0.length : Int)) = false := decide_eq_false c3
    clear c3
    obtain rfl := Option.some.inj H
    go_wp2
    go_ret
    exact ⟨by first | rfl | (simp; done) | (simp [*]; done), by repeat (first | exact Drawn0.refl _ | apply Drawn0.step)⟩

end Go.Proofs.YthbeplmihjhoeaaDoor.PFnExactWalk
