-- made by wip/tools/myprint.py (this session's own program, over the kit's printer)
import Derived.Test.YthbeplmihjhoeaaDoorPFnExactBuildGraphx0
import Derived.Test.YthbeplmihjhoeaaDoorPFnExactBuildGraphx1
import Derived.Test.YthbeplmihjhoeaaDoorPFnExactBuildGraphx4
import Derived.Test.YthbeplmihjhoeaaDoorPFnExactBuildGraphx5
namespace Go.Proofs.YthbeplmihjhoeaaDoor.PFnExactBuildGraph
open Go.RowKit Go.Proofs.YthbeplmihjhoeaaDoorW.PrintWords Go.Proofs.YthbeplmihjhoeaaDoorW.PrintLast Go.Proofs.YthbeplmihjhoeaaDoorW.PrintMore
attribute [local go_sem] max2_int min2_int max_two min_two max_three min_three max_four min_four   -- for this text's walks alone
set_option linter.unusedVariables false
set_option linter.unusedSimpArgs false

/-! ### spec_BuildGraph: function 14 -/
mutual
def spec_BuildGraph.l0 : Nat → List (S99) → Int → Int → Int → List Int → List Int → List (S120) → Option (Int × List Int × List Int × List Int × List Int × Int)
 | 0, _, _, _, _, _, _, _ => none
 | k + 1, x4, x5, x191000, x191001, x191002, x191003, x191004 => if x5 < (wrap64 (x191000 * x191001)) then (if 0 ≤ x5 then (if x5 < (x191003.length : Int) then ((spec_l4bits.f k (rd x191003 x5)).bind fun t207 => (spec_BuildGraph.l1 k x4 x5 t207 0 x191000 x191001 x191002 x191003 x191004)) else (none)) else (none)) else ((spec_l5graph.f k (wrap64 (x191000 * x191001)) x4).bind fun bt193 => (some (bt193.1, bt193.2.1, bt193.2.2.1, bt193.2.2.2.1, bt193.2.2.2.2, 0)))
def spec_BuildGraph.l1 : Nat → List (S99) → Int → List Bool → Int → Int → Int → List Int → List Int → List (S120) → Option (Int × List Int × List Int × List Int × List Int × Int)
 | 0, _, _, _, _, _, _, _, _, _ => none
 | k + 1, x4, x5, x6, x7, x191000, x191001, x191002, x191003, x191004 => if x7 < 4 then (if 0 ≤ x7 then (if x7 < (x6.length : Int) then (if rdOf false x6 x7 = true then ((spec_l4to.f x191000 x191001 x5 x7).bind fun t211 => (if 0 ≤ t211 then (if t211 < (x191002.length : Int) then (if x4.length < 4398046511104 then (spec_BuildGraph.l1 k (x4 ++ [(⟨x5, t211, x7, rd x191002 t211⟩ : S99)]) x5 x6 (wrap64 (x7 + 1)) x191000 x191001 x191002 x191003 x191004) else (none)) else (none)) else (none))) else (spec_BuildGraph.l1 k x4 x5 x6 (wrap64 (x7 + 1)) x191000 x191001 x191002 x191003 x191004)) else (none)) else (none)) else (spec_BuildGraph.l0 k x4 (wrap64 (x5 + 1)) x191000 x191001 x191002 x191003 x191004)
end
def spec_BuildGraph.f (k : Nat) (a0_0 : Int) (a0_1 : Int) (l0_2 : List Int) (l0_3 : List Int) (l0_4 : List (S120)) : Option (Int × List Int × List Int × List Int × List Int × Int) := (spec_ValidLayout.f k a0_0 a0_1 l0_2 l0_3 l0_4).bind fun t192 => (if t192 = true then (spec_BuildGraph.l0 k ([] : List (S99)) 0 a0_0 a0_1 l0_2 l0_3 l0_4) else (some (0, ([] : List Int), ([] : List Int), ([] : List Int), ([] : List Int), 1)))
theorem spec_BuildGraph.mono_l : ∀ k, (∀ y0 y1 y2 y3 y4 y5 y6, LeO (spec_BuildGraph.l0 k y0 y1 y2 y3 y4 y5 y6) (spec_BuildGraph.l0 (k + 1) y0 y1 y2 y3 y4 y5 y6)) ∧ (∀ y0 y1 y2 y3 y4 y5 y6 y7 y8, LeO (spec_BuildGraph.l1 k y0 y1 y2 y3 y4 y5 y6 y7 y8) (spec_BuildGraph.l1 (k + 1) y0 y1 y2 y3 y4 y5 y6 y7 y8))
 | 0 => ⟨fun _ _ _ _ _ _ _ r h => by simp [spec_BuildGraph.l0] at h, fun _ _ _ _ _ _ _ _ _ r h => by simp [spec_BuildGraph.l1] at h⟩
 | k + 1 => by
  obtain ⟨ih0, ih1⟩ := spec_BuildGraph.mono_l k
  refine ⟨?_, ?_⟩
  ·intro y0 y1 y2 y3 y4 y5 y6
   unfold spec_BuildGraph.l0
   have m1 := @spec_ValidLayout.mono
   have m2 := @spec_l4bits.mono
   have m3 := @spec_l5graph.mono
   exact zm
  ·intro y0 y1 y2 y3 y4 y5 y6 y7 y8
   unfold spec_BuildGraph.l1
   have m1 := @spec_ValidLayout.mono
   have m2 := @spec_l4bits.mono
   have m3 := @spec_l5graph.mono
   exact zm
theorem spec_BuildGraph.mono : ∀ a0 a1 a2 a3 a4 k, LeO (spec_BuildGraph.f k a0 a1 a2 a3 a4) (spec_BuildGraph.f (k + 1) a0 a1 a2 a3 a4) := by
 intro a0 a1 a2 a3 a4 k
 obtain ⟨ih0, ih1⟩ := spec_BuildGraph.mono_l k
 unfold spec_BuildGraph.f
 have m1 := @spec_ValidLayout.mono
 have m2 := @spec_l4bits.mono
 have m3 := @spec_l5graph.mono
 exact zm
set_option maxHeartbeats 8000000 in
set_option maxRecDepth 100000 in
theorem spec_BuildGraph.calls (k : Nat) (a0_0 : Int) (a0_1 : Int) (A0_2 : Option Addr) (c0_2 : Nat) (l0_2 : List Int) (A0_3 : Option Addr) (c0_3 : Nat) (l0_3 : List Int) (A0_4 : Option Addr) (c0_4 : Nat) (l0_4 : List (S120)) (r1 : Int) (r2 : List Int) (r3 : List Int) (r4 : List Int) (r5 : List Int) (r6 : Int) (w : World) (hr0_2 : Kd.C (Kd.int .i64) w A0_2 l0_2.length l0_2) (hc0_2 : l0_2.length ≤ c0_2) (hr0_3 : Kd.C (Kd.int .i64) w A0_3 l0_3.length l0_3) (hc0_3 : l0_3.length ≤ c0_3) (hr0_4 : Kd.C k120 w A0_4 l0_4.length l0_4) (hc0_4 : l0_4.length ≤ c0_4) (h : spec_BuildGraph.f k a0_0 a0_1 l0_2 l0_3 l0_4 = some (r1, r2, r3, r4, r5, r6)) :
  Calls Tryd.prog 14 #[.agg #[.int .i64 a0_0, .int .i64 a0_1, .slice A0_2 l0_2.length c0_2, .slice A0_3 l0_3.length c0_3, .slice A0_4 l0_4.length c0_4]] w fun e w' => ∃ v1_ v2_ v3_ v4_ : Value, e = .returned (.tuple #[.agg #[.int .i64 r1, v1_, v2_, v3_, v4_], .int .i64 r6]) ∧ Kd.R (Kd.int .i64) 3 w' w.heap.size (fun k_ => zO k_ (v2_) ∧ zO k_ (v3_) ∧ zO k_ (v4_)) v1_ r2 ∧ Kd.R (Kd.int .i64) 3 w' w.heap.size (fun k_ => zO k_ (v1_) ∧ zO k_ (v3_) ∧ zO k_ (v4_)) v2_ r3 ∧ Kd.R (Kd.int .i64) 3 w' w.heap.size (fun k_ => zO k_ (v1_) ∧ zO k_ (v2_) ∧ zO k_ (v4_)) v3_ r4 ∧ Kd.R (Kd.int .i64) 3 w' w.heap.size (fun k_ => zO k_ (v1_) ∧ zO k_ (v2_) ∧ zO k_ (v3_)) v4_ r5 ∧ Below w.heap.size w w' := by
 have hu33 := Tryd.underlying33
 have hu28 := Tryd.underlying28
 have hu99 := Tryd.underlying99
 have HR0_2 := zA hr0_2
 have HC0_2 := zA hc0_2
 clear hr0_2 hc0_2
 have HR0_3 := zA hr0_3
 have HC0_3 := zA hc0_3
 clear hr0_3 hc0_3
 have HR0_4 := zA hr0_4
 have HC0_4 := zA hc0_4
 clear hr0_4 hc0_4
 have HB := zA (Below.refl w.heap.size w)
 have H : ((spec_ValidLayout.f k a0_0 a0_1 l0_2 l0_3 l0_4).bind fun t192 => (if t192 = true then (spec_BuildGraph.l0 k ([] : List (S99)) 0 a0_0 a0_1 l0_2 l0_3 l0_4) else (some (0, ([] : List Int), ([] : List Int), ([] : List Int), ([] : List Int), 1)))) = some (r1, r2, r3, r4, r5, r6) := h
 clear h
 replace H := Option.bind_eq_some_iff.mp H
 obtain ⟨t192, A20, H⟩ := H
 replace H : (if t192 = true then (spec_BuildGraph.l0 k ([] : List (S99)) 0 a0_0 a0_1 l0_2 l0_3 l0_4) else (some (0, ([] : List Int), ([] : List Int), ([] : List Int), ([] : List Int), 1))) = some (r1, r2, r3, r4, r5, r6) := H
 have A2 := zA A20
 clear A20
 by_cases c3 : t192 = true
 ·subst c3
  have H1 : (spec_BuildGraph.l0 k ([] : List (S99)) 0 a0_0 a0_1 l0_2 l0_3 l0_4) = some (r1, r2, r3, r4, r5, r6) := by rw [if_pos rfl] at H; exact H
  clear H
  have H := H1
  clear H1
  have H' := zA H
  clear H
  go_enter Tryd.func14, Tryd.ntmps14
  go_wp2_with (first | ((with_reducible refine gate_dst (N := 1) rfl ?_); refine box_event ?hg (N := 1) ?hd (cs := #[.int .i64 a0_0, .int .i64 a0_1, .slice A0_2 l0_2.length c0_2, .slice A0_3 l0_3.length c0_3, .slice A0_4 l0_4.length c0_4]) (t := 33) ?hr ?_; (case hd => rfl); (case hg => rfl); (case hr => first | (go_simp; done) | (go_simp; rfl)); intro gb190 hg w4 hbox hb; have n0_ := zA (below_step z_ hb); have n1_ := zA (hbox); have n2_ := zA ((by rw [hg]; exact (below_size z_) : w.heap.size ≤ gb190)); have n3_ := zA ((by rw [hg]; exact (below_size z_) : w.heap.size ≤ gb190)); clear HB; have HB := n0_; have BK190 := n1_; have GW190 := n2_; have GE190 := n3_; clear n0_ n1_ n2_ n3_; clear hb hbox hg) | ((with_reducible refine gate_dst (N := 2) rfl ?_); refine box_event ?hg (N := 2) ?hd (cs := #[.int .i64 0, .slice none 0 0, .slice none 0 0, .slice none 0 0, .slice none 0 0]) (t := 28) ?hr ?_; (case hd => rfl); (case hg => rfl); (case hr => first | (go_simp; done) | (go_simp; rfl)); intro gb191 hg w5 hbox hb; have n0_ := zA (zB BK190.out hb); have n1_ := zA (below_step (zs GE190.out) hb); have n2_ := zA (hbox); have n3_ := zA ((by rw [hg]; exact (below_size (zs GE190.out)) : w.heap.size ≤ gb191)); have n4_ := zA ((by rw [hg]; exact (below_size (zs GE190.out)) : w.heap.size ≤ gb191)); have n5_ := zA ((by rw [hg]; exact Nat.ne_of_lt (zw BK190.out) : gb190 ≠ gb191)); have n6_ := zA ((by rw [hg]; exact Nat.ne_of_gt (zw BK190.out) : gb191 ≠ gb190)); clear BK190 HB; have BK190 := n0_; have HB := n1_; have BK191 := n2_; have GW191 := n3_; have GE191 := n4_; have NB190_191 := n5_; have NB191_190 := n6_; clear n0_ n1_ n2_ n3_ n4_ n5_ n6_; clear hb hbox hg; have hnb6 := NB190_191.out; have hnc6 := NB191_190.out; obtain ⟨hcz7_0, hcz7_1, hcz7_2, hcz7_3, hcz7_4, hfz7_0, hfz7_1, hfz7_2, hfz7_3, hfz7_4⟩ := zh5 BK190.out) | ((with_reducible refine gate_callee (f := 68) rfl ?_); refine goesL_ (some 10) rfl rfl Tryd.func68 (by kernel_rfl) rfl #[.agg #[.int .i64 a0_0, .int .i64 a0_1, .slice A0_2 l0_2.length c0_2, .slice A0_3 l0_3.length c0_3, .slice A0_4 l0_4.length c0_4]] rfl za ?_; (with_reducible refine (spec_ValidLayout.calls k a0_0 a0_1 _ _ l0_2 _ _ l0_3 _ _ l0_4 true _ ?side1 ?side2 ?side3 ?side4 ?side5 ?side6 A2.out).mono ?_); (case side1 => exact zc (Kd.C_below HR0_2.out HB.out)); (case side2 => exact HC0_2.out); (case side3 => exact zc (Kd.C_below HR0_3.out HB.out)); (case side4 => exact HC0_3.out); (case side5 => exact zc (Kd.C_below HR0_4.out HB.out)); (case side6 => exact HC0_4.out); rintro e w8 ⟨rfl, hb⟩; refine ⟨_, rfl, ?_⟩; have n0_ := zA (zB BK190.out hb); have n1_ := zA (zB BK191.out hb); have n2_ := zA (below_step (zs2 GE190.out GE191.out) hb); clear BK190 BK191 HB; have BK190 := n0_; have BK191 := n1_; have HB := n2_; clear n0_ n1_ n2_; (try clear hb); (try clear hb2); (try clear hk); (try clear hi)))
  go_loopg [4, 5] k (fun kq v4 v5 w' => ∃ (x4_1 : List (S99)) (x5_1 : Int), v5 = .int .i64 x5_1 ∧ Aside0 (spec_BuildGraph.l0 kq x4_1 x5_1 a0_0 a0_1 l0_2 l0_3 l0_4 = some (r1, r2, r3, r4, r5, r6)) ∧ Aside0 (kq ≤ k) ∧ Aside0 (Kd.R k99 99 w' w.heap.size (fun _ => True) v4 x4_1) ∧ Aside0 (w'.heap[gb190]? = some (.cells #[.int .i64 a0_0, .int .i64 a0_1, (.slice A0_2 l0_2.length c0_2), (.slice A0_3 l0_3.length c0_3), (.slice A0_4 l0_4.length c0_4)] 33 (0, 0))) ∧ Aside0 (w'.heap[gb191]? = some (.cells #[.int .i64 0, (.slice none 0 0), (.slice none 0 0), (.slice none 0 0), (.slice none 0 0)] 28 (0, 0))) ∧ Aside0 (Below w.heap.size w w'))
  case atStart => exact ⟨(([] : List (S99))), (0), zr, H', ⟨Nat.le_refl _⟩, ⟨by first | exact Kd.R_nil _ _ _ _ _ | exact Kd.N_nil _ _ _ _ _ | exact Kd.V_nil _ _ _ _ _ | exact Kd.Q_nil _ _ _ _ _ | exact Kd.S_nil _ _ _ _ _⟩, ⟨zb BK190.out⟩, ⟨zb BK191.out⟩, ⟨(zs2 GE190.out GE191.out)⟩⟩
  case round =>
   clear H'
   (try clear c1); (try clear p2); (try clear c3); (try clear c6); (try clear hcz7_0 hcz7_1 hcz7_2 hcz7_3 hcz7_4); (try clear hfz7_0 hfz7_1 hfz7_2 hfz7_3 hfz7_4)
   obtain ⟨x4_1, x5_1, rfl, HA, HK1, HO_4, BK190, BK191, HB⟩ := hrel
   cases gk with
   | zero => exact absurd HA.out (by simp [spec_BuildGraph.l0])
   | succ k1 =>
    have H := HA.out
    clear HA
    simp only [spec_BuildGraph.l0] at H
    by_cases c9 : x5_1 < (wrap64 (a0_0 * a0_1))
    ·rw [if_pos c9] at H
     have c9b0 : decide (x5_1 < (wrap64 (a0_0 * a0_1))) = true := decide_eq_true c9
     clear c9
     by_cases c10 : 0 ≤ x5_1
     ·rw [if_pos c10] at H
      have c10b0 : decide (0 ≤ x5_1) = true := decide_eq_true c10
      clear c10
      by_cases c11 : x5_1 < (l0_3.length : Int)
      ·rw [if_pos c11] at H
       have c11b0 : decide (x5_1 < (l0_3.length : Int)) = true := decide_eq_true c11
       clear c11
       replace H := Option.bind_eq_some_iff.mp H
       obtain ⟨t207, A120, H⟩ := H
       replace H : (spec_BuildGraph.l1 k1 x4_1 x5_1 t207 0 a0_0 a0_1 l0_2 l0_3 l0_4) = some (r1, r2, r3, r4, r5, r6) := H
       have A12 := zA A120
       clear A120
       have H' := zA H
       clear H
       have hnb13 := NB190_191.out
       have hnc13 := NB191_190.out
       obtain ⟨hcz14_0, hcz14_1, hcz14_2, hcz14_3, hcz14_4, hfz14_0, hfz14_1, hfz14_2, hfz14_3, hfz14_4⟩ := zh5 BK190.out
       have p206 : 0 ≤ (x5_1 : Int) := zd
       have q206 : x5_1 < (l0_3.length : Int) := zd
       obtain ⟨ad206, e206, hx206_0⟩ := Kd.at_int HR0_3.out x5_1 p206 q206
       cases e206
       replace hx206_0 := zx HB.out hx206_0
       replace p206 := eq_true p206
       replace q206 := eq_true q206
       go_wp2_with (first | ((with_reducible refine gate_callee (f := 69) rfl ?_); refine goesL_ (some 27) rfl rfl Tryd.func69 (by kernel_rfl) rfl #[.int .i64 (rd l0_3 x5_1)] rfl za ?_; (with_reducible refine (spec_l4bits.calls k1 (rd l0_3 x5_1) t207 _ A12.out).mono ?_); rintro e w15 ⟨v208, rfl, ho0, hb⟩; refine ⟨_, rfl, ?_⟩; have n0_ := zA (Kd.R_below (zR HO_4.out) hb); have n1_ := zA (Kd.R_lower ho0 (below_size (zs2 GE190.out GE191.out))); have n2_ := zA (zB BK190.out hb); have n3_ := zA (zB BK191.out hb); have n4_ := zA (below_step (zs2 GE190.out GE191.out) hb); clear HO_4 BK190 BK191 HB; have HO_4 := n0_; have HO209 := n1_; have BK190 := n2_; have BK191 := n3_; have HB := n4_; clear n0_ n1_ n2_ n3_ n4_; (try clear hb); (try clear hb2); (try clear hk); (try clear hi); (try clear ho0)))
       go_loopg [4, 7] k1 (fun kq v4 v7 w' => ∃ (x4_2 : List (S99)) (x7_2 : Int), v7 = .int .i64 x7_2 ∧ Aside0 (spec_BuildGraph.l1 kq x4_2 x5_1 t207 x7_2 a0_0 a0_1 l0_2 l0_3 l0_4 = some (r1, r2, r3, r4, r5, r6)) ∧ Aside0 (kq ≤ k1) ∧ Aside0 (Kd.R k99 99 w' w.heap.size (fun _ => True) v4 x4_2) ∧ Aside0 (Kd.R Kd.bool 4 w' w.heap.size (fun _ => True) v208 t207) ∧ Aside0 (w'.heap[gb190]? = some (.cells #[.int .i64 a0_0, .int .i64 a0_1, (.slice A0_2 l0_2.length c0_2), (.slice (some ad206) l0_3.length c0_3), (.slice A0_4 l0_4.length c0_4)] 33 (0, 0))) ∧ Aside0 (w'.heap[gb191]? = some (.cells #[.int .i64 0, (.slice none 0 0), (.slice none 0 0), (.slice none 0 0), (.slice none 0 0)] 28 (0, 0))) ∧ Aside0 (Below w.heap.size w w'))
       case atStart => exact ⟨(x4_1), (0), zr, H', ⟨Nat.le_refl _⟩, ⟨zR HO_4.out⟩, ⟨zR HO209.out⟩, ⟨zb BK190.out⟩, ⟨zb BK191.out⟩, ⟨(zs2 GE190.out GE191.out)⟩⟩
       case round =>
        clear H'
        (try clear c1); (try clear p2); (try clear q2); (try clear hx2); (try clear c3); (try clear c6); (try clear p6); (try clear c9); (try clear c9b0); (try clear c10); (try clear c10b0); (try clear c11); (try clear c11b0); (try clear c13); (try clear c14); (try clear hcz14_0 hcz14_1 hcz14_2 hcz14_3 hcz14_4); (try clear hcz7_0 hcz7_1 hcz7_2 hcz7_3 hcz7_4); (try clear hfz14_0 hfz14_1 hfz14_2 hfz14_3 hfz14_4); (try clear hfz7_0 hfz7_1 hfz7_2 hfz7_3 hfz7_4); (try clear hx206_0); (try clear p2); (try clear p206); (try clear q206)
        obtain ⟨x4_2, x7_2, rfl, HA, HK2, HO_4, HO_6, BK190, BK191, HB⟩ := hrel
        cases gk with
        | zero => exact absurd HA.out (by simp [spec_BuildGraph.l1])
        | succ k2 =>
         have H := HA.out
         clear HA
         simp only [spec_BuildGraph.l1] at H
         by_cases c16 : x7_2 < 4
         ·rw [if_pos c16] at H
          have c16b0 : decide (x7_2 < 4) = true := decide_eq_true c16
          clear c16
          by_cases c17 : 0 ≤ x7_2
          ·rw [if_pos c17] at H
           have c17b0 : decide (0 ≤ x7_2) = true := decide_eq_true c17
           clear c17
           by_cases c18 : x7_2 < (t207.length : Int)
           ·rw [if_pos c18] at H
            have c18b0 : decide (x7_2 < (t207.length : Int)) = true := decide_eq_true c18
            clear c18
            obtain ⟨bq19, hbq19⟩ : ∃ b_ : Bool, b_ = (rdOf false t207 x7_2) := ⟨_, rfl⟩
            replace H : (if bq19 = true then ((spec_l4to.f a0_0 a0_1 x5_1 x7_2).bind fun t211 => (if 0 ≤ t211 then (if t211 < (l0_2.length : Int) then (if x4_2.length < 4398046511104 then (spec_BuildGraph.l1 k2 (x4_2 ++ [(⟨x5_1, t211, x7_2, rd l0_2 t211⟩ : S99)]) x5_1 t207 (wrap64 (x7_2 + 1)) a0_0 a0_1 l0_2 l0_3 l0_4) else (none)) else (none)) else (none))) else (spec_BuildGraph.l1 k2 x4_2 x5_1 t207 (wrap64 (x7_2 + 1)) a0_0 a0_1 l0_2 l0_3 l0_4)) = some (r1, r2, r3, r4, r5, r6) := by rw [← hbq19] at H; exact H
            have Nbq19 := zA hbq19
            clear hbq19
            by_cases c20 : bq19 = true
            ·subst c20
             have H1 : ((spec_l4to.f a0_0 a0_1 x5_1 x7_2).bind fun t211 => (if 0 ≤ t211 then (if t211 < (l0_2.length : Int) then (if x4_2.length < 4398046511104 then (spec_BuildGraph.l1 k2 (x4_2 ++ [(⟨x5_1, t211, x7_2, rd l0_2 t211⟩ : S99)]) x5_1 t207 (wrap64 (x7_2 + 1)) a0_0 a0_1 l0_2 l0_3 l0_4) else (none)) else (none)) else (none))) = some (r1, r2, r3, r4, r5, r6) := by rw [if_pos rfl] at H; exact H
             clear H
             have H := H1
             clear H1
             replace H := Option.bind_eq_some_iff.mp H
             obtain ⟨t211, A210, H⟩ := H
             replace H : (if 0 ≤ t211 then (if t211 < (l0_2.length : Int) then (if x4_2.length < 4398046511104 then (spec_BuildGraph.l1 k2 (x4_2 ++ [(⟨x5_1, t211, x7_2, rd l0_2 t211⟩ : S99)]) x5_1 t207 (wrap64 (x7_2 + 1)) a0_0 a0_1 l0_2 l0_3 l0_4) else (none)) else (none)) else (none)) = some (r1, r2, r3, r4, r5, r6) := H
             have A21 := zA A210
             clear A210
             by_cases c22 : 0 ≤ t211
             ·rw [if_pos c22] at H
              have c22b0 : decide (0 ≤ t211) = true := decide_eq_true c22
              clear c22
              by_cases c23 : t211 < (l0_2.length : Int)
              ·rw [if_pos c23] at H
               have c23b0 : decide (t211 < (l0_2.length : Int)) = true := decide_eq_true c23
               clear c23
               by_cases c24 : x4_2.length < 4398046511104
               ·rw [if_pos c24] at H
                have LMc24 := zA c24
                clear c24
                obtain ⟨y213, hy213⟩ : ∃ y_ : List (S99), y_ = (x4_2 ++ [(⟨x5_1, t211, x7_2, rd l0_2 t211⟩ : S99)]) := ⟨_, rfl⟩
                replace H : (spec_BuildGraph.l1 k2 y213 x5_1 t207 (wrap64 (x7_2 + 1)) a0_0 a0_1 l0_2 l0_3 l0_4) = some (r1, r2, r3, r4, r5, r6) := zh hy213
                have Ny213 := zA hy213
                clear hy213
                have H' := zA H
                clear H
                obtain ⟨Ao25, co25, eo25⟩ := Kd.R_slice HO_6.out
                subst eo25
                have p210 : 0 ≤ (x7_2 : Int) := zd
                have q210 : x7_2 < (t207.length : Int) := zd
                obtain ⟨ad210, e210, hx210_0⟩ := Kd.at_bool (Kd.R_reads' HO_6.out).2.2 x7_2 p210 q210
                (try rw [← Nbq19.out] at hx210_0)
                cases e210
                replace p210 := eq_true p210
                replace q210 := eq_true q210
                have hnb26 := NB190_191.out
                have hnc26 := NB191_190.out
                obtain ⟨hcz27_0, hcz27_1, hcz27_2, hcz27_3, hcz27_4, hfz27_0, hfz27_1, hfz27_2, hfz27_3, hfz27_4⟩ := zh5 BK190.out
                go_wp2_with (first | ((with_reducible refine gate_callee (f := 70) rfl ?_); refine goesL_ (some 42) rfl rfl Tryd.func70 (by kernel_rfl) rfl #[.int .i64 a0_0, .int .i64 a0_1, .int .i64 x5_1, .int .i64 x7_2] rfl za ?_; (with_reducible refine (spec_l4to.calls a0_0 a0_1 x5_1 x7_2 t211 _ A21.out).mono ?_); rintro e w' ⟨rfl, ⟨nd, rfl⟩⟩; refine ⟨_, rfl, ?_⟩; have p212 : 0 ≤ (t211 : Int) := zd; have q212 : t211 < (l0_2.length : Int) := zd; obtain ⟨ad212, e212, hx212_0⟩ := Kd.at_int HR0_2.out t211 p212 q212; cases e212; replace hx212_0 := zx HB.out hx212_0; replace p212 := eq_true p212; replace q212 := eq_true q212) | ((with_reducible refine gate_builtin (b := .append) (xs := #[.tmp 43, .tmp 53]) rfl ?_); at_builtin; refine Kd.R_append k99 (w0 := w) w.heap.size rfl (.tmp 43) (.tmp 53) 94 99 (.agg #[(.int .i64 0), (.int .i64 0), (.int .i64 0), (.int .i64 0)]) 32 rfl Tryd.underlying94 info99 rfl (by decide) (by omega) u4 x4_2 (⟨x5_1, t211, x7_2, rd l0_2 t211⟩ : S99) [.int .i64 x5_1, .int .i64 t211, .int .i64 x7_2, .int .i64 (rd l0_2 t211)] (fun _ => True) (fun _ => False) rfl rfl ?aP (fun _ hk => hk.elim) ?aF ?aO ?aB ?aS ?aL ?_; (case aP => exact k99_mkM _ _ _ (⟨x5_1, t211, x7_2, rd l0_2 t211⟩ : S99)); (case aB => exact (zs2 GE190.out GE191.out)); (case aF => exact (fun _ _ => trivial)); (case aO => exact (zR HO_4.out)); (case aS => exact (below_size (zs2 GE190.out GE191.out))); (case aL => have := LMc24.out; omega); intro v214 w28 ho hb hg hat; rw [← Ny213.out] at ho; have n0_ := zA (Kd.R_over' (zR HO_6.out) (Kd.R_typed (zR HO_4.out)) (by decide) hg); have n1_ := zA (blk_grown (g := gb190) (o := .cells #[.int .i64 a0_0, .int .i64 a0_1, .slice (some ad212) l0_2.length c0_2, .slice (some ad206) l0_3.length c0_3, .slice A0_4 l0_4.length c0_4] 33 (0, 0)) (zb BK190.out) hg (Kd.R_ne HO_4.out BK190.out (by decide))); have n2_ := zA (blk_grown (g := gb191) (o := .cells #[.int .i64 0, .slice none 0 0, .slice none 0 0, .slice none 0 0, .slice none 0 0] 28 (0, 0)) (zb BK191.out) hg (Kd.R_ne HO_4.out BK191.out (by decide))); have n3_ := zA (hb); have n4_ := zA (ho); clear HO_6 BK190 BK191 HB HO_4; have HO_6 := n0_; have BK190 := n1_; have BK191 := n2_; have HB := n3_; have HO215 := n4_; clear n0_ n1_ n2_ n3_ n4_; clear ho hb hg hat))
                go_roundg k2
                case measure => have := HK1.out; have := HK2.out; omega
                case rel => exact ⟨(y213), (wrap64 (x7_2 + 1)), zr, H', ⟨by have := HK1.out; have := HK2.out; omega⟩, ⟨zR HO215.out⟩, ⟨zR HO_6.out⟩, ⟨zb BK190.out⟩, ⟨zb BK191.out⟩, ⟨(zs2 GE190.out GE191.out)⟩⟩
               ·rw [if_neg c24] at H
                exact absurd H (by simp)
              ·rw [if_neg c23] at H
               exact absurd H (by simp)
             ·rw [if_neg c22] at H
              exact absurd H (by simp)
            ·replace c20 := Bool.eq_false_iff.mpr c20
             subst c20
             have H1 : (spec_BuildGraph.l1 k2 x4_2 x5_1 t207 (wrap64 (x7_2 + 1)) a0_0 a0_1 l0_2 l0_3 l0_4) = some (r1, r2, r3, r4, r5, r6) := by rw [if_neg (show ¬ (false = true) by decide)] at H; exact H
             clear H
             have H := H1
             clear H1
             have H' := zA H
             clear H
             obtain ⟨Ao29, co29, eo29⟩ := Kd.R_slice HO_6.out
             subst eo29
             have p210 : 0 ≤ (x7_2 : Int) := zd
             have q210 : x7_2 < (t207.length : Int) := zd
             obtain ⟨ad210, e210, hx210_0⟩ := Kd.at_bool (Kd.R_reads' HO_6.out).2.2 x7_2 p210 q210
             (try rw [← Nbq19.out] at hx210_0)
             cases e210
             replace p210 := eq_true p210
             replace q210 := eq_true q210
             go_wp2
             go_roundg k2
             case measure => have := HK1.out; have := HK2.out; omega
             case rel => exact ⟨(x4_2), (wrap64 (x7_2 + 1)), zr, H', ⟨by have := HK1.out; have := HK2.out; omega⟩, ⟨zR HO_4.out⟩, ⟨zR HO_6.out⟩, ⟨zb BK190.out⟩, ⟨zb BK191.out⟩, ⟨(zs2 GE190.out GE191.out)⟩⟩
           ·rw [if_neg c18] at H
            exact absurd H (by simp)
          ·rw [if_neg c17] at H
           exact absurd H (by simp)
         ·rw [if_neg c16] at H
          have c16b0 : decide (x7_2 < 4) = false := decide_eq_false c16
          clear c16
          have H' := zA H
          clear H
          go_wp2
          go_roundg k2
          case measure => have := HK1.out; have := HK2.out; omega
          case rel => exact ⟨(x4_2), (wrap64 (x5_1 + 1)), zr, H', ⟨by have := HK1.out; have := HK2.out; omega⟩, ⟨zR HO_4.out⟩, ⟨zb BK190.out⟩, ⟨zb BK191.out⟩, ⟨(zs2 GE190.out GE191.out)⟩⟩
      ·rw [if_neg c11] at H
       exact absurd H (by simp)
     ·rw [if_neg c10] at H
      exact absurd H (by simp)
    ·rw [if_neg c9] at H
     have c9b0 : decide (x5_1 < (wrap64 (a0_0 * a0_1))) = false := decide_eq_false c9
     clear c9
     replace H := Option.bind_eq_some_iff.mp H
     obtain ⟨⟨t193, t194, t197, t200, t203⟩, A300, H⟩ := H
     replace H : (some (t193, t194, t197, t200, t203, 0)) = some (r1, r2, r3, r4, r5, r6) := H
     have A30 := zA A300
     clear A300
     simp only [Option.some.injEq, Prod.mk.injEq] at H
     obtain ⟨rfl, rfl, rfl, rfl, rfl, rfl⟩ := H
     have hnb31 := NB190_191.out
     have hnc31 := NB191_190.out
     obtain ⟨hcz32_0, hcz32_1, hcz32_2, hcz32_3, hcz32_4, hfz32_0, hfz32_1, hfz32_2, hfz32_3, hfz32_4⟩ := zh5 BK190.out
     obtain ⟨Ao33, co33, eo33⟩ := Kd.R_slice HO_4.out
     subst eo33
     go_wp2_with (first | ((with_reducible refine gate_callee (f := 71) rfl ?_); refine goesL_ (some 61) rfl rfl Tryd.func71 (by kernel_rfl) rfl #[.int .i64 (wrap64 (a0_0 * a0_1)), .slice Ao33 x4_1.length co33] rfl za ?_; (with_reducible refine (spec_l5graph.calls k1 (wrap64 (a0_0 * a0_1)) _ _ x4_1 t193 t194 t197 t200 t203 _ ?side1 ?side2 A30.out).mono ?_); (case side1 => exact zc ((Kd.R_reads' HO_4.out).2.2)); (case side2 => exact (Kd.R_reads' HO_4.out).2.1); rintro e w34 ⟨v195, v198, v201, v204, rfl, ho0, ho1, ho2, ho3, hb⟩; refine ⟨_, rfl, ?_⟩; have n0_ := zA (Kd.R_below (zR HO_4.out) hb); have n1_ := zA (Kd.R_lower ho0 (below_size (zs2 GE190.out GE191.out))); have n2_ := zA (Kd.R_lower ho1 (below_size (zs2 GE190.out GE191.out))); have n3_ := zA (Kd.R_lower ho2 (below_size (zs2 GE190.out GE191.out))); have n4_ := zA (Kd.R_lower ho3 (below_size (zs2 GE190.out GE191.out))); have n5_ := zA (zB BK190.out hb); have n6_ := zA (zB BK191.out hb); have n7_ := zA (below_step (zs2 GE190.out GE191.out) hb); clear HO_4 BK190 BK191 HB; have HO_4 := n0_; have HO196 := n1_; have HO199 := n2_; have HO202 := n3_; have HO205 := n4_; have BK190 := n5_; have BK191 := n6_; have HB := n7_; clear n0_ n1_ n2_ n3_ n4_ n5_ n6_ n7_; (try clear hb); (try clear hb2); (try clear hk); (try clear hi); (try clear ho0); (try clear ho1); (try clear ho2); (try clear ho3); obtain ⟨hcz35_0, hcz35_1, hcz35_2, hcz35_3, hcz35_4, hfz35_0, hfz35_1, hfz35_2, hfz35_3, hfz35_4⟩ := zh5 BK191.out; obtain ⟨Ao36, co36, eo36⟩ := Kd.R_slice HO196.out; subst eo36; obtain ⟨Ao37, co37, eo37⟩ := Kd.R_slice HO199.out; subst eo37; obtain ⟨Ao38, co38, eo38⟩ := Kd.R_slice HO202.out; subst eo38; obtain ⟨Ao39, co39, eo39⟩ := Kd.R_slice HO205.out; subst eo39))
     refine bodyPost_ret (results_ct rfl _ _ gb191 28 #[.int .i64 t193, .slice Ao36 t194.length co36, .slice Ao37 t197.length co37, .slice Ao38 t200.length co38, .slice Ao39 t203.length co39] (0, 0) _ rfl (zq BK191.out) Tryd.underlying28 rfl (by kernel_rfl)) rfl ?_
     exact ⟨_, _, _, _, ze, by (with_reducible repeat (first | apply Kd.R_alloc | apply Kd.R_drewN | apply Kd.R_drew)); exact Kd.R_mono (Kd.R_far (p := ⟨gb191, 4, none⟩) (Kd.R_far (p := ⟨gb191, 3, none⟩) (Kd.R_far (p := ⟨gb191, 2, none⟩) (Kd.R_far (p := ⟨gb191, 1, none⟩) (Kd.R_far (p := ⟨gb191, 0, none⟩) (Kd.R_types HO196.out BK191.out (by decide)) (fun _ hk => hk.2) (.int .i64 t193)) (fun _ hk => hk.2) (.slice Ao36 t194.length co36)) (fun _ hk => hk.2) (.slice Ao37 t197.length co37)) (fun _ hk => hk.2) (.slice Ao38 t200.length co38)) (fun _ hk => hk.2) (.slice Ao39 t203.length co39)) (fun _ hk => ⟨hk.1.1, ⟨hk.1.2.1, hk.1.2.2⟩⟩), by (with_reducible repeat (first | apply Kd.R_alloc | apply Kd.R_drewN | apply Kd.R_drew)); exact Kd.R_mono (Kd.R_far (p := ⟨gb191, 4, none⟩) (Kd.R_far (p := ⟨gb191, 3, none⟩) (Kd.R_far (p := ⟨gb191, 2, none⟩) (Kd.R_far (p := ⟨gb191, 1, none⟩) (Kd.R_far (p := ⟨gb191, 0, none⟩) (Kd.R_types HO199.out BK191.out (by decide)) (fun _ hk => hk.2) (.int .i64 t193)) (fun _ hk => hk.2) (.slice Ao36 t194.length co36)) (fun _ hk => hk.2) (.slice Ao37 t197.length co37)) (fun _ hk => hk.2) (.slice Ao38 t200.length co38)) (fun _ hk => hk.2) (.slice Ao39 t203.length co39)) (fun _ hk => ⟨hk.1.1, ⟨hk.1.2.1, hk.1.2.2⟩⟩), by (with_reducible repeat (first | apply Kd.R_alloc | apply Kd.R_drewN | apply Kd.R_drew)); exact Kd.R_mono (Kd.R_far (p := ⟨gb191, 4, none⟩) (Kd.R_far (p := ⟨gb191, 3, none⟩) (Kd.R_far (p := ⟨gb191, 2, none⟩) (Kd.R_far (p := ⟨gb191, 1, none⟩) (Kd.R_far (p := ⟨gb191, 0, none⟩) (Kd.R_types HO202.out BK191.out (by decide)) (fun _ hk => hk.2) (.int .i64 t193)) (fun _ hk => hk.2) (.slice Ao36 t194.length co36)) (fun _ hk => hk.2) (.slice Ao37 t197.length co37)) (fun _ hk => hk.2) (.slice Ao38 t200.length co38)) (fun _ hk => hk.2) (.slice Ao39 t203.length co39)) (fun _ hk => ⟨hk.1.1, ⟨hk.1.2.1, hk.1.2.2⟩⟩), by (with_reducible repeat (first | apply Kd.R_alloc | apply Kd.R_drewN | apply Kd.R_drew)); exact Kd.R_mono (Kd.R_far (p := ⟨gb191, 4, none⟩) (Kd.R_far (p := ⟨gb191, 3, none⟩) (Kd.R_far (p := ⟨gb191, 2, none⟩) (Kd.R_far (p := ⟨gb191, 1, none⟩) (Kd.R_far (p := ⟨gb191, 0, none⟩) (Kd.R_types HO205.out BK191.out (by decide)) (fun _ hk => hk.2) (.int .i64 t193)) (fun _ hk => hk.2) (.slice Ao36 t194.length co36)) (fun _ hk => hk.2) (.slice Ao37 t197.length co37)) (fun _ hk => hk.2) (.slice Ao38 t200.length co38)) (fun _ hk => hk.2) (.slice Ao39 t203.length co39)) (fun _ hk => ⟨hk.1.1, ⟨hk.1.2.1, hk.1.2.2⟩⟩), (zs2 GE190.out GE191.out)⟩
 ·replace c3 := Bool.eq_false_iff.mpr c3
  subst c3
  have H1 : (some (0, ([] : List Int), ([] : List Int), ([] : List Int), ([] : List Int), 1)) = some (r1, r2, r3, r4, r5, r6) := by rw [if_neg (show ¬ (false = true) by decide)] at H; exact H
  clear H
  have H := H1
  clear H1
  simp only [Option.some.injEq, Prod.mk.injEq] at H
  obtain ⟨rfl, rfl, rfl, rfl, rfl, rfl⟩ := H
  go_enter Tryd.func14, Tryd.ntmps14
  go_wp2_with (first | ((with_reducible refine gate_dst (N := 1) rfl ?_); refine box_event ?hg (N := 1) ?hd (cs := #[.int .i64 a0_0, .int .i64 a0_1, .slice A0_2 l0_2.length c0_2, .slice A0_3 l0_3.length c0_3, .slice A0_4 l0_4.length c0_4]) (t := 33) ?hr ?_; (case hd => rfl); (case hg => rfl); (case hr => first | (go_simp; done) | (go_simp; rfl)); intro gb190 hg w40 hbox hb; have n0_ := zA (below_step z_ hb); have n1_ := zA (hbox); have n2_ := zA ((by rw [hg]; exact (below_size z_) : w.heap.size ≤ gb190)); have n3_ := zA ((by rw [hg]; exact (below_size z_) : w.heap.size ≤ gb190)); clear HB; have HB := n0_; have BK190 := n1_; have GW190 := n2_; have GE190 := n3_; clear n0_ n1_ n2_ n3_; clear hb hbox hg) | ((with_reducible refine gate_dst (N := 2) rfl ?_); refine box_event ?hg (N := 2) ?hd (cs := #[.int .i64 0, .slice none 0 0, .slice none 0 0, .slice none 0 0, .slice none 0 0]) (t := 28) ?hr ?_; (case hd => rfl); (case hg => rfl); (case hr => first | (go_simp; done) | (go_simp; rfl)); intro gb191 hg w41 hbox hb; have n0_ := zA (zB BK190.out hb); have n1_ := zA (below_step (zs GE190.out) hb); have n2_ := zA (hbox); have n3_ := zA ((by rw [hg]; exact (below_size (zs GE190.out)) : w.heap.size ≤ gb191)); have n4_ := zA ((by rw [hg]; exact (below_size (zs GE190.out)) : w.heap.size ≤ gb191)); have n5_ := zA ((by rw [hg]; exact Nat.ne_of_lt (zw BK190.out) : gb190 ≠ gb191)); have n6_ := zA ((by rw [hg]; exact Nat.ne_of_gt (zw BK190.out) : gb191 ≠ gb190)); clear BK190 HB; have BK190 := n0_; have HB := n1_; have BK191 := n2_; have GW191 := n3_; have GE191 := n4_; have NB190_191 := n5_; have NB191_190 := n6_; clear n0_ n1_ n2_ n3_ n4_ n5_ n6_; clear hb hbox hg; have hnb42 := NB190_191.out; have hnc42 := NB191_190.out; obtain ⟨hcz43_0, hcz43_1, hcz43_2, hcz43_3, hcz43_4, hfz43_0, hfz43_1, hfz43_2, hfz43_3, hfz43_4⟩ := zh5 BK190.out) | ((with_reducible refine gate_callee (f := 68) rfl ?_); refine goesL_ (some 10) rfl rfl Tryd.func68 (by kernel_rfl) rfl #[.agg #[.int .i64 a0_0, .int .i64 a0_1, .slice A0_2 l0_2.length c0_2, .slice A0_3 l0_3.length c0_3, .slice A0_4 l0_4.length c0_4]] rfl za ?_; (with_reducible refine (spec_ValidLayout.calls k a0_0 a0_1 _ _ l0_2 _ _ l0_3 _ _ l0_4 false _ ?side1 ?side2 ?side3 ?side4 ?side5 ?side6 A2.out).mono ?_); (case side1 => exact zc (Kd.C_below HR0_2.out HB.out)); (case side2 => exact HC0_2.out); (case side3 => exact zc (Kd.C_below HR0_3.out HB.out)); (case side4 => exact HC0_3.out); (case side5 => exact zc (Kd.C_below HR0_4.out HB.out)); (case side6 => exact HC0_4.out); rintro e w44 ⟨rfl, hb⟩; refine ⟨_, rfl, ?_⟩; have n0_ := zA (zB BK190.out hb); have n1_ := zA (zB BK191.out hb); have n2_ := zA (below_step (zs2 GE190.out GE191.out) hb); clear BK190 BK191 HB; have BK190 := n0_; have BK191 := n1_; have HB := n2_; clear n0_ n1_ n2_; (try clear hb); (try clear hb2); (try clear hk); (try clear hi); obtain ⟨hcz45_0, hcz45_1, hcz45_2, hcz45_3, hcz45_4, hfz45_0, hfz45_1, hfz45_2, hfz45_3, hfz45_4⟩ := zh5 BK191.out))
  refine bodyPost_ret (results_ct rfl _ _ gb191 28 #[.int .i64 0, .slice none 0 0, .slice none 0 0, .slice none 0 0, .slice none 0 0] (0, 0) _ rfl (zq BK191.out) Tryd.underlying28 rfl (by kernel_rfl)) rfl ?_
  exact ⟨_, _, _, _, ze, by first | exact Kd.R_nil _ _ _ _ _ | exact Kd.N_nil _ _ _ _ _ | exact Kd.V_nil _ _ _ _ _ | exact Kd.Q_nil _ _ _ _ _ | exact Kd.S_nil _ _ _ _ _, by first | exact Kd.R_nil _ _ _ _ _ | exact Kd.N_nil _ _ _ _ _ | exact Kd.V_nil _ _ _ _ _ | exact Kd.Q_nil _ _ _ _ _ | exact Kd.S_nil _ _ _ _ _, by first | exact Kd.R_nil _ _ _ _ _ | exact Kd.N_nil _ _ _ _ _ | exact Kd.V_nil _ _ _ _ _ | exact Kd.Q_nil _ _ _ _ _ | exact Kd.S_nil _ _ _ _ _, by first | exact Kd.R_nil _ _ _ _ _ | exact Kd.N_nil _ _ _ _ _ | exact Kd.V_nil _ _ _ _ _ | exact Kd.Q_nil _ _ _ _ _ | exact Kd.S_nil _ _ _ _ _, (zs2 GE190.out GE191.out)⟩

/-! ### laws_toIntS: function 72 -/
def laws_toIntS.l0 : Nat → List Int → List Int → Int → Option (List Int)
 | 0, _, _, _ => none
 | k + 1, x0, x3, x4 => if x4 < (x0.length : Int) then (if 0 ≤ x4 then (if x4 < (x3.length : Int) then (laws_toIntS.l0 k x0 (x3.set (x4 : Int).toNat (rd x0 x4)) (wrap64 (x4 + 1))) else (none)) else (none)) else (some x3)
def laws_toIntS.f (k : Nat) (l0 : List Int) : Option (List Int) := if 0 ≤ (l0.length : Int) then (if ((l0.length : Int) : Int).toNat ≤ 35184372088832 then (laws_toIntS.l0 k l0 (List.replicate ((l0.length : Int) : Int).toNat 0) 0) else (none)) else (none)
theorem laws_toIntS.mono_l : ∀ k, (∀ y0 y1 y2, LeO (laws_toIntS.l0 k y0 y1 y2) (laws_toIntS.l0 (k + 1) y0 y1 y2))
 | 0 => fun _ _ _ r h => by simp [laws_toIntS.l0] at h
 | k + 1 => by
  have ih0 := laws_toIntS.mono_l k
  ·intro y0 y1 y2
   unfold laws_toIntS.l0
   exact zm
theorem laws_toIntS.mono : ∀ a0 k, LeO (laws_toIntS.f k a0) (laws_toIntS.f (k + 1) a0) := by
 intro a0 k
 have ih0 := laws_toIntS.mono_l k
 unfold laws_toIntS.f
 exact zm
set_option maxHeartbeats 8000000 in
set_option maxRecDepth 100000 in
theorem laws_toIntS.calls (k : Nat) (A0 : Option Addr) (c0 : Nat) (l0 : List Int) (r : List Int) (w : World) (hr0 : Kd.C (Kd.int .i64) w A0 l0.length l0) (hc0 : l0.length ≤ c0) (h : laws_toIntS.f k l0 = some r) :
  Calls Tryd.prog 72 #[.slice A0 l0.length c0] w fun e w' => ∃ v0_ : Value, e = .returned (v0_) ∧ Kd.R (Kd.int .i64) 3 w' w.heap.size (fun _ => True) v0_ r ∧ Below w.heap.size w w' := by
 have HR0 := zA hr0
 have HC0 := zA hc0
 clear hr0 hc0
 have HB := zA (Below.refl w.heap.size w)
 have H : (if 0 ≤ (l0.length : Int) then (if ((l0.length : Int) : Int).toNat ≤ 35184372088832 then (laws_toIntS.l0 k l0 (List.replicate ((l0.length : Int) : Int).toNat 0) 0) else (none)) else (none)) = some r := h
 clear h
 by_cases c2 : 0 ≤ (l0.length : Int)
 ·rw [if_pos c2] at H
  have c2b0 := eq_true c2
  have c2b1 : decide (0 ≤ (l0.length : Int)) = true := decide_eq_true c2
  clear c2
  by_cases c3 : ((l0.length : Int) : Int).toNat ≤ 35184372088832
  ·rw [if_pos c3] at H
   have c3b0 := eq_true c3
   have c3b1 : decide (((l0.length : Int) : Int).toNat ≤ 35184372088832) = true := decide_eq_true c3
   clear c3
   obtain ⟨y216, hy216⟩ : ∃ y_ : List Int, y_ = (List.replicate ((l0.length : Int) : Int).toNat 0) := ⟨_, rfl⟩
   replace H : (laws_toIntS.l0 k l0 y216 0) = some r := zh hy216
   have Ny216 := zA hy216
   clear hy216
   have H' := zA H
   clear H
   go_enter Tryd.func72, Tryd.ntmps72
   go_wp2_with (first | ((with_reducible refine gate_dst (N := 7) rfl ?_); refine Kd.R_make (Kd.int .i64) _ 3 rfl (N := 7) rfl 22 _ _ rfl (l0.length : Int) rfl rfl Tryd.underlying22 (.int .i64 0) 8 info3 rfl (by decide) (by omega) 0 (ok := fun _ => True) (okp := fun _ => True) rfl (fun _ hk => hk) trivial (zd) (Nat.le_trans (Nat.mul_le_mul_right _ (zd : (l0.length : Int).toNat ≤ 35184372088832)) (by omega)) (Below.refl _ _) (Nat.le_refl _) ?_; intro v217 w4 ho5 hb hg_ hnew_; clear hg_ hnew_; (first | rw [← Ny216.out] at ho5 | (simp only [Int.reduceToNat] at ho5; rw [← Ny216.out] at ho5)); have n0_ := zA (Kd.R_lower ho5 (below_size z_)); have n1_ := zA (below_step z_ hb); clear HB; have HO218 := n0_; have HB := n1_; clear n0_ n1_; clear hb ho5))
   go_loopg [4] k (fun kq v4 w' => ∃ (x3_1 : List Int) (x4_1 : Int), v4 = .int .i64 x4_1 ∧ Aside0 (laws_toIntS.l0 kq l0 x3_1 x4_1 = some r) ∧ Aside0 (kq ≤ k) ∧ Aside0 (Kd.R (Kd.int .i64) 3 w' w.heap.size (fun _ => True) v217 x3_1) ∧ Aside0 (Below w.heap.size w w'))
   case atStart => exact ⟨(y216), (0), zr, H', ⟨Nat.le_refl _⟩, ⟨zR HO218.out⟩, ⟨z_⟩⟩
   case round =>
    clear H'
    (try clear c2); (try clear c2b0); (try clear c2b1); (try clear p2); (try clear c3); (try clear c3b0); (try clear c3b1)
    obtain ⟨x3_1, x4_1, rfl, HA, HK1, HO_3, HB⟩ := hrel
    cases gk with
    | zero => exact absurd HA.out (by simp [laws_toIntS.l0])
    | succ k1 =>
     have H := HA.out
     clear HA
     simp only [laws_toIntS.l0] at H
     by_cases c6 : x4_1 < (l0.length : Int)
     ·rw [if_pos c6] at H
      have c6b0 : decide (x4_1 < (l0.length : Int)) = true := decide_eq_true c6
      clear c6
      by_cases c7 : 0 ≤ x4_1
      ·rw [if_pos c7] at H
       have c7b0 : decide (0 ≤ x4_1) = true := decide_eq_true c7
       clear c7
       by_cases c8 : x4_1 < (x3_1.length : Int)
       ·rw [if_pos c8] at H
        have c8b0 : decide (x4_1 < (x3_1.length : Int)) = true := decide_eq_true c8
        clear c8
        obtain ⟨y220, hy220⟩ : ∃ y_ : List Int, y_ = (x3_1.set (x4_1 : Int).toNat (rd l0 x4_1)) := ⟨_, rfl⟩
        replace H : (laws_toIntS.l0 k1 l0 y220 (wrap64 (x4_1 + 1))) = some r := zh hy220
        have Ny220 := zA hy220
        clear hy220
        have H' := zA H
        clear H
        have p219 : 0 ≤ (x4_1 : Int) := zd
        have q219 : x4_1 < (l0.length : Int) := zd
        obtain ⟨ad219, e219, hx219_0⟩ := Kd.at_int HR0.out x4_1 p219 q219
        cases e219
        replace hx219_0 := zx HB.out hx219_0
        replace p219 := eq_true p219
        replace q219 := eq_true q219
        have p9 : 0 ≤ (x4_1 : Int) := zd
        have q9 : (x4_1 : Int) < ((x3_1.length : Int) : Int) := zd
        obtain ⟨go9, co9, eo9, gb9, gl9, cl9, HG9⟩ := Kd.R_form HO_3.out (by omega)
        (first | cases eo9 | (injection eo9 with ea_ en_ ec_; (first | subst ea_ | (injection ea_ with ea_; subst ea_)); subst ec_; clear en_))
        have GB9 := zA gb9
        have GG9 := zA HG9
        clear gb9 gl9 HG9
        obtain ⟨hx9_0, hf9_0⟩ := Kd.R_celln 0 HO_3.out (x4_1 : Int) p9 q9
        replace p9 := eq_true p9
        replace q9 := eq_true q9
        have HP10 := Kd.R_putg HO_3.out (x4_1 : Int) (rd l0 x4_1)
        go_wp2_with (first | ((with_reducible refine gate_store (t := 3) (p := 20) rfl ?_); refine store_event (t := 3) (p := 20) (v := ?vo_w11) (w1 := (wr.setCell ⟨go9, (x4_1 : Int).toNat, none⟩ (.int .i64 (rd l0 x4_1)))) ?hg ?ho ?hn ?hr ?_; (case ho => rfl); (case hg => rfl); (case hn => rfl); (case hr => first | (go_simp; done) | (go_simp; rfl)); intro w11 hw; have hg : wr.grownBy w11 (some go9) := (by rw [hw]; exact HP10.2); have hp_ : Kd.R (Kd.int .i64) 3 w11 w.heap.size (fun _ => True) (.slice (some ⟨go9, 0, none⟩) x3_1.length co9) y220 := (by rw [hw, Ny220.out]; exact HP10.1); clear HP10; have n0_ := zA (hp_); have n1_ := zA ((by rw [hw]; exact below_set (HB.out) GB9.out : Below w.heap.size w w11)); clear HO_3 HB; have HO_3 := n0_; have HB := n1_; clear n0_ n1_; clear hg hw hp_))
        go_roundg k1
        case measure => have := HK1.out; omega
        case rel => exact ⟨(y220), (wrap64 (x4_1 + 1)), zr, H', ⟨by have := HK1.out; omega⟩, ⟨zR HO_3.out⟩, ⟨z_⟩⟩
       ·rw [if_neg c8] at H
        exact absurd H (by simp)
      ·rw [if_neg c7] at H
       exact absurd H (by simp)
     ·rw [if_neg c6] at H
      have c6b0 : decide (x4_1 < (l0.length : Int)) = false := decide_eq_false c6
      clear c6
      obtain rfl := Option.some.inj H
      go_wp2
      go_ret
      exact ⟨_, ze, by (with_reducible repeat (first | apply Kd.R_alloc | apply Kd.R_drewN | apply Kd.R_drew)); exact HO_3.out, z_⟩
  ·rw [if_neg c3] at H
   exact absurd H (by simp)
 ·rw [if_neg c2] at H
  exact absurd H (by simp)

/-! ### laws_toByteS: function 49 -/
def laws_toByteS.l0 : Nat → List Int → List Int → Int → Option (List Int)
 | 0, _, _, _ => none
 | k + 1, x0, x3, x4 => if x4 < (x0.length : Int) then (if 0 ≤ x4 then (if x4 < (x3.length : Int) then (laws_toByteS.l0 k x0 (x3.set (x4 : Int).toNat (rd x0 x4)) (wrap64 (x4 + 1))) else (none)) else (none)) else (some x3)
def laws_toByteS.f (k : Nat) (l0 : List Int) : Option (List Int) := if 0 ≤ (l0.length : Int) then (if ((l0.length : Int) : Int).toNat ≤ 281474976710656 then (laws_toByteS.l0 k l0 (List.replicate ((l0.length : Int) : Int).toNat 0) 0) else (none)) else (none)
theorem laws_toByteS.mono_l : ∀ k, (∀ y0 y1 y2, LeO (laws_toByteS.l0 k y0 y1 y2) (laws_toByteS.l0 (k + 1) y0 y1 y2))
 | 0 => fun _ _ _ r h => by simp [laws_toByteS.l0] at h
 | k + 1 => by
  have ih0 := laws_toByteS.mono_l k
  ·intro y0 y1 y2
   unfold laws_toByteS.l0
   exact zm
theorem laws_toByteS.mono : ∀ a0 k, LeO (laws_toByteS.f k a0) (laws_toByteS.f (k + 1) a0) := by
 intro a0 k
 have ih0 := laws_toByteS.mono_l k
 unfold laws_toByteS.f
 exact zm
set_option maxHeartbeats 8000000 in
set_option maxRecDepth 100000 in
theorem laws_toByteS.calls (k : Nat) (A0 : Option Addr) (c0 : Nat) (l0 : List Int) (r : List Int) (w : World) (hr0 : Kd.C (Kd.int .u8) w A0 l0.length l0) (hc0 : l0.length ≤ c0) (h : laws_toByteS.f k l0 = some r) :
  Calls Tryd.prog 49 #[.slice A0 l0.length c0] w fun e w' => ∃ v0_ : Value, e = .returned (v0_) ∧ Kd.R (Kd.int .u8) 5 w' w.heap.size (fun _ => True) v0_ r ∧ Below w.heap.size w w' := by
 have HR0 := zA hr0
 have HC0 := zA hc0
 clear hr0 hc0
 have HB := zA (Below.refl w.heap.size w)
 have H : (if 0 ≤ (l0.length : Int) then (if ((l0.length : Int) : Int).toNat ≤ 281474976710656 then (laws_toByteS.l0 k l0 (List.replicate ((l0.length : Int) : Int).toNat 0) 0) else (none)) else (none)) = some r := h
 clear h
 by_cases c2 : 0 ≤ (l0.length : Int)
 ·rw [if_pos c2] at H
  have c2b0 := eq_true c2
  have c2b1 : decide (0 ≤ (l0.length : Int)) = true := decide_eq_true c2
  clear c2
  by_cases c3 : ((l0.length : Int) : Int).toNat ≤ 281474976710656
  ·rw [if_pos c3] at H
   have c3b0 := eq_true c3
   have c3b1 : decide (((l0.length : Int) : Int).toNat ≤ 281474976710656) = true := decide_eq_true c3
   clear c3
   obtain ⟨y221, hy221⟩ : ∃ y_ : List Int, y_ = (List.replicate ((l0.length : Int) : Int).toNat 0) := ⟨_, rfl⟩
   replace H : (laws_toByteS.l0 k l0 y221 0) = some r := zh hy221
   have Ny221 := zA hy221
   clear hy221
   have H' := zA H
   clear H
   go_enter Tryd.func49, Tryd.ntmps49
   go_wp2_with (first | ((with_reducible refine gate_dst (N := 7) rfl ?_); refine Kd.R_make (Kd.int .u8) _ 5 rfl (N := 7) rfl 54 _ _ rfl (l0.length : Int) rfl rfl Tryd.underlying54 (.int .u8 0) 1 info5 rfl (by decide) (by omega) 0 (ok := fun _ => True) (okp := fun _ => True) rfl (fun _ hk => hk) trivial (zd) (Nat.le_trans (Nat.mul_le_mul_right _ (zd : (l0.length : Int).toNat ≤ 281474976710656)) (by omega)) (Below.refl _ _) (Nat.le_refl _) ?_; intro v222 w4 ho5 hb hg_ hnew_; clear hg_ hnew_; (first | rw [← Ny221.out] at ho5 | (simp only [Int.reduceToNat] at ho5; rw [← Ny221.out] at ho5)); have n0_ := zA (Kd.R_lower ho5 (below_size z_)); have n1_ := zA (below_step z_ hb); clear HB; have HO223 := n0_; have HB := n1_; clear n0_ n1_; clear hb ho5))
   go_loopg [4] k (fun kq v4 w' => ∃ (x3_1 : List Int) (x4_1 : Int), v4 = .int .i64 x4_1 ∧ Aside0 (laws_toByteS.l0 kq l0 x3_1 x4_1 = some r) ∧ Aside0 (kq ≤ k) ∧ Aside0 (Kd.R (Kd.int .u8) 5 w' w.heap.size (fun _ => True) v222 x3_1) ∧ Aside0 (Below w.heap.size w w'))
   case atStart => exact ⟨(y221), (0), zr, H', ⟨Nat.le_refl _⟩, ⟨zR HO223.out⟩, ⟨z_⟩⟩
   case round =>
    clear H'
    (try clear c2); (try clear c2b0); (try clear c2b1); (try clear p2); (try clear c3); (try clear c3b0); (try clear c3b1); (try clear c4)
    obtain ⟨x3_1, x4_1, rfl, HA, HK1, HO_3, HB⟩ := hrel
    cases gk with
    | zero => exact absurd HA.out (by simp [laws_toByteS.l0])
    | succ k1 =>
     have H := HA.out
     clear HA
     simp only [laws_toByteS.l0] at H
     by_cases c6 : x4_1 < (l0.length : Int)
     ·rw [if_pos c6] at H
      have c6b0 : decide (x4_1 < (l0.length : Int)) = true := decide_eq_true c6
      clear c6
      by_cases c7 : 0 ≤ x4_1
      ·rw [if_pos c7] at H
       have c7b0 : decide (0 ≤ x4_1) = true := decide_eq_true c7
       clear c7
       by_cases c8 : x4_1 < (x3_1.length : Int)
       ·rw [if_pos c8] at H
        have c8b0 : decide (x4_1 < (x3_1.length : Int)) = true := decide_eq_true c8
        clear c8
        obtain ⟨y225, hy225⟩ : ∃ y_ : List Int, y_ = (x3_1.set (x4_1 : Int).toNat (rd l0 x4_1)) := ⟨_, rfl⟩
        replace H : (laws_toByteS.l0 k1 l0 y225 (wrap64 (x4_1 + 1))) = some r := zh hy225
        have Ny225 := zA hy225
        clear hy225
        have H' := zA H
        clear H
        have p224 : 0 ≤ (x4_1 : Int) := zd
        have q224 : x4_1 < (l0.length : Int) := zd
        obtain ⟨ad224, e224, hx224_0⟩ := Kd.at_int HR0.out x4_1 p224 q224
        cases e224
        replace hx224_0 := zx HB.out hx224_0
        replace p224 := eq_true p224
        replace q224 := eq_true q224
        have p9 : 0 ≤ (x4_1 : Int) := zd
        have q9 : (x4_1 : Int) < ((x3_1.length : Int) : Int) := zd
        obtain ⟨go9, co9, eo9, gb9, gl9, cl9, HG9⟩ := Kd.R_form HO_3.out (by omega)
        (first | cases eo9 | (injection eo9 with ea_ en_ ec_; (first | subst ea_ | (injection ea_ with ea_; subst ea_)); subst ec_; clear en_))
        have GB9 := zA gb9
        have GG9 := zA HG9
        clear gb9 gl9 HG9
        obtain ⟨hx9_0, hf9_0⟩ := Kd.R_celln 0 HO_3.out (x4_1 : Int) p9 q9
        replace p9 := eq_true p9
        replace q9 := eq_true q9
        have HP10 := Kd.R_putg HO_3.out (x4_1 : Int) (rd l0 x4_1)
        go_wp2_with (first | ((with_reducible refine gate_store (t := 5) (p := 20) rfl ?_); refine store_event (t := 5) (p := 20) (v := ?vo_w11) (w1 := (wr.setCell ⟨go9, (x4_1 : Int).toNat, none⟩ (.int .u8 (rd l0 x4_1)))) ?hg ?ho ?hn ?hr ?_; (case ho => rfl); (case hg => rfl); (case hn => rfl); (case hr => first | (go_simp; done) | (go_simp; rfl)); intro w11 hw; have hg : wr.grownBy w11 (some go9) := (by rw [hw]; exact HP10.2); have hp_ : Kd.R (Kd.int .u8) 5 w11 w.heap.size (fun _ => True) (.slice (some ⟨go9, 0, none⟩) x3_1.length co9) y225 := (by rw [hw, Ny225.out]; exact HP10.1); clear HP10; have n0_ := zA (hp_); have n1_ := zA ((by rw [hw]; exact below_set (HB.out) GB9.out : Below w.heap.size w w11)); clear HO_3 HB; have HO_3 := n0_; have HB := n1_; clear n0_ n1_; clear hg hw hp_))
        go_roundg k1
        case measure => have := HK1.out; omega
        case rel => exact ⟨(y225), (wrap64 (x4_1 + 1)), zr, H', ⟨by have := HK1.out; omega⟩, ⟨zR HO_3.out⟩, ⟨z_⟩⟩
       ·rw [if_neg c8] at H
        exact absurd H (by simp)
      ·rw [if_neg c7] at H
       exact absurd H (by simp)
     ·rw [if_neg c6] at H
      have c6b0 : decide (x4_1 < (l0.length : Int)) = false := decide_eq_false c6
      clear c6
      obtain rfl := Option.some.inj H
      go_wp2
      go_ret
      exact ⟨_, ze, by (with_reducible repeat (first | apply Kd.R_alloc | apply Kd.R_drewN | apply Kd.R_drew)); exact HO_3.out, z_⟩
  ·rw [if_neg c3] at H
   exact absurd H (by simp)
 ·rw [if_neg c2] at H
  exact absurd H (by simp)

/-! ### laws_toTarget: function 137 -/
def laws_toTarget.f (k : Nat) (l0_0 : List Int) (a0_1 : Int) (a0_2 : Int) : Option (List Int × Int × Int) := (laws_toByteS.f k l0_0).bind fun t229 => (some (t229, a0_1, a0_2))
theorem laws_toTarget.mono : ∀ a0 a1 a2 k, LeO (laws_toTarget.f k a0 a1 a2) (laws_toTarget.f (k + 1) a0 a1 a2) := by
 intro a0 a1 a2 k
 unfold laws_toTarget.f
 have m1 := @laws_toByteS.mono
 exact zm
set_option maxHeartbeats 8000000 in
set_option maxRecDepth 100000 in
theorem laws_toTarget.calls (k : Nat) (A0_0 : Option Addr) (c0_0 : Nat) (l0_0 : List Int) (a0_1 : Int) (a0_2 : Int) (r1 : List Int) (r2 : Int) (r3 : Int) (w : World) (hr0_0 : Kd.C (Kd.int .u8) w A0_0 l0_0.length l0_0) (hc0_0 : l0_0.length ≤ c0_0) (h : laws_toTarget.f k l0_0 a0_1 a0_2 = some (r1, r2, r3)) :
  Calls Tryd.prog 137 #[.agg #[.slice A0_0 l0_0.length c0_0, .int .i64 a0_1, .int .i64 a0_2]] w fun e w' => ∃ v0_ : Value, e = .returned (.agg #[v0_, .int .i64 r2, .int .i64 r3]) ∧ Kd.R (Kd.int .u8) 5 w' w.heap.size (fun _ => True) v0_ r1 ∧ Below w.heap.size w w' := by
 have hu185 := Tryd.underlying185
 have hu120 := Tryd.underlying120
 have HR0_0 := zA hr0_0
 have HC0_0 := zA hc0_0
 clear hr0_0 hc0_0
 have HB := zA (Below.refl w.heap.size w)
 have H : ((laws_toByteS.f k l0_0).bind fun t229 => (some (t229, a0_1, a0_2))) = some (r1, r2, r3) := h
 clear h
 replace H := Option.bind_eq_some_iff.mp H
 obtain ⟨t229, A20, H⟩ := H
 replace H : (some (t229, a0_1, a0_2)) = some (r1, r2, r3) := H
 have A2 := zA A20
 clear A20
 simp only [Option.some.injEq, Prod.mk.injEq] at H
 obtain ⟨rfl, rfl, rfl⟩ := H
 go_enter Tryd.func137, Tryd.ntmps137
 go_wp2_with (first | ((with_reducible refine gate_dst (N := 1) rfl ?_); refine box_event ?hg (N := 1) ?hd (cs := #[.slice A0_0 l0_0.length c0_0, .int .i64 a0_1, .int .i64 a0_2]) (t := 185) ?hr ?_; (case hd => rfl); (case hg => rfl); (case hr => first | (go_simp; done) | (go_simp; rfl)); intro gb226 hg w3 hbox hb; have n0_ := zA (below_step z_ hb); have n1_ := zA (hbox); have n2_ := zA ((by rw [hg]; exact (below_size z_) : w.heap.size ≤ gb226)); have n3_ := zA ((by rw [hg]; exact (below_size z_) : w.heap.size ≤ gb226)); clear HB; have HB := n0_; have BK226 := n1_; have GW226 := n2_; have GE226 := n3_; clear n0_ n1_ n2_ n3_; clear hb hbox hg) | ((with_reducible refine gate_dst (N := 2) rfl ?_); refine box_event ?hg (N := 2) ?hd (cs := #[.slice none 0 0, .int .i64 0, .int .i64 0]) (t := 120) ?hr ?_; (case hd => rfl); (case hg => rfl); (case hr => first | (go_simp; done) | (go_simp; rfl)); intro gb227 hg w4 hbox hb; have n0_ := zA (zB BK226.out hb); have n1_ := zA (below_step (zs GE226.out) hb); have n2_ := zA (hbox); have n3_ := zA ((by rw [hg]; exact (below_size (zs GE226.out)) : w.heap.size ≤ gb227)); have n4_ := zA ((by rw [hg]; exact (below_size (zs GE226.out)) : w.heap.size ≤ gb227)); have n5_ := zA ((by rw [hg]; exact Nat.ne_of_lt (zw BK226.out) : gb226 ≠ gb227)); have n6_ := zA ((by rw [hg]; exact Nat.ne_of_gt (zw BK226.out) : gb227 ≠ gb226)); clear BK226 HB; have BK226 := n0_; have HB := n1_; have BK227 := n2_; have GW227 := n3_; have GE227 := n4_; have NB226_227 := n5_; have NB227_226 := n6_; clear n0_ n1_ n2_ n3_ n4_ n5_ n6_; clear hb hbox hg) | ((with_reducible refine gate_dst (N := 3) rfl ?_); refine box_event ?hg (N := 3) ?hd (cs := #[.slice none 0 0, .int .i64 0, .int .i64 0]) (t := 120) ?hr ?_; (case hd => rfl); (case hg => rfl); (case hr => first | (go_simp; done) | (go_simp; rfl)); intro gb228 hg w5 hbox hb; have n0_ := zA (zB BK226.out hb); have n1_ := zA (zB BK227.out hb); have n2_ := zA (below_step (zs2 GE226.out GE227.out) hb); have n3_ := zA (hbox); have n4_ := zA ((by rw [hg]; exact (below_size (zs2 GE226.out GE227.out)) : w.heap.size ≤ gb228)); have n5_ := zA ((by rw [hg]; exact (below_size (zs2 GE226.out GE227.out)) : w.heap.size ≤ gb228)); have n6_ := zA ((by rw [hg]; exact Nat.ne_of_lt (zw BK226.out) : gb226 ≠ gb228)); have n7_ := zA ((by rw [hg]; exact Nat.ne_of_gt (zw BK226.out) : gb228 ≠ gb226)); have n8_ := zA ((by rw [hg]; exact Nat.ne_of_lt (zw BK227.out) : gb227 ≠ gb228)); have n9_ := zA ((by rw [hg]; exact Nat.ne_of_gt (zw BK227.out) : gb228 ≠ gb227)); clear BK226 BK227 HB; have BK226 := n0_; have BK227 := n1_; have HB := n2_; have BK228 := n3_; have GW228 := n4_; have GE228 := n5_; have NB226_228 := n6_; have NB228_226 := n7_; have NB227_228 := n8_; have NB228_227 := n9_; clear n0_ n1_ n2_ n3_ n4_ n5_ n6_ n7_ n8_ n9_; clear hb hbox hg; have hnb6 := NB226_227.out; have hnc6 := NB227_226.out; have hnb7 := NB226_228.out; have hnc7 := NB228_226.out; obtain ⟨hcz8_0, hcz8_1, hcz8_2, hfz8_0, hfz8_1, hfz8_2⟩ := zh3 BK226.out) | ((with_reducible refine gate_callee (f := 49) rfl ?_); refine goesL_ (some 6) rfl rfl Tryd.func49 (by kernel_rfl) rfl #[.slice A0_0 l0_0.length c0_0] rfl za ?_; (with_reducible refine (laws_toByteS.calls k _ _ l0_0 t229 _ ?side1 ?side2 A2.out).mono ?_); (case side1 => exact zc (Kd.C_below HR0_0.out HB.out)); (case side2 => exact HC0_0.out); rintro e w9 ⟨v230, rfl, ho0, hb⟩; refine ⟨_, rfl, ?_⟩; have n0_ := zA (Kd.R_lower ho0 (below_size (zs3 GE226.out GE227.out GE228.out))); have n1_ := zA (zB BK226.out hb); have n2_ := zA (zB BK227.out hb); have n3_ := zA (zB BK228.out hb); have n4_ := zA (below_step (zs3 GE226.out GE227.out GE228.out) hb); clear BK226 BK227 BK228 HB; have HO231 := n0_; have BK226 := n1_; have BK227 := n2_; have BK228 := n3_; have HB := n4_; clear n0_ n1_ n2_ n3_ n4_; (try clear hb); (try clear hb2); (try clear hk); (try clear hi); (try clear ho0); obtain ⟨Ao10, co10, eo10⟩ := Kd.R_slice HO231.out; subst eo10; have hnb11 := NB228_227.out; have hnc11 := NB227_228.out; obtain ⟨hcz12_0, hcz12_1, hcz12_2, hfz12_0, hfz12_1, hfz12_2⟩ := zh3 BK228.out; obtain ⟨hcz13_0, hcz13_1, hcz13_2, hfz13_0, hfz13_1, hfz13_2⟩ := zh3 BK226.out; obtain ⟨hcz14_0, hcz14_1, hcz14_2, hfz14_0, hfz14_1, hfz14_2⟩ := zh3 BK227.out))
 refine bodyPost_ret (results_cell_row rfl _ _ gb227 120 #[.slice Ao10 t229.length co10, .int .i64 a0_1, .int .i64 a0_2] (0, 0) _ rfl (by (with_reducible repeat (first | refine blk_drewN ?_ _ | refine blk_drew ?_ | refine blk_alloc ?_ _)); refine blk_put (cs := #[.slice Ao10 t229.length co10, .int .i64 a0_1, .int .i64 0]) ?_ 2 _ rfl; (with_reducible repeat (first | refine blk_drewN ?_ _ | refine blk_drew ?_ | refine blk_alloc ?_ _)); refine blk_put (cs := #[.slice Ao10 t229.length co10, .int .i64 0, .int .i64 0]) ?_ 1 _ rfl; (with_reducible repeat (first | refine blk_drewN ?_ _ | refine blk_drew ?_ | refine blk_alloc ?_ _)); refine blk_put (cs := #[.slice none 0 0, .int .i64 0, .int .i64 0]) ?_ 0 _ rfl; (with_reducible repeat (first | refine blk_drewN ?_ _ | refine blk_drew ?_ | refine blk_alloc ?_ _)); refine blk_far ?_ NB227_228.out _; (with_reducible repeat (first | refine blk_drewN ?_ _ | refine blk_drew ?_ | refine blk_alloc ?_ _)); refine blk_far ?_ NB227_228.out _; (with_reducible repeat (first | refine blk_drewN ?_ _ | refine blk_drew ?_ | refine blk_alloc ?_ _)); refine blk_far ?_ NB227_228.out _; (with_reducible repeat (first | refine blk_drewN ?_ _ | refine blk_drew ?_ | refine blk_alloc ?_ _)); exact BK227.out) Tryd.underlying120 rfl (by kernel_rfl)) rfl ?_
 exact ⟨_, ze, by (with_reducible repeat (first | apply Kd.R_alloc | apply Kd.R_drewN | apply Kd.R_drew)); exact Kd.R_mono (Kd.R_far (p := ⟨gb227, 2, none⟩) (Kd.R_far (p := ⟨gb227, 1, none⟩) (Kd.R_far (p := ⟨gb227, 0, none⟩) (Kd.R_far (p := ⟨gb228, 2, none⟩) (Kd.R_far (p := ⟨gb228, 1, none⟩) (Kd.R_far (p := ⟨gb228, 0, none⟩) (Kd.R_types (Kd.R_types HO231.out BK228.out (by decide)) BK227.out (by decide)) (fun _ hk => hk.1.2) (.slice Ao10 t229.length co10)) (fun _ hk => hk.1.2) (.int .i64 a0_1)) (fun _ hk => hk.1.2) (.int .i64 a0_2)) (fun _ hk => hk.2) (.slice Ao10 t229.length co10)) (fun _ hk => hk.2) (.int .i64 a0_1)) (fun _ hk => hk.2) (.int .i64 a0_2)) (fun _ hk => trivial), (zs3 GE226.out GE227.out GE228.out)⟩

/-! ### laws_toTargetS: function 73 -/
def laws_toTargetS.l0 : Nat → List (S185) → List (S120) → Int → Option ((List (S120)))
 | 0, _, _, _ => none
 | k + 1, x0, x3, x4 => if x4 < (x0.length : Int) then (if 0 ≤ x4 then ((laws_toTarget.f k ((rd_T185 x0 x4).f0) ((rd_T185 x0 x4).f1) ((rd_T185 x0 x4).f2)).bind fun bt236 => (if x4 < (x3.length : Int) then (laws_toTargetS.l0 k x0 (x3.set (x4 : Int).toNat (⟨bt236.1, bt236.2.1, bt236.2.2⟩ : S120)) (wrap64 (x4 + 1))) else (none))) else (none)) else (some x3)
def laws_toTargetS.f (k : Nat) (l0 : List (S185)) : Option ((List (S120))) := if 0 ≤ (l0.length : Int) then (if ((l0.length : Int) : Int).toNat ≤ 7036874417766 then (laws_toTargetS.l0 k l0 (List.replicate ((l0.length : Int) : Int).toNat z120) 0) else (none)) else (none)
theorem laws_toTargetS.mono_l : ∀ k, (∀ y0 y1 y2, LeO (laws_toTargetS.l0 k y0 y1 y2) (laws_toTargetS.l0 (k + 1) y0 y1 y2))
 | 0 => fun _ _ _ r h => by simp [laws_toTargetS.l0] at h
 | k + 1 => by
  have ih0 := laws_toTargetS.mono_l k
  ·intro y0 y1 y2
   unfold laws_toTargetS.l0
   have m1 := @laws_toTarget.mono
   exact zm
theorem laws_toTargetS.mono : ∀ a0 k, LeO (laws_toTargetS.f k a0) (laws_toTargetS.f (k + 1) a0) := by
 intro a0 k
 have ih0 := laws_toTargetS.mono_l k
 unfold laws_toTargetS.f
 have m1 := @laws_toTarget.mono
 exact zm
set_option maxHeartbeats 8000000 in
set_option maxRecDepth 100000 in
theorem laws_toTargetS.calls (k : Nat) (A0 : Option Addr) (c0 : Nat) (l0 : List (S185)) (r : List (S120)) (w : World) (hr0 : Kd.C k185 w A0 l0.length l0) (hc0 : l0.length ≤ c0) (h : laws_toTargetS.f k l0 = some r) :
  Calls Tryd.prog 73 #[.slice A0 l0.length c0] w fun e w' => ∃ v0_ : Value, e = .returned (v0_) ∧ Kd.S k120 120 w' w.heap.size (fun _ => True) v0_ r ∧ Below w.heap.size w w' := by
 have hu185 := Tryd.underlying185
 have hu120 := Tryd.underlying120
 have HR0 := zA hr0
 have HC0 := zA hc0
 clear hr0 hc0
 have HB := zA (Below.refl w.heap.size w)
 have H : (if 0 ≤ (l0.length : Int) then (if ((l0.length : Int) : Int).toNat ≤ 7036874417766 then (laws_toTargetS.l0 k l0 (List.replicate ((l0.length : Int) : Int).toNat z120) 0) else (none)) else (none)) = some r := h
 clear h
 by_cases c2 : 0 ≤ (l0.length : Int)
 ·rw [if_pos c2] at H
  have c2b0 := eq_true c2
  have c2b1 : decide (0 ≤ (l0.length : Int)) = true := decide_eq_true c2
  clear c2
  by_cases c3 : ((l0.length : Int) : Int).toNat ≤ 7036874417766
  ·rw [if_pos c3] at H
   have c3b0 := eq_true c3
   have c3b1 : decide (((l0.length : Int) : Int).toNat ≤ 7036874417766) = true := decide_eq_true c3
   clear c3
   obtain ⟨y232, hy232⟩ : ∃ y_ : List (S120), y_ = (List.replicate ((l0.length : Int) : Int).toNat z120) := ⟨_, rfl⟩
   replace H : (laws_toTargetS.l0 k l0 y232 0) = some r := zh hy232
   have Ny232 := zA hy232
   clear hy232
   have H' := zA H
   clear H
   go_enter Tryd.func73, Tryd.ntmps73
   go_wp2_with (first | ((with_reducible refine gate_dst (N := 7) rfl ?_); refine Kd.S_make k120 _ 120 rfl (N := 7) rfl 31 _ _ rfl (l0.length : Int) rfl rfl Tryd.underlying31 (.agg #[(.slice none 0 0), (.int .i64 0), (.int .i64 0)]) 40 info120 rfl (by decide) (by omega) z120 (ok := fun _ => True) (okp := fun _ => True) (k120_mkM _ _ _ z120 (Kd.R_nil _ _ _ _ _)) (fun _ hk => hk) trivial (zd) (Nat.le_trans (Nat.mul_le_mul_right _ (zd : (l0.length : Int).toNat ≤ 7036874417766)) (by omega)) (Below.refl _ _) (Nat.le_refl _) ?_; intro v233 w4 ho5 hb hg_ hnew_; clear hg_ hnew_; (first | rw [← Ny232.out] at ho5 | (simp only [Int.reduceToNat] at ho5; rw [← Ny232.out] at ho5)); have n0_ := zA (Kd.S_lower ho5 (below_size z_)); have n1_ := zA (below_step z_ hb); clear HB; have HO234 := n0_; have HB := n1_; clear n0_ n1_; clear hb ho5))
   go_loopg [4] k (fun kq v4 w' => ∃ (x3_1 : List (S120)) (x4_1 : Int), v4 = .int .i64 x4_1 ∧ Aside0 (laws_toTargetS.l0 kq l0 x3_1 x4_1 = some r) ∧ Aside0 (kq ≤ k) ∧ Aside0 (Kd.S k120 120 w' w.heap.size (fun _ => True) v233 x3_1) ∧ Aside0 (Below w.heap.size w w'))
   case atStart => exact ⟨(y232), (0), zr, H', ⟨Nat.le_refl _⟩, ⟨zS HO234.out⟩, ⟨z_⟩⟩
   case round =>
    clear H'
    (try clear c2); (try clear c2b0); (try clear c2b1); (try clear p2); (try clear c3); (try clear c3b0); (try clear c3b1)
    obtain ⟨x3_1, x4_1, rfl, HA, HK1, HO_3, HB⟩ := hrel
    cases gk with
    | zero => exact absurd HA.out (by simp [laws_toTargetS.l0])
    | succ k1 =>
     have H := HA.out
     clear HA
     simp only [laws_toTargetS.l0] at H
     by_cases c6 : x4_1 < (l0.length : Int)
     ·rw [if_pos c6] at H
      have c6b0 : decide (x4_1 < (l0.length : Int)) = true := decide_eq_true c6
      clear c6
      by_cases c7 : 0 ≤ x4_1
      ·rw [if_pos c7] at H
       have c7b0 : decide (0 ≤ x4_1) = true := decide_eq_true c7
       clear c7
       replace H := Option.bind_eq_some_iff.mp H
       obtain ⟨⟨t236, t239, t240⟩, A80, H⟩ := H
       replace H : (if x4_1 < (x3_1.length : Int) then (laws_toTargetS.l0 k1 l0 (x3_1.set (x4_1 : Int).toNat (⟨t236, t239, t240⟩ : S120)) (wrap64 (x4_1 + 1))) else (none)) = some r := H
       have A8 := zA A80
       clear A80
       by_cases c9 : x4_1 < (x3_1.length : Int)
       ·rw [if_pos c9] at H
        have c9b0 : decide (x4_1 < (x3_1.length : Int)) = true := decide_eq_true c9
        clear c9
        obtain ⟨y241, hy241⟩ : ∃ y_ : List (S120), y_ = (x3_1.set (x4_1 : Int).toNat (⟨t236, t239, t240⟩ : S120)) := ⟨_, rfl⟩
        replace H : (laws_toTargetS.l0 k1 l0 y241 (wrap64 (x4_1 + 1))) = some r := zh hy241
        have Ny241 := zA hy241
        clear hy241
        have H' := zA H
        clear H
        have p235 : 0 ≤ (x4_1 : Int) := zd
        have q235 : x4_1 < (l0.length : Int) := zd
        obtain ⟨ad235, A235_0, c235_0, e235, hx235_0, hx235_1, hx235_2, hl235_0, hi235_0⟩ := at_T185 HR0.out x4_1 p235 q235
        cases e235
        replace hx235_0 := zx HB.out hx235_0
        replace hx235_1 := zx HB.out hx235_1
        replace hx235_2 := zx HB.out hx235_2
        have HR235_0 := zA hi235_0
        have HC235_0 := zA hl235_0
        clear hi235_0 hl235_0
        replace p235 := eq_true p235
        replace q235 := eq_true q235
        go_wp2_with (first | ((with_reducible refine gate_callee (f := 137) rfl ?_); refine goesL_ (some 20) rfl rfl Tryd.func137 (by kernel_rfl) rfl #[.agg #[.slice A235_0 ((rd_T185 l0 x4_1).f0).length c235_0, .int .i64 ((rd_T185 l0 x4_1).f1), .int .i64 ((rd_T185 l0 x4_1).f2)]] rfl za ?_; (with_reducible refine (laws_toTarget.calls k1 _ _ ((rd_T185 l0 x4_1).f0) ((rd_T185 l0 x4_1).f1) ((rd_T185 l0 x4_1).f2) t236 t239 t240 _ ?side1 ?side2 A8.out).mono ?_); (case side1 => exact zc (Kd.C_below HR235_0.out HB.out)); (case side2 => exact HC235_0.out); rintro e w11 ⟨v237, rfl, ho0, hb⟩; refine ⟨_, rfl, ?_⟩; have n0_ := zA (Kd.S_elder' (zS HO_3.out) (Kd.R_base ho0) hb); have n1_ := zA (Kd.R_lower ho0 (below_size z_)); have n2_ := zA (below_step z_ hb); clear HO_3 HB; have HO_3 := n0_; have HO238 := n1_; have HB := n2_; clear n0_ n1_ n2_; (try clear hb); (try clear hb2); (try clear hk); (try clear hi); (try clear ho0); have p10 : 0 ≤ (x4_1 : Int) := zd; have q10 : (x4_1 : Int) < ((x3_1.length : Int) : Int) := zd; obtain ⟨go10, co10, eo10, gb10, gl10, cl10, HG10⟩ := Kd.S_form HO_3.out (by omega); (first | cases eo10 | (injection eo10 with ea_ en_ ec_; (first | subst ea_ | (injection ea_ with ea_; subst ea_)); subst ec_; clear en_)); have GB10 := zA gb10; have GG10 := zA HG10; clear gb10 gl10 HG10; obtain ⟨_, ce10, hcl10, hM10, hcc10, hfr10, _, _⟩ := Kd.S_elem HO_3.out z120 (x4_1 : Int) p10 q10; obtain ⟨ve10_0, rfl, ge10_0⟩ := k120_openM hM10; have hx10_0 : w11.cell? ⟨go10, (x4_1 : Int).toNat * 3, none⟩ = some (ve10_0) := hcc10 0 _ rfl; have hx10_1 : w11.cell? ⟨go10, (x4_1 : Int).toNat * 3 + 1, none⟩ = some (.int .i64 ((rd_T120 x3_1 x4_1).f1)) := hcc10 1 _ rfl; have hx10_2 : w11.cell? ⟨go10, (x4_1 : Int).toNat * 3 + 2, none⟩ = some (.int .i64 ((rd_T120 x3_1 x4_1).f2)) := hcc10 2 _ rfl; have hf10_0 : w11.frozen? ⟨go10, (x4_1 : Int).toNat * 3, none⟩ = false := hfr10 0; have hf10_1 : w11.frozen? ⟨go10, (x4_1 : Int).toNat * 3 + 1, none⟩ = false := hfr10 1; have hf10_2 : w11.frozen? ⟨go10, (x4_1 : Int).toNat * 3 + 2, none⟩ = false := hfr10 2; (try clear hcl10); (try clear hcc10); (try clear hfr10); (try clear hM10); replace p10 := eq_true p10; replace q10 := eq_true q10; have n_ := zA (Kd.S_mono (ok' := (fun k_ => zO k_ (v237))) HO_3.out (fun k_ hk => hk.2)); clear HO_3; have HO_3 := n_; clear n_; have HX12 := zA (show Kd.S k120 120 w11 w.heap.size (fun k_ => ((fun _ => True)) k_ ∧ ¬ ((fun k_ => some k_ = (v237 : Value).ownBlock)) k_) (.slice (some ⟨go10, 0, none⟩) x3_1.length co10) x3_1 from (by (with_reducible repeat (first | apply Kd.S_alloc | apply Kd.S_drewN | apply Kd.S_drew)); exact Kd.S_mono HO_3.out (fun k_ hk => ⟨trivial, fun e_ => hk e_⟩))); obtain ⟨oki12, ce12, hcl12, hM12, hcc12, hfr12, hoki12, hH12⟩ := Kd.S_elem HX12.out z120 (x4_1 : Int) (zd) (by have h_ : (x4_1 : Int) < ((x3_1.length : Int) : Int) := zd; first | exact h_ | (have e_ := (Kd.S_reads' HO_3.out).1; omega) | simpa using h_); obtain ⟨ve12_0, rfl, ge12_0⟩ := k120_openM hM12; have HP12 := Kd.S_seg hH12 (zd) (by have h_ : (x4_1 : Int) < ((x3_1.length : Int) : Int) := zd; first | exact h_ | (have e_ := (Kd.S_reads' HO_3.out).1; omega) | simpa using h_) (seg := [v237, .int .i64 t239, .int .i64 t240]) (j := 0) (show 3 ≤ 3 from by decide) (x' := (⟨t236, t239, t240⟩ : S120)) (k120_mkM _ _ _ (⟨t236, t239, t240⟩ : S120) (Kd.R_mono (Kd.R_tight rfl (Kd.R_mono (ok' := fun k_ => ((fun _ => True)) k_ ∧ k_ ≠ go10) (Kd.R_apart' (HO238.out) (Kd.S_typed HO_3.out) (by decide)) (fun k_ hk => ⟨trivial, fun e_ => (hk.2) (by rw [e_]; rfl)⟩))) (fun _ h_ => Or.inr (h_)))) (fun _ hk => hk) (fun k_ hk_ => ((Kd.R_mono (ok' := fun k_ => ((fun _ => True)) k_ ∧ k_ ≠ go10) (Kd.R_apart' (HO238.out) (Kd.S_typed HO_3.out) (by decide)) (fun k_ hk => ⟨trivial, fun e_ => (hk.2) (by rw [e_]; rfl)⟩))).1 k_ hk_.symm); have hx12_0 := hcc12 0 _ rfl; (try simp only [show (k120).sz = 3 from rfl, Nat.mul_one, Nat.add_zero] at hx12_0); have hf12_0 := hfr12 0; (try simp only [show (k120).sz = 3 from rfl, Nat.mul_one, Nat.add_zero] at hf12_0); have hx12_1 := hcc12 1 _ rfl; (try simp only [show (k120).sz = 3 from rfl, Nat.mul_one, Nat.add_zero] at hx12_1); have hf12_1 := hfr12 1; (try simp only [show (k120).sz = 3 from rfl, Nat.mul_one, Nat.add_zero] at hf12_1); have hx12_2 := hcc12 2 _ rfl; (try simp only [show (k120).sz = 3 from rfl, Nat.mul_one, Nat.add_zero] at hx12_2); have hf12_2 := hfr12 2; (try simp only [show (k120).sz = 3 from rfl, Nat.mul_one, Nat.add_zero] at hf12_2); (try clear hcl12); (try clear hcc12); (try clear hfr12); (try clear hM12); (try clear hoki12); (try clear hH12)) | ((with_reducible refine gate_store (t := 120) (p := 21) rfl ?_); refine store_event (t := 120) (p := 21) (v := ?vo_w13) (w1 := (((w11.setCell ⟨go10, (x4_1 : Int).toNat * 3, none⟩ (v237)).setCell ⟨go10, (x4_1 : Int).toNat * 3 + 1, none⟩ (.int .i64 t239)).setCell ⟨go10, (x4_1 : Int).toNat * 3 + 2, none⟩ (.int .i64 t240))) ?hg ?ho ?hn ?hr ?_; (case ho => rfl); (case hg => rfl); (case hn => rfl); (case hr => first | (go_simp; done) | (go_simp; rfl) | (obtain ⟨_, _, e_v237, _, _⟩ := Kd.R_reads (‹Aside0 (Kd.R _ _ _ _ _ v237 _)›).out; subst e_v237; first | (go_simp; done) | (go_simp; rfl))); intro w13 hw; have hg : w11.grownBy w13 (some go10) := (by rw [hw]; exact HP12.2); have hp_ : Kd.S k120 120 w13 w.heap.size (fun _ => True) (.slice (some ⟨go10, 0, none⟩) x3_1.length co10) y241 := (by rw [hw, Ny241.out]; exact HP12.1); clear HP12; have n0_ := zA (hp_); have n1_ := zA ((by rw [hw]; exact below_set (below_set (below_set (HB.out) GB10.out) GB10.out) GB10.out : Below w.heap.size w w13)); clear HO_3 HB HO238; have HO_3 := n0_; have HB := n1_; clear n0_ n1_; clear hg hw hp_))
        go_roundg k1
        case measure => have := HK1.out; omega
        case rel => exact ⟨(y241), (wrap64 (x4_1 + 1)), zr, H', ⟨by have := HK1.out; omega⟩, ⟨zS HO_3.out⟩, ⟨z_⟩⟩
       ·rw [if_neg c9] at H
        exact absurd H (by simp)
      ·rw [if_neg c7] at H
       exact absurd H (by simp)
     ·rw [if_neg c6] at H
      have c6b0 : decide (x4_1 < (l0.length : Int)) = false := decide_eq_false c6
      clear c6
      obtain rfl := Option.some.inj H
      go_wp2
      go_ret
      exact ⟨_, ze, by (with_reducible repeat (first | apply Kd.S_alloc | apply Kd.S_drewN | apply Kd.S_drew)); exact HO_3.out, z_⟩
  ·rw [if_neg c3] at H
   exact absurd H (by simp)
 ·rw [if_neg c2] at H
  exact absurd H (by simp)

/-! ### laws_toLayout: function 15 -/
def laws_toLayout.f (k : Nat) (a0_0 : Int) (a0_1 : Int) (l0_2 : List Int) (l0_3 : List Int) (l0_4 : List (S185)) : Option (Int × Int × List Int × List Int × (List (S120))) := (laws_toIntS.f k l0_2).bind fun t245 => ((laws_toIntS.f k l0_3).bind fun t248 => ((laws_toTargetS.f k l0_4).bind fun t251 => (some (a0_0, a0_1, t245, t248, t251))))
theorem laws_toLayout.mono : ∀ a0 a1 a2 a3 a4 k, LeO (laws_toLayout.f k a0 a1 a2 a3 a4) (laws_toLayout.f (k + 1) a0 a1 a2 a3 a4) := by
 intro a0 a1 a2 a3 a4 k
 unfold laws_toLayout.f
 have m1 := @laws_toIntS.mono
 have m2 := @laws_toTargetS.mono
 exact zm
set_option maxHeartbeats 8000000 in
set_option maxRecDepth 100000 in
theorem laws_toLayout.calls (k : Nat) (a0_0 : Int) (a0_1 : Int) (A0_2 : Option Addr) (c0_2 : Nat) (l0_2 : List Int) (A0_3 : Option Addr) (c0_3 : Nat) (l0_3 : List Int) (A0_4 : Option Addr) (c0_4 : Nat) (l0_4 : List (S185)) (r1 : Int) (r2 : Int) (r3 : List Int) (r4 : List Int) (r5 : List (S120)) (w : World) (hr0_2 : Kd.C (Kd.int .i64) w A0_2 l0_2.length l0_2) (hc0_2 : l0_2.length ≤ c0_2) (hr0_3 : Kd.C (Kd.int .i64) w A0_3 l0_3.length l0_3) (hc0_3 : l0_3.length ≤ c0_3) (hr0_4 : Kd.C k185 w A0_4 l0_4.length l0_4) (hc0_4 : l0_4.length ≤ c0_4) (h : laws_toLayout.f k a0_0 a0_1 l0_2 l0_3 l0_4 = some (r1, r2, r3, r4, r5)) :
  Calls Tryd.prog 15 #[.agg #[.int .i64 a0_0, .int .i64 a0_1, .slice A0_2 l0_2.length c0_2, .slice A0_3 l0_3.length c0_3, .slice A0_4 l0_4.length c0_4]] w fun e w' => ∃ v2_ v3_ v4_ : Value, e = .returned (.agg #[.int .i64 r1, .int .i64 r2, v2_, v3_, v4_]) ∧ Kd.R (Kd.int .i64) 3 w' w.heap.size (fun k_ => zO k_ (v3_)) v2_ r3 ∧ Kd.R (Kd.int .i64) 3 w' w.heap.size (fun k_ => zO k_ (v2_)) v3_ r4 ∧ Kd.S k120 120 w' w.heap.size (fun _ => True) v4_ r5 ∧ Below w.heap.size w w' := by
 have hu25 := Tryd.underlying25
 have hu33 := Tryd.underlying33
 have HR0_2 := zA hr0_2
 have HC0_2 := zA hc0_2
 clear hr0_2 hc0_2
 have HR0_3 := zA hr0_3
 have HC0_3 := zA hc0_3
 clear hr0_3 hc0_3
 have HR0_4 := zA hr0_4
 have HC0_4 := zA hc0_4
 clear hr0_4 hc0_4
 have HB := zA (Below.refl w.heap.size w)
 have H : ((laws_toIntS.f k l0_2).bind fun t245 => ((laws_toIntS.f k l0_3).bind fun t248 => ((laws_toTargetS.f k l0_4).bind fun t251 => (some (a0_0, a0_1, t245, t248, t251))))) = some (r1, r2, r3, r4, r5) := h
 clear h
 replace H := Option.bind_eq_some_iff.mp H
 obtain ⟨t245, A20, H⟩ := H
 replace H : ((laws_toIntS.f k l0_3).bind fun t248 => ((laws_toTargetS.f k l0_4).bind fun t251 => (some (a0_0, a0_1, t245, t248, t251)))) = some (r1, r2, r3, r4, r5) := H
 have A2 := zA A20
 clear A20
 replace H := Option.bind_eq_some_iff.mp H
 obtain ⟨t248, A30, H⟩ := H
 replace H : ((laws_toTargetS.f k l0_4).bind fun t251 => (some (a0_0, a0_1, t245, t248, t251))) = some (r1, r2, r3, r4, r5) := H
 have A3 := zA A30
 clear A30
 replace H := Option.bind_eq_some_iff.mp H
 obtain ⟨t251, A40, H⟩ := H
 replace H : (some (a0_0, a0_1, t245, t248, t251)) = some (r1, r2, r3, r4, r5) := H
 have A4 := zA A40
 clear A40
 simp only [Option.some.injEq, Prod.mk.injEq] at H
 obtain ⟨rfl, rfl, rfl, rfl, rfl⟩ := H
 go_enter Tryd.func15, Tryd.ntmps15
 go_wp2_with (first | ((with_reducible refine gate_dst (N := 1) rfl ?_); refine box_event ?hg (N := 1) ?hd (cs := #[.int .i64 a0_0, .int .i64 a0_1, .slice A0_2 l0_2.length c0_2, .slice A0_3 l0_3.length c0_3, .slice A0_4 l0_4.length c0_4]) (t := 25) ?hr ?_; (case hd => rfl); (case hg => rfl); (case hr => first | (go_simp; done) | (go_simp; rfl)); intro gb242 hg w5 hbox hb; have n0_ := zA (below_step z_ hb); have n1_ := zA (hbox); have n2_ := zA ((by rw [hg]; exact (below_size z_) : w.heap.size ≤ gb242)); have n3_ := zA ((by rw [hg]; exact (below_size z_) : w.heap.size ≤ gb242)); clear HB; have HB := n0_; have BK242 := n1_; have GW242 := n2_; have GE242 := n3_; clear n0_ n1_ n2_ n3_; clear hb hbox hg) | ((with_reducible refine gate_dst (N := 2) rfl ?_); refine box_event ?hg (N := 2) ?hd (cs := #[.int .i64 0, .int .i64 0, .slice none 0 0, .slice none 0 0, .slice none 0 0]) (t := 33) ?hr ?_; (case hd => rfl); (case hg => rfl); (case hr => first | (go_simp; done) | (go_simp; rfl)); intro gb243 hg w6 hbox hb; have n0_ := zA (zB BK242.out hb); have n1_ := zA (below_step (zs GE242.out) hb); have n2_ := zA (hbox); have n3_ := zA ((by rw [hg]; exact (below_size (zs GE242.out)) : w.heap.size ≤ gb243)); have n4_ := zA ((by rw [hg]; exact (below_size (zs GE242.out)) : w.heap.size ≤ gb243)); have n5_ := zA ((by rw [hg]; exact Nat.ne_of_lt (zw BK242.out) : gb242 ≠ gb243)); have n6_ := zA ((by rw [hg]; exact Nat.ne_of_gt (zw BK242.out) : gb243 ≠ gb242)); clear BK242 HB; have BK242 := n0_; have HB := n1_; have BK243 := n2_; have GW243 := n3_; have GE243 := n4_; have NB242_243 := n5_; have NB243_242 := n6_; clear n0_ n1_ n2_ n3_ n4_ n5_ n6_; clear hb hbox hg) | ((with_reducible refine gate_dst (N := 3) rfl ?_); refine box_event ?hg (N := 3) ?hd (cs := #[.int .i64 0, .int .i64 0, .slice none 0 0, .slice none 0 0, .slice none 0 0]) (t := 33) ?hr ?_; (case hd => rfl); (case hg => rfl); (case hr => first | (go_simp; done) | (go_simp; rfl)); intro gb244 hg w7 hbox hb; have n0_ := zA (zB BK242.out hb); have n1_ := zA (zB BK243.out hb); have n2_ := zA (below_step (zs2 GE242.out GE243.out) hb); have n3_ := zA (hbox); have n4_ := zA ((by rw [hg]; exact (below_size (zs2 GE242.out GE243.out)) : w.heap.size ≤ gb244)); have n5_ := zA ((by rw [hg]; exact (below_size (zs2 GE242.out GE243.out)) : w.heap.size ≤ gb244)); have n6_ := zA ((by rw [hg]; exact Nat.ne_of_lt (zw BK242.out) : gb242 ≠ gb244)); have n7_ := zA ((by rw [hg]; exact Nat.ne_of_gt (zw BK242.out) : gb244 ≠ gb242)); have n8_ := zA ((by rw [hg]; exact Nat.ne_of_lt (zw BK243.out) : gb243 ≠ gb244)); have n9_ := zA ((by rw [hg]; exact Nat.ne_of_gt (zw BK243.out) : gb244 ≠ gb243)); clear BK242 BK243 HB; have BK242 := n0_; have BK243 := n1_; have HB := n2_; have BK244 := n3_; have GW244 := n4_; have GE244 := n5_; have NB242_244 := n6_; have NB244_242 := n7_; have NB243_244 := n8_; have NB244_243 := n9_; clear n0_ n1_ n2_ n3_ n4_ n5_ n6_ n7_ n8_ n9_; clear hb hbox hg; have hnb8 := NB242_243.out; have hnc8 := NB243_242.out; have hnb9 := NB242_244.out; have hnc9 := NB244_242.out; obtain ⟨hcz10_0, hcz10_1, hcz10_2, hcz10_3, hcz10_4, hfz10_0, hfz10_1, hfz10_2, hfz10_3, hfz10_4⟩ := zh5 BK242.out; have hnb11 := NB244_243.out; have hnc11 := NB243_244.out; obtain ⟨hcz12_0, hcz12_1, hcz12_2, hcz12_3, hcz12_4, hfz12_0, hfz12_1, hfz12_2, hfz12_3, hfz12_4⟩ := zh5 BK244.out) | ((with_reducible refine gate_callee (f := 72) rfl ?_); refine goesL_ (some 12) rfl rfl Tryd.func72 (by kernel_rfl) rfl #[.slice A0_2 l0_2.length c0_2] rfl za ?_; (with_reducible refine (laws_toIntS.calls k _ _ l0_2 t245 _ ?side1 ?side2 A2.out).mono ?_); (case side1 => exact Kd.C_below HR0_2.out (zs3 GE242.out GE243.out GE244.out)); (case side2 => exact HC0_2.out); rintro e w13 ⟨v246, rfl, ho0, hb⟩; refine ⟨_, rfl, ?_⟩; have n0_ := zA (Kd.R_lower ho0 (below_size (zs3 GE242.out GE243.out GE244.out))); have n1_ := zA (blk_below (g := gb242) (o := .cells #[.int .i64 a0_0, .int .i64 a0_1, .slice A0_2 l0_2.length c0_2, .slice A0_3 l0_3.length c0_3, .slice A0_4 l0_4.length c0_4] 25 (0, 0)) (zf BK242.out NB242_244.out) hb); have n2_ := zA (blk_below (g := gb243) (o := .cells #[.int .i64 0, .int .i64 0, .slice none 0 0, .slice none 0 0, .slice none 0 0] 33 (0, 0)) (zf BK243.out NB243_244.out) hb); have n3_ := zA (blk_below (g := gb244) (o := .cells #[.int .i64 a0_0, .int .i64 a0_1, .slice none 0 0, .slice none 0 0, .slice none 0 0] 33 (0, 0)) (zq BK244.out) hb); have n4_ := zA (below_step (zs3 GE242.out GE243.out GE244.out) hb); clear BK242 BK243 BK244 HB; have HO247 := n0_; have BK242 := n1_; have BK243 := n2_; have BK244 := n3_; have HB := n4_; clear n0_ n1_ n2_ n3_ n4_; (try clear hb); (try clear hb2); (try clear hk); (try clear hi); (try clear ho0); obtain ⟨Ao14, co14, eo14⟩ := Kd.R_slice HO247.out; subst eo14; obtain ⟨hcz15_0, hcz15_1, hcz15_2, hcz15_3, hcz15_4, hfz15_0, hfz15_1, hfz15_2, hfz15_3, hfz15_4⟩ := zh5 BK244.out; obtain ⟨hcz16_0, hcz16_1, hcz16_2, hcz16_3, hcz16_4, hfz16_0, hfz16_1, hfz16_2, hfz16_3, hfz16_4⟩ := zh5 BK242.out) | ((with_reducible refine gate_callee (f := 72) rfl ?_); refine goesL_ (some 16) rfl rfl Tryd.func72 (by kernel_rfl) rfl #[.slice A0_3 l0_3.length c0_3] rfl za ?_; (with_reducible refine (laws_toIntS.calls k _ _ l0_3 t248 _ ?side1 ?side2 A3.out).mono ?_); (case side1 => exact Kd.C_below HR0_3.out (zs3 GE242.out GE243.out GE244.out)); (case side2 => exact HC0_3.out); rintro e w17 ⟨v249, rfl, ho0, hb⟩; refine ⟨_, rfl, ?_⟩; have n0_ := zA (Kd.R_elder' (zK HO247.out BK244.out) (Kd.R_base ho0) hb); have n1_ := zA (Kd.R_lower (Kd.R_new' ho0 (zl HO247.out)) (below_size (zs3 GE242.out GE243.out GE244.out))); have n2_ := zA (blk_below (g := gb242) (o := .cells #[.int .i64 a0_0, .int .i64 a0_1, .slice A0_2 l0_2.length c0_2, .slice A0_3 l0_3.length c0_3, .slice A0_4 l0_4.length c0_4] 25 (0, 0)) (zf BK242.out NB242_244.out) hb); have n3_ := zA (blk_below (g := gb243) (o := .cells #[.int .i64 0, .int .i64 0, .slice none 0 0, .slice none 0 0, .slice none 0 0] 33 (0, 0)) (zf BK243.out NB243_244.out) hb); have n4_ := zA (blk_below (g := gb244) (o := .cells #[.int .i64 a0_0, .int .i64 a0_1, .slice Ao14 t245.length co14, .slice none 0 0, .slice none 0 0] 33 (0, 0)) (zq BK244.out) hb); have n5_ := zA (below_step (zs3 GE242.out GE243.out GE244.out) hb); clear HO247 BK242 BK243 BK244 HB; have HO247 := n0_; have HO250 := n1_; have BK242 := n2_; have BK243 := n3_; have BK244 := n4_; have HB := n5_; clear n0_ n1_ n2_ n3_ n4_ n5_; (try clear hb); (try clear hb2); (try clear hk); (try clear hi); (try clear ho0); obtain ⟨Ao18, co18, eo18⟩ := Kd.R_slice HO250.out; subst eo18; obtain ⟨hcz19_0, hcz19_1, hcz19_2, hcz19_3, hcz19_4, hfz19_0, hfz19_1, hfz19_2, hfz19_3, hfz19_4⟩ := zh5 BK244.out; obtain ⟨hcz20_0, hcz20_1, hcz20_2, hcz20_3, hcz20_4, hfz20_0, hfz20_1, hfz20_2, hfz20_3, hfz20_4⟩ := zh5 BK242.out) | ((with_reducible refine gate_callee (f := 73) rfl ?_); refine goesL_ (some 20) rfl rfl Tryd.func73 (by kernel_rfl) rfl #[.slice A0_4 l0_4.length c0_4] rfl za ?_; (with_reducible refine (laws_toTargetS.calls k _ _ l0_4 t251 _ ?side1 ?side2 A4.out).mono ?_); (case side1 => exact Kd.C_below HR0_4.out (zs3 GE242.out GE243.out GE244.out)); (case side2 => exact HC0_4.out); rintro e w21 ⟨v252, rfl, ho0, hb⟩; refine ⟨_, rfl, ?_⟩; have n0_ := zA (Kd.R_below (zK HO247.out BK244.out) hb); have n1_ := zA (Kd.R_below (zK HO250.out BK244.out) hb); have n2_ := zA (Kd.S_lower ho0 (below_size (zs3 GE242.out GE243.out GE244.out))); have n3_ := zA (blk_below (g := gb242) (o := .cells #[.int .i64 a0_0, .int .i64 a0_1, .slice A0_2 l0_2.length c0_2, .slice A0_3 l0_3.length c0_3, .slice A0_4 l0_4.length c0_4] 25 (0, 0)) (zf BK242.out NB242_244.out) hb); have n4_ := zA (blk_below (g := gb243) (o := .cells #[.int .i64 0, .int .i64 0, .slice none 0 0, .slice none 0 0, .slice none 0 0] 33 (0, 0)) (zf BK243.out NB243_244.out) hb); have n5_ := zA (blk_below (g := gb244) (o := .cells #[.int .i64 a0_0, .int .i64 a0_1, .slice Ao14 t245.length co14, .slice Ao18 t248.length co18, .slice none 0 0] 33 (0, 0)) (zq BK244.out) hb); have n6_ := zA (below_step (zs3 GE242.out GE243.out GE244.out) hb); clear HO247 HO250 BK242 BK243 BK244 HB; have HO247 := n0_; have HO250 := n1_; have HO253 := n2_; have BK242 := n3_; have BK243 := n4_; have BK244 := n5_; have HB := n6_; clear n0_ n1_ n2_ n3_ n4_ n5_ n6_; (try clear hb); (try clear hb2); (try clear hk); (try clear hi); (try clear ho0); obtain ⟨Ao22, co22, eo22⟩ := Kd.S_slice HO253.out; subst eo22; obtain ⟨hcz23_0, hcz23_1, hcz23_2, hcz23_3, hcz23_4, hfz23_0, hfz23_1, hfz23_2, hfz23_3, hfz23_4⟩ := zh5 BK244.out; obtain ⟨hcz24_0, hcz24_1, hcz24_2, hcz24_3, hcz24_4, hfz24_0, hfz24_1, hfz24_2, hfz24_3, hfz24_4⟩ := zh5 BK243.out))
 refine bodyPost_ret (results_cell_row rfl _ _ gb243 33 #[.int .i64 a0_0, .int .i64 a0_1, .slice Ao14 t245.length co14, .slice Ao18 t248.length co18, .slice Ao22 t251.length co22] (0, 0) _ rfl (by (with_reducible repeat (first | refine blk_drewN ?_ _ | refine blk_drew ?_ | refine blk_alloc ?_ _)); refine blk_put (cs := #[.int .i64 a0_0, .int .i64 a0_1, .slice Ao14 t245.length co14, .slice Ao18 t248.length co18, .slice none 0 0]) ?_ 4 _ rfl; (with_reducible repeat (first | refine blk_drewN ?_ _ | refine blk_drew ?_ | refine blk_alloc ?_ _)); refine blk_put (cs := #[.int .i64 a0_0, .int .i64 a0_1, .slice Ao14 t245.length co14, .slice none 0 0, .slice none 0 0]) ?_ 3 _ rfl; (with_reducible repeat (first | refine blk_drewN ?_ _ | refine blk_drew ?_ | refine blk_alloc ?_ _)); refine blk_put (cs := #[.int .i64 a0_0, .int .i64 a0_1, .slice none 0 0, .slice none 0 0, .slice none 0 0]) ?_ 2 _ rfl; (with_reducible repeat (first | refine blk_drewN ?_ _ | refine blk_drew ?_ | refine blk_alloc ?_ _)); refine blk_put (cs := #[.int .i64 a0_0, .int .i64 0, .slice none 0 0, .slice none 0 0, .slice none 0 0]) ?_ 1 _ rfl; (with_reducible repeat (first | refine blk_drewN ?_ _ | refine blk_drew ?_ | refine blk_alloc ?_ _)); refine blk_put (cs := #[.int .i64 0, .int .i64 0, .slice none 0 0, .slice none 0 0, .slice none 0 0]) ?_ 0 _ rfl; (with_reducible repeat (first | refine blk_drewN ?_ _ | refine blk_drew ?_ | refine blk_alloc ?_ _)); refine blk_far ?_ NB243_244.out _; (with_reducible repeat (first | refine blk_drewN ?_ _ | refine blk_drew ?_ | refine blk_alloc ?_ _)); exact BK243.out) Tryd.underlying33 rfl (by kernel_rfl)) rfl ?_
 exact ⟨_, _, _, ze, by (with_reducible repeat (first | apply Kd.R_alloc | apply Kd.R_drewN | apply Kd.R_drew)); exact Kd.R_mono (Kd.R_far (p := ⟨gb243, 4, none⟩) (Kd.R_far (p := ⟨gb243, 3, none⟩) (Kd.R_far (p := ⟨gb243, 2, none⟩) (Kd.R_far (p := ⟨gb243, 1, none⟩) (Kd.R_far (p := ⟨gb243, 0, none⟩) (Kd.R_far (p := ⟨gb244, 4, none⟩) (Kd.R_types (Kd.R_types HO247.out BK244.out (by decide)) BK243.out (by decide)) (fun _ hk => hk.1.2) (.slice Ao22 t251.length co22)) (fun _ hk => hk.2) (.int .i64 a0_0)) (fun _ hk => hk.2) (.int .i64 a0_1)) (fun _ hk => hk.2) (.slice Ao14 t245.length co14)) (fun _ hk => hk.2) (.slice Ao18 t248.length co18)) (fun _ hk => hk.2) (.slice Ao22 t251.length co22)) (fun _ hk => hk.1.1.2), by (with_reducible repeat (first | apply Kd.R_alloc | apply Kd.R_drewN | apply Kd.R_drew)); exact Kd.R_mono (Kd.R_far (p := ⟨gb243, 4, none⟩) (Kd.R_far (p := ⟨gb243, 3, none⟩) (Kd.R_far (p := ⟨gb243, 2, none⟩) (Kd.R_far (p := ⟨gb243, 1, none⟩) (Kd.R_far (p := ⟨gb243, 0, none⟩) (Kd.R_far (p := ⟨gb244, 4, none⟩) (Kd.R_types (Kd.R_types HO250.out BK244.out (by decide)) BK243.out (by decide)) (fun _ hk => hk.1.2) (.slice Ao22 t251.length co22)) (fun _ hk => hk.2) (.int .i64 a0_0)) (fun _ hk => hk.2) (.int .i64 a0_1)) (fun _ hk => hk.2) (.slice Ao14 t245.length co14)) (fun _ hk => hk.2) (.slice Ao18 t248.length co18)) (fun _ hk => hk.2) (.slice Ao22 t251.length co22)) (fun _ hk => hk.1.1.2), by (with_reducible repeat (first | apply Kd.S_alloc | apply Kd.S_drewN | apply Kd.S_drew)); exact Kd.S_mono (Kd.S_far (p := ⟨gb243, 4, none⟩) (Kd.S_far (p := ⟨gb243, 3, none⟩) (Kd.S_far (p := ⟨gb243, 2, none⟩) (Kd.S_far (p := ⟨gb243, 1, none⟩) (Kd.S_far (p := ⟨gb243, 0, none⟩) (Kd.S_far (p := ⟨gb244, 4, none⟩) (Kd.S_types (Kd.S_types HO253.out BK244.out (by decide)) BK243.out (by decide)) (fun _ hk => hk.1.2) (.slice Ao22 t251.length co22)) (fun _ hk => hk.2) (.int .i64 a0_0)) (fun _ hk => hk.2) (.int .i64 a0_1)) (fun _ hk => hk.2) (.slice Ao14 t245.length co14)) (fun _ hk => hk.2) (.slice Ao18 t248.length co18)) (fun _ hk => hk.2) (.slice Ao22 t251.length co22)) (fun _ hk => trivial), (zs3 GE242.out GE243.out GE244.out)⟩

end Go.Proofs.YthbeplmihjhoeaaDoor.PFnExactBuildGraph
