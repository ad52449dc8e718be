-- made by wip/tools/myprint.py (this session's own program, over the kit's printer)
import Derived.Test.YtbeheecjemdcdaaPFnHopsx0
import Derived.Test.YtbeheecjemdcdaaPFnHopsx1
import Derived.Test.YtbeheecjemdcdaaPFnHopsx3
namespace Go.Proofs.Ytbeheecjemdcdaa.PFnHops
open Go.RowKit Go.Proofs.YtbeheecjemdcdaaW.PrintWords Go.Proofs.YtbeheecjemdcdaaW.PrintLast Go.Proofs.YtbeheecjemdcdaaW.PrintMore
attribute [local go_sem] max2_int min2_int max_two min_two max_three min_three max_four min_four   -- for this text's walks alone
set_option linter.unusedVariables false
set_option linter.unusedSimpArgs false

/-! ### spec_l9rd_next: function 36 -/
def spec_l9rd_next.f (s0_0 : List Int) (s0_1 : Int) : Option (Int × Int) := if s0_1 ≥ (s0_0.length : Int) then (some (0, s0_1)) else (if 0 ≤ s0_1 then (if s0_1 < (s0_0.length : Int) then (some (wrap64 (rd s0_0 s0_1), wrap64 (s0_1 + 1))) else (none)) else (none))
set_option maxHeartbeats 8000000 in
set_option maxRecDepth 100000 in
theorem spec_l9rd_next.calls (g : Nat) (s0_0 : List Int) (s0_1 : Int) (r1 : Int) (r2 : Int) (w0 w : World) (hI : IsS55 w0 w g s0_0 s0_1) (hB : Below w0.heap.size w0 w) (h : spec_l9rd_next.f s0_0 s0_1 = some (r1, r2)) :
  Calls Try.prog 36 #[.pointer (some ⟨g, 0, none⟩)] w fun e w' => e = .returned (.int .i64 r1) ∧ IsS55 w0 w' g s0_0 r2 ∧ Below w0.heap.size w0 w' ∧ KeepBut w w' g none := by
 have HI0 := zA hI
 have HK := zA (KeepBut.refl w g none)
 have HL := zA hB.size
 clear hI
 have HW0 := zA hB.size
 have HB := zA hB
 clear hB
 have H : (if s0_1 ≥ (s0_0.length : Int) then (some (0, s0_1)) else (if 0 ≤ s0_1 then (if s0_1 < (s0_0.length : Int) then (some (wrap64 (rd s0_0 s0_1), wrap64 (s0_1 + 1))) else (none)) else (none))) = some (r1, r2) := h
 clear h
 by_cases c2 : s0_1 ≥ (s0_0.length : Int)
 ·rw [if_pos c2] at H
  have c2b0 : decide ((s0_0.length : Int) ≤ s0_1) = true := decide_eq_true c2
  clear c2
  simp only [Option.some.injEq, Prod.mk.injEq] at H
  obtain ⟨rfl, rfl⟩ := H
  obtain ⟨ASz3_0, cSz3_0, HGz3, hgz3, HSz3_0⟩ := HI0.out
  have hcz3_0 := cellS55_0 HGz3
  have hcz3_1 := cellS55_1 HGz3
  have hfz3_1 := blk_frozen HGz3 1
  clear HGz3 hgz3
  go_enter Try.func36, Try.ntmps36
  go_wp2
  repeat (go_quiet (fail); try go_wp2)
  go_ret
  exact ⟨ze, by repeat (first | (with_reducible first | exact HI0.out | apply IsS55.alloc | apply IsS55.drewN | apply IsS55.drew | apply IsS55.set_1) | exact HI0.out), by repeat (first | (with_reducible first | exact HB.out | apply below_alloc | apply pw_below_drewN | apply below_drew1 | refine below_set ?_ (IsS55.ge HI0.out)) | exact HB.out), by repeat (first | (with_reducible first | exact HK.out | apply KeepBut.set_ | apply keep_drewN | apply keep_drew | apply keep_alloc) | exact HK.out)⟩
 ·rw [if_neg c2] at H
  have c2b0 : decide ((s0_0.length : Int) ≤ s0_1) = false := decide_eq_false c2
  clear c2
  by_cases c4 : 0 ≤ s0_1
  ·rw [if_pos c4] at H
   have c4b0 : decide (0 ≤ s0_1) = true := decide_eq_true c4
   clear c4
   by_cases c5 : s0_1 < (s0_0.length : Int)
   ·rw [if_pos c5] at H
    have c5b0 : decide (s0_1 < (s0_0.length : Int)) = true := decide_eq_true c5
    clear c5
    simp only [Option.some.injEq, Prod.mk.injEq] at H
    obtain ⟨rfl, rfl⟩ := H
    obtain ⟨ASz6_0, cSz6_0, HGz6, hgz6, HSz6_0⟩ := HI0.out
    have hcz6_0 := cellS55_0 HGz6
    have hcz6_1 := cellS55_1 HGz6
    have hfz6_1 := blk_frozen HGz6 1
    clear HGz6 hgz6
    have p143 : 0 ≤ (s0_1 : Int) := zd
    have q143 : s0_1 < (s0_0.length : Int) := zd
    obtain ⟨ad143, e143, hx143_0⟩ := Kd.at_int HSz6_0.1 s0_1 p143 q143
    cases e143
    replace hx143_0 := pw_cell_below HB.out hx143_0
    replace p143 := eq_true p143
    replace q143 := eq_true q143
    go_enter Try.func36, Try.ntmps36
    go_wp2
    repeat (go_quiet (fail); try go_wp2)
    go_ret
    exact ⟨ze, by repeat (first | (with_reducible first | exact HI0.out | apply IsS55.alloc | apply IsS55.drewN | apply IsS55.drew | apply IsS55.set_1) | exact HI0.out), by repeat (first | (with_reducible first | exact HB.out | apply below_alloc | apply pw_below_drewN | apply below_drew1 | refine below_set ?_ (IsS55.ge HI0.out)) | exact HB.out), by repeat (first | (with_reducible first | exact HK.out | apply KeepBut.set_ | apply keep_drewN | apply keep_drew | apply keep_alloc) | exact HK.out)⟩
   ·rw [if_neg c5] at H
    exact absurd H (by simp)
  ·rw [if_neg c4] at H
   exact absurd H (by simp)

/-! ### spec_DrawPackHops: function 28 -/
def spec_DrawPackHops.l0 : Nat → Int → Int → List Int → Int → List Int → Int → Option (List Int)
 | 0, _, _, _, _, _, _ => none
 | k + 1, x4, x5, x6, x7, x147000, x147001 => if x7 < x5 then ((spec_l9rd_next.f x147000 x147001).bind fun bt151 => (if x6.length < 17592186044416 then (spec_DrawPackHops.l0 k x4 x5 (x6 ++ [wrap64 ((Int.tmod bt151.1 5) - 1)]) (wrap64 (x7 + 1)) x147000 bt151.2) else (none))) else (if (Int.tmod x4 16) = 0 then (if x6.length < 17592186044416 then ((some (x6 ++ [4] : List Int)).bind fun y156 => (if (Int.tmod x4 16) = 1 then (if y156.length < 17592186044416 then (some (y156 ++ [(-2)])) else (none)) else (some y156))) else (none)) else (if (Int.tmod x4 16) = 1 then (if x6.length < 17592186044416 then (some (x6 ++ [(-2)])) else (none)) else (some x6)))
def spec_DrawPackHops.f (k : Nat) (l0 : List Int) : Option (List Int) := (spec_l9open.f l0).bind fun bt144 => ((spec_l9rd_next.f bt144.1 bt144.2).bind fun bt147 => ((spec_l9rd_next.f bt144.1 bt147.2).bind fun bt149 => (spec_DrawPackHops.l0 k bt147.1 (Int.tmod bt149.1 40) ([] : List Int) 0 bt144.1 bt149.2)))
theorem spec_DrawPackHops.mono_l : ∀ k, (∀ y0 y1 y2 y3 y4 y5, LeO (spec_DrawPackHops.l0 k y0 y1 y2 y3 y4 y5) (spec_DrawPackHops.l0 (k + 1) y0 y1 y2 y3 y4 y5))
 | 0 => fun _ _ _ _ _ _ r h => by simp [spec_DrawPackHops.l0] at h
 | k + 1 => by
  have ih0 := spec_DrawPackHops.mono_l k
  ·intro y0 y1 y2 y3 y4 y5
   unfold spec_DrawPackHops.l0
   exact zm
theorem spec_DrawPackHops.mono : ∀ a0 k, LeO (spec_DrawPackHops.f k a0) (spec_DrawPackHops.f (k + 1) a0) := by
 intro a0 k
 have ih0 := spec_DrawPackHops.mono_l k
 unfold spec_DrawPackHops.f
 exact zm
set_option maxHeartbeats 8000000 in
set_option maxRecDepth 100000 in
theorem spec_DrawPackHops.calls (k : Nat) (A0 : Option Addr) (c0 : Nat) (l0 : List Int) (r : List Int) (w : World) (hr0 : Kd.C (Kd.int .u8) w A0 l0.length l0) (hc0 : l0.length ≤ c0) (h : spec_DrawPackHops.f k l0 = some r) :
  Calls Try.prog 28 #[.slice A0 l0.length c0] w fun e w' => ∃ v0_ : Value, e = .returned (v0_) ∧ Kd.R (Kd.int .i64) 3 w' w.heap.size (fun _ => True) v0_ r ∧ Below w.heap.size w w' := by
 have HR0 := zA hr0
 have HC0 := zA hc0
 clear hr0 hc0
 have HB := zA (Below.refl w.heap.size w)
 have H : ((spec_l9open.f l0).bind fun bt144 => ((spec_l9rd_next.f bt144.1 bt144.2).bind fun bt147 => ((spec_l9rd_next.f bt144.1 bt147.2).bind fun bt149 => (spec_DrawPackHops.l0 k bt147.1 (Int.tmod bt149.1 40) ([] : List Int) 0 bt144.1 bt149.2)))) = some r := h
 clear h
 replace H := Option.bind_eq_some_iff.mp H
 obtain ⟨⟨t144, t145⟩, A20, H⟩ := H
 replace H : ((spec_l9rd_next.f t144 t145).bind fun bt147 => ((spec_l9rd_next.f t144 bt147.2).bind fun bt149 => (spec_DrawPackHops.l0 k bt147.1 (Int.tmod bt149.1 40) ([] : List Int) 0 t144 bt149.2))) = some r := H
 have A2 := zA A20
 clear A20
 replace H := Option.bind_eq_some_iff.mp H
 obtain ⟨⟨t147, t148⟩, A30, H⟩ := H
 replace H : ((spec_l9rd_next.f t144 t148).bind fun bt149 => (spec_DrawPackHops.l0 k t147 (Int.tmod bt149.1 40) ([] : List Int) 0 t144 bt149.2)) = some r := H
 have A3 := zA A30
 clear A30
 replace H := Option.bind_eq_some_iff.mp H
 obtain ⟨⟨t149, t150⟩, A40, H⟩ := H
 replace H : (spec_DrawPackHops.l0 k t147 (Int.tmod t149 40) ([] : List Int) 0 t144 t150) = some r := H
 have A4 := zA A40
 clear A40
 have H' := zA H
 clear H
 go_enter Try.func28, Try.ntmps28
 go_wp2_with (first | ((with_reducible refine gate_callee (f := 35) rfl ?_); refine goesL_ (some 9) rfl rfl Try.func35 (by kernel_rfl) rfl #[.slice A0 l0.length c0] rfl za ?_; (with_reducible refine (spec_l9open.calls _ _ l0 t144 t145 w _ ?side1 ?side2 ?side3 A2.out).mono ?_); (case side1 => repeat (first | (with_reducible first | exact HB.out | apply below_alloc | apply pw_below_drewN | apply below_drew1) | exact HB.out)); (case side2 => exact HR0.out); (case side3 => exact HC0.out); rintro e w5 ⟨g146, rfl, hi, hb, hb2⟩; refine ⟨_, rfl, ?_⟩; have n0_ := zA (hb); have n1_ := zA (hi); clear HB; have HB := n0_; have HI146 := n1_; clear n0_ n1_; (try clear hb); (try clear hb2); (try clear hk); (try clear hi)) | ((with_reducible refine gate_callee (f := 36) rfl ?_); refine goesL_ (some 11) rfl rfl Try.func36 (by kernel_rfl) rfl #[.pointer (some ⟨g146, 0, none⟩)] rfl za ?_; (with_reducible refine (spec_l9rd_next.calls g146 t144 t145 t147 t148 w _ ?side1 ?side2 A3.out).mono ?_); (case side1 => repeat (first | (with_reducible first | exact HI146.out | apply IsS55.alloc | apply IsS55.drewN | apply IsS55.drew | apply IsS55.set_1) | exact HI146.out)); (case side2 => repeat (first | (with_reducible first | exact HB.out | apply below_alloc | apply pw_below_drewN | apply below_drew1 | refine below_set ?_ (IsS55.ge HI146.out)) | exact HB.out)); rintro e w6 ⟨rfl, hi, hb, hk⟩; refine ⟨_, rfl, ?_⟩; have n0_ := zA (hb); have n1_ := zA (hi); clear HB HI146; have HB := n0_; have HI146 := n1_; clear n0_ n1_; (try clear hb); (try clear hb2); (try clear hk); (try clear hi)) | ((with_reducible refine gate_callee (f := 36) rfl ?_); refine goesL_ (some 13) rfl rfl Try.func36 (by kernel_rfl) rfl #[.pointer (some ⟨g146, 0, none⟩)] rfl za ?_; (with_reducible refine (spec_l9rd_next.calls g146 t144 t148 t149 t150 w _ ?side1 ?side2 A4.out).mono ?_); (case side1 => repeat (first | (with_reducible first | exact HI146.out | apply IsS55.alloc | apply IsS55.drewN | apply IsS55.drew | apply IsS55.set_1) | exact HI146.out)); (case side2 => repeat (first | (with_reducible first | exact HB.out | apply below_alloc | apply pw_below_drewN | apply below_drew1 | refine below_set ?_ (IsS55.ge HI146.out)) | exact HB.out)); rintro e w7 ⟨rfl, hi, hb, hk⟩; refine ⟨_, rfl, ?_⟩; have n0_ := zA (hb); have n1_ := zA (hi); clear HB HI146; have HB := n0_; have HI146 := n1_; clear n0_ n1_; (try clear hb); (try clear hb2); (try clear hk); (try clear hi)))
 go_loopg [6, 7] k (fun kq v6 v7 w' => ∃ (x6_1 : List Int) (x7_1 : Int) (x147001_1 : Int), v7 = .int .i64 x7_1 ∧ Aside0 (spec_DrawPackHops.l0 kq t147 (Int.tmod t149 40) x6_1 x7_1 t144 x147001_1 = some r) ∧ Aside0 (kq ≤ k) ∧ Aside0 (Kd.R (Kd.int .i64) 3 w' w.heap.size (fun _ => True) v6 x6_1) ∧ Aside0 (IsS55 w w' g146 t144 x147001_1) ∧ Aside0 (Below w.heap.size w w'))
 case atStart => exact ⟨(([] : List Int)), (0), (t150), zr, H', ⟨Nat.le_refl _⟩, ⟨by first | exact Kd.R_nil _ _ _ _ _ | exact Kd.N_nil _ _ _ _ _ | exact Kd.V_nil _ _ _ _ _ | exact Kd.Q_nil _ _ _ _ _ | exact Kd.S_nil _ _ _ _ _⟩, ⟨by repeat (first | (with_reducible first | exact HI146.out | apply IsS55.alloc | apply IsS55.drewN | apply IsS55.drew | apply IsS55.set_1) | exact HI146.out)⟩, ⟨by repeat (first | (with_reducible first | exact HB.out | apply below_alloc | apply pw_below_drewN | apply below_drew1 | refine below_set ?_ (IsS55.ge HI146.out)) | exact HB.out)⟩⟩
 case round =>
  clear H'
  (try clear c2); (try clear p2); (try clear c3)
  obtain ⟨x6_1, x7_1, x147001_1, rfl, HA, HK1, HO_6, HI146, HB⟩ := hrel
  cases gk with
  | zero => exact absurd HA.out (by simp [spec_DrawPackHops.l0])
  | succ k1 =>
   have H := HA.out
   clear HA
   simp only [spec_DrawPackHops.l0] at H
   by_cases c8 : x7_1 < (Int.tmod t149 40)
   ·rw [if_pos c8] at H
    have c8b0 : decide (x7_1 < (Int.tmod t149 40)) = true := decide_eq_true c8
    clear c8
    replace H := Option.bind_eq_some_iff.mp H
    obtain ⟨⟨t151, t152⟩, A90, H⟩ := H
    replace H : (if x6_1.length < 17592186044416 then (spec_DrawPackHops.l0 k1 t147 (Int.tmod t149 40) (x6_1 ++ [wrap64 ((Int.tmod t151 5) - 1)]) (wrap64 (x7_1 + 1)) t144 t152) else (none)) = some r := H
    have A9 := zA A90
    clear A90
    by_cases c10 : x6_1.length < 17592186044416
    ·rw [if_pos c10] at H
     have LMc10 := zA c10
     clear c10
     obtain ⟨y153, hy153⟩ : ∃ y_ : List Int, y_ = (x6_1 ++ [wrap64 ((Int.tmod t151 5) - 1)]) := ⟨_, rfl⟩
     replace H : (spec_DrawPackHops.l0 k1 t147 (Int.tmod t149 40) y153 (wrap64 (x7_1 + 1)) t144 t152) = some r := zh hy153
     have Ny153 := zA hy153
     clear hy153
     have H' := zA H
     clear H
     go_wp2_with (first | ((with_reducible refine gate_callee (f := 36) rfl ?_); refine goesL_ (some 22) rfl rfl Try.func36 (by kernel_rfl) rfl #[.pointer (some ⟨g146, 0, none⟩)] rfl za ?_; (with_reducible refine (spec_l9rd_next.calls g146 t144 x147001_1 t151 t152 w _ ?side1 ?side2 A9.out).mono ?_); (case side1 => repeat (first | (with_reducible first | exact HI146.out | apply IsS55.alloc | apply IsS55.drewN | apply IsS55.drew | apply IsS55.set_1) | exact HI146.out)); (case side2 => repeat (first | (with_reducible first | exact HB.out | apply below_alloc | apply pw_below_drewN | apply below_drew1 | refine below_set ?_ (IsS55.ge HI146.out)) | exact HB.out)); rintro e w11 ⟨rfl, hi, hb, hk⟩; refine ⟨_, rfl, ?_⟩; have n0_ := zA (Kd.R_mono (Kd.R_keep (IsS55.apart (show IsS55 w _ g146 t144 x147001_1 from by repeat (first | (with_reducible first | exact HI146.out | apply IsS55.alloc | apply IsS55.drewN | apply IsS55.drew | apply IsS55.set_1) | exact HI146.out)) (zR HO_6.out) (by decide)) hk (fun _ h => h.2)) (fun _ h => h.1)); have n1_ := zA (hb); have n2_ := zA (hi); clear HO_6 HB HI146; have HO_6 := n0_; have HB := n1_; have HI146 := n2_; clear n0_ n1_ n2_; (try clear hb); (try clear hb2); (try clear hk); (try clear hi)) | ((with_reducible refine gate_builtin (b := .append) (xs := #[.tmp 20, .tmp 25]) rfl ?_); at_builtin; refine Kd.R_append (Kd.int .i64) (w0 := w) w.heap.size rfl (.tmp 20) (.tmp 25) 29 3 (.int .i64 0) 8 rfl Try.underlying29 info3 rfl (by decide) (by omega) u6 x6_1 (wrap64 ((Int.tmod t151 5) - 1)) [.int .i64 (wrap64 ((Int.tmod t151 5) - 1))] (fun _ => True) (fun _ => False) rfl rfl ?aP (fun _ hk => hk.elim) ?aF ?aO ?aB ?aS ?aL ?_; (case aP => exact rfl); (case aB => exact (by repeat (first | (with_reducible first | exact HB.out | apply below_alloc | apply pw_below_drewN | apply below_drew1 | refine below_set ?_ (IsS55.ge HI146.out)) | exact HB.out))); (case aF => exact (fun _ _ => trivial)); (case aO => exact (zR HO_6.out)); (case aS => exact (below_size (by repeat (first | (with_reducible first | exact HB.out | apply below_alloc | apply pw_below_drewN | apply below_drew1 | refine below_set ?_ (IsS55.ge HI146.out)) | exact HB.out)))); (case aL => have := LMc10.out; omega); intro v154 w12 ho hb hg hat; rw [← Ny153.out] at ho; have n0_ := zA (IsS55.grown (by repeat (first | (with_reducible first | exact HI146.out | apply IsS55.alloc | apply IsS55.drewN | apply IsS55.drew | apply IsS55.set_1) | exact HI146.out)) hg (IsS55.own_ne HI146.out HO_6.out (by decide))); have n1_ := zA (hb); have n2_ := zA (ho); clear HI146 HB HO_6; have HI146 := n0_; have HB := n1_; have HO155 := n2_; clear n0_ n1_ n2_; clear ho hb hg hat))
     go_roundg k1
     case measure => have := HK1.out; omega
     case rel => exact ⟨(y153), (wrap64 (x7_1 + 1)), (t152), zr, H', ⟨by have := HK1.out; omega⟩, ⟨zR HO155.out⟩, ⟨by repeat (first | (with_reducible first | exact HI146.out | apply IsS55.alloc | apply IsS55.drewN | apply IsS55.drew | apply IsS55.set_1) | exact HI146.out)⟩, ⟨by repeat (first | (with_reducible first | exact HB.out | apply below_alloc | apply pw_below_drewN | apply below_drew1 | refine below_set ?_ (IsS55.ge HI146.out)) | exact HB.out)⟩⟩
    ·rw [if_neg c10] at H
     exact absurd H (by simp)
   ·rw [if_neg c8] at H
    have c8b0 : decide (x7_1 < (Int.tmod t149 40)) = false := decide_eq_false c8
    clear c8
    by_cases c13 : (Int.tmod t147 16) = 0
    ·rw [if_pos c13] at H
     have c13b0 : ((Int.tmod t147 16) == 0) = true := beq_iff_eq.mpr c13
     have c13b1 : ((Int.tmod t147 16) != 0) = false := bne_eq_false_iff_eq.mpr c13
     clear c13
     by_cases c14 : x6_1.length < 17592186044416
     ·rw [if_pos c14] at H
      have LMc14 := zA c14
      clear c14
      obtain ⟨y156, hy156⟩ : ∃ y_ : List Int, y_ = (x6_1 ++ [4]) := ⟨_, rfl⟩
      replace H : (if (Int.tmod t147 16) = 1 then (if y156.length < 17592186044416 then (some (y156 ++ [(-2)])) else (none)) else (some y156)) = some r := zh hy156
      have Ny156 := zA hy156
      clear hy156
      by_cases c15 : (Int.tmod t147 16) = 1
      ·rw [if_pos c15] at H
       have c15b0 : ((Int.tmod t147 16) == 1) = true := beq_iff_eq.mpr c15
       have c15b1 : ((Int.tmod t147 16) != 1) = false := bne_eq_false_iff_eq.mpr c15
       clear c15
       by_cases c16 : y156.length < 17592186044416
       ·rw [if_pos c16] at H
        have LMc16 := zA c16
        clear c16
        obtain ⟨y159, hy159⟩ : ∃ y_ : List Int, y_ = (y156 ++ [(-2)]) := ⟨_, rfl⟩
        replace H : (some y159) = some r := zh hy159
        have Ny159 := zA hy159
        clear hy159
        obtain rfl := Option.some.inj H
        go_wp2_with (first | ((with_reducible refine gate_builtin (b := .append) (xs := #[.tmp 30, .tmp 31]) rfl ?_); at_builtin; refine Kd.R_append (Kd.int .i64) (w0 := w) w.heap.size rfl (.tmp 30) (.tmp 31) 29 3 (.int .i64 0) 8 rfl Try.underlying29 info3 rfl (by decide) (by omega) u6 x6_1 4 [.int .i64 4] (fun _ => True) (fun _ => False) rfl rfl ?aP (fun _ hk => hk.elim) ?aF ?aO ?aB ?aS ?aL ?_; (case aP => exact rfl); (case aB => exact (by repeat (first | (with_reducible first | exact HB.out | apply below_alloc | apply pw_below_drewN | apply below_drew1 | refine below_set ?_ (IsS55.ge HI146.out)) | exact HB.out))); (case aF => exact (fun _ _ => trivial)); (case aO => exact (zR HO_6.out)); (case aS => exact (below_size (by repeat (first | (with_reducible first | exact HB.out | apply below_alloc | apply pw_below_drewN | apply below_drew1 | refine below_set ?_ (IsS55.ge HI146.out)) | exact HB.out)))); (case aL => have := LMc14.out; omega); intro v157 w17 ho hb hg hat; rw [← Ny156.out] at ho; have n0_ := zA (IsS55.grown (by repeat (first | (with_reducible first | exact HI146.out | apply IsS55.alloc | apply IsS55.drewN | apply IsS55.drew | apply IsS55.set_1) | exact HI146.out)) hg (IsS55.own_ne HI146.out HO_6.out (by decide))); have n1_ := zA (hb); have n2_ := zA (ho); clear HI146 HB HO_6; have HI146 := n0_; have HB := n1_; have HO158 := n2_; clear n0_ n1_ n2_; clear ho hb hg hat) | ((with_reducible refine gate_builtin (b := .append) (xs := #[.tmp 36, .tmp 37]) rfl ?_); at_builtin; refine Kd.R_append (Kd.int .i64) (w0 := w) w.heap.size rfl (.tmp 36) (.tmp 37) 29 3 (.int .i64 0) 8 rfl Try.underlying29 info3 rfl (by decide) (by omega) v157 y156 (-2) [.int .i64 (-2)] (fun _ => True) (fun _ => False) rfl rfl ?aP (fun _ hk => hk.elim) ?aF ?aO ?aB ?aS ?aL ?_; (case aP => exact rfl); (case aB => exact (by repeat (first | (with_reducible first | exact HB.out | apply below_alloc | apply pw_below_drewN | apply below_drew1 | refine below_set ?_ (IsS55.ge HI146.out)) | exact HB.out))); (case aF => exact (fun _ _ => trivial)); (case aO => exact (zR HO158.out)); (case aS => exact (below_size (by repeat (first | (with_reducible first | exact HB.out | apply below_alloc | apply pw_below_drewN | apply below_drew1 | refine below_set ?_ (IsS55.ge HI146.out)) | exact HB.out)))); (case aL => have := LMc16.out; omega); intro v160 w18 ho hb hg hat; rw [← Ny159.out] at ho; have n0_ := zA (IsS55.grown (by repeat (first | (with_reducible first | exact HI146.out | apply IsS55.alloc | apply IsS55.drewN | apply IsS55.drew | apply IsS55.set_1) | exact HI146.out)) hg (IsS55.own_ne HI146.out HO158.out (by decide))); have n1_ := zA (hb); have n2_ := zA (ho); clear HI146 HB HO158; have HI146 := n0_; have HB := n1_; have HO161 := n2_; clear n0_ n1_ n2_; clear ho hb hg hat))
        go_ret
        exact ⟨_, ze, by (with_reducible repeat (first | apply Kd.R_alloc | apply Kd.R_drewN | apply Kd.R_drew)); exact HO161.out, by repeat (first | (with_reducible first | exact HB.out | apply below_alloc | apply pw_below_drewN | apply below_drew1 | refine below_set ?_ (IsS55.ge HI146.out)) | exact HB.out)⟩
       ·rw [if_neg c16] at H
        exact absurd H (by simp)
      ·rw [if_neg c15] at H
       have c15b0 : ((Int.tmod t147 16) == 1) = false := beq_eq_false_iff_ne.mpr c15
       have c15b1 : ((Int.tmod t147 16) != 1) = true := bne_iff_ne.mpr c15
       obtain rfl := Option.some.inj H
       go_wp2_with (first | ((with_reducible refine gate_builtin (b := .append) (xs := #[.tmp 30, .tmp 31]) rfl ?_); at_builtin; refine Kd.R_append (Kd.int .i64) (w0 := w) w.heap.size rfl (.tmp 30) (.tmp 31) 29 3 (.int .i64 0) 8 rfl Try.underlying29 info3 rfl (by decide) (by omega) u6 x6_1 4 [.int .i64 4] (fun _ => True) (fun _ => False) rfl rfl ?aP (fun _ hk => hk.elim) ?aF ?aO ?aB ?aS ?aL ?_; (case aP => exact rfl); (case aB => exact (by repeat (first | (with_reducible first | exact HB.out | apply below_alloc | apply pw_below_drewN | apply below_drew1 | refine below_set ?_ (IsS55.ge HI146.out)) | exact HB.out))); (case aF => exact (fun _ _ => trivial)); (case aO => exact (zR HO_6.out)); (case aS => exact (below_size (by repeat (first | (with_reducible first | exact HB.out | apply below_alloc | apply pw_below_drewN | apply below_drew1 | refine below_set ?_ (IsS55.ge HI146.out)) | exact HB.out)))); (case aL => have := LMc14.out; omega); intro v157 w19 ho hb hg hat; rw [← Ny156.out] at ho; have n0_ := zA (IsS55.grown (by repeat (first | (with_reducible first | exact HI146.out | apply IsS55.alloc | apply IsS55.drewN | apply IsS55.drew | apply IsS55.set_1) | exact HI146.out)) hg (IsS55.own_ne HI146.out HO_6.out (by decide))); have n1_ := zA (hb); have n2_ := zA (ho); clear HI146 HB HO_6; have HI146 := n0_; have HB := n1_; have HO158 := n2_; clear n0_ n1_ n2_; clear ho hb hg hat))
       go_ret
       exact ⟨_, ze, by (with_reducible repeat (first | apply Kd.R_alloc | apply Kd.R_drewN | apply Kd.R_drew)); exact HO158.out, by repeat (first | (with_reducible first | exact HB.out | apply below_alloc | apply pw_below_drewN | apply below_drew1 | refine below_set ?_ (IsS55.ge HI146.out)) | exact HB.out)⟩
     ·rw [if_neg c14] at H
      exact absurd H (by simp)
    ·rw [if_neg c13] at H
     have c13b0 : ((Int.tmod t147 16) == 0) = false := beq_eq_false_iff_ne.mpr c13
     have c13b1 : ((Int.tmod t147 16) != 0) = true := bne_iff_ne.mpr c13
     by_cases c20 : (Int.tmod t147 16) = 1
     ·rw [if_pos c20] at H
      have c20b0 : ((Int.tmod t147 16) == 1) = true := beq_iff_eq.mpr c20
      have c20b1 : ((Int.tmod t147 16) != 1) = false := bne_eq_false_iff_eq.mpr c20
      clear c20
      by_cases c21 : x6_1.length < 17592186044416
      ·rw [if_pos c21] at H
       have LMc21 := zA c21
       clear c21
       obtain ⟨y162, hy162⟩ : ∃ y_ : List Int, y_ = (x6_1 ++ [(-2)]) := ⟨_, rfl⟩
       replace H : (some y162) = some r := zh hy162
       have Ny162 := zA hy162
       clear hy162
       obtain rfl := Option.some.inj H
       go_wp2_with (first | ((with_reducible refine gate_builtin (b := .append) (xs := #[.tmp 36, .tmp 37]) rfl ?_); at_builtin; refine Kd.R_append (Kd.int .i64) (w0 := w) w.heap.size rfl (.tmp 36) (.tmp 37) 29 3 (.int .i64 0) 8 rfl Try.underlying29 info3 rfl (by decide) (by omega) u6 x6_1 (-2) [.int .i64 (-2)] (fun _ => True) (fun _ => False) rfl rfl ?aP (fun _ hk => hk.elim) ?aF ?aO ?aB ?aS ?aL ?_; (case aP => exact rfl); (case aB => exact (by repeat (first | (with_reducible first | exact HB.out | apply below_alloc | apply pw_below_drewN | apply below_drew1 | refine below_set ?_ (IsS55.ge HI146.out)) | exact HB.out))); (case aF => exact (fun _ _ => trivial)); (case aO => exact (zR HO_6.out)); (case aS => exact (below_size (by repeat (first | (with_reducible first | exact HB.out | apply below_alloc | apply pw_below_drewN | apply below_drew1 | refine below_set ?_ (IsS55.ge HI146.out)) | exact HB.out)))); (case aL => have := LMc21.out; omega); intro v163 w22 ho hb hg hat; rw [← Ny162.out] at ho; have n0_ := zA (IsS55.grown (by repeat (first | (with_reducible first | exact HI146.out | apply IsS55.alloc | apply IsS55.drewN | apply IsS55.drew | apply IsS55.set_1) | exact HI146.out)) hg (IsS55.own_ne HI146.out HO_6.out (by decide))); have n1_ := zA (hb); have n2_ := zA (ho); clear HI146 HB HO_6; have HI146 := n0_; have HB := n1_; have HO164 := n2_; clear n0_ n1_ n2_; clear ho hb hg hat))
       go_ret
       exact ⟨_, ze, by (with_reducible repeat (first | apply Kd.R_alloc | apply Kd.R_drewN | apply Kd.R_drew)); exact HO164.out, by repeat (first | (with_reducible first | exact HB.out | apply below_alloc | apply pw_below_drewN | apply below_drew1 | refine below_set ?_ (IsS55.ge HI146.out)) | exact HB.out)⟩
      ·rw [if_neg c21] at H
       exact absurd H (by simp)
     ·rw [if_neg c20] at H
      have c20b0 : ((Int.tmod t147 16) == 1) = false := beq_eq_false_iff_ne.mpr c20
      have c20b1 : ((Int.tmod t147 16) != 1) = true := bne_iff_ne.mpr c20
      obtain rfl := Option.some.inj H
      go_wp2
      go_ret
      exact ⟨_, ze, by (with_reducible repeat (first | apply Kd.R_alloc | apply Kd.R_drewN | apply Kd.R_drew)); exact HO_6.out, by repeat (first | (with_reducible first | exact HB.out | apply below_alloc | apply pw_below_drewN | apply below_drew1 | refine below_set ?_ (IsS55.ge HI146.out)) | exact HB.out)⟩

/-! ### laws_sameN: function 29 -/
def laws_sameN.l0 : Nat → List Int → List Int → Int → Option (Bool)
 | 0, _, _, _ => none
 | k + 1, x0, x1, x5 => if x5 < (x0.length : Int) then (if 0 ≤ x5 then (if x5 < (x1.length : Int) then (if (rd x0 x5) = (rd x1 x5) then (laws_sameN.l0 k x0 x1 (wrap64 (x5 + 1))) else (some false)) else (none)) else (none)) else (some true)
def laws_sameN.f (k : Nat) (l0 : List Int) (l1 : List Int) : Option (Bool) := if (l0.length : Int) = (l1.length : Int) then (laws_sameN.l0 k l0 l1 0) else (some false)
theorem laws_sameN.mono_l : ∀ k, (∀ y0 y1 y2, LeO (laws_sameN.l0 k y0 y1 y2) (laws_sameN.l0 (k + 1) y0 y1 y2))
 | 0 => fun _ _ _ r h => by simp [laws_sameN.l0] at h
 | k + 1 => by
  have ih0 := laws_sameN.mono_l k
  ·intro y0 y1 y2
   unfold laws_sameN.l0
   exact zm
theorem laws_sameN.mono : ∀ a0 a1 k, LeO (laws_sameN.f k a0 a1) (laws_sameN.f (k + 1) a0 a1) := by
 intro a0 a1 k
 have ih0 := laws_sameN.mono_l k
 unfold laws_sameN.f
 exact zm
set_option maxHeartbeats 8000000 in
set_option maxRecDepth 100000 in
theorem laws_sameN.calls (k : Nat) (A0 : Option Addr) (c0 : Nat) (l0 : List Int) (A1 : Option Addr) (c1 : Nat) (l1 : List Int) (r : Bool) (w : World) (hr0 : Kd.C (Kd.int .i64) w A0 l0.length l0) (hc0 : l0.length ≤ c0) (hr1 : Kd.C (Kd.int .i64) w A1 l1.length l1) (hc1 : l1.length ≤ c1) (h : laws_sameN.f k l0 l1 = some r) :
  Calls Try.prog 29 #[.slice A0 l0.length c0, .slice A1 l1.length c1] w fun e w' => e = .returned (.bool r) ∧ Drawn0 w w' := by
 have HR0 := zA hr0
 have HC0 := zA hc0
 clear hr0 hc0
 have HR1 := zA hr1
 have HC1 := zA hc1
 clear hr1 hc1
 have H : (if (l0.length : Int) = (l1.length : Int) then (laws_sameN.l0 k l0 l1 0) else (some false)) = some r := h
 clear h
 by_cases c3 : (l0.length : Int) = (l1.length : Int)
 ·rw [if_pos c3] at H
  have c3b0 : ((l0.length : Int) == (l1.length : Int)) = true := beq_iff_eq.mpr c3
  have c3b1 : ((l0.length : Int) != (l1.length : Int)) = false := bne_eq_false_iff_eq.mpr c3
  have c3b2 : (l0.length == l1.length) = true := by first | simpa using c3 | (simp at c3 ⊢; omega)
  clear c3
  have H' := zA H
  clear H
  go_enter Try.func29, Try.ntmps29
  go_wp2
  repeat (go_quiet (fail); try go_wp2)
  go_loopg [5] k (fun kq v5 w' => ∃ (x5_1 : Int), v5 = .int .i64 x5_1 ∧ Aside0 (laws_sameN.l0 kq l0 l1 x5_1 = some r) ∧ Aside0 (kq ≤ k) ∧ Drawn0 w w')
  case atStart => exact ⟨(0), zr, H', ⟨Nat.le_refl _⟩, by repeat (first | exact Drawn0.refl _ | apply Drawn0.step)⟩
  case round =>
   clear H'
   (try clear c1); (try clear c2); (try clear p2); (try clear c3); (try clear c3b0); (try clear c3b1); (try clear c3b2)
   obtain ⟨x5_1, rfl, HA, HK1, ⟨m1, rfl⟩⟩ := hrel
   cases gk with
   | zero => exact absurd HA.out (by simp [laws_sameN.l0])
   | succ k1 =>
    have H := HA.out
    clear HA
    simp only [laws_sameN.l0] at H
    by_cases c4 : x5_1 < (l0.length : Int)
    ·rw [if_pos c4] at H
     have c4b0 : decide (x5_1 < (l0.length : Int)) = true := decide_eq_true c4
     clear c4
     by_cases c5 : 0 ≤ x5_1
     ·rw [if_pos c5] at H
      have c5b0 : decide (0 ≤ x5_1) = true := decide_eq_true c5
      clear c5
      by_cases c6 : x5_1 < (l1.length : Int)
      ·rw [if_pos c6] at H
       have c6b0 : decide (x5_1 < (l1.length : Int)) = true := decide_eq_true c6
       clear c6
       by_cases c7 : (rd l0 x5_1) = (rd l1 x5_1)
       ·rw [if_pos c7] at H
        have c7b0 : ((rd l0 x5_1) == (rd l1 x5_1)) = true := beq_iff_eq.mpr c7
        have c7b1 : ((rd l0 x5_1) != (rd l1 x5_1)) = false := bne_eq_false_iff_eq.mpr c7
        clear c7
        have H' := zA H
        clear H
        have p165 : 0 ≤ (x5_1 : Int) := zd
        have q165 : x5_1 < (l0.length : Int) := zd
        obtain ⟨ad165, e165, hx165_0⟩ := Kd.at_int HR0.out x5_1 p165 q165
        cases e165
        replace p165 := eq_true p165
        replace q165 := eq_true q165
        have p166 : 0 ≤ (x5_1 : Int) := zd
        have q166 : x5_1 < (l1.length : Int) := zd
        obtain ⟨ad166, e166, hx166_0⟩ := Kd.at_int HR1.out x5_1 p166 q166
        cases e166
        replace p166 := eq_true p166
        replace q166 := eq_true q166
        go_wp2
        repeat (go_quiet (fail); try go_wp2)
        go_roundg k1
        case measure => have := HK1.out; omega
        case rel => exact ⟨(wrap64 (x5_1 + 1)), zr, H', ⟨by have := HK1.out; omega⟩, by repeat (first | exact Drawn0.refl _ | apply Drawn0.step)⟩
       ·rw [if_neg c7] at H
        have c7b0 : ((rd l0 x5_1) == (rd l1 x5_1)) = false := beq_eq_false_iff_ne.mpr c7
        have c7b1 : ((rd l0 x5_1) != (rd l1 x5_1)) = true := bne_iff_ne.mpr c7
        obtain rfl := Option.some.inj H
        have p165 : 0 ≤ (x5_1 : Int) := zd
        have q165 : x5_1 < (l0.length : Int) := zd
        obtain ⟨ad165, e165, hx165_0⟩ := Kd.at_int HR0.out x5_1 p165 q165
        cases e165
        replace p165 := eq_true p165
        replace q165 := eq_true q165
        have p166 : 0 ≤ (x5_1 : Int) := zd
        have q166 : x5_1 < (l1.length : Int) := zd
        obtain ⟨ad166, e166, hx166_0⟩ := Kd.at_int HR1.out x5_1 p166 q166
        cases e166
        replace p166 := eq_true p166
        replace q166 := eq_true q166
        go_wp2
        repeat (go_quiet (fail); try go_wp2)
        go_ret
        exact ⟨by first | rfl | (simp; done) | (simp [*]; done), by repeat (first | exact Drawn0.refl _ | apply Drawn0.step)⟩
      ·rw [if_neg c6] at H
       exact absurd H (by simp)
     ·rw [if_neg c5] at H
      exact absurd H (by simp)
    ·rw [if_neg c4] at H
     have c4b0 : decide (x5_1 < (l0.length : Int)) = false := decide_eq_false c4
     clear c4
     obtain rfl := Option.some.inj H
     go_wp2
     repeat (go_quiet (fail); try go_wp2)
     go_ret
     exact ⟨by first | rfl | (simp; done) | (simp [*]; done), by repeat (first | exact Drawn0.refl _ | apply Drawn0.step)⟩
 ·rw [if_neg c3] at H
  have c3b0 : ((l0.length : Int) == (l1.length : Int)) = false := beq_eq_false_iff_ne.mpr c3
  have c3b1 : ((l0.length : Int) != (l1.length : Int)) = true := bne_iff_ne.mpr c3
  have c3b2 : (l0.length == l1.length) = false := by first | simpa using c3 | (simp at c3 ⊢; omega)
  obtain rfl := Option.some.inj H
  go_enter Try.func29, Try.ntmps29
  go_wp2
  repeat (go_quiet (fail); try go_wp2)
  go_ret
  exact ⟨by first | rfl | (simp; done) | (simp [*]; done), by repeat (first | exact Drawn0.refl _ | apply Drawn0.step)⟩

/-! ### spec_DrawUnpackHops: function 30 -/
theorem hops_cut {l a : List Int} {b v1 i1 v2 i2 : Int} (h0 : spec_l9open.f l = some (a, b)) (h1 : spec_l9rd_next.f a b = some (v1, i1)) (h2 : spec_l9rd_next.f a i1 = some (v2, i2)) : 0 ≤ i2 ∧ i2 ≤ (a.length : Int) := by
 have z0 : b = 0 ∧ (a.length : Int) ≤ 600 := by
  unfold spec_l9open.f at h0
  split at h0
  ·split at h0
   ·simp only [Option.some.injEq, Prod.mk.injEq] at h0
    obtain ⟨rfl, rfl⟩ := h0
    exact ⟨rfl, by rw [List.length_take]; omega⟩
   ·simp at h0
  ·split at h0
   ·split at h0
    ·simp only [Option.some.injEq, Prod.mk.injEq] at h0
     obtain ⟨rfl, rfl⟩ := h0
     exact ⟨rfl, by rw [List.length_take]; omega⟩
    ·simp at h0
   ·simp at h0
 have st : ∀ {i v j : Int}, spec_l9rd_next.f a i = some (v, j) → 0 ≤ i → i ≤ (a.length : Int) → 0 ≤ j ∧ j ≤ (a.length : Int) := by
  intro i v j h p q
  unfold spec_l9rd_next.f at h
  by_cases c : i ≥ (a.length : Int)
  ·rw [if_pos c] at h
   simp only [Option.some.injEq, Prod.mk.injEq] at h
   omega
  ·rw [if_neg c, if_pos p, if_pos (by omega)] at h
   simp only [Option.some.injEq, Prod.mk.injEq] at h
   have e : wrap64 (i + 1) = i + 1 := by unfold wrap64; omega
   rw [e] at h
   omega
 have s1 := st h1 (by omega) (by omega)
 exact st h2 s1.1 s1.2
mutual
def spec_DrawUnpackHops.j0 : Nat → Int → Int → List Int → Int → Bool → Option (List Int × Int)
 | 0, _, _, _, _, _ => none
 | k + 1, x5, x6, x8, x10, x41 => if x41 = true then (if (x8.length : Int) = 0 then (none) else (if 0 ≤ (Int.tmod x6 (x8.length : Int)) then (if (Int.tmod x6 (x8.length : Int)) < (x8.length : Int) then (if 0 ≤ (IntKind.u64.wrap (Int.tmod (wrap64 (Int.tdiv x5 8)) 8)) then (spec_DrawUnpackHops.j1 k x5 x6 (x8.set ((Int.tmod x6 (x8.length : Int)) : Int).toNat (Go.bits .xor .u8 (rd x8 (Int.tmod x6 (x8.length : Int))) (shl .u8 1 (IntKind.u64.wrap (Int.tmod (wrap64 (Int.tdiv x5 8)) 8))))) x10) else (none)) else (none)) else (none))) else (spec_DrawUnpackHops.j1 k x5 x6 x8 x10)
def spec_DrawUnpackHops.j1 : Nat → Int → Int → List Int → Int → Option (List Int × Int)
 | 0, _, _, _, _ => none
 | k + 1, x5, x6, x8, x10 => if (Int.tmod x5 8) = 1 then (spec_DrawUnpackHops.j2 k x5 x8 (wrap64 (x10 + (wrap64 ((Int.tmod x6 5) - 2))))) else (spec_DrawUnpackHops.j2 k x5 x8 x10)
def spec_DrawUnpackHops.j2 : Nat → Int → List Int → Int → Option (List Int × Int)
 | 0, _, _, _ => none
 | k + 1, x5, x8, x10 => if x5 = 2 then (if x5 = 10 then (some (x8, 9223372036854775807)) else (some (x8, (-1)))) else (if x5 = 10 then (some (x8, 9223372036854775807)) else (some (x8, x10)))
end
def spec_DrawUnpackHops.f (k : Nat) (l0 : List Int) : Option (List Int × Int) := (spec_l9open.f l0).bind fun bt167 => ((spec_l9rd_next.f bt167.1 bt167.2).bind fun bt170 => ((spec_l9rd_next.f bt167.1 bt170.2).bind fun bt172 => ((spec_DrawPackHops.f k (bt167.1.drop (bt172.2).toNat)).bind fun t174 => ((spec_PackHops.f k t174).bind fun bt177 => (if (Int.tmod bt170.1 8) = 0 then (spec_DrawUnpackHops.j0 k bt170.1 bt172.1 bt177.1 (t174.length : Int) (decide ((bt177.1.length : Int) > 0))) else (spec_DrawUnpackHops.j0 k bt170.1 bt172.1 bt177.1 (t174.length : Int) false))))))
theorem spec_DrawUnpackHops.mono_l : ∀ k, (∀ y0 y1 y2 y3 y4, LeO (spec_DrawUnpackHops.j0 k y0 y1 y2 y3 y4) (spec_DrawUnpackHops.j0 (k + 1) y0 y1 y2 y3 y4)) ∧ (∀ y0 y1 y2 y3, LeO (spec_DrawUnpackHops.j1 k y0 y1 y2 y3) (spec_DrawUnpackHops.j1 (k + 1) y0 y1 y2 y3)) ∧ (∀ y0 y1 y2, LeO (spec_DrawUnpackHops.j2 k y0 y1 y2) (spec_DrawUnpackHops.j2 (k + 1) y0 y1 y2))
 | 0 => ⟨fun _ _ _ _ _ r h => by simp [spec_DrawUnpackHops.j0] at h, fun _ _ _ _ r h => by simp [spec_DrawUnpackHops.j1] at h, fun _ _ _ r h => by simp [spec_DrawUnpackHops.j2] at h⟩
 | k + 1 => by
  obtain ⟨ih0, ih1, ih2⟩ := spec_DrawUnpackHops.mono_l k
  refine ⟨?_, ?_, ?_⟩
  ·intro y0 y1 y2 y3 y4
   unfold spec_DrawUnpackHops.j0
   have m1 := @spec_DrawPackHops.mono
   have m2 := @spec_PackHops.mono
   exact zm
  ·intro y0 y1 y2 y3
   unfold spec_DrawUnpackHops.j1
   have m1 := @spec_DrawPackHops.mono
   have m2 := @spec_PackHops.mono
   exact zm
  ·intro y0 y1 y2
   unfold spec_DrawUnpackHops.j2
   have m1 := @spec_DrawPackHops.mono
   have m2 := @spec_PackHops.mono
   exact zm
theorem spec_DrawUnpackHops.mono : ∀ a0 k, LeO (spec_DrawUnpackHops.f k a0) (spec_DrawUnpackHops.f (k + 1) a0) := by
 intro a0 k
 obtain ⟨ih0, ih1, ih2⟩ := spec_DrawUnpackHops.mono_l k
 unfold spec_DrawUnpackHops.f
 have m1 := @spec_DrawPackHops.mono
 have m2 := @spec_PackHops.mono
 exact zm
set_option maxHeartbeats 8000000 in
set_option maxRecDepth 100000 in
theorem spec_DrawUnpackHops.calls (k : Nat) (A0 : Option Addr) (c0 : Nat) (l0 : List Int) (r1 : List Int) (r2 : Int) (w : World) (hr0 : Kd.C (Kd.int .u8) w A0 l0.length l0) (hc0 : l0.length ≤ c0) (h : spec_DrawUnpackHops.f k l0 = some (r1, r2)) :
  Calls Try.prog 30 #[.slice A0 l0.length c0] w fun e w' => ∃ v0_ : Value, e = .returned (.tuple #[v0_, .int .i64 r2]) ∧ Kd.R (Kd.int .u8) 5 w' w.heap.size (fun _ => True) v0_ r1 ∧ Below w.heap.size w w' := by
 have HR0 := zA hr0
 have HC0 := zA hc0
 clear hr0 hc0
 have HB := zA (Below.refl w.heap.size w)
 have H : ((spec_l9open.f l0).bind fun bt167 => ((spec_l9rd_next.f bt167.1 bt167.2).bind fun bt170 => ((spec_l9rd_next.f bt167.1 bt170.2).bind fun bt172 => ((spec_DrawPackHops.f k (bt167.1.drop (bt172.2).toNat)).bind fun t174 => ((spec_PackHops.f k t174).bind fun bt177 => (if (Int.tmod bt170.1 8) = 0 then (spec_DrawUnpackHops.j0 k bt170.1 bt172.1 bt177.1 (t174.length : Int) (decide ((bt177.1.length : Int) > 0))) else (spec_DrawUnpackHops.j0 k bt170.1 bt172.1 bt177.1 (t174.length : Int) false))))))) = some (r1, r2) := h
 clear h
 replace H := Option.bind_eq_some_iff.mp H
 obtain ⟨⟨t167, t168⟩, A20, H⟩ := H
 replace H : ((spec_l9rd_next.f t167 t168).bind fun bt170 => ((spec_l9rd_next.f t167 bt170.2).bind fun bt172 => ((spec_DrawPackHops.f k (t167.drop (bt172.2).toNat)).bind fun t174 => ((spec_PackHops.f k t174).bind fun bt177 => (if (Int.tmod bt170.1 8) = 0 then (spec_DrawUnpackHops.j0 k bt170.1 bt172.1 bt177.1 (t174.length : Int) (decide ((bt177.1.length : Int) > 0))) else (spec_DrawUnpackHops.j0 k bt170.1 bt172.1 bt177.1 (t174.length : Int) false)))))) = some (r1, r2) := H
 have A2 := zA A20
 clear A20
 replace H := Option.bind_eq_some_iff.mp H
 obtain ⟨⟨t170, t171⟩, A30, H⟩ := H
 replace H : ((spec_l9rd_next.f t167 t171).bind fun bt172 => ((spec_DrawPackHops.f k (t167.drop (bt172.2).toNat)).bind fun t174 => ((spec_PackHops.f k t174).bind fun bt177 => (if (Int.tmod t170 8) = 0 then (spec_DrawUnpackHops.j0 k t170 bt172.1 bt177.1 (t174.length : Int) (decide ((bt177.1.length : Int) > 0))) else (spec_DrawUnpackHops.j0 k t170 bt172.1 bt177.1 (t174.length : Int) false))))) = some (r1, r2) := H
 have A3 := zA A30
 clear A30
 replace H := Option.bind_eq_some_iff.mp H
 obtain ⟨⟨t172, t173⟩, A40, H⟩ := H
 replace H : ((spec_DrawPackHops.f k (t167.drop (t173).toNat)).bind fun t174 => ((spec_PackHops.f k t174).bind fun bt177 => (if (Int.tmod t170 8) = 0 then (spec_DrawUnpackHops.j0 k t170 t172 bt177.1 (t174.length : Int) (decide ((bt177.1.length : Int) > 0))) else (spec_DrawUnpackHops.j0 k t170 t172 bt177.1 (t174.length : Int) false)))) = some (r1, r2) := H
 have A4 := zA A40
 clear A40
 replace H := Option.bind_eq_some_iff.mp H
 obtain ⟨t174, A50, H⟩ := H
 replace H : ((spec_PackHops.f k t174).bind fun bt177 => (if (Int.tmod t170 8) = 0 then (spec_DrawUnpackHops.j0 k t170 t172 bt177.1 (t174.length : Int) (decide ((bt177.1.length : Int) > 0))) else (spec_DrawUnpackHops.j0 k t170 t172 bt177.1 (t174.length : Int) false))) = some (r1, r2) := H
 have A5 := zA A50
 clear A50
 replace H := Option.bind_eq_some_iff.mp H
 obtain ⟨⟨t177, t178⟩, A60, H⟩ := H
 replace H : (if (Int.tmod t170 8) = 0 then (spec_DrawUnpackHops.j0 k t170 t172 t177 (t174.length : Int) (decide ((t177.length : Int) > 0))) else (spec_DrawUnpackHops.j0 k t170 t172 t177 (t174.length : Int) false)) = some (r1, r2) := H
 have A6 := zA A60
 clear A60
 have HC7 := zA H
 clear H
 go_enter Try.func30, Try.ntmps30
 go_upto_region 7 with (first | ((with_reducible refine gate_callee (f := 35) rfl ?_); refine goesL_ (some 12) rfl rfl Try.func35 (by kernel_rfl) rfl #[.slice A0 l0.length c0] rfl za ?_; (with_reducible refine (spec_l9open.calls _ _ l0 t167 t168 w _ ?side1 ?side2 ?side3 A2.out).mono ?_); (case side1 => repeat (first | (with_reducible first | exact HB.out | apply below_alloc | apply pw_below_drewN | apply below_drew1) | exact HB.out)); (case side2 => exact HR0.out); (case side3 => exact HC0.out); rintro e w8 ⟨g169, rfl, hi, hb, hb2⟩; refine ⟨_, rfl, ?_⟩; have n0_ := zA (hb); have n1_ := zA (hi); clear HB; have HB := n0_; have HI169 := n1_; clear n0_ n1_; (try clear hb); (try clear hb2); (try clear hk); (try clear hi)) | ((with_reducible refine gate_callee (f := 36) rfl ?_); refine goesL_ (some 14) rfl rfl Try.func36 (by kernel_rfl) rfl #[.pointer (some ⟨g169, 0, none⟩)] rfl za ?_; (with_reducible refine (spec_l9rd_next.calls g169 t167 t168 t170 t171 w _ ?side1 ?side2 A3.out).mono ?_); (case side1 => repeat (first | (with_reducible first | exact HI169.out | apply IsS55.alloc | apply IsS55.drewN | apply IsS55.drew | apply IsS55.set_1) | exact HI169.out)); (case side2 => repeat (first | (with_reducible first | exact HB.out | apply below_alloc | apply pw_below_drewN | apply below_drew1 | refine below_set ?_ (IsS55.ge HI169.out)) | exact HB.out)); rintro e w9 ⟨rfl, hi, hb, hk⟩; refine ⟨_, rfl, ?_⟩; have n0_ := zA (hb); have n1_ := zA (hi); clear HB HI169; have HB := n0_; have HI169 := n1_; clear n0_ n1_; (try clear hb); (try clear hb2); (try clear hk); (try clear hi)) | ((with_reducible refine gate_callee (f := 36) rfl ?_); refine goesL_ (some 16) rfl rfl Try.func36 (by kernel_rfl) rfl #[.pointer (some ⟨g169, 0, none⟩)] rfl za ?_; (with_reducible refine (spec_l9rd_next.calls g169 t167 t171 t172 t173 w _ ?side1 ?side2 A4.out).mono ?_); (case side1 => repeat (first | (with_reducible first | exact HI169.out | apply IsS55.alloc | apply IsS55.drewN | apply IsS55.drew | apply IsS55.set_1) | exact HI169.out)); (case side2 => repeat (first | (with_reducible first | exact HB.out | apply below_alloc | apply pw_below_drewN | apply below_drew1 | refine below_set ?_ (IsS55.ge HI169.out)) | exact HB.out)); rintro e w10 ⟨rfl, hi, hb, hk⟩; refine ⟨_, rfl, ?_⟩; have n0_ := zA (hb); have n1_ := zA (hi); clear HB HI169; have HB := n0_; have HI169 := n1_; clear n0_ n1_; (try clear hb); (try clear hb2); (try clear hk); (try clear hi); obtain ⟨Az_, cz_, HGz, hgz, HSz⟩ := HI169.out; have hcz_0 := cellS55_0 HGz; have hcz_1 := cellS55_1 HGz; have hI_ := hops_cut A2.out A3.out A4.out; obtain ⟨i0_, hi0_, _, hsz_, _⟩ := info_parts info5; obtain ⟨Ac_, hcut_, hA_, hC_⟩ := print_drop_of (P := Try.prog) (Value.int .u8) 0 23 5 .i64 Try.underlying23 hi0_ hsz_ Az_ cz_ t167 t173 hI_.1 hI_.2 HSz.2; have HRc := zA (Kd.C_of_reads (h1 := fun _ => rfl) (hA_ _ (Kd.reads_of_C HSz.1))); have HCc := zA hC_; clear HGz hgz hA_ hC_ hi0_ hsz_ HSz) | ((with_reducible refine gate_callee (f := 28) rfl ?_); refine goesL_ (some 26) rfl rfl Try.func28 (by kernel_rfl) rfl #[.slice Ac_ (t167.length - (t173).toNat) (cz_ - (t173).toNat)] rfl za ?_; rw [← List.length_drop]; change Calls Try.prog 28 _ (World.drew w10) _; have HB_ := zA (show Below w.heap.size w (World.drew w10) from below_drew1 HB.out); have HI_ := zA (IsS55.drew HI169.out); clear HB HI169; have HB := HB_; have HI169 := HI_; clear HB_ HI_; generalize World.drew w10 = wD_ at HB HI169 ⊢; (with_reducible refine (spec_DrawPackHops.calls k _ _ (t167.drop (t173).toNat) t174 _ ?side1 ?side2 A5.out).mono ?_); (case side1 => exact zc (Kd.C_below HRc.out HB.out)); (case side2 => exact HCc.out); rintro e w11 ⟨v175, rfl, ho0, hb⟩; refine ⟨_, rfl, ?_⟩; have n0_ := zA (Kd.R_lower ho0 (below_size (by repeat (first | (with_reducible first | exact HB.out | apply below_alloc | apply pw_below_drewN | apply below_drew1 | refine below_set ?_ (IsS55.ge HI169.out)) | exact HB.out)))); have n1_ := zA (IsS55.below (by repeat (first | (with_reducible first | exact HI169.out | apply IsS55.alloc | apply IsS55.drewN | apply IsS55.drew | apply IsS55.set_1) | exact HI169.out)) hb); have n2_ := zA (below_step (by repeat (first | (with_reducible first | exact HB.out | apply below_alloc | apply pw_below_drewN | apply below_drew1 | refine below_set ?_ (IsS55.ge HI169.out)) | exact HB.out)) hb); clear HI169 HB; have HO176 := n0_; have HI169 := n1_; have HB := n2_; clear n0_ n1_ n2_; (try clear hb); (try clear hb2); (try clear hk); (try clear hi); (try clear ho0); obtain ⟨Ao12, co12, eo12⟩ := Kd.R_slice HO176.out; subst eo12) | ((with_reducible refine gate_callee (f := 13) rfl ?_); refine goesL_ (some 29) rfl rfl Try.func13 (by kernel_rfl) rfl #[.slice Ao12 t174.length co12] rfl za ?_; (with_reducible refine (spec_PackHops.calls k _ _ t174 t177 t178 _ ?side1 ?side2 A6.out).mono ?_); (case side1 => exact zc ((Kd.R_reads' HO176.out).2.2)); (case side2 => exact (Kd.R_reads' HO176.out).2.1); rintro e w13 ⟨v179, rfl, ho0, hb⟩; refine ⟨_, rfl, ?_⟩; have n0_ := zA (Kd.R_below (zR HO176.out) hb); have n1_ := zA (Kd.R_lower ho0 (below_size (by repeat (first | (with_reducible first | exact HB.out | apply below_alloc | apply pw_below_drewN | apply below_drew1 | refine below_set ?_ (IsS55.ge HI169.out)) | exact HB.out)))); have n2_ := zA (IsS55.below (by repeat (first | (with_reducible first | exact HI169.out | apply IsS55.alloc | apply IsS55.drewN | apply IsS55.drew | apply IsS55.set_1) | exact HI169.out)) hb); have n3_ := zA (below_step (by repeat (first | (with_reducible first | exact HB.out | apply below_alloc | apply pw_below_drewN | apply below_drew1 | refine below_set ?_ (IsS55.ge HI169.out)) | exact HB.out)) hb); clear HO176 HI169 HB; have HO176 := n0_; have HO180 := n1_; have HI169 := n2_; have HB := n3_; clear n0_ n1_ n2_ n3_; (try clear hb); (try clear hb2); (try clear hk); (try clear hi); (try clear ho0)) | (go_still_tail 9, (by kernel_rfl)))
 (try simp only [Act.put, List.setIfInBounds_toArray, List.set_cons_zero, List.set_cons_succ])
 go_cut [41] (fun v41 wc => ∃ (kq : Nat) (x41_6 : Bool), v41 = .bool x41_6 ∧ Aside0 (spec_DrawUnpackHops.j0 kq t170 t172 t177 (t174.length : Int) x41_6 = some (r1, r2)) ∧ Aside0 (kq ≤ k) ∧ Aside0 (Kd.R (Kd.int .u8) 5 wc w.heap.size (fun _ => True) v179 t177) ∧ Aside0 (Below w.heap.size w wc))
 case first =>
  have H := HC7.out
  clear HC7
  by_cases c14 : (Int.tmod t170 8) = 0
  ·rw [if_pos c14] at H
   have c14b0 : ((Int.tmod t170 8) == 0) = true := beq_iff_eq.mpr c14
   have c14b1 : ((Int.tmod t170 8) != 0) = false := bne_eq_false_iff_eq.mpr c14
   clear c14
   (first | rw [c14b0] | (simp only [i64_w, i32_w]; rw [c14b0]) | skip)
   have H' := zA H
   clear H
   obtain ⟨Ao15, co15, eo15⟩ := Kd.R_slice HO180.out
   subst eo15
   go_wp2
   go_meet
   case rel => exact ⟨_, (decide ((t177.length : Int) > 0)), zr, H', ⟨by first | omega | exact Nat.le_refl _⟩, ⟨zR HO180.out⟩, ⟨by repeat (first | (with_reducible first | exact HB.out | apply below_alloc | apply pw_below_drewN | apply below_drew1 | refine below_set ?_ (IsS55.ge HI169.out)) | exact HB.out)⟩⟩
  ·rw [if_neg c14] at H
   have c14b0 : ((Int.tmod t170 8) == 0) = false := beq_eq_false_iff_ne.mpr c14
   have c14b1 : ((Int.tmod t170 8) != 0) = true := bne_iff_ne.mpr c14
   (first | rw [c14b0] | (simp only [i64_w, i32_w]; rw [c14b0]) | skip)
   have H' := zA H
   clear H
   go_wp2
   go_meet
   case rel => exact ⟨_, (false), zr, H', ⟨by first | omega | exact Nat.le_refl _⟩, ⟨zR HO180.out⟩, ⟨by repeat (first | (with_reducible first | exact HB.out | apply below_alloc | apply pw_below_drewN | apply below_drew1 | refine below_set ?_ (IsS55.ge HI169.out)) | exact HB.out)⟩⟩
 case rest =>
  clear HC7
  (try clear c1); (try clear c2); (try clear p2); (try clear c3); (try clear c13); (try clear c14); (try clear c14b0); (try clear c14b1)
  obtain ⟨kq, x41_6, rfl, HA, HJ6, HO_8, HB⟩ := hcut
  cases kq with
  | zero => exact absurd HA.out (by simp [spec_DrawUnpackHops.j0])
  | succ kj6 =>
   have H := HA.out
   clear HA
   simp only [spec_DrawUnpackHops.j0] at H
   have HC16 := zA H
   clear H
   go_upto_if 41 with (fail)
   go_cut [] (fun wc => ∃ (kq : Nat) (x8_15 : List Int), Aside0 (spec_DrawUnpackHops.j1 kq t170 t172 x8_15 (t174.length : Int) = some (r1, r2)) ∧ Aside0 (kq ≤ kj6) ∧ Aside0 (Kd.R (Kd.int .u8) 5 wc w.heap.size (fun _ => True) v179 x8_15) ∧ Aside0 (Below w.heap.size w wc))
   case first =>
    have H := HC16.out
    clear HC16
    by_cases c17 : x41_6 = true
    ·subst c17
     have H1 : (if (t177.length : Int) = 0 then (none) else (if 0 ≤ (Int.tmod t172 (t177.length : Int)) then (if (Int.tmod t172 (t177.length : Int)) < (t177.length : Int) then (if 0 ≤ (IntKind.u64.wrap (Int.tmod (wrap64 (Int.tdiv t170 8)) 8)) then (spec_DrawUnpackHops.j1 kj6 t170 t172 (t177.set ((Int.tmod t172 (t177.length : Int)) : Int).toNat (Go.bits .xor .u8 (rd t177 (Int.tmod t172 (t177.length : Int))) (shl .u8 1 (IntKind.u64.wrap (Int.tmod (wrap64 (Int.tdiv t170 8)) 8))))) (t174.length : Int)) else (none)) else (none)) else (none))) = some (r1, r2) := by rw [if_pos rfl] at H; exact H
     clear H
     have H := H1
     clear H1
     by_cases c18 : (t177.length : Int) = 0
     ·rw [if_pos c18] at H
      exact absurd H (by simp)
     ·rw [if_neg c18] at H
      have c18b0 : ((t177.length : Int) == 0) = false := beq_eq_false_iff_ne.mpr c18
      have c18b1 : ((t177.length : Int) != 0) = true := bne_iff_ne.mpr c18
      have c18b2 : ¬ (t177 = []) := fun h_ => c18 (by rw [h_]; rfl)
      (first | rw [c18b0] | (simp only [i64_w, i32_w]; rw [c18b0]) | skip)
      obtain ⟨ji19, hji19⟩ : ∃ j_ : Int, (Int.tmod t172 (t177.length : Int)) = j_ := ⟨_, rfl⟩
      replace H : (if 0 ≤ (ji19) then (if (ji19) < (t177.length : Int) then (if 0 ≤ (IntKind.u64.wrap (Int.tmod (wrap64 (Int.tdiv t170 8)) 8)) then (spec_DrawUnpackHops.j1 kj6 t170 t172 (t177.set ((ji19) : Int).toNat (Go.bits .xor .u8 (rd t177 (ji19)) (shl .u8 1 (IntKind.u64.wrap (Int.tmod (wrap64 (Int.tdiv t170 8)) 8))))) (t174.length : Int)) else (none)) else (none)) else (none)) = some (r1, r2) := by first | (rw [hji19] at H; exact H) | (simp only [hji19] at H ⊢; exact H)
      by_cases c20 : 0 ≤ (ji19)
      ·rw [if_pos c20] at H
       have c20b0 : decide (0 ≤ (ji19)) = true := decide_eq_true c20
       clear c20
       by_cases c21 : (ji19) < (t177.length : Int)
       ·rw [if_pos c21] at H
        have c21b0 : decide ((ji19) < (t177.length : Int)) = true := decide_eq_true c21
        clear c21
        obtain ⟨ji22, hji22⟩ : ∃ j_ : Int, (IntKind.u64.wrap (Int.tmod (wrap64 (Int.tdiv t170 8)) 8)) = j_ := ⟨_, rfl⟩
        replace H : (if 0 ≤ (ji22) then (spec_DrawUnpackHops.j1 kj6 t170 t172 (t177.set ((ji19) : Int).toNat (Go.bits .xor .u8 (rd t177 (ji19)) (shl .u8 1 (ji22)))) (t174.length : Int)) else (none)) = some (r1, r2) := by first | (rw [hji22] at H; exact H) | (simp only [hji22] at H ⊢; exact H)
        by_cases c23 : 0 ≤ (ji22)
        ·rw [if_pos c23] at H
         have c23b0 := eq_true c23
         have c23b1 : decide (0 ≤ (ji22)) = true := decide_eq_true c23
         clear c23
         obtain ⟨ji24, hji24⟩ : ∃ j_ : Int, (shl .u8 1 (ji22)) = j_ := ⟨_, rfl⟩
         replace H : (spec_DrawUnpackHops.j1 kj6 t170 t172 (t177.set ((ji19) : Int).toNat (Go.bits .xor .u8 (rd t177 (ji19)) (ji24))) (t174.length : Int)) = some (r1, r2) := by first | (rw [hji24] at H; exact H) | (simp only [hji24] at H ⊢; exact H)
         have hji24_ : (IntKind.u8.wrap (1 * 2 ^ min (ji22).toNat 8)) = ji24 := hji24
         have hji24m : ((1 * 2 ^ min (ji22).toNat 8) % 256) = ji24 := (IntKind.wrap_u8 _).symm.trans hji24_
         have hji24z : (ji22) ≤ 8 → (IntKind.u8.wrap (1 * 2 ^ (ji22).toNat)) = ji24 := shl_small hji24
         have hji24u : (IntKind.u8.wrap (2 ^ min (ji22).toNat 8)) = ji24 := by have h_ := hji24_; rw [Int.one_mul] at h_; exact h_
         have hji24v : (ji22) ≤ 8 → (IntKind.u8.wrap (2 ^ (ji22).toNat)) = ji24 := fun hle_ => by have h_ := hji24z hle_; rw [Int.one_mul] at h_; exact h_
         obtain ⟨y182, hy182⟩ : ∃ y_ : List Int, y_ = (t177.set ((ji19) : Int).toNat (Go.bits .xor .u8 (rd t177 (ji19)) (ji24))) := ⟨_, rfl⟩
         replace H : (spec_DrawUnpackHops.j1 kj6 t170 t172 y182 (t174.length : Int)) = some (r1, r2) := zh hy182
         have Ny182 := zA hy182
         clear hy182
         have H' := zA H
         clear H
         obtain ⟨Ao26, co26, eo26⟩ := Kd.R_slice HO_8.out
         subst eo26
         have p181 : 0 ≤ ((ji19) : Int) := zd
         have q181 : (ji19) < (t177.length : Int) := zd
         obtain ⟨ad181, e181, hx181_0⟩ := Kd.at_int (Kd.R_reads' HO_8.out).2.2 (ji19) p181 q181
         cases e181
         replace p181 := eq_true p181
         replace q181 := eq_true q181
         have p25 : 0 ≤ ((ji19) : Int) := zd
         have q25 : ((ji19) : Int) < ((t177.length : Int) : Int) := zd
         obtain ⟨go25, co25, eo25, gb25, gl25, cl25, HG25⟩ := Kd.R_form HO_8.out (by omega)
         (first | cases eo25 | (injection eo25 with ea_ en_ ec_; (first | subst ea_ | (injection ea_ with ea_; subst ea_)); subst ec_; clear en_))
         have GB25 := zA gb25
         have GG25 := zA HG25
         clear gb25 gl25 HG25
         (first | simp only [add_plain] at hx181_0 | skip)
         obtain ⟨hx25_0, hf25_0⟩ := Kd.R_celln 0 HO_8.out ((ji19) : Int) p25 q25
         replace p25 := eq_true p25
         replace q25 := eq_true q25
         have HP27 := Kd.R_putg HO_8.out ((ji19) : Int) (Go.bits .xor .u8 (rd t177 (ji19)) (ji24))
         go_wp2_with (first | ((with_reducible refine gate_store (t := 5) (p := 55) rfl ?_); refine store_event (t := 5) (p := 55) (v := ?vo_w28) (w1 := (wc.setCell ⟨go25, ((ji19) : Int).toNat, none⟩ (.int .u8 (Go.bits .xor .u8 (rd t177 (ji19)) (ji24))))) ?hg ?ho ?hn ?hr ?_; (case ho => rfl); (case hg => rfl); (case hn => rfl); (case hr => first | (go_simp; done) | (go_simp; rfl)); intro w28 hw; have hg : wc.grownBy w28 (some go25) := (by rw [hw]; exact HP27.2); have hp_ : Kd.R (Kd.int .u8) 5 w28 w.heap.size (fun _ => True) (.slice (some ⟨go25, 0, none⟩) t177.length co26) y182 := (by rw [hw, Ny182.out]; exact HP27.1); clear HP27; have n0_ := zA (hp_); have n1_ := zA ((by rw [hw]; exact below_set (HB.out) GB25.out : Below w.heap.size w w28)); clear HO_8 HB; have HO_8 := n0_; have HB := n1_; clear n0_ n1_; clear hg hw hp_) | (go_still_tail 9, (by kernel_rfl)))
         go_meet
         case rel => exact ⟨_, (y182), H', ⟨by have := HJ6.out; first | omega | exact Nat.le_refl _⟩, ⟨zR HO_8.out⟩, ⟨z_⟩⟩
        ·rw [if_neg c23] at H
         exact absurd H (by simp)
       ·rw [if_neg c21] at H
        exact absurd H (by simp)
      ·rw [if_neg c20] at H
       exact absurd H (by simp)
    ·replace c17 := Bool.eq_false_iff.mpr c17
     subst c17
     have H1 : (spec_DrawUnpackHops.j1 kj6 t170 t172 t177 (t174.length : Int)) = some (r1, r2) := by rw [if_neg (show ¬ (false = true) by decide)] at H; exact H
     clear H
     have H := H1
     clear H1
     have H' := zA H
     clear H
     go_wp2
     go_meet
     case rel => exact ⟨_, (t177), H', ⟨by have := HJ6.out; first | omega | exact Nat.le_refl _⟩, ⟨zR HO_8.out⟩, ⟨z_⟩⟩
   case rest =>
    clear HC16
    (try clear c1); (try clear p1); (try clear q1); (try clear hx1); (try clear c2); (try clear p2); (try clear q2); (try clear hx2); (try clear hf2); (try clear c3); (try clear p6); (try clear c13); (try clear c14); (try clear c14b0); (try clear c14b1); (try clear c17); (try clear c18); (try clear c18b0); (try clear c18b1); (try clear c18b2); (try clear p18); (try clear q18); (try clear hx18); (try clear c20); (try clear c20b0); (try clear c21); (try clear c21b0); (try clear c23); (try clear c23b0); (try clear c23b1); (try clear p25); (try clear q25); (try clear hx25); (try clear hf25); (try clear c28); (try clear hx181_0); (try clear hx25_0); (try clear p181); (try clear p2); (try clear p25); (try clear q181); (try clear q25)
    obtain ⟨kq, x8_15, HA, HJ15, HO_8, HB⟩ := hcut
    cases kq with
    | zero => exact absurd HA.out (by simp [spec_DrawUnpackHops.j1])
    | succ kj15 =>
     have H := HA.out
     clear HA
     simp only [spec_DrawUnpackHops.j1] at H
     have HC29 := zA H
     clear H
     go_upto_if 58 with (fail)
     go_cut [10] (fun v10 wc => ∃ (kq : Nat) (x10_28 : Int), v10 = .int .i64 x10_28 ∧ Aside0 (spec_DrawUnpackHops.j2 kq t170 x8_15 x10_28 = some (r1, r2)) ∧ Aside0 (kq ≤ kj15) ∧ Aside0 (Kd.R (Kd.int .u8) 5 wc w.heap.size (fun _ => True) v179 x8_15) ∧ Aside0 (Below w.heap.size w wc))
     case first =>
      have H := HC29.out
      clear HC29
      by_cases c30 : (Int.tmod t170 8) = 1
      ·rw [if_pos c30] at H
       have c30b0 : ((Int.tmod t170 8) == 1) = true := beq_iff_eq.mpr c30
       have c30b1 : ((Int.tmod t170 8) != 1) = false := bne_eq_false_iff_eq.mpr c30
       clear c30
       (first | rw [c30b0] | (simp only [i64_w, i32_w]; rw [c30b0]) | skip)
       have H' := zA H
       clear H
       go_wp2
       go_meet
       case rel => exact ⟨_, (wrap64 ((t174.length : Int) + (wrap64 ((Int.tmod t172 5) - 2)))), zr, H', ⟨by have := HJ6.out; have := HJ15.out; first | omega | exact Nat.le_refl _⟩, ⟨zR HO_8.out⟩, ⟨z_⟩⟩
      ·rw [if_neg c30] at H
       have c30b0 : ((Int.tmod t170 8) == 1) = false := beq_eq_false_iff_ne.mpr c30
       have c30b1 : ((Int.tmod t170 8) != 1) = true := bne_iff_ne.mpr c30
       (first | rw [c30b0] | (simp only [i64_w, i32_w]; rw [c30b0]) | skip)
       have H' := zA H
       clear H
       go_wp2
       go_meet
       case rel => exact ⟨_, ((t174.length : Int)), zr, H', ⟨by have := HJ6.out; have := HJ15.out; first | omega | exact Nat.le_refl _⟩, ⟨zR HO_8.out⟩, ⟨z_⟩⟩
     case rest =>
      clear HC29
      (try clear c1); (try clear p1); (try clear q1); (try clear hx1); (try clear c2); (try clear p2); (try clear q2); (try clear hx2); (try clear hf2); (try clear c3); (try clear p6); (try clear c13); (try clear c14); (try clear c14b0); (try clear c14b1); (try clear c17); (try clear c18); (try clear c18b0); (try clear c18b1); (try clear c18b2); (try clear p18); (try clear q18); (try clear hx18); (try clear c20); (try clear c20b0); (try clear c21); (try clear c21b0); (try clear c23); (try clear c23b0); (try clear c23b1); (try clear p25); (try clear q25); (try clear hx25); (try clear hf25); (try clear c28); (try clear c30); (try clear c30b0); (try clear c30b1); (try clear hx181_0); (try clear hx25_0); (try clear p1); (try clear p18); (try clear p181); (try clear p2); (try clear p25); (try clear p6); (try clear q1); (try clear q18); (try clear q181); (try clear q2); (try clear q25)
      obtain ⟨kq, x10_28, rfl, HA, HJ28, HO_8, HB⟩ := hcut
      cases kq with
      | zero => exact absurd HA.out (by simp [spec_DrawUnpackHops.j2])
      | succ kj28 =>
       have H := HA.out
       clear HA
       simp only [spec_DrawUnpackHops.j2] at H
       by_cases c31 : t170 = 2
       ·rw [if_pos c31] at H
        have c31b0 : (t170 == 2) = true := beq_iff_eq.mpr c31
        have c31b1 : (t170 != 2) = false := bne_eq_false_iff_eq.mpr c31
        clear c31
        by_cases c32 : t170 = 10
        ·rw [if_pos c32] at H
         have c32b0 : (t170 == 10) = true := beq_iff_eq.mpr c32
         have c32b1 : (t170 != 10) = false := bne_eq_false_iff_eq.mpr c32
         clear c32
         simp only [Option.some.injEq, Prod.mk.injEq] at H
         obtain ⟨rfl, rfl⟩ := H
         go_wp2
         go_ret2
         exact ⟨_, ze, by (with_reducible repeat (first | apply Kd.R_alloc | apply Kd.R_drewN | apply Kd.R_drew)); exact HO_8.out, z_⟩
        ·rw [if_neg c32] at H
         have c32b0 : (t170 == 10) = false := beq_eq_false_iff_ne.mpr c32
         have c32b1 : (t170 != 10) = true := bne_iff_ne.mpr c32
         simp only [Option.some.injEq, Prod.mk.injEq] at H
         obtain ⟨rfl, rfl⟩ := H
         go_wp2
         go_ret2
         exact ⟨_, ze, by (with_reducible repeat (first | apply Kd.R_alloc | apply Kd.R_drewN | apply Kd.R_drew)); exact HO_8.out, z_⟩
       ·rw [if_neg c31] at H
        have c31b0 : (t170 == 2) = false := beq_eq_false_iff_ne.mpr c31
        have c31b1 : (t170 != 2) = true := bne_iff_ne.mpr c31
        by_cases c33 : t170 = 10
        ·rw [if_pos c33] at H
         have c33b0 : (t170 == 10) = true := beq_iff_eq.mpr c33
         have c33b1 : (t170 != 10) = false := bne_eq_false_iff_eq.mpr c33
         clear c33
         simp only [Option.some.injEq, Prod.mk.injEq] at H
         obtain ⟨rfl, rfl⟩ := H
         go_wp2
         go_ret2
         exact ⟨_, ze, by (with_reducible repeat (first | apply Kd.R_alloc | apply Kd.R_drewN | apply Kd.R_drew)); exact HO_8.out, z_⟩
        ·rw [if_neg c33] at H
         have c33b0 : (t170 == 10) = false := beq_eq_false_iff_ne.mpr c33
         have c33b1 : (t170 != 10) = true := bne_iff_ne.mpr c33
         simp only [Option.some.injEq, Prod.mk.injEq] at H
         obtain ⟨rfl, rfl⟩ := H
         go_wp2
         go_ret2
         exact ⟨_, ze, by (with_reducible repeat (first | apply Kd.R_alloc | apply Kd.R_drewN | apply Kd.R_drew)); exact HO_8.out, z_⟩

end Go.Proofs.Ytbeheecjemdcdaa.PFnHops
