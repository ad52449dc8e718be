-- made by wip/tools/myprint.py (this session's own program, over the kit's printer)
import Derived.Test.YtbnpkiokpnmphaaDoorPFnExactUnquoteTextx0
import Derived.Test.YtbnpkiokpnmphaaDoorPFnExactUnquoteTextx2
import Derived.Test.YtbnpkiokpnmphaaDoorPFnExactUnquoteTextx3
namespace Go.Proofs.YtbnpkiokpnmphaaDoor.PFnExactUnquoteText
open Go.RowKit Go.Proofs.YtbnpkiokpnmphaaDoorW.PrintWords Go.Proofs.YtbnpkiokpnmphaaDoorW.PrintLast Go.Proofs.YtbnpkiokpnmphaaDoorW.PrintMore
attribute [local go_sem] max2_int min2_int max_two min_two max_three min_three max_four min_four   -- for this text's walks alone
set_option linter.unusedVariables false
set_option linter.unusedSimpArgs false

/-! ### spec_l1literal: function 11 -/
mutual
def spec_l1literal.j0 : Nat → List Int → Int → Bool → Option (List Int × Int)
 | 0, _, _, _ => none
 | k + 1, x0, x1, x20 => if x20 = true then (some (([] : List Int), 0)) else (spec_l1literal.l0 k x0 x1 ([] : List Int) (wrap64 (x1 + 1)))
def spec_l1literal.l0 : Nat → List Int → Int → List Int → Int → Option (List Int × Int)
 | 0, _, _, _, _ => none
 | k + 1, x0, x1, x6, x7 => if x7 < (x0.length : Int) then (if 0 ≤ x7 then (spec_l1literal.j2 k x0 x1 x6 x7 ((rd x0 x7) != 34)) else (none)) else (spec_l1literal.j2 k x0 x1 x6 x7 false)
def spec_l1literal.j2 : Nat → List Int → Int → List Int → Int → Bool → Option (List Int × Int)
 | 0, _, _, _, _, _ => none
 | k + 1, x0, x1, x6, x7, x33 => if x33 = true then (if 0 ≤ x7 then (if x7 < (x0.length : Int) then (if (rd x0 x7) = 10 then (some (([] : List Int), 0)) else (if (rd x0 x7) = 92 then ((spec_l1escape.f k x0 (wrap64 (x7 + 1))).bind fun bt144 => (if bt144.2 = 0 then (some (([] : List Int), 0)) else (if x6.length + bt144.1.length < 140737488355328 then (spec_l1literal.l0 k x0 x1 (x6 ++ bt144.1) (wrap64 (x7 + (wrap64 (1 + bt144.2))))) else (none)))) else (if x6.length < 140737488355328 then (spec_l1literal.l0 k x0 x1 (x6 ++ [rd x0 x7]) (wrap64 (x7 + 1))) else (none)))) else (none)) else (none)) else (if x7 ≥ (x0.length : Int) then (some (([] : List Int), 0)) else (some (x6, wrap64 ((wrap64 (x7 + 1)) - x1))))
end
def spec_l1literal.f (k : Nat) (l0 : List Int) (a1 : Int) : Option (List Int × Int) := if a1 ≥ (l0.length : Int) then (spec_l1literal.j0 k l0 a1 true) else (if 0 ≤ a1 then (if a1 < (l0.length : Int) then (spec_l1literal.j0 k l0 a1 ((rd l0 a1) != 34)) else (none)) else (none))
theorem spec_l1literal.mono_l : ∀ k, (∀ y0 y1 y2, LeO (spec_l1literal.j0 k y0 y1 y2) (spec_l1literal.j0 (k + 1) y0 y1 y2)) ∧ (∀ y0 y1 y2 y3, LeO (spec_l1literal.l0 k y0 y1 y2 y3) (spec_l1literal.l0 (k + 1) y0 y1 y2 y3)) ∧ (∀ y0 y1 y2 y3 y4, LeO (spec_l1literal.j2 k y0 y1 y2 y3 y4) (spec_l1literal.j2 (k + 1) y0 y1 y2 y3 y4))
 | 0 => ⟨fun _ _ _ r h => by simp [spec_l1literal.j0] at h, fun _ _ _ _ r h => by simp [spec_l1literal.l0] at h, fun _ _ _ _ _ r h => by simp [spec_l1literal.j2] at h⟩
 | k + 1 => by
  obtain ⟨ih0, ih1, ih2⟩ := spec_l1literal.mono_l k; refine ⟨?_, ?_, ?_⟩
  ·intro y0 y1 y2; unfold spec_l1literal.j0; have m1 := @spec_l1escape.mono; exact zm
  ·intro y0 y1 y2 y3; unfold spec_l1literal.l0; have m1 := @spec_l1escape.mono; exact zm
  ·intro y0 y1 y2 y3 y4; unfold spec_l1literal.j2; have m1 := @spec_l1escape.mono; exact zm
theorem spec_l1literal.mono : ∀ a0 a1 k, LeO (spec_l1literal.f k a0 a1) (spec_l1literal.f (k + 1) a0 a1) := by
 intro a0 a1 k; obtain ⟨ih0, ih1, ih2⟩ := spec_l1literal.mono_l k; unfold spec_l1literal.f; have m1 := @spec_l1escape.mono; exact zm
set_option maxHeartbeats 8000000 in
set_option maxRecDepth 100000 in
theorem spec_l1literal.calls (k : Nat) (A0 : Option Addr) (c0 : Nat) (l0 : List Int) (a1 : Int) (r1 : List Int) (r2 : Int) (w : World) (hr0 : Kd.C (Kd.int .u8) w A0 l0.length l0) (hc0 : l0.length ≤ c0) (h : spec_l1literal.f k l0 a1 = some (r1, r2)) :
  Calls Tryd.prog 11 #[.slice A0 l0.length c0, .int .i64 a1] w fun e w' => ∃ v0_ : Value, e = .returned (.tuple #[v0_, .int .i64 r2]) ∧ Kd.R (Kd.int .u8) 5 w' w.heap.size (fun _ => True) v0_ r1 ∧ Below w.heap.size w w' := by
 have HR0 := zA hr0; have HC0 := zA hc0; clear hr0 hc0; have HB := zA (Below.refl w.heap.size w); have H : (if a1 ≥ (l0.length : Int) then (spec_l1literal.j0 k l0 a1 true) else (if 0 ≤ a1 then (if a1 < (l0.length : Int) then (spec_l1literal.j0 k l0 a1 ((rd l0 a1) != 34)) else (none)) else (none))) = some (r1, r2) := h; clear h; have HC3 := zA H; clear H; go_enter Tryd.func11, Tryd.ntmps11
 go_upto_region 1 with (fail)
 go_cut [20] (fun v20 wc => ∃ (kq : Nat) (Bi : Bool), v20 = .bool Bi ∧ Aside0 (spec_l1literal.j0 kq l0 a1 Bi = some (r1, r2)) ∧ Aside0 (kq ≤ k) ∧ Aside0 (Below w.heap.size w wc))
 case first =>
  have H := HC3.out; clear HC3
  by_cases c4 : a1 ≥ (l0.length : Int)
  ·rw [if_pos c4] at H; have c4b0 : decide ((l0.length : Int) ≤ a1) = true := decide_eq_true c4; clear c4
   (first | rw [c4b0] | (simp only [i64_w, i32_w]; rw [c4b0]) | skip)
   have H' := zA H; clear H; go_wp2; go_meet
   case rel => exact ⟨_, (true), zr, H', ⟨by first | omega | exact Nat.le_refl _⟩, ⟨z_⟩⟩
  ·rw [if_neg c4] at H; have c4b0 : decide ((l0.length : Int) ≤ a1) = false := decide_eq_false c4; clear c4
   (first | rw [c4b0] | (simp only [i64_w, i32_w]; rw [c4b0]) | skip)
   by_cases c5 : 0 ≤ a1
   ·rw [if_pos c5] at H; have c5b0 := decide_eq_true c5; clear c5
    by_cases c6 : a1 < (l0.length : Int)
    ·rw [if_pos c6] at H; have c6b0 := decide_eq_true c6; clear c6; have H' := zA H; clear H; have p140 := zt (0 ≤ (a1 : Int)); have q140 := zt (a1 < (l0.length : Int)); obtain ⟨Bq, e140, haa⟩ := Kd.at_int HR0.out a1 zd zd; cases e140; replace haa := zx HB.out haa; go_wp2; go_meet
     case rel => exact ⟨_, (((rd l0 a1) != 34)), zr, H', ⟨by first | omega | exact Nat.le_refl _⟩, ⟨z_⟩⟩
    ·rw [if_neg c6] at H; exact absurd H (by simp)
   ·rw [if_neg c5] at H; exact absurd H (by simp)
 case rest =>
  clear HC3; (try clear c1); (try clear c4); (try clear c4b0); (try clear c5); (try clear c5b0); (try clear c6); (try clear c6b0); (try clear haa); (try clear p140); (try clear q140); obtain ⟨kq, Bi, rfl, HA, HJ2, HB⟩ := hcut; cases kq with
  | zero => exact absurd HA.out (by simp [spec_l1literal.j0])
  | succ kj2 =>
   have H := HA.out; clear HA; simp only [spec_l1literal.j0] at H
   by_cases c7 : Bi = true
   ·subst c7; have H1 : (some (([] : List Int), 0)) = some (r1, r2) := by rw [if_pos rfl] at H; exact H
    clear H; have H := H1; clear H1; simp only [Option.some.injEq, Prod.mk.injEq] at H; obtain ⟨rfl, rfl⟩ := H; go_wp2; go_ret2; exact ⟨_, ze, by first | exact Kd.R_nil _ _ _ _ _ | exact Kd.N_nil _ _ _ _ _ | exact Kd.V_nil _ _ _ _ _ | exact Kd.Q_nil _ _ _ _ _ | exact Kd.S_nil _ _ _ _ _, z_⟩
   ·replace c7 := Bool.eq_false_iff.mpr c7; subst c7; have H1 : (spec_l1literal.l0 kj2 l0 a1 ([] : List Int) (wrap64 (a1 + 1))) = some (r1, r2) := by rw [if_neg (show ¬ (false = true) by decide)] at H; exact H
    clear H; have H := H1; clear H1; have H' := zA H; clear H; go_wp2
    go_loopg [6, 7] kj2 (fun kq v6 v7 w' => ∃ (Bb : List Int) (Ba : Int), v7 = .int .i64 Ba ∧ Aside0 (spec_l1literal.l0 kq l0 a1 Bb Ba = some (r1, r2)) ∧ Aside0 (kq ≤ kj2) ∧ Aside0 (Kd.R (Kd.int .u8) 5 w' w.heap.size (fun _ => True) v6 Bb) ∧ Aside0 (Below w.heap.size w w'))
    case atStart => exact ⟨(([] : List Int)), (wrap64 (a1 + 1)), zr, H', ⟨Nat.le_refl _⟩, ⟨by first | exact Kd.R_nil _ _ _ _ _ | exact Kd.N_nil _ _ _ _ _ | exact Kd.V_nil _ _ _ _ _ | exact Kd.Q_nil _ _ _ _ _ | exact Kd.S_nil _ _ _ _ _⟩, ⟨z_⟩⟩
    case round =>
     clear H'; (try clear c1); (try clear c4); (try clear c4b0); (try clear c5); (try clear c5b0); (try clear c6); (try clear c6b0); (try clear c7); (try clear haa); (try clear p140); (try clear q140); obtain ⟨Bb, Ba, rfl, HA, HK2, Bc, HB⟩ := hrel; cases gk with
     | zero => exact absurd HA.out (by simp [spec_l1literal.l0])
     | succ k2 =>
      have H := HA.out; clear HA; simp only [spec_l1literal.l0] at H; have HC8 := zA H; clear H
      go_upto_region 5 with (fail)
      go_cut [33] (fun v33 wc => ∃ (kq : Nat) (Bj : Bool), v33 = .bool Bj ∧ Aside0 (spec_l1literal.j2 kq l0 a1 Bb Ba Bj = some (r1, r2)) ∧ Aside0 (kq ≤ k2) ∧ Aside0 (Kd.R (Kd.int .u8) 5 wc w.heap.size (fun _ => True) u6 Bb) ∧ Aside0 (Below w.heap.size w wc))
      case first =>
       have H := HC8.out; clear HC8
       by_cases c9 : Ba < (l0.length : Int)
       ·rw [if_pos c9] at H; have c9b0 := decide_eq_true c9; clear c9
        (first | rw [c9b0] | (simp only [i64_w, i32_w]; rw [c9b0]) | skip)
        by_cases c10 : 0 ≤ Ba
        ·rw [if_pos c10] at H; have c10b0 := decide_eq_true c10; clear c10; have H' := zA H; clear H; have p141 := zt (0 ≤ (Ba : Int)); have q141 := zt (Ba < (l0.length : Int)); obtain ⟨Br, e141, hab⟩ := Kd.at_int HR0.out Ba zd zd; cases e141; replace hab := zx HB.out hab; go_wp2; go_meet
         case rel => exact ⟨_, (((rd l0 Ba) != 34)), zr, H', ⟨by have := HJ2.out; have := HK2.out; first | omega | exact Nat.le_refl _⟩, ⟨zR Bc.out⟩, ⟨z_⟩⟩
        ·rw [if_neg c10] at H; exact absurd H (by simp)
       ·rw [if_neg c9] at H; have c9b0 := decide_eq_false c9; clear c9
        (first | rw [c9b0] | (simp only [i64_w, i32_w]; rw [c9b0]) | skip)
        have H' := zA H; clear H; go_wp2; go_meet
        case rel => exact ⟨_, (false), zr, H', ⟨by have := HJ2.out; have := HK2.out; first | omega | exact Nat.le_refl _⟩, ⟨zR Bc.out⟩, ⟨z_⟩⟩
      case rest =>
       clear HC8; (try clear c1); (try clear c4); (try clear c4b0); (try clear c5); (try clear c5b0); (try clear c6); (try clear c6b0); (try clear c7); (try clear c9); (try clear c9b0); (try clear c10); (try clear c10b0); (try clear haa); (try clear hab); (try clear p140); (try clear p141); (try clear q140); (try clear q141); obtain ⟨kq, Bj, rfl, HA, HJ7, Bc, HB⟩ := hcut; cases kq with
       | zero => exact absurd HA.out (by simp [spec_l1literal.j2])
       | succ kj7 =>
        have H := HA.out; clear HA; simp only [spec_l1literal.j2] at H
        by_cases c11 : Bj = true
        ·subst c11; have H1 : (if 0 ≤ Ba then (if Ba < (l0.length : Int) then (if (rd l0 Ba) = 10 then (some (([] : List Int), 0)) else (if (rd l0 Ba) = 92 then ((spec_l1escape.f kj7 l0 (wrap64 (Ba + 1))).bind fun bt144 => (if bt144.2 = 0 then (some (([] : List Int), 0)) else (if Bb.length + bt144.1.length < 140737488355328 then (spec_l1literal.l0 kj7 l0 a1 (Bb ++ bt144.1) (wrap64 (Ba + (wrap64 (1 + bt144.2))))) else (none)))) else (if Bb.length < 140737488355328 then (spec_l1literal.l0 kj7 l0 a1 (Bb ++ [rd l0 Ba]) (wrap64 (Ba + 1))) else (none)))) else (none)) else (none)) = some (r1, r2) := by rw [if_pos rfl] at H; exact H
         clear H; have H := H1; clear H1
         by_cases c12 : 0 ≤ Ba
         ·rw [if_pos c12] at H; have c12b0 := decide_eq_true c12; clear c12
          by_cases c13 : Ba < (l0.length : Int)
          ·rw [if_pos c13] at H; have c13b0 := decide_eq_true c13; clear c13
           by_cases c14 : (rd l0 Ba) = 10
           ·rw [if_pos c14] at H; have c14b0 := beq_iff_eq.mpr c14; have c14b1 := bne_eq_false_iff_eq.mpr c14; clear c14; simp only [Option.some.injEq, Prod.mk.injEq] at H; obtain ⟨rfl, rfl⟩ := H; have p142 : 0 ≤ (Ba : Int) := zd; have q142 : Ba < (l0.length : Int) := zd; obtain ⟨Bd, e142, hac⟩ := Kd.at_int HR0.out Ba p142 q142; cases e142; replace hac := zx HB.out hac; replace p142 := eq_true p142; replace q142 := eq_true q142; go_wp2; go_ret2; exact ⟨_, ze, by first | exact Kd.R_nil _ _ _ _ _ | exact Kd.N_nil _ _ _ _ _ | exact Kd.V_nil _ _ _ _ _ | exact Kd.Q_nil _ _ _ _ _ | exact Kd.S_nil _ _ _ _ _, z_⟩
           ·rw [if_neg c14] at H; have c14b0 := beq_eq_false_iff_ne.mpr c14; have c14b1 := bne_iff_ne.mpr c14
            by_cases c15 : (rd l0 Ba) = 92
            ·rw [if_pos c15] at H; have c15b0 := beq_iff_eq.mpr c15; have c15b1 := bne_eq_false_iff_eq.mpr c15; clear c15; replace H := Option.bind_eq_some_iff.mp H; obtain ⟨⟨Bg, Bh⟩, A160, H⟩ := H; replace H : (if Bh = 0 then (some (([] : List Int), 0)) else (if Bb.length + Bg.length < 140737488355328 then (spec_l1literal.l0 kj7 l0 a1 (Bb ++ Bg) (wrap64 (Ba + (wrap64 (1 + Bh))))) else (none))) = some (r1, r2) := H; have A16 := zA A160; clear A160
             by_cases c17 : Bh = 0
             ·rw [if_pos c17] at H; have c17b0 := beq_iff_eq.mpr c17; have c17b1 := bne_eq_false_iff_eq.mpr c17; clear c17; simp only [Option.some.injEq, Prod.mk.injEq] at H; obtain ⟨rfl, rfl⟩ := H; have p142 : 0 ≤ (Ba : Int) := zd; have q142 : Ba < (l0.length : Int) := zd; obtain ⟨Bd, e142, hac⟩ := Kd.at_int HR0.out Ba p142 q142; cases e142; replace hac := zx HB.out hac; replace p142 := eq_true p142; replace q142 := eq_true q142; have p143 : 0 ≤ (Ba : Int) := zd; have q143 : Ba < (l0.length : Int) := zd; obtain ⟨Bf, e143, had⟩ := Kd.at_int HR0.out Ba p143 q143; obtain rfl : Bd = Bf := (by injection e143); replace had := zx HB.out had; replace p143 := eq_true p143; replace q143 := eq_true q143; go_wp2_with (first | ((with_reducible refine gate_callee (f := 15) rfl ?_); refine goesL_ (some 48) rfl rfl Tryd.func15 (by kernel_rfl) rfl #[.slice (some Bd) l0.length c0, .int .i64 (wrap64 (Ba + 1))] rfl za ?_; (with_reducible refine (spec_l1escape.calls kj7 _ _ l0 (wrap64 (Ba + 1)) Bg Bh _ ?s1 ?s2 A16.out).mono ?_); (case s1 => exact zc (Kd.C_below HR0.out HB.out)); (case s2 => exact HC0.out); rintro e w18 ⟨v146, rfl, ho0, hb⟩; refine ⟨_, rfl, ?_⟩; have Be := zA (Kd.R_lower (Kd.R_new' ho0 (zl Bc.out)) (below_size z_)); replace Bc := zA (Kd.R_elder' (zR Bc.out) (Kd.R_base ho0) hb); replace HB := zA (below_step z_ hb); (try clear hb); (try clear ho0))); go_ret2; exact ⟨_, ze, by first | exact Kd.R_nil _ _ _ _ _ | exact Kd.N_nil _ _ _ _ _ | exact Kd.V_nil _ _ _ _ _ | exact Kd.Q_nil _ _ _ _ _ | exact Kd.S_nil _ _ _ _ _, z_⟩
             ·rw [if_neg c17] at H; have c17b0 := beq_eq_false_iff_ne.mpr c17; have c17b1 := bne_iff_ne.mpr c17
              by_cases c19 : Bb.length + Bg.length < 140737488355328
              ·rw [if_pos c19] at H; have LMc19 := zA c19; clear c19; obtain ⟨y148, hy148⟩ : ∃ y_ : List Int, y_ = (Bb ++ Bg) := ⟨_, rfl⟩; replace H : (spec_l1literal.l0 kj7 l0 a1 y148 (wrap64 (Ba + (wrap64 (1 + Bh))))) = some (r1, r2) := zh hy148; have Ny148 := zA hy148; clear hy148; have H' := zA H; clear H; have p142 : 0 ≤ (Ba : Int) := zd; have q142 : Ba < (l0.length : Int) := zd; obtain ⟨Bd, e142, hac⟩ := Kd.at_int HR0.out Ba p142 q142; cases e142; replace hac := zx HB.out hac; replace p142 := eq_true p142; replace q142 := eq_true q142; have p143 : 0 ≤ (Ba : Int) := zd; have q143 : Ba < (l0.length : Int) := zd; obtain ⟨Bf, e143, had⟩ := Kd.at_int HR0.out Ba p143 q143; obtain rfl : Bd = Bf := (by injection e143); replace had := zx HB.out had; replace p143 := eq_true p143; replace q143 := eq_true q143; go_wp2_with (first | ((with_reducible refine gate_callee (f := 15) rfl ?_); refine goesL_ (some 48) rfl rfl Tryd.func15 (by kernel_rfl) rfl #[.slice (some Bd) l0.length c0, .int .i64 (wrap64 (Ba + 1))] rfl za ?_; (with_reducible refine (spec_l1escape.calls kj7 _ _ l0 (wrap64 (Ba + 1)) Bg Bh _ ?s1 ?s2 A16.out).mono ?_); (case s1 => exact zc (Kd.C_below HR0.out HB.out)); (case s2 => exact HC0.out); rintro e w20 ⟨v146, rfl, ho0, hb⟩; refine ⟨_, rfl, ?_⟩; have Be := zA (Kd.R_lower (Kd.R_new' ho0 (zl Bc.out)) (below_size z_)); replace Bc := zA (Kd.R_elder' (zR Bc.out) (Kd.R_base ho0) hb); replace HB := zA (below_step z_ hb); (try clear hb); (try clear ho0); obtain ⟨Bn, Bo, Bp⟩ := Kd.R_slice Be.out; subst Bp) | ((with_reducible refine gate_builtin (b := .append) (xs := #[.tmp 53, .tmp 54]) rfl ?_); at_builtin; refine Kd.R_append_rows (Kd.int .u8) (w0 := w) w.heap.size rfl (.tmp 53) (.tmp 54) 22 5 (.int .u8 0) 1 rfl Tryd.underlying22 info5 rfl (by decide) (by omega) u6 Bb Bg _ _ _ (fun k_ => zO k_ (.slice Bn Bg.length Bo)) (fun _ => False) rfl rfl ?aO ?aR (fun _ _ h => h) (fun _ h => h.elim) ?aF ?aB ?aS ?aL ?_; (case aR => exact zPR Be.out); (case aB => exact z_); (case aF => exact (fun k_ hk => Kd.fresh' (zl Be.out) k_ hk)); (case aO => exact (by (with_reducible repeat (first | apply Kd.R_alloc | apply Kd.R_drewN | apply Kd.R_drew)); exact Kd.R_mono Bc.out (fun _ hk => hk.2))); (case aS => exact (below_size z_)); (case aL => have := LMc19.out; omega); intro v149 w21 ho hb hg hat; rw [← Ny148.out] at ho; replace Be := zA (Kd.R_after (ok := (fun _ => True)) (zR Be.out) hg hat); replace HB := zA (hb); have Bk := zA (ho); clear Bc; clear ho hb hg hat))
               go_roundg kj7
               case measure => have := HJ2.out; have := HK2.out; have := HJ7.out; omega
               case rel => exact ⟨(y148), (wrap64 (Ba + (wrap64 (1 + Bh)))), zr, H', ⟨by have := HJ2.out; have := HK2.out; have := HJ7.out; omega⟩, ⟨zo Bk.out (fun _ hk => trivial)⟩, ⟨z_⟩⟩
              ·rw [if_neg c19] at H; exact absurd H (by simp)
            ·rw [if_neg c15] at H; have c15b0 := beq_eq_false_iff_ne.mpr c15; have c15b1 := bne_iff_ne.mpr c15
             by_cases c23 : Bb.length < 140737488355328
             ·rw [if_pos c23] at H; have LMc23 := zA c23; clear c23; obtain ⟨y152, hy152⟩ : ∃ y_ : List Int, y_ = (Bb ++ [rd l0 Ba]) := ⟨_, rfl⟩; replace H : (spec_l1literal.l0 kj7 l0 a1 y152 (wrap64 (Ba + 1))) = some (r1, r2) := zh hy152; have Ny152 := zA hy152; clear hy152; have H' := zA H; clear H; have p142 : 0 ≤ (Ba : Int) := zd; have q142 : Ba < (l0.length : Int) := zd; obtain ⟨Bd, e142, hac⟩ := Kd.at_int HR0.out Ba p142 q142; cases e142; replace hac := zx HB.out hac; replace p142 := eq_true p142; replace q142 := eq_true q142; have p143 : 0 ≤ (Ba : Int) := zd; have q143 : Ba < (l0.length : Int) := zd; obtain ⟨Bf, e143, had⟩ := Kd.at_int HR0.out Ba p143 q143; obtain rfl : Bd = Bf := (by injection e143); replace had := zx HB.out had; replace p143 := eq_true p143; replace q143 := eq_true q143; have p151 : 0 ≤ (Ba : Int) := zd; have q151 : Ba < (l0.length : Int) := zd; obtain ⟨Bm, e151, hae⟩ := Kd.at_int HR0.out Ba p151 q151; obtain rfl : Bd = Bm := (by injection e151); replace hae := zx HB.out hae; replace p151 := eq_true p151; replace q151 := eq_true q151; go_wp2_with (first | ((with_reducible refine gate_builtin (b := .append) (xs := #[.tmp 60, .tmp 65]) rfl ?_); at_builtin; refine Kd.R_append (Kd.int .u8) (w0 := w) w.heap.size rfl (.tmp 60) (.tmp 65) 22 5 (.int .u8 0) 1 rfl Tryd.underlying22 info5 rfl (by decide) (by omega) u6 Bb (rd l0 Ba) [.int .u8 (rd l0 Ba)] (fun _ => True) (fun _ => False) rfl rfl ?aP (fun _ hk => hk.elim) ?aF ?aO ?aB ?aS ?aL ?_; (case aP => exact rfl); (case aB => exact z_); (case aF => exact (fun _ _ => trivial)); (case aO => exact (zR Bc.out)); (case aS => exact (below_size z_)); (case aL => have := LMc23.out; omega); intro v153 w24 ho hb hg hat; rw [← Ny152.out] at ho; replace HB := zA (hb); have Bl := zA (ho); clear Bc; clear ho hb hg hat))
              go_roundg kj7
              case measure => have := HJ2.out; have := HK2.out; have := HJ7.out; omega
              case rel => exact ⟨(y152), (wrap64 (Ba + 1)), zr, H', ⟨by have := HJ2.out; have := HK2.out; have := HJ7.out; omega⟩, ⟨zR Bl.out⟩, ⟨z_⟩⟩
             ·rw [if_neg c23] at H; exact absurd H (by simp)
          ·rw [if_neg c13] at H; exact absurd H (by simp)
         ·rw [if_neg c12] at H; exact absurd H (by simp)
        ·replace c11 := Bool.eq_false_iff.mpr c11; subst c11; have H1 : (if Ba ≥ (l0.length : Int) then (some (([] : List Int), 0)) else (some (Bb, wrap64 ((wrap64 (Ba + 1)) - a1)))) = some (r1, r2) := by rw [if_neg (show ¬ (false = true) by decide)] at H; exact H
         clear H; have H := H1; clear H1
         by_cases c25 : Ba ≥ (l0.length : Int)
         ·rw [if_pos c25] at H; have c25b0 : decide ((l0.length : Int) ≤ Ba) = true := decide_eq_true c25; clear c25; simp only [Option.some.injEq, Prod.mk.injEq] at H; obtain ⟨rfl, rfl⟩ := H; go_wp2; go_ret2; exact ⟨_, ze, by first | exact Kd.R_nil _ _ _ _ _ | exact Kd.N_nil _ _ _ _ _ | exact Kd.V_nil _ _ _ _ _ | exact Kd.Q_nil _ _ _ _ _ | exact Kd.S_nil _ _ _ _ _, z_⟩
         ·rw [if_neg c25] at H; have c25b0 : decide ((l0.length : Int) ≤ Ba) = false := decide_eq_false c25; clear c25; simp only [Option.some.injEq, Prod.mk.injEq] at H; obtain ⟨rfl, rfl⟩ := H; go_wp2; go_ret2; exact ⟨_, ze, by (with_reducible repeat (first | apply Kd.R_alloc | apply Kd.R_drewN | apply Kd.R_drew)); exact Bc.out, z_⟩

/-! ### spec_UnquoteText: function 4 -/
def spec_UnquoteText.f (k : Nat) (l0 : List Int) : Option (List Int × Int) := (spec_l1good.f k l0).bind fun Bb => (if Bb = true then ((spec_l1literal.f k l0 0).bind fun bt156 => (if bt156.2 = 0 then (some (([] : List Int), 2)) else (if bt156.2 = (l0.length : Int) then (some (bt156.1, 0)) else (some (([] : List Int), 2))))) else (some (([] : List Int), 2)))
theorem spec_UnquoteText.mono : ∀ a0 k, LeO (spec_UnquoteText.f k a0) (spec_UnquoteText.f (k + 1) a0) := by
 intro a0 k; unfold spec_UnquoteText.f; have m1 := @spec_l1good.mono; have m2 := @spec_l1literal.mono; exact zm
set_option maxHeartbeats 8000000 in
set_option maxRecDepth 100000 in
theorem spec_UnquoteText.calls (k : Nat) (A0 : Option Addr) (c0 : Nat) (l0 : List Int) (r1 : List Int) (r2 : Int) (w : World) (hr0 : Kd.C (Kd.int .u8) w A0 l0.length l0) (hc0 : l0.length ≤ c0) (h : spec_UnquoteText.f k l0 = some (r1, r2)) :
  Calls Tryd.prog 4 #[.slice A0 l0.length c0] w fun e w' => ∃ v0_ : Value, e = .returned (.tuple #[v0_, .int .i64 r2]) ∧ Kd.R (Kd.int .u8) 5 w' w.heap.size (fun _ => True) v0_ r1 ∧ Below w.heap.size w w' := by
 have HR0 := zA hr0; have HC0 := zA hc0; clear hr0 hc0; have HB := zA (Below.refl w.heap.size w); have H : ((spec_l1good.f k l0).bind fun Bb => (if Bb = true then ((spec_l1literal.f k l0 0).bind fun bt156 => (if bt156.2 = 0 then (some (([] : List Int), 2)) else (if bt156.2 = (l0.length : Int) then (some (bt156.1, 0)) else (some (([] : List Int), 2))))) else (some (([] : List Int), 2)))) = some (r1, r2) := h; clear h; replace H := Option.bind_eq_some_iff.mp H; obtain ⟨Bb, A20, H⟩ := H; replace H : (if Bb = true then ((spec_l1literal.f k l0 0).bind fun bt156 => (if bt156.2 = 0 then (some (([] : List Int), 2)) else (if bt156.2 = (l0.length : Int) then (some (bt156.1, 0)) else (some (([] : List Int), 2))))) else (some (([] : List Int), 2))) = some (r1, r2) := H; have A2 := zA A20; clear A20
 by_cases c3 : Bb = true
 ·subst c3; have H1 : ((spec_l1literal.f k l0 0).bind fun bt156 => (if bt156.2 = 0 then (some (([] : List Int), 2)) else (if bt156.2 = (l0.length : Int) then (some (bt156.1, 0)) else (some (([] : List Int), 2))))) = some (r1, r2) := by rw [if_pos rfl] at H; exact H
  clear H; have H := H1; clear H1; replace H := Option.bind_eq_some_iff.mp H; obtain ⟨⟨Bd, Ba⟩, A40, H⟩ := H; replace H : (if Ba = 0 then (some (([] : List Int), 2)) else (if Ba = (l0.length : Int) then (some (Bd, 0)) else (some (([] : List Int), 2)))) = some (r1, r2) := H; have A4 := zA A40; clear A40
  by_cases c5 : Ba = 0
  ·rw [if_pos c5] at H; have c5b0 := beq_iff_eq.mpr c5; have c5b1 := bne_eq_false_iff_eq.mpr c5; clear c5; simp only [Option.some.injEq, Prod.mk.injEq] at H; obtain ⟨rfl, rfl⟩ := H; go_enter Tryd.func4, Tryd.ntmps4; go_wp2_with (first | ((with_reducible refine gate_callee (f := 10) rfl ?_); refine goesL_ (some 7) rfl rfl Tryd.func10 (by kernel_rfl) rfl #[.slice A0 l0.length c0] rfl za ?_; (with_reducible refine (spec_l1good.calls k _ _ l0 true _ ?s1 ?s2 A2.out).mono ?_); (case s1 => exact zc (HR0.out)); (case s2 => exact HC0.out); rintro e w6 ⟨rfl, hb⟩; refine ⟨_, rfl, ?_⟩; replace HB := zA (below_step z_ hb); (try clear hb)) | ((with_reducible refine gate_callee (f := 11) rfl ?_); refine goesL_ (some 11) rfl rfl Tryd.func11 (by kernel_rfl) rfl #[.slice A0 l0.length c0, .int .i64 0] rfl za ?_; (with_reducible refine (spec_l1literal.calls k _ _ l0 0 Bd Ba _ ?s1 ?s2 A4.out).mono ?_); (case s1 => exact zc (Kd.C_below HR0.out HB.out)); (case s2 => exact HC0.out); rintro e w7 ⟨v158, rfl, ho0, hb⟩; refine ⟨_, rfl, ?_⟩; have Bc := zA (Kd.R_lower ho0 (below_size z_)); replace HB := zA (below_step z_ hb); (try clear hb); (try clear ho0))); go_ret2; exact ⟨_, ze, by first | exact Kd.R_nil _ _ _ _ _ | exact Kd.N_nil _ _ _ _ _ | exact Kd.V_nil _ _ _ _ _ | exact Kd.Q_nil _ _ _ _ _ | exact Kd.S_nil _ _ _ _ _, z_⟩
  ·rw [if_neg c5] at H; have c5b0 := beq_eq_false_iff_ne.mpr c5; have c5b1 := bne_iff_ne.mpr c5
   by_cases c8 : Ba = (l0.length : Int)
   ·rw [if_pos c8] at H; have c8b0 := beq_iff_eq.mpr c8; have c8b1 := bne_eq_false_iff_eq.mpr c8; clear c8; simp only [Option.some.injEq, Prod.mk.injEq] at H; obtain ⟨rfl, rfl⟩ := H; go_enter Tryd.func4, Tryd.ntmps4; go_wp2_with (first | ((with_reducible refine gate_callee (f := 10) rfl ?_); refine goesL_ (some 7) rfl rfl Tryd.func10 (by kernel_rfl) rfl #[.slice A0 l0.length c0] rfl za ?_; (with_reducible refine (spec_l1good.calls k _ _ l0 true _ ?s1 ?s2 A2.out).mono ?_); (case s1 => exact zc (HR0.out)); (case s2 => exact HC0.out); rintro e w9 ⟨rfl, hb⟩; refine ⟨_, rfl, ?_⟩; replace HB := zA (below_step z_ hb); (try clear hb)) | ((with_reducible refine gate_callee (f := 11) rfl ?_); refine goesL_ (some 11) rfl rfl Tryd.func11 (by kernel_rfl) rfl #[.slice A0 l0.length c0, .int .i64 0] rfl za ?_; (with_reducible refine (spec_l1literal.calls k _ _ l0 0 Bd Ba _ ?s1 ?s2 A4.out).mono ?_); (case s1 => exact zc (Kd.C_below HR0.out HB.out)); (case s2 => exact HC0.out); rintro e w10 ⟨v158, rfl, ho0, hb⟩; refine ⟨_, rfl, ?_⟩; have Bc := zA (Kd.R_lower ho0 (below_size z_)); replace HB := zA (below_step z_ hb); (try clear hb); (try clear ho0))); go_ret2; exact ⟨_, ze, by (with_reducible repeat (first | apply Kd.R_alloc | apply Kd.R_drewN | apply Kd.R_drew)); exact Bc.out, z_⟩
   ·rw [if_neg c8] at H; have c8b0 := beq_eq_false_iff_ne.mpr c8; have c8b1 := bne_iff_ne.mpr c8; simp only [Option.some.injEq, Prod.mk.injEq] at H; obtain ⟨rfl, rfl⟩ := H; go_enter Tryd.func4, Tryd.ntmps4; go_wp2_with (first | ((with_reducible refine gate_callee (f := 10) rfl ?_); refine goesL_ (some 7) rfl rfl Tryd.func10 (by kernel_rfl) rfl #[.slice A0 l0.length c0] rfl za ?_; (with_reducible refine (spec_l1good.calls k _ _ l0 true _ ?s1 ?s2 A2.out).mono ?_); (case s1 => exact zc (HR0.out)); (case s2 => exact HC0.out); rintro e w11 ⟨rfl, hb⟩; refine ⟨_, rfl, ?_⟩; replace HB := zA (below_step z_ hb); (try clear hb)) | ((with_reducible refine gate_callee (f := 11) rfl ?_); refine goesL_ (some 11) rfl rfl Tryd.func11 (by kernel_rfl) rfl #[.slice A0 l0.length c0, .int .i64 0] rfl za ?_; (with_reducible refine (spec_l1literal.calls k _ _ l0 0 Bd Ba _ ?s1 ?s2 A4.out).mono ?_); (case s1 => exact zc (Kd.C_below HR0.out HB.out)); (case s2 => exact HC0.out); rintro e w12 ⟨v158, rfl, ho0, hb⟩; refine ⟨_, rfl, ?_⟩; have Bc := zA (Kd.R_lower ho0 (below_size z_)); replace HB := zA (below_step z_ hb); (try clear hb); (try clear ho0))); go_ret2; exact ⟨_, ze, by first | exact Kd.R_nil _ _ _ _ _ | exact Kd.N_nil _ _ _ _ _ | exact Kd.V_nil _ _ _ _ _ | exact Kd.Q_nil _ _ _ _ _ | exact Kd.S_nil _ _ _ _ _, z_⟩
 ·replace c3 := Bool.eq_false_iff.mpr c3; subst c3; have H1 : (some (([] : List Int), 2)) = some (r1, r2) := by rw [if_neg (show ¬ (false = true) by decide)] at H; exact H
  clear H; have H := H1; clear H1; simp only [Option.some.injEq, Prod.mk.injEq] at H; obtain ⟨rfl, rfl⟩ := H; go_enter Tryd.func4, Tryd.ntmps4; go_wp2_with (first | ((with_reducible refine gate_callee (f := 10) rfl ?_); refine goesL_ (some 7) rfl rfl Tryd.func10 (by kernel_rfl) rfl #[.slice A0 l0.length c0] rfl za ?_; (with_reducible refine (spec_l1good.calls k _ _ l0 false _ ?s1 ?s2 A2.out).mono ?_); (case s1 => exact zc (HR0.out)); (case s2 => exact HC0.out); rintro e w13 ⟨rfl, hb⟩; refine ⟨_, rfl, ?_⟩; replace HB := zA (below_step z_ hb); (try clear hb))); go_ret2; exact ⟨_, ze, by first | exact Kd.R_nil _ _ _ _ _ | exact Kd.N_nil _ _ _ _ _ | exact Kd.V_nil _ _ _ _ _ | exact Kd.Q_nil _ _ _ _ _ | exact Kd.S_nil _ _ _ _ _, z_⟩

/-! ### laws_toByteS: function 5 -/
def laws_toByteS.l0 : Nat → List Int → List Int → Int → Option (List Int)
 | 0, _, _, _ => none
 | k + 1, x0, x3, x4 => if x4 < (x0.length : Int) then (if 0 ≤ x4 then (if x4 < (x3.length : Int) then (laws_toByteS.l0 k x0 (x3.set (x4 : Int).toNat (rd x0 x4)) (wrap64 (x4 + 1))) else (none)) else (none)) else (some x3)
def laws_toByteS.f (k : Nat) (l0 : List Int) : Option (List Int) := if 0 ≤ (l0.length : Int) then (if ((l0.length : Int) : Int).toNat ≤ 281474976710656 then (laws_toByteS.l0 k l0 (List.replicate ((l0.length : Int) : Int).toNat 0) 0) else (none)) else (none)
theorem laws_toByteS.mono_l : ∀ k, (∀ y0 y1 y2, LeO (laws_toByteS.l0 k y0 y1 y2) (laws_toByteS.l0 (k + 1) y0 y1 y2))
 | 0 => fun _ _ _ r h => by simp [laws_toByteS.l0] at h
 | k + 1 => by
  have ih0 := laws_toByteS.mono_l k
  ·intro y0 y1 y2; unfold laws_toByteS.l0; exact zm
theorem laws_toByteS.mono : ∀ a0 k, LeO (laws_toByteS.f k a0) (laws_toByteS.f (k + 1) a0) := by
 intro a0 k; have ih0 := laws_toByteS.mono_l k; unfold laws_toByteS.f; exact zm
set_option maxHeartbeats 8000000 in
set_option maxRecDepth 100000 in
theorem laws_toByteS.calls (k : Nat) (A0 : Option Addr) (c0 : Nat) (l0 : List Int) (r : List Int) (w : World) (hr0 : Kd.C (Kd.int .u8) w A0 l0.length l0) (hc0 : l0.length ≤ c0) (h : laws_toByteS.f k l0 = some r) :
  Calls Tryd.prog 5 #[.slice A0 l0.length c0] w fun e w' => ∃ v0_ : Value, e = .returned (v0_) ∧ Kd.R (Kd.int .u8) 5 w' w.heap.size (fun _ => True) v0_ r ∧ Below w.heap.size w w' := by
 have HR0 := zA hr0; have HC0 := zA hc0; clear hr0 hc0; have HB := zA (Below.refl w.heap.size w); have H : (if 0 ≤ (l0.length : Int) then (if ((l0.length : Int) : Int).toNat ≤ 281474976710656 then (laws_toByteS.l0 k l0 (List.replicate ((l0.length : Int) : Int).toNat 0) 0) else (none)) else (none)) = some r := h; clear h
 by_cases c2 : 0 ≤ (l0.length : Int)
 ·rw [if_pos c2] at H; have c2b0 := eq_true c2; have c2b1 := decide_eq_true c2; clear c2
  by_cases c3 : ((l0.length : Int) : Int).toNat ≤ 281474976710656
  ·rw [if_pos c3] at H; have c3b0 := eq_true c3; have c3b1 := decide_eq_true c3; clear c3; obtain ⟨y160, hy160⟩ : ∃ y_ : List Int, y_ = (List.replicate ((l0.length : Int) : Int).toNat 0) := ⟨_, rfl⟩; replace H : (laws_toByteS.l0 k l0 y160 0) = some r := zh hy160; have Ny160 := zA hy160; clear hy160; have H' := zA H; clear H; go_enter Tryd.func5, Tryd.ntmps5; go_wp2_with (first | ((with_reducible refine gate_dst (N := 7) rfl ?_); refine Kd.R_make (Kd.int .u8) _ 5 rfl (N := 7) rfl 22 _ _ rfl (l0.length : Int) rfl rfl Tryd.underlying22 (.int .u8 0) 1 info5 rfl (by decide) (by omega) 0 (ok := fun _ => True) (okp := fun _ => True) rfl (fun _ hk => hk) trivial (zd) (Nat.le_trans (Nat.mul_le_mul_right _ (zd : (l0.length : Int).toNat ≤ 281474976710656)) (by omega)) (Below.refl _ _) (Nat.le_refl _) ?_; intro v161 w4 ho5 hb hg_ hnew_; clear hg_ hnew_; (first | rw [← Ny160.out] at ho5 | (simp only [Int.reduceToNat] at ho5; rw [← Ny160.out] at ho5)); have Bd := zA (Kd.R_lower ho5 (below_size z_)); replace HB := zA (below_step z_ hb); clear hb ho5))
   go_loopg [4] k (fun kq v4 w' => ∃ (Bb : List Int) (Ba : Int), v4 = .int .i64 Ba ∧ Aside0 (laws_toByteS.l0 kq l0 Bb Ba = some r) ∧ Aside0 (kq ≤ k) ∧ Aside0 (Kd.R (Kd.int .u8) 5 w' w.heap.size (fun _ => True) v161 Bb) ∧ Aside0 (Below w.heap.size w w'))
   case atStart => exact ⟨(y160), (0), zr, H', ⟨Nat.le_refl _⟩, ⟨zR Bd.out⟩, ⟨z_⟩⟩
   case round =>
    clear H'; (try clear c2); (try clear c2b0); (try clear c2b1); (try clear c3); (try clear c3b0); (try clear c3b1); obtain ⟨Bb, Ba, rfl, HA, HK1, Bc, HB⟩ := hrel; cases gk with
    | zero => exact absurd HA.out (by simp [laws_toByteS.l0])
    | succ k1 =>
     have H := HA.out; clear HA; simp only [laws_toByteS.l0] at H
     by_cases c6 : Ba < (l0.length : Int)
     ·rw [if_pos c6] at H; have c6b0 := decide_eq_true c6; clear c6
      by_cases c7 : 0 ≤ Ba
      ·rw [if_pos c7] at H; have c7b0 := decide_eq_true c7; clear c7
       by_cases c8 : Ba < (Bb.length : Int)
       ·rw [if_pos c8] at H; have c8b0 := decide_eq_true c8; clear c8; obtain ⟨y164, hy164⟩ : ∃ y_ : List Int, y_ = (Bb.set (Ba : Int).toNat (rd l0 Ba)) := ⟨_, rfl⟩; replace H : (laws_toByteS.l0 k1 l0 y164 (wrap64 (Ba + 1))) = some r := zh hy164; have Ny164 := zA hy164; clear hy164; have H' := zA H; clear H; have p163 := zt (0 ≤ (Ba : Int)); have q163 := zt (Ba < (l0.length : Int)); obtain ⟨Be, e163, haa⟩ := Kd.at_int HR0.out Ba zd zd; cases e163; replace haa := zx HB.out haa; have p9 : 0 ≤ (Ba : Int) := zd; have q9 : (Ba : Int) < ((Bb.length : Int) : Int) := zd; obtain ⟨go9, Bh, Bf, Bg, gl9, cl9, HG9⟩ := Kd.R_form Bc.out (by omega)
        (first | cases Bf | (injection Bf with ea_ en_ ec_; (first | subst ea_ | (injection ea_ with ea_; subst ea_)); subst ec_; clear en_))
        have GB9 := zA Bg; have GG9 := zA HG9; clear Bg gl9 HG9; obtain ⟨hab, hf9_0⟩ := Kd.R_celln 0 Bc.out (Ba : Int) p9 q9; replace p9 := eq_true p9; replace q9 := eq_true q9; have HP10 := Kd.R_putg Bc.out (Ba : Int) (rd l0 Ba); go_wp2_with (first | ((with_reducible refine gate_store (t := 5) (p := 20) rfl ?_); refine store_event (t := 5) (p := 20) (v := ?vo_w11) (w1 := (wr.setCell ⟨go9, (Ba : Int).toNat, none⟩ (.int .u8 (rd l0 Ba)))) ?hg ?ho ?hn ?hr ?_; (case ho => rfl); (case hg => rfl); (case hn => rfl); (case hr => first | (go_simp; done) | (go_simp; rfl)); intro w11 hw; have hg : wr.grownBy w11 (some go9) := (by rw [hw]; exact HP10.2); have hp_ : Kd.R (Kd.int .u8) 5 w11 w.heap.size (fun _ => True) (.slice (some ⟨go9, 0, none⟩) Bb.length Bh) y164 := (by rw [hw, Ny164.out]; exact HP10.1); clear HP10; replace Bc := zA (hp_); replace HB := zA ((by rw [hw]; exact below_set (HB.out) GB9.out : Below w.heap.size w w11)); clear hg hw hp_)); go_roundg k1
        case measure => have := HK1.out; omega
        case rel => exact ⟨(y164), (wrap64 (Ba + 1)), zr, H', ⟨by have := HK1.out; omega⟩, ⟨zR Bc.out⟩, ⟨z_⟩⟩
       ·rw [if_neg c8] at H; exact absurd H (by simp)
      ·rw [if_neg c7] at H; exact absurd H (by simp)
     ·rw [if_neg c6] at H; have c6b0 := decide_eq_false c6; clear c6; obtain rfl := Option.some.inj H; go_wp2; go_ret; exact ⟨_, ze, by (with_reducible repeat (first | apply Kd.R_alloc | apply Kd.R_drewN | apply Kd.R_drew)); exact Bc.out, z_⟩
  ·rw [if_neg c3] at H; exact absurd H (by simp)
 ·rw [if_neg c2] at H; exact absurd H (by simp)

-- NOT PRINTED: function 24 (utf8_decodeRuneInStringSlow)

-- NOT PRINTED: function 16 (utf8_DecodeRuneInString)

-- NOT PRINTED: function 31 (stringslite_HasPrefix)

-- NOT PRINTED: function 25 (strings_HasPrefix)

-- NOT PRINTED: function 36 (bytealg_IndexByteString)

-- NOT PRINTED: function 32 (stringslite_IndexByte)

-- NOT PRINTED: function 26 (strings_IndexByte)

-- NOT PRINTED: function 37 (strconv_lower)

-- NOT PRINTED: function 38 (strconv_underscoreOK)

-- NOT PRINTED: function 33 (strconv_ParseUint_33)

-- NOT PRINTED: function 43 (stringslite_Clone)

-- NOT PRINTED: function 39 (strconv_syntaxError)

-- NOT PRINTED: function 40 (strconv_rangeError)

-- NOT PRINTED: function 44 (errors_New)

-- NOT PRINTED: function 48 (strconv_small)

-- NOT PRINTED: function 52 (strconv_log10Pow2)

-- NOT PRINTED: function 53 (bits_Len64)

-- NOT PRINTED: function 54 (strconv_bool2_int)

-- NOT PRINTED: function 49 (strconv_numDigits)

-- NOT PRINTED: function 50 (strconv_formatBase10)

-- NOT PRINTED: function 55 (strconv_isPowerOfTwo)

-- NOT PRINTED: function 57 (bits_TrailingZeros32)

-- NOT PRINTED: function 58 (bits_TrailingZeros64)

-- NOT PRINTED: function 56 (bits_TrailingZeros)

-- NOT PRINTED: function 51 (strconv_formatBits)

-- NOT PRINTED: function 47 (strconv_FormatInt)

-- NOT PRINTED: function 46 (strconv_Itoa_46)

-- NOT PRINTED: function 45 (strconv_Itoa_45)

-- NOT PRINTED: function 41 (strconv_baseError)

-- NOT PRINTED: function 42 (strconv_bitSizeError)

-- NOT PRINTED: function 34 (strconv_toError)

-- NOT PRINTED: function 27 (strconv_ParseUint_27)

-- NOT PRINTED: function 28 (utf8_ValidRune)

-- NOT PRINTED: function 17 (impl_escape)

-- NOT PRINTED: function 29 (utf8_appendRuneNonASCII)

-- NOT PRINTED: function 18 (utf8_AppendRune)

end Go.Proofs.YtbnpkiokpnmphaaDoor.PFnExactUnquoteText
