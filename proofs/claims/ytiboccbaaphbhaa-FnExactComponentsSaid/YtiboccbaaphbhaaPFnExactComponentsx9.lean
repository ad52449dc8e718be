-- made by wip/tools/myprint.py (this session's own program, over the kit's printer)
import Derived.Test.YtiboccbaaphbhaaPFnExactComponentsx0
import Derived.Test.YtiboccbaaphbhaaPFnExactComponentsx8
namespace Go.Proofs.Ytiboccbaaphbhaa.PFnExactComponents
open Go.RowKit Go.Proofs.YtiboccbaaphbhaaW.PrintWords Go.Proofs.YtiboccbaaphbhaaW.PrintLast Go.Proofs.YtiboccbaaphbhaaW.PrintMore
attribute [local go_sem] max2_int min2_int max_two min_two max_three min_three max_four min_four   -- for this text's walks alone
set_option linter.unusedVariables false
set_option linter.unusedSimpArgs false

/-! ### impl_ValidGraph: function 31 -/
mutual
def impl_ValidGraph.j0 : Nat → Bool → Int → List Int → List Int → List Int → List Int → Option (Bool)
 | 0, _, _, _, _, _, _ => none
 | k + 1, x34, x283000, x283001, x283002, x283003, x283004 => if x34 = true then (some false) else (if 0 ≤ x283000 then (if x283000 < (x283001.length : Int) then (if (rd x283001 x283000) > 6400 then (impl_ValidGraph.j1 k (rd x283001 x283000) true x283000 x283001 x283002 x283003 x283004) else (if (x283002.length : Int) = (rd x283001 x283000) then (if (x283003.length : Int) = (rd x283001 x283000) then (impl_ValidGraph.j1 k (rd x283001 x283000) ((x283004.length : Int) != (rd x283001 x283000)) x283000 x283001 x283002 x283003 x283004) else (impl_ValidGraph.j1 k (rd x283001 x283000) true x283000 x283001 x283002 x283003 x283004)) else (impl_ValidGraph.j1 k (rd x283001 x283000) true x283000 x283001 x283002 x283003 x283004))) else (none)) else (none))
def impl_ValidGraph.j1 : Nat → Int → Bool → Int → List Int → List Int → List Int → List Int → Option (Bool)
 | 0, _, _, _, _, _, _, _ => none
 | k + 1, x3, x63, x283000, x283001, x283002, x283003, x283004 => if x63 = true then (some false) else (impl_ValidGraph.l0 k x3 0 x283000 x283001 x283002 x283003 x283004)
def impl_ValidGraph.l0 : Nat → Int → Int → Int → List Int → List Int → List Int → List Int → Option (Bool)
 | 0, _, _, _, _, _, _, _ => none
 | k + 1, x64, x65, x283000, x283001, x283002, x283003, x283004 => if x65 < x64 then (if 0 ≤ x65 then (if x65 < (x283002.length : Int) then (if (rd x283002 x65) < 0 then (some false) else (if (rd x283002 x65) ≥ x283000 then (some false) else (if x65 < (x283003.length : Int) then (if (rd x283003 x65) < 0 then (some false) else (if (rd x283003 x65) > 3 then (some false) else (if x65 < (x283004.length : Int) then (if (rd x283004 x65) < 1 then (some false) else (if (rd x283004 x65) > 9 then (some false) else (impl_ValidGraph.l0 k x64 (wrap64 (x65 + 1)) x283000 x283001 x283002 x283003 x283004))) else (none)))) else (none)))) else (none)) else (none)) else (some true)
end
def impl_ValidGraph.f (k : Nat) (Bc : Int) (Bb : List Int) (Be : List Int) (Bf : List Int) (Bg : List Int) : Option (Bool) := if Bc < 1 then (impl_ValidGraph.j0 k true Bc Bb Be Bf Bg) else (if Bc > 1600 then (impl_ValidGraph.j0 k true Bc Bb Be Bf Bg) else (if (Bb.length : Int) = (wrap64 (Bc + 1)) then (if 0 < (Bb.length : Int) then (if (rd Bb 0) = 0 then ((slices_IsSorted_int_int.f k Bb).bind fun BA => (impl_ValidGraph.j0 k (!BA) Bc Bb Be Bf Bg)) else (impl_ValidGraph.j0 k true Bc Bb Be Bf Bg)) else (none)) else (impl_ValidGraph.j0 k true Bc Bb Be Bf Bg)))
theorem impl_ValidGraph.mono_l : ∀ k, (∀ y0 y1 y2 y3 y4 y5, LeO (impl_ValidGraph.j0 k y0 y1 y2 y3 y4 y5) (impl_ValidGraph.j0 (k + 1) y0 y1 y2 y3 y4 y5)) ∧ (∀ y0 y1 y2 y3 y4 y5 y6, LeO (impl_ValidGraph.j1 k y0 y1 y2 y3 y4 y5 y6) (impl_ValidGraph.j1 (k + 1) y0 y1 y2 y3 y4 y5 y6)) ∧ (∀ y0 y1 y2 y3 y4 y5 y6, LeO (impl_ValidGraph.l0 k y0 y1 y2 y3 y4 y5 y6) (impl_ValidGraph.l0 (k + 1) y0 y1 y2 y3 y4 y5 y6))
 | 0 => ⟨fun _ _ _ _ _ _ r h => by simp [impl_ValidGraph.j0] at h, fun _ _ _ _ _ _ _ r h => by simp [impl_ValidGraph.j1] at h, fun _ _ _ _ _ _ _ r h => by simp [impl_ValidGraph.l0] at h⟩
 | k + 1 => by
  obtain ⟨ih0, ih1, ih2⟩ := impl_ValidGraph.mono_l k; refine ⟨?_, ?_, ?_⟩
  ·intro y0 y1 y2 y3 y4 y5; unfold impl_ValidGraph.j0; have m1 := @slices_IsSorted_int_int.mono; exact zm
  ·intro y0 y1 y2 y3 y4 y5 y6; unfold impl_ValidGraph.j1; have m1 := @slices_IsSorted_int_int.mono; exact zm
  ·intro y0 y1 y2 y3 y4 y5 y6; unfold impl_ValidGraph.l0; have m1 := @slices_IsSorted_int_int.mono; exact zm
theorem impl_ValidGraph.mono : ∀ a0 a1 a2 a3 a4 k, LeO (impl_ValidGraph.f k a0 a1 a2 a3 a4) (impl_ValidGraph.f (k + 1) a0 a1 a2 a3 a4) := by
 intro a0 a1 a2 a3 a4 k; obtain ⟨ih0, ih1, ih2⟩ := impl_ValidGraph.mono_l k; unfold impl_ValidGraph.f; have m1 := @slices_IsSorted_int_int.mono; exact zm
set_option maxHeartbeats 8000000 in
set_option maxRecDepth 100000 in
theorem impl_ValidGraph.calls (k : Nat) (Bc : Int) (BD : Option Addr) (Bv : Nat) (Bb : List Int) (Br : Option Addr) (Bw : Nat) (Be : List Int) (Bs : Option Addr) (Bx : Nat) (Bf : List Int) (Bt : Option Addr) (Bz : Nat) (Bg : List Int) (r : Bool) (w : World) (hr0_1 : Kd.C (Kd.int .i64) w BD Bb.length Bb) (hc0_1 : Bb.length ≤ Bv) (hr0_2 : Kd.C (Kd.int .i64) w Br Be.length Be) (hc0_2 : Be.length ≤ Bw) (hr0_3 : Kd.C (Kd.int .i64) w Bs Bf.length Bf) (hc0_3 : Bf.length ≤ Bx) (hr0_4 : Kd.C (Kd.int .i64) w Bt Bg.length Bg) (hc0_4 : Bg.length ≤ Bz) (h : impl_ValidGraph.f k Bc Bb Be Bf Bg = some r) :
  Calls Try.prog 31 #[.agg #[.int .i64 Bc, .slice BD Bb.length Bv, .slice Br Be.length Bw, .slice Bs Bf.length Bx, .slice Bt Bg.length Bz]] w fun e w' => e = .returned (.bool r) ∧ Below w.heap.size w w' := by
 have hu26 := Try.underlying26; have Bp := zA hr0_1; have BE := zA hc0_1; clear hr0_1 hc0_1; have Bi := zA hr0_2; have BJ := zA hc0_2; clear hr0_2 hc0_2; have Bm := zA hr0_3; have BK := zA hc0_3; clear hr0_3 hc0_3; have Bu := zA hr0_4; have BL := zA hc0_4; clear hr0_4 hc0_4; have HB := zA (Below.refl w.heap.size w); have H : (if Bc < 1 then (impl_ValidGraph.j0 k true Bc Bb Be Bf Bg) else (if Bc > 1600 then (impl_ValidGraph.j0 k true Bc Bb Be Bf Bg) else (if (Bb.length : Int) = (wrap64 (Bc + 1)) then (if 0 < (Bb.length : Int) then (if (rd Bb 0) = 0 then ((slices_IsSorted_int_int.f k Bb).bind fun BA => (impl_ValidGraph.j0 k (!BA) Bc Bb Be Bf Bg)) else (impl_ValidGraph.j0 k true Bc Bb Be Bf Bg)) else (none)) else (impl_ValidGraph.j0 k true Bc Bb Be Bf Bg)))) = some r := h; clear h; have HC2 := zA H; clear H; go_enter Try.func31, Try.ntmps31
 go_upto_region 1 with (first | ((with_reducible refine gate_dst (N := 1) rfl ?_); (try (refine gate_guard (by rfl) ?_; dsimp only)); refine zbx (N := 1) (cs := #[.int .i64 Bc, .slice BD Bb.length Bv, .slice Br Be.length Bw, .slice Bs Bf.length Bx, .slice Bt Bg.length Bz]) (t := 26) ?_; intro Bl hg w3 hbox hb; have Bd := zA (hbox); have BG := zA (zg hg : w.heap.size ≤ Bl); have Bh := zA (zg hg : w.heap.size ≤ Bl); replace HB := zA (below_step z_ hb); clear hb hbox hg))
 repeat (go_quiet (first | ((with_reducible refine gate_dst (N := 1) rfl ?_); (try (refine gate_guard (by rfl) ?_; dsimp only)); refine zbx (N := 1) (cs := #[.int .i64 Bc, .slice BD Bb.length Bv, .slice Br Be.length Bw, .slice Bs Bf.length Bx, .slice Bt Bg.length Bz]) (t := 26) ?_; intro Bl hg w3 hbox hb; have Bd := zA (hbox); have BG := zA (zg hg : w.heap.size ≤ Bl); have Bh := zA (zg hg : w.heap.size ≤ Bl); replace HB := zA (below_step z_ hb); clear hb hbox hg)); go_upto_region 1 with (first | ((with_reducible refine gate_dst (N := 1) rfl ?_); (try (refine gate_guard (by rfl) ?_; dsimp only)); refine zbx (N := 1) (cs := #[.int .i64 Bc, .slice BD Bb.length Bv, .slice Br Be.length Bw, .slice Bs Bf.length Bx, .slice Bt Bg.length Bz]) (t := 26) ?_; intro Bl hg w3 hbox hb; have Bd := zA (hbox); have BG := zA (zg hg : w.heap.size ≤ Bl); have Bh := zA (zg hg : w.heap.size ≤ Bl); replace HB := zA (below_step z_ hb); clear hb hbox hg)))
 (try simp only [Act.put, List.setIfInBounds_toArray, List.set_cons_zero, List.set_cons_succ])
 go_cut [34] (fun v34 wc => ∃ (kq : Nat) (BC : Bool), v34 = .bool BC ∧ Aside0 (impl_ValidGraph.j0 kq BC Bc Bb Be Bf Bg = some r) ∧ Aside0 (kq ≤ k) ∧ Aside0 (wc.heap[Bl]? = some (.cells #[.int .i64 Bc, (.slice BD Bb.length Bv), (.slice Br Be.length Bw), (.slice Bs Bf.length Bx), (.slice Bt Bg.length Bz)] 26 (0, 0))) ∧ Aside0 (Below w.heap.size w wc))
 case first =>
  have H := HC2.out; clear HC2
  by_cases c4 : Bc < 1
  ·rw [if_pos c4] at H; have c4b0 := decide_eq_true c4; clear c4
   (first | rw [c4b0] | (simp only [i64_w, i32_w]; rw [c4b0]) | skip)
   have H' := zA H; clear H; obtain ⟨haa, hab, hac, had, hae, haf, hag, hah, hai, haj⟩ := zh5 Bd.out; go_wp2; repeat (go_quiet (fail); try go_wp2)
   go_meet
   case rel => exact ⟨_, (true), zr, H', ⟨by first | omega | exact Nat.le_refl _⟩, ⟨zb Bd.out⟩, ⟨zs Bh.out⟩⟩
  ·rw [if_neg c4] at H; have c4b0 := decide_eq_false c4; clear c4
   (first | rw [c4b0] | (simp only [i64_w, i32_w]; rw [c4b0]) | skip)
   by_cases c6 : Bc > 1600
   ·rw [if_pos c6] at H; have c6b0 : decide (1600 < Bc) = true := decide_eq_true c6; clear c6; have H' := zA H; clear H; obtain ⟨hak, hal, ham, han, hao, hap, haq, har, has, hat⟩ := zh5 Bd.out; go_wp2; repeat (go_quiet (fail); try go_wp2)
    go_meet
    case rel => exact ⟨_, (true), zr, H', ⟨by first | omega | exact Nat.le_refl _⟩, ⟨zb Bd.out⟩, ⟨zs Bh.out⟩⟩
   ·rw [if_neg c6] at H; have c6b0 : decide (1600 < Bc) = false := decide_eq_false c6; clear c6
    by_cases c8 : (Bb.length : Int) = (wrap64 (Bc + 1))
    ·rw [if_pos c8] at H; have c8b0 := beq_iff_eq.mpr c8; have c8b1 := bne_eq_false_iff_eq.mpr c8; clear c8
     by_cases c9 : 0 < (Bb.length : Int)
     ·rw [if_pos c9] at H; have c9b0 := decide_eq_true c9; have c9b1 : decide (0 < Bb.length) = true := decide_eq_true (by omega); clear c9
      by_cases c10 : (rd Bb 0) = 0
      ·rw [if_pos c10] at H; have c10b0 := beq_iff_eq.mpr c10; have c10b1 := bne_eq_false_iff_eq.mpr c10; clear c10; replace H := Option.bind_eq_some_iff.mp H; obtain ⟨BA, A110, H⟩ := H; (try dsimp only at H); have A11 := zA A110; clear A110; have H' := zA H; clear H; obtain ⟨hau, hav, haw, hax, hay, haz, haA, haB, haC, haD⟩ := zh5 Bd.out; have p283 : 0 ≤ (0 : Int) := (by omega); have q283 : 0 < (Bb.length : Int) := zd; obtain ⟨BI, e283, haE⟩ := Kd.at_int Bp.out 0 p283 q283; cases e283; have qi283 : (0 < Bb.length) = True := eq_true (by omega); (try rw [show ((0 : Int)).toNat = 0 from rfl] at haE); (try rw [Addr.add_zero'] at haE); replace haE := zx HB.out haE; replace p283 := eq_true p283; replace q283 := eq_true q283; go_wp2_with (first | (go_at_call 46; (with_reducible refine (slices_IsSorted_int_int.calls k _ _ Bb BA _ ?s1 ?s2 A11.out).mono ?_); (case s1 => exact zc (Kd.C_below Bp.out HB.out)); (case s2 => exact BE.out); rintro e w' ⟨rfl, ⟨nd, rfl⟩⟩; (try first | exact ⟨rfl, _, World.drewN_drewN _ _ _⟩ | exact ⟨rfl, _, Eq.trans (World.drewN_drewN _ _ _) (congrArg (World.drewN _) (Nat.add_assoc _ _ _))⟩))); repeat (go_quiet (first | (go_at_call 46; (with_reducible refine (slices_IsSorted_int_int.calls k _ _ Bb BA _ ?s1 ?s2 A11.out).mono ?_); (case s1 => exact zc (Kd.C_below Bp.out HB.out)); (case s2 => exact BE.out); rintro e w' ⟨rfl, ⟨nd, rfl⟩⟩; (try first | exact ⟨rfl, _, World.drewN_drewN _ _ _⟩ | exact ⟨rfl, _, Eq.trans (World.drewN_drewN _ _ _) (congrArg (World.drewN _) (Nat.add_assoc _ _ _))⟩))); try go_wp2_with (first | (go_at_call 46; (with_reducible refine (slices_IsSorted_int_int.calls k _ _ Bb BA _ ?s1 ?s2 A11.out).mono ?_); (case s1 => exact zc (Kd.C_below Bp.out HB.out)); (case s2 => exact BE.out); rintro e w' ⟨rfl, ⟨nd, rfl⟩⟩; (try first | exact ⟨rfl, _, World.drewN_drewN _ _ _⟩ | exact ⟨rfl, _, Eq.trans (World.drewN_drewN _ _ _) (congrArg (World.drewN _) (Nat.add_assoc _ _ _))⟩))))
       go_meet
       case rel => exact ⟨_, (!BA), zr, H', ⟨by first | omega | exact Nat.le_refl _⟩, ⟨zb Bd.out⟩, ⟨zs Bh.out⟩⟩
      ·rw [if_neg c10] at H; have c10b0 := beq_eq_false_iff_ne.mpr c10; have c10b1 := bne_iff_ne.mpr c10; have H' := zA H; clear H; obtain ⟨haF, haG, haH, haI, haJ, haK, haL, haM, haN, haO⟩ := zh5 Bd.out; have p283 : 0 ≤ (0 : Int) := (by omega); have q283 : 0 < (Bb.length : Int) := zd; obtain ⟨BI, e283, haE⟩ := Kd.at_int Bp.out 0 p283 q283; cases e283; have qi283 : (0 < Bb.length) = True := eq_true (by omega); (try rw [show ((0 : Int)).toNat = 0 from rfl] at haE); (try rw [Addr.add_zero'] at haE); replace haE := zx HB.out haE; replace p283 := eq_true p283; replace q283 := eq_true q283; go_wp2; repeat (go_quiet (fail); try go_wp2)
       go_meet
       case rel => exact ⟨_, (true), zr, H', ⟨by first | omega | exact Nat.le_refl _⟩, ⟨zb Bd.out⟩, ⟨zs Bh.out⟩⟩
     ·rw [if_neg c9] at H; exact absurd H (by simp)
    ·rw [if_neg c8] at H; have c8b0 := beq_eq_false_iff_ne.mpr c8; have c8b1 := bne_iff_ne.mpr c8; have H' := zA H; clear H; obtain ⟨haP, haQ, haR, haS, haT, haU, haV, haW, haX, haY⟩ := zh5 Bd.out; go_wp2; repeat (go_quiet (fail); try go_wp2)
     go_meet
     case rel => exact ⟨_, (true), zr, H', ⟨by first | omega | exact Nat.le_refl _⟩, ⟨zb Bd.out⟩, ⟨zs Bh.out⟩⟩
 case rest =>
  clear HC2; (try clear c1); (try clear c4); (try clear c4b0); (try clear c6); (try clear c6b0); (try clear c8); (try clear c8b0); (try clear c8b1); (try clear c9); (try clear c9b0); (try clear c9b1); (try clear c10); (try clear c10b0); (try clear c10b1); (try clear hau hav haw hax hay); (try clear haF haG haH haI haJ); (try clear haP haQ haR haS haT); (try clear haa hab hac had hae); (try clear hak hal ham han hao); (try clear haz haA haB haC haD); (try clear haK haL haM haN haO); (try clear haU haV haW haX haY); (try clear haf hag hah hai haj); (try clear hap haq har has hat); (try clear haE); (try clear p283); (try clear q283); obtain ⟨kq, BC, rfl, HA, HJ1, Bd, HB⟩ := hcut; cases kq with
  | zero => exact absurd HA.out (by simp [impl_ValidGraph.j0])
  | succ kj1 =>
   have H := HA.out; clear HA; simp only [impl_ValidGraph.j0] at H
   by_cases c15 : BC = true
   ·subst c15; rw [if_pos rfl] at H; (try dsimp only at H); obtain rfl := Option.some.inj H; go_wp2; repeat (go_quiet (fail); try go_wp2)
    go_ret; exact ⟨ze, (zs Bh.out)⟩
   ·replace c15 := Bool.eq_false_iff.mpr c15; subst c15; rw [if_neg (show ¬ (false = true) by decide)] at H; (try dsimp only at H)
    by_cases c16 : 0 ≤ Bc
    ·rw [if_pos c16] at H; have c16b0 := decide_eq_true c16; clear c16
     by_cases c17 : Bc < (Bb.length : Int)
     ·rw [if_pos c17] at H; have c17b0 := decide_eq_true c17; clear c17; have HC18 := zA H; clear H; obtain ⟨haZ, ha0, ha1, ha2, ha3, ha4, ha5, ha6, ha7, ha8⟩ := zh5 Bd.out; have p285 := zt (0 ≤ (Bc : Int)); have q285 := zt (Bc < (Bb.length : Int)); obtain ⟨BH, e285, ha9⟩ := Kd.at_int Bp.out Bc zd zd; cases e285; replace ha9 := zx HB.out ha9
      go_upto_region 4 with (fail)
      repeat (go_quiet (fail); go_upto_region 4 with (fail))
      go_cut [63] (fun v63 wc => ∃ (kq : Nat) (Bq : Bool), v63 = .bool Bq ∧ Aside0 (impl_ValidGraph.j1 kq (rd Bb Bc) Bq Bc Bb Be Bf Bg = some r) ∧ Aside0 (kq ≤ kj1) ∧ Aside0 (wc.heap[Bl]? = some (.cells #[.int .i64 Bc, (.slice (some BH) Bb.length Bv), (.slice Br Be.length Bw), (.slice Bs Bf.length Bx), (.slice Bt Bg.length Bz)] 26 (0, 0))) ∧ Aside0 (Below w.heap.size w wc))
      case first =>
       have H := HC18.out; clear HC18
       by_cases c20 : (rd Bb Bc) > 6400
       ·rw [if_pos c20] at H; have c20b0 : decide (6400 < (rd Bb Bc)) = true := decide_eq_true c20; clear c20
        (first | rw [c20b0] | (simp only [i64_w, i32_w]; rw [c20b0]) | skip)
        have H' := zA H; clear H; go_wp2; repeat (go_quiet (fail); try go_wp2)
        go_meet
        case rel => exact ⟨_, (true), zr, H', ⟨by have := HJ1.out; first | omega | exact Nat.le_refl _⟩, ⟨zb Bd.out⟩, ⟨zs Bh.out⟩⟩
       ·rw [if_neg c20] at H; have c20b0 : decide (6400 < (rd Bb Bc)) = false := decide_eq_false c20; clear c20
        (first | rw [c20b0] | (simp only [i64_w, i32_w]; rw [c20b0]) | skip)
        by_cases c21 : (Be.length : Int) = (rd Bb Bc)
        ·rw [if_pos c21] at H; have c21b0 := beq_iff_eq.mpr c21; have c21b1 := bne_eq_false_iff_eq.mpr c21; clear c21
         by_cases c22 : (Bf.length : Int) = (rd Bb Bc)
         ·rw [if_pos c22] at H; have c22b0 := beq_iff_eq.mpr c22; have c22b1 := bne_eq_false_iff_eq.mpr c22; clear c22; have H' := zA H; clear H; obtain ⟨hba, hbb, hbc, hbd, hbe, hbf, hbg, hbh, hbi, hbj⟩ := zh5 Bd.out; go_wp2; repeat (go_quiet (fail); try go_wp2)
          go_meet
          case rel => exact ⟨_, (((Bg.length : Int) != (rd Bb Bc))), zr, H', ⟨by have := HJ1.out; first | omega | exact Nat.le_refl _⟩, ⟨zb Bd.out⟩, ⟨zs Bh.out⟩⟩
         ·rw [if_neg c22] at H; have c22b0 := beq_eq_false_iff_ne.mpr c22; have c22b1 := bne_iff_ne.mpr c22; have H' := zA H; clear H; obtain ⟨hbk, hbl, hbm, hbn, hbo, hbp, hbq, hbr, hbs, hbt⟩ := zh5 Bd.out; go_wp2; repeat (go_quiet (fail); try go_wp2)
          go_meet
          case rel => exact ⟨_, (true), zr, H', ⟨by have := HJ1.out; first | omega | exact Nat.le_refl _⟩, ⟨zb Bd.out⟩, ⟨zs Bh.out⟩⟩
        ·rw [if_neg c21] at H; have c21b0 := beq_eq_false_iff_ne.mpr c21; have c21b1 := bne_iff_ne.mpr c21; have H' := zA H; clear H; obtain ⟨hbu, hbv, hbw, hbx, hby, hbz, hbA, hbB, hbC, hbD⟩ := zh5 Bd.out; go_wp2; repeat (go_quiet (fail); try go_wp2)
         go_meet
         case rel => exact ⟨_, (true), zr, H', ⟨by have := HJ1.out; first | omega | exact Nat.le_refl _⟩, ⟨zb Bd.out⟩, ⟨zs Bh.out⟩⟩
      case rest =>
       clear HC18; (try clear c1); (try clear c4); (try clear c4b0); (try clear c6); (try clear c6b0); (try clear c8); (try clear c8b0); (try clear c8b1); (try clear c9); (try clear c9b0); (try clear c9b1); (try clear c10); (try clear c10b0); (try clear c10b1); (try clear c15); (try clear c16); (try clear c16b0); (try clear c17); (try clear c17b0); (try clear c20); (try clear c20b0); (try clear c21); (try clear c21b0); (try clear c21b1); (try clear c22); (try clear c22b0); (try clear c22b1); (try clear hau hav haw hax hay); (try clear haF haG haH haI haJ); (try clear haP haQ haR haS haT); (try clear haZ ha0 ha1 ha2 ha3); (try clear hba hbb hbc hbd hbe); (try clear hbk hbl hbm hbn hbo); (try clear hbu hbv hbw hbx hby); (try clear haa hab hac had hae); (try clear hak hal ham han hao); (try clear haz haA haB haC haD); (try clear haK haL haM haN haO); (try clear haU haV haW haX haY); (try clear ha4 ha5 ha6 ha7 ha8); (try clear hbf hbg hbh hbi hbj); (try clear hbp hbq hbr hbs hbt); (try clear hbz hbA hbB hbC hbD); (try clear haf hag hah hai haj); (try clear hap haq har has hat); (try clear haE); (try clear ha9); (try clear p283); (try clear p285); (try clear q283); (try clear q285); obtain ⟨kq, Bq, rfl, HA, HJ17, Bd, HB⟩ := hcut; cases kq with
       | zero => exact absurd HA.out (by simp [impl_ValidGraph.j1])
       | succ kj17 =>
        have H := HA.out; clear HA; simp only [impl_ValidGraph.j1] at H
        by_cases c26 : Bq = true
        ·subst c26; rw [if_pos rfl] at H; (try dsimp only at H); obtain rfl := Option.some.inj H; go_wp2; repeat (go_quiet (fail); try go_wp2)
         go_ret; exact ⟨ze, (zs Bh.out)⟩
        ·replace c26 := Bool.eq_false_iff.mpr c26; subst c26; rw [if_neg (show ¬ (false = true) by decide)] at H; (try dsimp only at H); have H' := zA H; clear H; go_wp2; repeat (go_quiet (fail); try go_wp2)
         go_loopg [65] kj17 (fun kq v65 w' => ∃ (Ba : Int), v65 = .int .i64 Ba ∧ Aside0 (impl_ValidGraph.l0 kq (rd Bb Bc) Ba Bc Bb Be Bf Bg = some r) ∧ Aside0 (kq ≤ kj17) ∧ Aside0 (w'.heap[Bl]? = some (.cells #[.int .i64 Bc, (.slice (some BH) Bb.length Bv), (.slice Br Be.length Bw), (.slice Bs Bf.length Bx), (.slice Bt Bg.length Bz)] 26 (0, 0))) ∧ Aside0 (Below w.heap.size w w'))
         case atStart => exact ⟨(0), zr, H', ⟨Nat.le_refl _⟩, ⟨zb Bd.out⟩, ⟨zs Bh.out⟩⟩
         case round =>
          clear H'; (try clear c1); (try clear c4); (try clear c4b0); (try clear c6); (try clear c6b0); (try clear c8); (try clear c8b0); (try clear c8b1); (try clear c9); (try clear c9b0); (try clear c9b1); (try clear c10); (try clear c10b0); (try clear c10b1); (try clear c15); (try clear c16); (try clear c16b0); (try clear c17); (try clear c17b0); (try clear c20); (try clear c20b0); (try clear c21); (try clear c21b0); (try clear c21b1); (try clear c22); (try clear c22b0); (try clear c22b1); (try clear c26); (try clear hau hav haw hax hay); (try clear haF haG haH haI haJ); (try clear haP haQ haR haS haT); (try clear haZ ha0 ha1 ha2 ha3); (try clear hba hbb hbc hbd hbe); (try clear hbk hbl hbm hbn hbo); (try clear hbu hbv hbw hbx hby); (try clear haa hab hac had hae); (try clear hak hal ham han hao); (try clear haz haA haB haC haD); (try clear haK haL haM haN haO); (try clear haU haV haW haX haY); (try clear ha4 ha5 ha6 ha7 ha8); (try clear hbf hbg hbh hbi hbj); (try clear hbp hbq hbr hbs hbt); (try clear hbz hbA hbB hbC hbD); (try clear haf hag hah hai haj); (try clear hap haq har has hat); (try clear haE); (try clear ha9); (try clear p283); (try clear p285); (try clear q283); (try clear q285); obtain ⟨Ba, rfl, HA, HK3, Bd, HB⟩ := hrel; cases gk with
          | zero => exact absurd HA.out (by simp [impl_ValidGraph.l0])
          | succ k3 =>
           have H := HA.out; clear HA; simp only [impl_ValidGraph.l0] at H
           by_cases c27 : Ba < (rd Bb Bc)
           ·rw [if_pos c27] at H; have c27b0 := decide_eq_true c27; clear c27
            by_cases c28 : 0 ≤ Ba
            ·rw [if_pos c28] at H; have c28b0 := decide_eq_true c28; clear c28
             by_cases c29 : Ba < (Be.length : Int)
             ·rw [if_pos c29] at H; have c29b0 := decide_eq_true c29; clear c29
              by_cases c30 : (rd Be Ba) < 0
              ·rw [if_pos c30] at H; have c30b0 := decide_eq_true c30; clear c30; obtain rfl := Option.some.inj H; obtain ⟨hbE, hbF, hbG, hbH, hbI, hbJ, hbK, hbL, hbM, hbN⟩ := zh5 Bd.out; have p286 : 0 ≤ (Ba : Int) := zd; have q286 : Ba < (Be.length : Int) := zd; obtain ⟨Bj, e286, hbO⟩ := Kd.at_int Bi.out Ba p286 q286; cases e286; replace hbO := zx HB.out hbO; replace p286 := eq_true p286; replace q286 := eq_true q286; go_wp2; repeat (go_quiet (fail); try go_wp2)
               go_ret; exact ⟨ze, (zs Bh.out)⟩
              ·rw [if_neg c30] at H; have c30b0 := decide_eq_false c30; clear c30
               by_cases c32 : (rd Be Ba) ≥ Bc
               ·rw [if_pos c32] at H; have c32b0 : decide (Bc ≤ (rd Be Ba)) = true := decide_eq_true c32; clear c32; obtain rfl := Option.some.inj H; obtain ⟨hbP, hbQ, hbR, hbS, hbT, hbU, hbV, hbW, hbX, hbY⟩ := zh5 Bd.out; have p286 : 0 ≤ (Ba : Int) := zd; have q286 : Ba < (Be.length : Int) := zd; obtain ⟨Bj, e286, hbO⟩ := Kd.at_int Bi.out Ba p286 q286; cases e286; replace hbO := zx HB.out hbO; replace p286 := eq_true p286; replace q286 := eq_true q286; have p287 : 0 ≤ (Ba : Int) := zd; have q287 : Ba < (Be.length : Int) := zd; obtain ⟨Bk, e287, hbZ⟩ := Kd.at_int Bi.out Ba p287 q287; obtain rfl : Bj = Bk := (by injection e287); replace hbZ := zx HB.out hbZ; replace p287 := eq_true p287; replace q287 := eq_true q287; go_wp2; repeat (go_quiet (fail); try go_wp2)
                go_ret; exact ⟨ze, (zs Bh.out)⟩
               ·rw [if_neg c32] at H; have c32b0 : decide (Bc ≤ (rd Be Ba)) = false := decide_eq_false c32; clear c32
                by_cases c34 : Ba < (Bf.length : Int)
                ·rw [if_pos c34] at H; have c34b0 := decide_eq_true c34; clear c34
                 by_cases c35 : (rd Bf Ba) < 0
                 ·rw [if_pos c35] at H; have c35b0 := decide_eq_true c35; clear c35; obtain rfl := Option.some.inj H; obtain ⟨hb0, hb1, hb2, hb3, hb4, hb5, hb6, hb7, hb8, hb9⟩ := zh5 Bd.out; have p286 : 0 ≤ (Ba : Int) := zd; have q286 : Ba < (Be.length : Int) := zd; obtain ⟨Bj, e286, hbO⟩ := Kd.at_int Bi.out Ba p286 q286; cases e286; replace hbO := zx HB.out hbO; replace p286 := eq_true p286; replace q286 := eq_true q286; have p287 : 0 ≤ (Ba : Int) := zd; have q287 : Ba < (Be.length : Int) := zd; obtain ⟨Bk, e287, hbZ⟩ := Kd.at_int Bi.out Ba p287 q287; obtain rfl : Bj = Bk := (by injection e287); replace hbZ := zx HB.out hbZ; replace p287 := eq_true p287; replace q287 := eq_true q287; have p288 : 0 ≤ (Ba : Int) := zd; have q288 : Ba < (Bf.length : Int) := zd; obtain ⟨Bn, e288, hca⟩ := Kd.at_int Bm.out Ba p288 q288; cases e288; replace hca := zx HB.out hca; replace p288 := eq_true p288; replace q288 := eq_true q288; go_wp2; repeat (go_quiet (fail); try go_wp2)
                  go_ret; exact ⟨ze, (zs Bh.out)⟩
                 ·rw [if_neg c35] at H; have c35b0 := decide_eq_false c35; clear c35
                  by_cases c37 : (rd Bf Ba) > 3
                  ·rw [if_pos c37] at H; have c37b0 : decide (3 < (rd Bf Ba)) = true := decide_eq_true c37; clear c37; obtain rfl := Option.some.inj H; obtain ⟨hcb, hcc, hcd, hce, hcf, hcg, hch, hci, hcj, hck⟩ := zh5 Bd.out; have p286 : 0 ≤ (Ba : Int) := zd; have q286 : Ba < (Be.length : Int) := zd; obtain ⟨Bj, e286, hbO⟩ := Kd.at_int Bi.out Ba p286 q286; cases e286; replace hbO := zx HB.out hbO; replace p286 := eq_true p286; replace q286 := eq_true q286; have p287 : 0 ≤ (Ba : Int) := zd; have q287 : Ba < (Be.length : Int) := zd; obtain ⟨Bk, e287, hbZ⟩ := Kd.at_int Bi.out Ba p287 q287; obtain rfl : Bj = Bk := (by injection e287); replace hbZ := zx HB.out hbZ; replace p287 := eq_true p287; replace q287 := eq_true q287; have p288 : 0 ≤ (Ba : Int) := zd; have q288 : Ba < (Bf.length : Int) := zd; obtain ⟨Bn, e288, hca⟩ := Kd.at_int Bm.out Ba p288 q288; cases e288; replace hca := zx HB.out hca; replace p288 := eq_true p288; replace q288 := eq_true q288; have p289 : 0 ≤ (Ba : Int) := zd; have q289 : Ba < (Bf.length : Int) := zd; obtain ⟨Bo, e289, hcl⟩ := Kd.at_int Bm.out Ba p289 q289; obtain rfl : Bn = Bo := (by injection e289); replace hcl := zx HB.out hcl; replace p289 := eq_true p289; replace q289 := eq_true q289; go_wp2; repeat (go_quiet (fail); try go_wp2)
                   go_ret; exact ⟨ze, (zs Bh.out)⟩
                  ·rw [if_neg c37] at H; have c37b0 : decide (3 < (rd Bf Ba)) = false := decide_eq_false c37; clear c37
                   by_cases c39 : Ba < (Bg.length : Int)
                   ·rw [if_pos c39] at H; have c39b0 := decide_eq_true c39; clear c39
                    by_cases c40 : (rd Bg Ba) < 1
                    ·rw [if_pos c40] at H; have c40b0 := decide_eq_true c40; clear c40; obtain rfl := Option.some.inj H; obtain ⟨hcm, hcn, hco, hcp, hcq, hcr, hcs, hct, hcu, hcv⟩ := zh5 Bd.out; have p286 : 0 ≤ (Ba : Int) := zd; have q286 : Ba < (Be.length : Int) := zd; obtain ⟨Bj, e286, hbO⟩ := Kd.at_int Bi.out Ba p286 q286; cases e286; replace hbO := zx HB.out hbO; replace p286 := eq_true p286; replace q286 := eq_true q286; have p287 : 0 ≤ (Ba : Int) := zd; have q287 : Ba < (Be.length : Int) := zd; obtain ⟨Bk, e287, hbZ⟩ := Kd.at_int Bi.out Ba p287 q287; obtain rfl : Bj = Bk := (by injection e287); replace hbZ := zx HB.out hbZ; replace p287 := eq_true p287; replace q287 := eq_true q287; have p288 : 0 ≤ (Ba : Int) := zd; have q288 : Ba < (Bf.length : Int) := zd; obtain ⟨Bn, e288, hca⟩ := Kd.at_int Bm.out Ba p288 q288; cases e288; replace hca := zx HB.out hca; replace p288 := eq_true p288; replace q288 := eq_true q288; have p289 : 0 ≤ (Ba : Int) := zd; have q289 : Ba < (Bf.length : Int) := zd; obtain ⟨Bo, e289, hcl⟩ := Kd.at_int Bm.out Ba p289 q289; obtain rfl : Bn = Bo := (by injection e289); replace hcl := zx HB.out hcl; replace p289 := eq_true p289; replace q289 := eq_true q289; have p290 : 0 ≤ (Ba : Int) := zd; have q290 : Ba < (Bg.length : Int) := zd; obtain ⟨BB, e290, hcw⟩ := Kd.at_int Bu.out Ba p290 q290; cases e290; replace hcw := zx HB.out hcw; replace p290 := eq_true p290
                     replace q290 := eq_true q290; go_wp2; repeat (go_quiet (fail); try go_wp2)
                     go_ret; exact ⟨ze, (zs Bh.out)⟩
                    ·rw [if_neg c40] at H; have c40b0 := decide_eq_false c40; clear c40
                     by_cases c42 : (rd Bg Ba) > 9
                     ·rw [if_pos c42] at H; have c42b0 : decide (9 < (rd Bg Ba)) = true := decide_eq_true c42; clear c42; obtain rfl := Option.some.inj H; obtain ⟨hcx, hcy, hcz, hcA, hcB, hcC, hcD, hcE, hcF, hcG⟩ := zh5 Bd.out; have p286 : 0 ≤ (Ba : Int) := zd; have q286 : Ba < (Be.length : Int) := zd; obtain ⟨Bj, e286, hbO⟩ := Kd.at_int Bi.out Ba p286 q286; cases e286; replace hbO := zx HB.out hbO; replace p286 := eq_true p286; replace q286 := eq_true q286; have p287 : 0 ≤ (Ba : Int) := zd; have q287 : Ba < (Be.length : Int) := zd; obtain ⟨Bk, e287, hbZ⟩ := Kd.at_int Bi.out Ba p287 q287; obtain rfl : Bj = Bk := (by injection e287); replace hbZ := zx HB.out hbZ; replace p287 := eq_true p287; replace q287 := eq_true q287; have p288 : 0 ≤ (Ba : Int) := zd; have q288 : Ba < (Bf.length : Int) := zd; obtain ⟨Bn, e288, hca⟩ := Kd.at_int Bm.out Ba p288 q288; cases e288; replace hca := zx HB.out hca; replace p288 := eq_true p288; replace q288 := eq_true q288; have p289 : 0 ≤ (Ba : Int) := zd; have q289 : Ba < (Bf.length : Int) := zd; obtain ⟨Bo, e289, hcl⟩ := Kd.at_int Bm.out Ba p289 q289; obtain rfl : Bn = Bo := (by injection e289); replace hcl := zx HB.out hcl; replace p289 := eq_true p289; replace q289 := eq_true q289; have p290 : 0 ≤ (Ba : Int) := zd; have q290 : Ba < (Bg.length : Int) := zd; obtain ⟨BB, e290, hcw⟩ := Kd.at_int Bu.out Ba p290 q290; cases e290; replace hcw := zx HB.out hcw
                      replace p290 := eq_true p290; replace q290 := eq_true q290; have p291 : 0 ≤ (Ba : Int) := zd; have q291 : Ba < (Bg.length : Int) := zd; obtain ⟨BF, e291, hcH⟩ := Kd.at_int Bu.out Ba p291 q291; obtain rfl : BB = BF := (by injection e291); replace hcH := zx HB.out hcH; replace p291 := eq_true p291; replace q291 := eq_true q291; go_wp2; repeat (go_quiet (fail); try go_wp2)
                      go_ret; exact ⟨ze, (zs Bh.out)⟩
                     ·rw [if_neg c42] at H; have c42b0 : decide (9 < (rd Bg Ba)) = false := decide_eq_false c42; clear c42; have H' := zA H; clear H; obtain ⟨hcI, hcJ, hcK, hcL, hcM, hcN, hcO, hcP, hcQ, hcR⟩ := zh5 Bd.out; have p286 : 0 ≤ (Ba : Int) := zd; have q286 : Ba < (Be.length : Int) := zd; obtain ⟨Bj, e286, hbO⟩ := Kd.at_int Bi.out Ba p286 q286; cases e286; replace hbO := zx HB.out hbO; replace p286 := eq_true p286; replace q286 := eq_true q286; have p287 : 0 ≤ (Ba : Int) := zd; have q287 : Ba < (Be.length : Int) := zd; obtain ⟨Bk, e287, hbZ⟩ := Kd.at_int Bi.out Ba p287 q287; obtain rfl : Bj = Bk := (by injection e287); replace hbZ := zx HB.out hbZ; replace p287 := eq_true p287; replace q287 := eq_true q287; have p288 : 0 ≤ (Ba : Int) := zd; have q288 : Ba < (Bf.length : Int) := zd; obtain ⟨Bn, e288, hca⟩ := Kd.at_int Bm.out Ba p288 q288; cases e288; replace hca := zx HB.out hca; replace p288 := eq_true p288; replace q288 := eq_true q288; have p289 : 0 ≤ (Ba : Int) := zd; have q289 : Ba < (Bf.length : Int) := zd; obtain ⟨Bo, e289, hcl⟩ := Kd.at_int Bm.out Ba p289 q289; obtain rfl : Bn = Bo := (by injection e289); replace hcl := zx HB.out hcl; replace p289 := eq_true p289; replace q289 := eq_true q289; have p290 : 0 ≤ (Ba : Int) := zd; have q290 : Ba < (Bg.length : Int) := zd; obtain ⟨BB, e290, hcw⟩ := Kd.at_int Bu.out Ba p290 q290; cases e290; replace hcw := zx HB.out hcw
                      replace p290 := eq_true p290; replace q290 := eq_true q290; have p291 : 0 ≤ (Ba : Int) := zd; have q291 : Ba < (Bg.length : Int) := zd; obtain ⟨BF, e291, hcH⟩ := Kd.at_int Bu.out Ba p291 q291; obtain rfl : BB = BF := (by injection e291); replace hcH := zx HB.out hcH; replace p291 := eq_true p291; replace q291 := eq_true q291; go_wp2; repeat (go_quiet (fail); try go_wp2)
                      go_roundg k3
                      case measure => have := HJ1.out; have := HJ17.out; have := HK3.out; omega
                      case rel => exact ⟨(wrap64 (Ba + 1)), zr, H', ⟨by have := HJ1.out; have := HJ17.out; have := HK3.out; omega⟩, ⟨zb Bd.out⟩, ⟨zs Bh.out⟩⟩
                   ·rw [if_neg c39] at H; exact absurd H (by simp)
                ·rw [if_neg c34] at H; exact absurd H (by simp)
             ·rw [if_neg c29] at H; exact absurd H (by simp)
            ·rw [if_neg c28] at H; exact absurd H (by simp)
           ·rw [if_neg c27] at H; have c27b0 := decide_eq_false c27; clear c27; obtain rfl := Option.some.inj H; go_wp2; repeat (go_quiet (fail); try go_wp2)
            go_ret; exact ⟨ze, (zs Bh.out)⟩
     ·rw [if_neg c17] at H; exact absurd H (by simp)
    ·rw [if_neg c16] at H; exact absurd H (by simp)

end Go.Proofs.Ytiboccbaaphbhaa.PFnExactComponents
