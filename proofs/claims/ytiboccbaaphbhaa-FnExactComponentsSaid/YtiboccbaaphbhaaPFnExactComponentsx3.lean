-- made by wip/tools/myprint.py (this session's own program, over the kit's printer)
import Derived.Test.YtiboccbaaphbhaaPFnExactComponentsx0
namespace Go.Proofs.Ytiboccbaaphbhaa.PFnExactComponents
open Go.RowKit Go.Proofs.YtiboccbaaphbhaaW.PrintWords Go.Proofs.YtiboccbaaphbhaaW.PrintLast Go.Proofs.YtiboccbaaphbhaaW.PrintMore
attribute [local go_sem] max2_int min2_int max_two min_two max_three min_three max_four min_four   -- for this text's walks alone
set_option linter.unusedVariables false
set_option linter.unusedSimpArgs false

/-! ### spec_ValidGraph: function 28 -/
mutual
def spec_ValidGraph.j0 : Nat → Bool → Int → List Int → List Int → List Int → List Int → Option (Bool)
 | 0, _, _, _, _, _, _ => none
 | k + 1, x29, x146000, x146001, x146002, x146003, x146004 => if x29 = true then (some false) else (if 0 ≤ x146000 then (if x146000 < (x146001.length : Int) then (if (rd x146001 x146000) > 6400 then (spec_ValidGraph.j1 k (rd x146001 x146000) true x146000 x146001 x146002 x146003 x146004) else (if (x146002.length : Int) = (rd x146001 x146000) then (if (x146003.length : Int) = (rd x146001 x146000) then (spec_ValidGraph.j1 k (rd x146001 x146000) ((x146004.length : Int) != (rd x146001 x146000)) x146000 x146001 x146002 x146003 x146004) else (spec_ValidGraph.j1 k (rd x146001 x146000) true x146000 x146001 x146002 x146003 x146004)) else (spec_ValidGraph.j1 k (rd x146001 x146000) true x146000 x146001 x146002 x146003 x146004))) else (none)) else (none))
def spec_ValidGraph.j1 : Nat → Int → Bool → Int → List Int → List Int → List Int → List Int → Option (Bool)
 | 0, _, _, _, _, _, _, _ => none
 | k + 1, x3, x58, x146000, x146001, x146002, x146003, x146004 => if x58 = true then (some false) else (spec_ValidGraph.l0 k x3 0 x146000 x146001 x146002 x146003 x146004)
def spec_ValidGraph.l0 : Nat → Int → Int → Int → List Int → List Int → List Int → List Int → Option (Bool)
 | 0, _, _, _, _, _, _, _ => none
 | k + 1, x3, x4, x146000, x146001, x146002, x146003, x146004 => if x4 < x146000 then (if 0 ≤ (wrap64 (x4 + 1)) then (if (wrap64 (x4 + 1)) < (x146001.length : Int) then (if 0 ≤ x4 then (if x4 < (x146001.length : Int) then (if (rd x146001 (wrap64 (x4 + 1))) < (rd x146001 x4) then (some false) else (spec_ValidGraph.l0 k x3 (wrap64 (x4 + 1)) x146000 x146001 x146002 x146003 x146004)) else (none)) else (none)) else (none)) else (none)) else (spec_ValidGraph.l1 k x3 0 x146000 x146001 x146002 x146003 x146004)
def spec_ValidGraph.l1 : Nat → Int → Int → Int → List Int → List Int → List Int → List Int → Option (Bool)
 | 0, _, _, _, _, _, _, _ => none
 | k + 1, x3, x5, x146000, x146001, x146002, x146003, x146004 => if x5 < x3 then (if 0 ≤ x5 then (if x5 < (x146002.length : Int) then (if (rd x146002 x5) < 0 then (some false) else (if (rd x146002 x5) ≥ x146000 then (some false) else (if x5 < (x146003.length : Int) then (if (rd x146003 x5) < 0 then (some false) else (if (rd x146003 x5) > 3 then (some false) else (if x5 < (x146004.length : Int) then (if (rd x146004 x5) < 1 then (some false) else (if (rd x146004 x5) > 9 then (some false) else (spec_ValidGraph.l1 k x3 (wrap64 (x5 + 1)) x146000 x146001 x146002 x146003 x146004))) else (none)))) else (none)))) else (none)) else (none)) else (some true)
end
def spec_ValidGraph.f (k : Nat) (Bd : Int) (Bb : List Int) (Be : List Int) (Bf : List Int) (Bg : List Int) : Option (Bool) := if Bd < 1 then (spec_ValidGraph.j0 k true Bd Bb Be Bf Bg) else (if Bd > 1600 then (spec_ValidGraph.j0 k true Bd Bb Be Bf Bg) else (if (Bb.length : Int) = (wrap64 (Bd + 1)) then (if 0 < (Bb.length : Int) then (spec_ValidGraph.j0 k ((rd Bb 0) != 0) Bd Bb Be Bf Bg) else (none)) else (spec_ValidGraph.j0 k true Bd Bb Be Bf Bg)))
theorem spec_ValidGraph.mono_l : ∀ k, (∀ y0 y1 y2 y3 y4 y5, LeO (spec_ValidGraph.j0 k y0 y1 y2 y3 y4 y5) (spec_ValidGraph.j0 (k + 1) y0 y1 y2 y3 y4 y5)) ∧ (∀ y0 y1 y2 y3 y4 y5 y6, LeO (spec_ValidGraph.j1 k y0 y1 y2 y3 y4 y5 y6) (spec_ValidGraph.j1 (k + 1) y0 y1 y2 y3 y4 y5 y6)) ∧ (∀ y0 y1 y2 y3 y4 y5 y6, LeO (spec_ValidGraph.l0 k y0 y1 y2 y3 y4 y5 y6) (spec_ValidGraph.l0 (k + 1) y0 y1 y2 y3 y4 y5 y6)) ∧ (∀ y0 y1 y2 y3 y4 y5 y6, LeO (spec_ValidGraph.l1 k y0 y1 y2 y3 y4 y5 y6) (spec_ValidGraph.l1 (k + 1) y0 y1 y2 y3 y4 y5 y6))
 | 0 => ⟨fun _ _ _ _ _ _ r h => by simp [spec_ValidGraph.j0] at h, fun _ _ _ _ _ _ _ r h => by simp [spec_ValidGraph.j1] at h, fun _ _ _ _ _ _ _ r h => by simp [spec_ValidGraph.l0] at h, fun _ _ _ _ _ _ _ r h => by simp [spec_ValidGraph.l1] at h⟩
 | k + 1 => by
  obtain ⟨ih0, ih1, ih2, ih3⟩ := spec_ValidGraph.mono_l k; refine ⟨?_, ?_, ?_, ?_⟩
  ·intro y0 y1 y2 y3 y4 y5; unfold spec_ValidGraph.j0; exact zm
  ·intro y0 y1 y2 y3 y4 y5 y6; unfold spec_ValidGraph.j1; exact zm
  ·intro y0 y1 y2 y3 y4 y5 y6; unfold spec_ValidGraph.l0; exact zm
  ·intro y0 y1 y2 y3 y4 y5 y6; unfold spec_ValidGraph.l1; exact zm
theorem spec_ValidGraph.mono : ∀ a0 a1 a2 a3 a4 k, LeO (spec_ValidGraph.f k a0 a1 a2 a3 a4) (spec_ValidGraph.f (k + 1) a0 a1 a2 a3 a4) := by
 intro a0 a1 a2 a3 a4 k; obtain ⟨ih0, ih1, ih2, ih3⟩ := spec_ValidGraph.mono_l k; unfold spec_ValidGraph.f; exact zm
set_option maxHeartbeats 8000000 in
set_option maxRecDepth 100000 in
theorem spec_ValidGraph.calls (k : Nat) (Bd : Int) (BE : Option Addr) (Bv : Nat) (Bb : List Int) (Bs : Option Addr) (Bw : Nat) (Be : List Int) (Bt : Option Addr) (Bx : Nat) (Bf : List Int) (Bu : Option Addr) (Bz : Nat) (Bg : List Int) (r : Bool) (w : World) (hr0_1 : Kd.C (Kd.int .i64) w BE Bb.length Bb) (hc0_1 : Bb.length ≤ Bv) (hr0_2 : Kd.C (Kd.int .i64) w Bs Be.length Be) (hc0_2 : Be.length ≤ Bw) (hr0_3 : Kd.C (Kd.int .i64) w Bt Bf.length Bf) (hc0_3 : Bf.length ≤ Bx) (hr0_4 : Kd.C (Kd.int .i64) w Bu Bg.length Bg) (hc0_4 : Bg.length ≤ Bz) (h : spec_ValidGraph.f k Bd Bb Be Bf Bg = some r) :
  Calls Try.prog 28 #[.agg #[.int .i64 Bd, .slice BE Bb.length Bv, .slice Bs Be.length Bw, .slice Bt Bf.length Bx, .slice Bu Bg.length Bz]] w fun e w' => e = .returned (.bool r) ∧ Below w.heap.size w w' := by
 have hu26 := Try.underlying26; have Br := zA hr0_1; have BJ := zA hc0_1; clear hr0_1 hc0_1; have Bi := zA hr0_2; have BK := zA hc0_2; clear hr0_2 hc0_2; have Bn := zA hr0_3; have BL := zA hc0_3; clear hr0_3 hc0_3; have BB := zA hr0_4; have BM := zA hc0_4; clear hr0_4 hc0_4; have HB := zA (Below.refl w.heap.size w); have H : (if Bd < 1 then (spec_ValidGraph.j0 k true Bd Bb Be Bf Bg) else (if Bd > 1600 then (spec_ValidGraph.j0 k true Bd Bb Be Bf Bg) else (if (Bb.length : Int) = (wrap64 (Bd + 1)) then (if 0 < (Bb.length : Int) then (spec_ValidGraph.j0 k ((rd Bb 0) != 0) Bd Bb Be Bf Bg) else (none)) else (spec_ValidGraph.j0 k true Bd Bb Be Bf Bg)))) = some r := h; clear h; have HC2 := zA H; clear H; go_enter Try.func28, Try.ntmps28
 go_upto_region 1 with (first | ((with_reducible refine gate_dst (N := 1) rfl ?_); (try (refine gate_guard (by rfl) ?_; dsimp only)); refine zbx (N := 1) (cs := #[.int .i64 Bd, .slice BE Bb.length Bv, .slice Bs Be.length Bw, .slice Bt Bf.length Bx, .slice Bu Bg.length Bz]) (t := 26) ?_; intro Bk hg w3 hbox hb; have Bc := zA (hbox); have BI := zA (zg hg : w.heap.size ≤ Bk); have Bh := zA (zg hg : w.heap.size ≤ Bk); replace HB := zA (below_step z_ hb); clear hb hbox hg))
 repeat (go_quiet (first | ((with_reducible refine gate_dst (N := 1) rfl ?_); (try (refine gate_guard (by rfl) ?_; dsimp only)); refine zbx (N := 1) (cs := #[.int .i64 Bd, .slice BE Bb.length Bv, .slice Bs Be.length Bw, .slice Bt Bf.length Bx, .slice Bu Bg.length Bz]) (t := 26) ?_; intro Bk hg w3 hbox hb; have Bc := zA (hbox); have BI := zA (zg hg : w.heap.size ≤ Bk); have Bh := zA (zg hg : w.heap.size ≤ Bk); replace HB := zA (below_step z_ hb); clear hb hbox hg)); go_upto_region 1 with (first | ((with_reducible refine gate_dst (N := 1) rfl ?_); (try (refine gate_guard (by rfl) ?_; dsimp only)); refine zbx (N := 1) (cs := #[.int .i64 Bd, .slice BE Bb.length Bv, .slice Bs Be.length Bw, .slice Bt Bf.length Bx, .slice Bu Bg.length Bz]) (t := 26) ?_; intro Bk hg w3 hbox hb; have Bc := zA (hbox); have BI := zA (zg hg : w.heap.size ≤ Bk); have Bh := zA (zg hg : w.heap.size ≤ Bk); replace HB := zA (below_step z_ hb); clear hb hbox hg)))
 (try simp only [Act.put, List.setIfInBounds_toArray, List.set_cons_zero, List.set_cons_succ])
 go_cut [29] (fun v29 wc => ∃ (kq : Nat) (BD : Bool), v29 = .bool BD ∧ Aside0 (spec_ValidGraph.j0 kq BD Bd Bb Be Bf Bg = some r) ∧ Aside0 (kq ≤ k) ∧ Aside0 (wc.heap[Bk]? = some (.cells #[.int .i64 Bd, (.slice BE Bb.length Bv), (.slice Bs Be.length Bw), (.slice Bt Bf.length Bx), (.slice Bu Bg.length Bz)] 26 (0, 0))) ∧ Aside0 (Below w.heap.size w wc))
 case first =>
  have H := HC2.out; clear HC2
  by_cases c4 : Bd < 1
  ·rw [if_pos c4] at H; have c4b0 := decide_eq_true c4; clear c4
   (first | rw [c4b0] | (simp only [i64_w, i32_w]; rw [c4b0]) | skip)
   have H' := zA H; clear H; obtain ⟨haa, hab, hac, had, hae, haf, hag, hah, hai, haj⟩ := zh5 Bc.out; go_wp2; repeat (go_quiet (fail); try go_wp2)
   go_meet
   case rel => exact ⟨_, (true), zr, H', ⟨by first | omega | exact Nat.le_refl _⟩, ⟨zb Bc.out⟩, ⟨zs Bh.out⟩⟩
  ·rw [if_neg c4] at H; have c4b0 := decide_eq_false c4; clear c4
   (first | rw [c4b0] | (simp only [i64_w, i32_w]; rw [c4b0]) | skip)
   by_cases c6 : Bd > 1600
   ·rw [if_pos c6] at H; have c6b0 : decide (1600 < Bd) = true := decide_eq_true c6; clear c6; have H' := zA H; clear H; obtain ⟨hak, hal, ham, han, hao, hap, haq, har, has, hat⟩ := zh5 Bc.out; go_wp2; repeat (go_quiet (fail); try go_wp2)
    go_meet
    case rel => exact ⟨_, (true), zr, H', ⟨by first | omega | exact Nat.le_refl _⟩, ⟨zb Bc.out⟩, ⟨zs Bh.out⟩⟩
   ·rw [if_neg c6] at H; have c6b0 : decide (1600 < Bd) = false := decide_eq_false c6; clear c6
    by_cases c8 : (Bb.length : Int) = (wrap64 (Bd + 1))
    ·rw [if_pos c8] at H; have c8b0 := beq_iff_eq.mpr c8; have c8b1 := bne_eq_false_iff_eq.mpr c8; clear c8
     by_cases c9 : 0 < (Bb.length : Int)
     ·rw [if_pos c9] at H; have c9b0 := decide_eq_true c9; have c9b1 : decide (0 < Bb.length) = true := decide_eq_true (by omega); clear c9; have H' := zA H; clear H; obtain ⟨hau, hav, haw, hax, hay, haz, haA, haB, haC, haD⟩ := zh5 Bc.out; have p146 : 0 ≤ (0 : Int) := (by omega); have q146 : 0 < (Bb.length : Int) := zd; obtain ⟨BN, e146, haE⟩ := Kd.at_int Br.out 0 p146 q146; cases e146; have qi146 : (0 < Bb.length) = True := eq_true (by omega); (try rw [show ((0 : Int)).toNat = 0 from rfl] at haE); (try rw [Addr.add_zero'] at haE); replace haE := zx HB.out haE; replace p146 := eq_true p146; replace q146 := eq_true q146; go_wp2; repeat (go_quiet (fail); try go_wp2)
      go_meet
      case rel => exact ⟨_, (((rd Bb 0) != 0)), zr, H', ⟨by first | omega | exact Nat.le_refl _⟩, ⟨zb Bc.out⟩, ⟨zs Bh.out⟩⟩
     ·rw [if_neg c9] at H; exact absurd H (by simp)
    ·rw [if_neg c8] at H; have c8b0 := beq_eq_false_iff_ne.mpr c8; have c8b1 := bne_iff_ne.mpr c8; have H' := zA H; clear H; obtain ⟨haF, haG, haH, haI, haJ, haK, haL, haM, haN, haO⟩ := zh5 Bc.out; go_wp2; repeat (go_quiet (fail); try go_wp2)
     go_meet
     case rel => exact ⟨_, (true), zr, H', ⟨by first | omega | exact Nat.le_refl _⟩, ⟨zb Bc.out⟩, ⟨zs Bh.out⟩⟩
 case rest =>
  clear HC2; (try clear p1); (try clear c4); (try clear c4b0); (try clear c6); (try clear c6b0); (try clear c8); (try clear c8b0); (try clear c8b1); (try clear c9); (try clear c9b0); (try clear c9b1); (try clear hau hav haw hax hay); (try clear haF haG haH haI haJ); (try clear haa hab hac had hae); (try clear hak hal ham han hao); (try clear haz haA haB haC haD); (try clear haK haL haM haN haO); (try clear haf hag hah hai haj); (try clear hap haq har has hat); (try clear haE); (try clear p146); (try clear q146); obtain ⟨kq, BD, rfl, HA, HJ1, Bc, HB⟩ := hcut; cases kq with
  | zero => exact absurd HA.out (by simp [spec_ValidGraph.j0])
  | succ kj1 =>
   have H := HA.out; clear HA; simp only [spec_ValidGraph.j0] at H
   by_cases c12 : BD = true
   ·subst c12; rw [if_pos rfl] at H; (try dsimp only at H); obtain rfl := Option.some.inj H; go_wp2; repeat (go_quiet (fail); try go_wp2)
    go_ret; exact ⟨ze, (zs Bh.out)⟩
   ·replace c12 := Bool.eq_false_iff.mpr c12; subst c12; rw [if_neg (show ¬ (false = true) by decide)] at H; (try dsimp only at H)
    by_cases c13 : 0 ≤ Bd
    ·rw [if_pos c13] at H; have c13b0 := decide_eq_true c13; clear c13
     by_cases c14 : Bd < (Bb.length : Int)
     ·rw [if_pos c14] at H; have c14b0 := decide_eq_true c14; clear c14; have HC15 := zA H; clear H; obtain ⟨haP, haQ, haR, haS, haT, haU, haV, haW, haX, haY⟩ := zh5 Bc.out; have p147 := zt (0 ≤ (Bd : Int)); have q147 := zt (Bd < (Bb.length : Int)); obtain ⟨Bp, e147, haZ⟩ := Kd.at_int Br.out Bd zd zd; cases e147; replace haZ := zx HB.out haZ
      go_upto_region 4 with (fail)
      repeat (go_quiet (fail); go_upto_region 4 with (fail))
      go_cut [58] (fun v58 wc => ∃ (kq : Nat) (BA : Bool), v58 = .bool BA ∧ Aside0 (spec_ValidGraph.j1 kq (rd Bb Bd) BA Bd Bb Be Bf Bg = some r) ∧ Aside0 (kq ≤ kj1) ∧ Aside0 (wc.heap[Bk]? = some (.cells #[.int .i64 Bd, (.slice (some Bp) Bb.length Bv), (.slice Bs Be.length Bw), (.slice Bt Bf.length Bx), (.slice Bu Bg.length Bz)] 26 (0, 0))) ∧ Aside0 (Below w.heap.size w wc))
      case first =>
       have H := HC15.out; clear HC15
       by_cases c17 : (rd Bb Bd) > 6400
       ·rw [if_pos c17] at H; have c17b0 : decide (6400 < (rd Bb Bd)) = true := decide_eq_true c17; clear c17
        (first | rw [c17b0] | (simp only [i64_w, i32_w]; rw [c17b0]) | skip)
        have H' := zA H; clear H; go_wp2; repeat (go_quiet (fail); try go_wp2)
        go_meet
        case rel => exact ⟨_, (true), zr, H', ⟨by have := HJ1.out; first | omega | exact Nat.le_refl _⟩, ⟨zb Bc.out⟩, ⟨zs Bh.out⟩⟩
       ·rw [if_neg c17] at H; have c17b0 : decide (6400 < (rd Bb Bd)) = false := decide_eq_false c17; clear c17
        (first | rw [c17b0] | (simp only [i64_w, i32_w]; rw [c17b0]) | skip)
        by_cases c18 : (Be.length : Int) = (rd Bb Bd)
        ·rw [if_pos c18] at H; have c18b0 := beq_iff_eq.mpr c18; have c18b1 := bne_eq_false_iff_eq.mpr c18; clear c18
         by_cases c19 : (Bf.length : Int) = (rd Bb Bd)
         ·rw [if_pos c19] at H; have c19b0 := beq_iff_eq.mpr c19; have c19b1 := bne_eq_false_iff_eq.mpr c19; clear c19; have H' := zA H; clear H; obtain ⟨ha0, ha1, ha2, ha3, ha4, ha5, ha6, ha7, ha8, ha9⟩ := zh5 Bc.out; go_wp2; repeat (go_quiet (fail); try go_wp2)
          go_meet
          case rel => exact ⟨_, (((Bg.length : Int) != (rd Bb Bd))), zr, H', ⟨by have := HJ1.out; first | omega | exact Nat.le_refl _⟩, ⟨zb Bc.out⟩, ⟨zs Bh.out⟩⟩
         ·rw [if_neg c19] at H; have c19b0 := beq_eq_false_iff_ne.mpr c19; have c19b1 := bne_iff_ne.mpr c19; have H' := zA H; clear H; obtain ⟨hba, hbb, hbc, hbd, hbe, hbf, hbg, hbh, hbi, hbj⟩ := zh5 Bc.out; go_wp2; repeat (go_quiet (fail); try go_wp2)
          go_meet
          case rel => exact ⟨_, (true), zr, H', ⟨by have := HJ1.out; first | omega | exact Nat.le_refl _⟩, ⟨zb Bc.out⟩, ⟨zs Bh.out⟩⟩
        ·rw [if_neg c18] at H; have c18b0 := beq_eq_false_iff_ne.mpr c18; have c18b1 := bne_iff_ne.mpr c18; have H' := zA H; clear H; obtain ⟨hbk, hbl, hbm, hbn, hbo, hbp, hbq, hbr, hbs, hbt⟩ := zh5 Bc.out; go_wp2; repeat (go_quiet (fail); try go_wp2)
         go_meet
         case rel => exact ⟨_, (true), zr, H', ⟨by have := HJ1.out; first | omega | exact Nat.le_refl _⟩, ⟨zb Bc.out⟩, ⟨zs Bh.out⟩⟩
      case rest =>
       clear HC15; (try clear c1); (try clear c4); (try clear c4b0); (try clear c6); (try clear c6b0); (try clear c8); (try clear c8b0); (try clear c8b1); (try clear c9); (try clear c9b0); (try clear c9b1); (try clear c12); (try clear c13); (try clear c13b0); (try clear c14); (try clear c14b0); (try clear c17); (try clear c17b0); (try clear c18); (try clear c18b0); (try clear c18b1); (try clear c19); (try clear c19b0); (try clear c19b1); (try clear hau hav haw hax hay); (try clear haF haG haH haI haJ); (try clear haP haQ haR haS haT); (try clear ha0 ha1 ha2 ha3 ha4); (try clear hba hbb hbc hbd hbe); (try clear hbk hbl hbm hbn hbo); (try clear haa hab hac had hae); (try clear hak hal ham han hao); (try clear haz haA haB haC haD); (try clear haK haL haM haN haO); (try clear haU haV haW haX haY); (try clear ha5 ha6 ha7 ha8 ha9); (try clear hbf hbg hbh hbi hbj); (try clear hbp hbq hbr hbs hbt); (try clear haf hag hah hai haj); (try clear hap haq har has hat); (try clear haE); (try clear haZ); (try clear p146); (try clear p147); (try clear q146); (try clear q147); obtain ⟨kq, BA, rfl, HA, HJ14, Bc, HB⟩ := hcut; cases kq with
       | zero => exact absurd HA.out (by simp [spec_ValidGraph.j1])
       | succ kj14 =>
        have H := HA.out; clear HA; simp only [spec_ValidGraph.j1] at H
        by_cases c23 : BA = true
        ·subst c23; rw [if_pos rfl] at H; (try dsimp only at H); obtain rfl := Option.some.inj H; go_wp2; repeat (go_quiet (fail); try go_wp2)
         go_ret; exact ⟨ze, (zs Bh.out)⟩
        ·replace c23 := Bool.eq_false_iff.mpr c23; subst c23; rw [if_neg (show ¬ (false = true) by decide)] at H; (try dsimp only at H); have H' := zA H; clear H; go_wp2; repeat (go_quiet (fail); try go_wp2)
         go_loopg [4] kj14 (fun kq v4 w' => ∃ (Bl : Int), v4 = .int .i64 Bl ∧ Aside0 (spec_ValidGraph.l0 kq (rd Bb Bd) Bl Bd Bb Be Bf Bg = some r) ∧ Aside0 (kq ≤ kj14) ∧ Aside0 (w'.heap[Bk]? = some (.cells #[.int .i64 Bd, (.slice (some Bp) Bb.length Bv), (.slice Bs Be.length Bw), (.slice Bt Bf.length Bx), (.slice Bu Bg.length Bz)] 26 (0, 0))) ∧ Aside0 (Below w.heap.size w w'))
         case atStart => exact ⟨(0), zr, H', ⟨Nat.le_refl _⟩, ⟨zb Bc.out⟩, ⟨zs Bh.out⟩⟩
         case round =>
          clear H'; (try clear c1); (try clear c4); (try clear c4b0); (try clear c6); (try clear c6b0); (try clear c8); (try clear c8b0); (try clear c8b1); (try clear c9); (try clear c9b0); (try clear c9b1); (try clear c12); (try clear c13); (try clear c13b0); (try clear c14); (try clear c14b0); (try clear c17); (try clear c17b0); (try clear c18); (try clear c18b0); (try clear c18b1); (try clear c19); (try clear c19b0); (try clear c19b1); (try clear c23); (try clear hau hav haw hax hay); (try clear haF haG haH haI haJ); (try clear haP haQ haR haS haT); (try clear ha0 ha1 ha2 ha3 ha4); (try clear hba hbb hbc hbd hbe); (try clear hbk hbl hbm hbn hbo); (try clear haa hab hac had hae); (try clear hak hal ham han hao); (try clear haz haA haB haC haD); (try clear haK haL haM haN haO); (try clear haU haV haW haX haY); (try clear ha5 ha6 ha7 ha8 ha9); (try clear hbf hbg hbh hbi hbj); (try clear hbp hbq hbr hbs hbt); (try clear haf hag hah hai haj); (try clear hap haq har has hat); (try clear haE); (try clear haZ); (try clear p146); (try clear p147); (try clear q146); (try clear q147); obtain ⟨Bl, rfl, HA, HK3, Bc, HB⟩ := hrel; cases gk with
          | zero => exact absurd HA.out (by simp [spec_ValidGraph.l0])
          | succ k3 =>
           have H := HA.out; clear HA; simp only [spec_ValidGraph.l0] at H
           by_cases c24 : Bl < Bd
           ·rw [if_pos c24] at H; have c24b0 := decide_eq_true c24; clear c24; obtain ⟨ji25, hji25⟩ : ∃ j_ : Int, (wrap64 (Bl + 1)) = j_ := ⟨_, rfl⟩; replace H : (if 0 ≤ (ji25) then (if (ji25) < (Bb.length : Int) then (if 0 ≤ Bl then (if Bl < (Bb.length : Int) then (if (rd Bb (ji25)) < (rd Bb Bl) then (some false) else (spec_ValidGraph.l0 k3 (rd Bb Bd) ji25 Bd Bb Be Bf Bg)) else (none)) else (none)) else (none)) else (none)) = some r := by first | (rw [hji25] at H; exact H) | (simp only [hji25] at H ⊢; exact H)
            have hji25w : (IntKind.i64.wrap (Bl + 1)) = ji25 := (i64_w _).trans hji25
            by_cases c26 : 0 ≤ (ji25)
            ·rw [if_pos c26] at H; have c26b0 := decide_eq_true c26; clear c26
             by_cases c27 : (ji25) < (Bb.length : Int)
             ·rw [if_pos c27] at H; have c27b0 := decide_eq_true c27; clear c27
              by_cases c28 : 0 ≤ Bl
              ·rw [if_pos c28] at H; have c28b0 := decide_eq_true c28; clear c28
               by_cases c29 : Bl < (Bb.length : Int)
               ·rw [if_pos c29] at H; have c29b0 := decide_eq_true c29; clear c29
                by_cases c30 : (rd Bb (ji25)) < (rd Bb Bl)
                ·rw [if_pos c30] at H; have c30b0 := decide_eq_true c30; clear c30; obtain rfl := Option.some.inj H; obtain ⟨hbu, hbv, hbw, hbx, hby, hbz, hbA, hbB, hbC, hbD⟩ := zh5 Bc.out; have p148 : 0 ≤ ((ji25) : Int) := zd; have q148 : (ji25) < (Bb.length : Int) := zd; obtain ⟨BF, e148, hbE⟩ := Kd.at_int Br.out (ji25) p148 q148; obtain rfl : Bp = BF := (by injection e148); replace hbE := zx HB.out hbE; replace p148 := eq_true p148; replace q148 := eq_true q148; have p149 : 0 ≤ (Bl : Int) := zd; have q149 : Bl < (Bb.length : Int) := zd; obtain ⟨BG, e149, hbF⟩ := Kd.at_int Br.out Bl p149 q149; obtain rfl : Bp = BG := (by injection e149); replace hbF := zx HB.out hbF; replace p149 := eq_true p149; replace q149 := eq_true q149; go_wp2; repeat (go_quiet (fail); try go_wp2)
                 go_ret; exact ⟨by first | rfl | (simp [errW_none, errW_some] <;> rfl) | (simp only [← hji25]; first | rfl | (simp [errW_none, errW_some] <;> rfl)) | (simp [*, errW_none, errW_some] <;> rfl), (zs Bh.out)⟩
                ·rw [if_neg c30] at H; have c30b0 := decide_eq_false c30; clear c30; have H' := zA H; clear H; obtain ⟨hbG, hbH, hbI, hbJ, hbK, hbL, hbM, hbN, hbO, hbP⟩ := zh5 Bc.out; have p148 : 0 ≤ ((ji25) : Int) := zd; have q148 : (ji25) < (Bb.length : Int) := zd; obtain ⟨BF, e148, hbE⟩ := Kd.at_int Br.out (ji25) p148 q148; obtain rfl : Bp = BF := (by injection e148); replace hbE := zx HB.out hbE; replace p148 := eq_true p148; replace q148 := eq_true q148; have p149 : 0 ≤ (Bl : Int) := zd; have q149 : Bl < (Bb.length : Int) := zd; obtain ⟨BG, e149, hbF⟩ := Kd.at_int Br.out Bl p149 q149; obtain rfl : Bp = BG := (by injection e149); replace hbF := zx HB.out hbF; replace p149 := eq_true p149; replace q149 := eq_true q149; go_wp2; repeat (go_quiet (fail); try go_wp2)
                 go_roundg k3
                 case measure => have := HJ1.out; have := HJ14.out; have := HK3.out; omega
                 case rel => exact ⟨(ji25), (by first | rfl | (simp; done) | (simp only [← hji25] <;> (first | rfl | simp)) | (simp [*]; done)), H', ⟨by have := HJ1.out; have := HJ14.out; have := HK3.out; omega⟩, ⟨zb Bc.out⟩, ⟨zs Bh.out⟩⟩
               ·rw [if_neg c29] at H; exact absurd H (by simp)
              ·rw [if_neg c28] at H; exact absurd H (by simp)
             ·rw [if_neg c27] at H; exact absurd H (by simp)
            ·rw [if_neg c26] at H; exact absurd H (by simp)
           ·rw [if_neg c24] at H; have c24b0 := decide_eq_false c24; clear c24; have H' := zA H; clear H; obtain ⟨hbQ, hbR, hbS, hbT, hbU, hbV, hbW, hbX, hbY, hbZ⟩ := zh5 Bc.out; go_wp2; repeat (go_quiet (fail); try go_wp2)
            go_loopg [5] k3 (fun kq v5 w' => ∃ (Ba : Int), v5 = .int .i64 Ba ∧ Aside0 (spec_ValidGraph.l1 kq (rd Bb Bd) Ba Bd Bb Be Bf Bg = some r) ∧ Aside0 (kq ≤ k3) ∧ Aside0 (w'.heap[Bk]? = some (.cells #[.int .i64 Bd, (.slice (some Bp) Bb.length Bv), (.slice Bs Be.length Bw), (.slice Bt Bf.length Bx), (.slice Bu Bg.length Bz)] 26 (0, 0))) ∧ Aside0 (Below w.heap.size w w'))
            case atStart => exact ⟨(0), zr, H', ⟨Nat.le_refl _⟩, ⟨zb Bc.out⟩, ⟨zs Bh.out⟩⟩
            case round =>
             clear H'; (try clear c1); (try clear c4); (try clear c4b0); (try clear c6); (try clear c6b0); (try clear c8); (try clear c8b0); (try clear c8b1); (try clear c9); (try clear c9b0); (try clear c9b1); (try clear c12); (try clear c13); (try clear c13b0); (try clear c14); (try clear c14b0); (try clear c17); (try clear c17b0); (try clear c18); (try clear c18b0); (try clear c18b1); (try clear c19); (try clear c19b0); (try clear c19b1); (try clear c23); (try clear c24); (try clear c24b0); (try clear c26); (try clear c26b0); (try clear c27); (try clear c27b0); (try clear c28); (try clear c28b0); (try clear c29); (try clear c29b0); (try clear c30); (try clear c30b0); (try clear hau hav haw hax hay); (try clear haF haG haH haI haJ); (try clear haP haQ haR haS haT); (try clear ha0 ha1 ha2 ha3 ha4); (try clear hba hbb hbc hbd hbe); (try clear hbk hbl hbm hbn hbo); (try clear hbu hbv hbw hbx hby); (try clear hbG hbH hbI hbJ hbK); (try clear hbQ hbR hbS hbT hbU); (try clear haa hab hac had hae); (try clear hak hal ham han hao); (try clear haz haA haB haC haD); (try clear haK haL haM haN haO); (try clear haU haV haW haX haY); (try clear ha5 ha6 ha7 ha8 ha9); (try clear hbf hbg hbh hbi hbj); (try clear hbp hbq hbr hbs hbt); (try clear hbz hbA hbB hbC hbD); (try clear hbL hbM hbN hbO hbP); (try clear hbV hbW hbX hbY hbZ); (try clear haf hag hah hai haj); (try clear hap haq har has hat); (try clear haE); (try clear haZ); (try clear hbE); (try clear hbF); (try clear p146); (try clear p147); (try clear p148); (try clear p149); (try clear q146); (try clear q147); (try clear q148); (try clear q149)
             obtain ⟨Ba, rfl, HA, HK4, Bc, HB⟩ := hrel; cases gk with
             | zero => exact absurd HA.out (by simp [spec_ValidGraph.l1])
             | succ k4 =>
              have H := HA.out; clear HA; simp only [spec_ValidGraph.l1] at H
              by_cases c34 : Ba < (rd Bb Bd)
              ·rw [if_pos c34] at H; have c34b0 := decide_eq_true c34; clear c34
               by_cases c35 : 0 ≤ Ba
               ·rw [if_pos c35] at H; have c35b0 := decide_eq_true c35; clear c35
                by_cases c36 : Ba < (Be.length : Int)
                ·rw [if_pos c36] at H; have c36b0 := decide_eq_true c36; clear c36
                 by_cases c37 : (rd Be Ba) < 0
                 ·rw [if_pos c37] at H; have c37b0 := decide_eq_true c37; clear c37; obtain rfl := Option.some.inj H; obtain ⟨hb0, hb1, hb2, hb3, hb4, hb5, hb6, hb7, hb8, hb9⟩ := zh5 Bc.out; have p150 : 0 ≤ (Ba : Int) := zd; have q150 : Ba < (Be.length : Int) := zd; obtain ⟨Bj, e150, hca⟩ := Kd.at_int Bi.out Ba p150 q150; cases e150; replace hca := zx HB.out hca; replace p150 := eq_true p150; replace q150 := eq_true q150; go_wp2; repeat (go_quiet (fail); try go_wp2)
                  go_ret; exact ⟨ze, (zs Bh.out)⟩
                 ·rw [if_neg c37] at H; have c37b0 := decide_eq_false c37; clear c37
                  by_cases c39 : (rd Be Ba) ≥ Bd
                  ·rw [if_pos c39] at H; have c39b0 : decide (Bd ≤ (rd Be Ba)) = true := decide_eq_true c39; clear c39; obtain rfl := Option.some.inj H; obtain ⟨hcb, hcc, hcd, hce, hcf, hcg, hch, hci, hcj, hck⟩ := zh5 Bc.out; have p150 : 0 ≤ (Ba : Int) := zd; have q150 : Ba < (Be.length : Int) := zd; obtain ⟨Bj, e150, hca⟩ := Kd.at_int Bi.out Ba p150 q150; cases e150; replace hca := zx HB.out hca; replace p150 := eq_true p150; replace q150 := eq_true q150; have p151 : 0 ≤ (Ba : Int) := zd; have q151 : Ba < (Be.length : Int) := zd; obtain ⟨Bm, e151, hcl⟩ := Kd.at_int Bi.out Ba p151 q151; obtain rfl : Bj = Bm := (by injection e151); replace hcl := zx HB.out hcl; replace p151 := eq_true p151; replace q151 := eq_true q151; go_wp2; repeat (go_quiet (fail); try go_wp2)
                   go_ret; exact ⟨ze, (zs Bh.out)⟩
                  ·rw [if_neg c39] at H; have c39b0 : decide (Bd ≤ (rd Be Ba)) = false := decide_eq_false c39; clear c39
                   by_cases c41 : Ba < (Bf.length : Int)
                   ·rw [if_pos c41] at H; have c41b0 := decide_eq_true c41; clear c41
                    by_cases c42 : (rd Bf Ba) < 0
                    ·rw [if_pos c42] at H; have c42b0 := decide_eq_true c42; clear c42; obtain rfl := Option.some.inj H; obtain ⟨hcm, hcn, hco, hcp, hcq, hcr, hcs, hct, hcu, hcv⟩ := zh5 Bc.out; have p150 : 0 ≤ (Ba : Int) := zd; have q150 : Ba < (Be.length : Int) := zd; obtain ⟨Bj, e150, hca⟩ := Kd.at_int Bi.out Ba p150 q150; cases e150; replace hca := zx HB.out hca; replace p150 := eq_true p150; replace q150 := eq_true q150; have p151 : 0 ≤ (Ba : Int) := zd; have q151 : Ba < (Be.length : Int) := zd; obtain ⟨Bm, e151, hcl⟩ := Kd.at_int Bi.out Ba p151 q151; obtain rfl : Bj = Bm := (by injection e151); replace hcl := zx HB.out hcl; replace p151 := eq_true p151; replace q151 := eq_true q151; have p152 : 0 ≤ (Ba : Int) := zd; have q152 : Ba < (Bf.length : Int) := zd; obtain ⟨Bo, e152, hcw⟩ := Kd.at_int Bn.out Ba p152 q152; cases e152; replace hcw := zx HB.out hcw; replace p152 := eq_true p152; replace q152 := eq_true q152; go_wp2; repeat (go_quiet (fail); try go_wp2)
                     go_ret; exact ⟨ze, (zs Bh.out)⟩
                    ·rw [if_neg c42] at H; have c42b0 := decide_eq_false c42; clear c42
                     by_cases c44 : (rd Bf Ba) > 3
                     ·rw [if_pos c44] at H; have c44b0 : decide (3 < (rd Bf Ba)) = true := decide_eq_true c44; clear c44; obtain rfl := Option.some.inj H; obtain ⟨hcx, hcy, hcz, hcA, hcB, hcC, hcD, hcE, hcF, hcG⟩ := zh5 Bc.out; have p150 : 0 ≤ (Ba : Int) := zd; have q150 : Ba < (Be.length : Int) := zd; obtain ⟨Bj, e150, hca⟩ := Kd.at_int Bi.out Ba p150 q150; cases e150; replace hca := zx HB.out hca; replace p150 := eq_true p150; replace q150 := eq_true q150; have p151 : 0 ≤ (Ba : Int) := zd; have q151 : Ba < (Be.length : Int) := zd; obtain ⟨Bm, e151, hcl⟩ := Kd.at_int Bi.out Ba p151 q151; obtain rfl : Bj = Bm := (by injection e151); replace hcl := zx HB.out hcl; replace p151 := eq_true p151; replace q151 := eq_true q151; have p152 : 0 ≤ (Ba : Int) := zd; have q152 : Ba < (Bf.length : Int) := zd; obtain ⟨Bo, e152, hcw⟩ := Kd.at_int Bn.out Ba p152 q152; cases e152; replace hcw := zx HB.out hcw; replace p152 := eq_true p152; replace q152 := eq_true q152; have p153 : 0 ≤ (Ba : Int) := zd; have q153 : Ba < (Bf.length : Int) := zd; obtain ⟨Bq, e153, hcH⟩ := Kd.at_int Bn.out Ba p153 q153; obtain rfl : Bo = Bq := (by injection e153); replace hcH := zx HB.out hcH; replace p153 := eq_true p153; replace q153 := eq_true q153; go_wp2; repeat (go_quiet (fail); try go_wp2)
                      go_ret; exact ⟨ze, (zs Bh.out)⟩
                     ·rw [if_neg c44] at H; have c44b0 : decide (3 < (rd Bf Ba)) = false := decide_eq_false c44; clear c44
                      by_cases c46 : Ba < (Bg.length : Int)
                      ·rw [if_pos c46] at H; have c46b0 := decide_eq_true c46; clear c46
                       by_cases c47 : (rd Bg Ba) < 1
                       ·rw [if_pos c47] at H; have c47b0 := decide_eq_true c47; clear c47; obtain rfl := Option.some.inj H; obtain ⟨hcI, hcJ, hcK, hcL, hcM, hcN, hcO, hcP, hcQ, hcR⟩ := zh5 Bc.out; have p150 : 0 ≤ (Ba : Int) := zd; have q150 : Ba < (Be.length : Int) := zd; obtain ⟨Bj, e150, hca⟩ := Kd.at_int Bi.out Ba p150 q150; cases e150; replace hca := zx HB.out hca; replace p150 := eq_true p150; replace q150 := eq_true q150; have p151 : 0 ≤ (Ba : Int) := zd; have q151 : Ba < (Be.length : Int) := zd; obtain ⟨Bm, e151, hcl⟩ := Kd.at_int Bi.out Ba p151 q151; obtain rfl : Bj = Bm := (by injection e151); replace hcl := zx HB.out hcl; replace p151 := eq_true p151; replace q151 := eq_true q151; have p152 : 0 ≤ (Ba : Int) := zd; have q152 : Ba < (Bf.length : Int) := zd; obtain ⟨Bo, e152, hcw⟩ := Kd.at_int Bn.out Ba p152 q152; cases e152; replace hcw := zx HB.out hcw; replace p152 := eq_true p152; replace q152 := eq_true q152; have p153 : 0 ≤ (Ba : Int) := zd; have q153 : Ba < (Bf.length : Int) := zd; obtain ⟨Bq, e153, hcH⟩ := Kd.at_int Bn.out Ba p153 q153; obtain rfl : Bo = Bq := (by injection e153); replace hcH := zx HB.out hcH; replace p153 := eq_true p153; replace q153 := eq_true q153; have p154 : 0 ≤ (Ba : Int) := zd; have q154 : Ba < (Bg.length : Int) := zd; obtain ⟨BC, e154, hcS⟩ := Kd.at_int BB.out Ba p154 q154; cases e154; replace hcS := zx HB.out hcS; replace p154 := eq_true p154; replace q154 := eq_true q154
                        go_wp2; repeat (go_quiet (fail); try go_wp2)
                        go_ret; exact ⟨ze, (zs Bh.out)⟩
                       ·rw [if_neg c47] at H; have c47b0 := decide_eq_false c47; clear c47
                        by_cases c49 : (rd Bg Ba) > 9
                        ·rw [if_pos c49] at H; have c49b0 : decide (9 < (rd Bg Ba)) = true := decide_eq_true c49; clear c49; obtain rfl := Option.some.inj H; obtain ⟨hcT, hcU, hcV, hcW, hcX, hcY, hcZ, hc0, hc1, hc2⟩ := zh5 Bc.out; have p150 : 0 ≤ (Ba : Int) := zd; have q150 : Ba < (Be.length : Int) := zd; obtain ⟨Bj, e150, hca⟩ := Kd.at_int Bi.out Ba p150 q150; cases e150; replace hca := zx HB.out hca; replace p150 := eq_true p150; replace q150 := eq_true q150; have p151 : 0 ≤ (Ba : Int) := zd; have q151 : Ba < (Be.length : Int) := zd; obtain ⟨Bm, e151, hcl⟩ := Kd.at_int Bi.out Ba p151 q151; obtain rfl : Bj = Bm := (by injection e151); replace hcl := zx HB.out hcl; replace p151 := eq_true p151; replace q151 := eq_true q151; have p152 : 0 ≤ (Ba : Int) := zd; have q152 : Ba < (Bf.length : Int) := zd; obtain ⟨Bo, e152, hcw⟩ := Kd.at_int Bn.out Ba p152 q152; cases e152; replace hcw := zx HB.out hcw; replace p152 := eq_true p152; replace q152 := eq_true q152; have p153 : 0 ≤ (Ba : Int) := zd; have q153 : Ba < (Bf.length : Int) := zd; obtain ⟨Bq, e153, hcH⟩ := Kd.at_int Bn.out Ba p153 q153; obtain rfl : Bo = Bq := (by injection e153); replace hcH := zx HB.out hcH; replace p153 := eq_true p153; replace q153 := eq_true q153; have p154 : 0 ≤ (Ba : Int) := zd; have q154 : Ba < (Bg.length : Int) := zd; obtain ⟨BC, e154, hcS⟩ := Kd.at_int BB.out Ba p154 q154; cases e154; replace hcS := zx HB.out hcS; replace p154 := eq_true p154
                         replace q154 := eq_true q154; have p155 : 0 ≤ (Ba : Int) := zd; have q155 : Ba < (Bg.length : Int) := zd; obtain ⟨BH, e155, hc3⟩ := Kd.at_int BB.out Ba p155 q155; obtain rfl : BC = BH := (by injection e155); replace hc3 := zx HB.out hc3; replace p155 := eq_true p155; replace q155 := eq_true q155; go_wp2; repeat (go_quiet (fail); try go_wp2)
                         go_ret; exact ⟨ze, (zs Bh.out)⟩
                        ·rw [if_neg c49] at H; have c49b0 : decide (9 < (rd Bg Ba)) = false := decide_eq_false c49; clear c49; have H' := zA H; clear H; obtain ⟨hc4, hc5, hc6, hc7, hc8, hc9, hda, hdb, hdc, hdd⟩ := zh5 Bc.out; have p150 : 0 ≤ (Ba : Int) := zd; have q150 : Ba < (Be.length : Int) := zd; obtain ⟨Bj, e150, hca⟩ := Kd.at_int Bi.out Ba p150 q150; cases e150; replace hca := zx HB.out hca; replace p150 := eq_true p150; replace q150 := eq_true q150; have p151 : 0 ≤ (Ba : Int) := zd; have q151 : Ba < (Be.length : Int) := zd; obtain ⟨Bm, e151, hcl⟩ := Kd.at_int Bi.out Ba p151 q151; obtain rfl : Bj = Bm := (by injection e151); replace hcl := zx HB.out hcl; replace p151 := eq_true p151; replace q151 := eq_true q151; have p152 : 0 ≤ (Ba : Int) := zd; have q152 : Ba < (Bf.length : Int) := zd; obtain ⟨Bo, e152, hcw⟩ := Kd.at_int Bn.out Ba p152 q152; cases e152; replace hcw := zx HB.out hcw; replace p152 := eq_true p152; replace q152 := eq_true q152; have p153 : 0 ≤ (Ba : Int) := zd; have q153 : Ba < (Bf.length : Int) := zd; obtain ⟨Bq, e153, hcH⟩ := Kd.at_int Bn.out Ba p153 q153; obtain rfl : Bo = Bq := (by injection e153); replace hcH := zx HB.out hcH; replace p153 := eq_true p153; replace q153 := eq_true q153; have p154 : 0 ≤ (Ba : Int) := zd; have q154 : Ba < (Bg.length : Int) := zd; obtain ⟨BC, e154, hcS⟩ := Kd.at_int BB.out Ba p154 q154; cases e154; replace hcS := zx HB.out hcS; replace p154 := eq_true p154
                         replace q154 := eq_true q154; have p155 : 0 ≤ (Ba : Int) := zd; have q155 : Ba < (Bg.length : Int) := zd; obtain ⟨BH, e155, hc3⟩ := Kd.at_int BB.out Ba p155 q155; obtain rfl : BC = BH := (by injection e155); replace hc3 := zx HB.out hc3; replace p155 := eq_true p155; replace q155 := eq_true q155; go_wp2; repeat (go_quiet (fail); try go_wp2)
                         go_roundg k4
                         case measure => have := HJ1.out; have := HJ14.out; have := HK3.out; have := HK4.out; omega
                         case rel => exact ⟨(wrap64 (Ba + 1)), zr, H', ⟨by have := HJ1.out; have := HJ14.out; have := HK3.out; have := HK4.out; omega⟩, ⟨zb Bc.out⟩, ⟨zs Bh.out⟩⟩
                      ·rw [if_neg c46] at H; exact absurd H (by simp)
                   ·rw [if_neg c41] at H; exact absurd H (by simp)
                ·rw [if_neg c36] at H; exact absurd H (by simp)
               ·rw [if_neg c35] at H; exact absurd H (by simp)
              ·rw [if_neg c34] at H; have c34b0 := decide_eq_false c34; clear c34; obtain rfl := Option.some.inj H; go_wp2; repeat (go_quiet (fail); try go_wp2)
               go_ret; exact ⟨ze, (zs Bh.out)⟩
     ·rw [if_neg c14] at H; exact absurd H (by simp)
    ·rw [if_neg c13] at H; exact absurd H (by simp)

end Go.Proofs.Ytiboccbaaphbhaa.PFnExactComponents
