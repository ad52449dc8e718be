-- made by wip/tools/myprint.py (this session's own program, over the kit's printer)
import Derived.Test.YthbeplmihjhoeaaDoorPFnExactRunFleetx0
import Derived.Test.YthbeplmihjhoeaaDoorPFnExactRunFleetx7
import Derived.Test.YthbeplmihjhoeaaDoorPFnExactRunFleetx9
namespace Go.Proofs.YthbeplmihjhoeaaDoor.PFnExactRunFleet
open Go.RowKit Go.Proofs.YthbeplmihjhoeaaDoorW.PrintWords Go.Proofs.YthbeplmihjhoeaaDoorW.PrintLast Go.Proofs.YthbeplmihjhoeaaDoorW.PrintMore
attribute [local go_sem] max2_int min2_int max_two min_two max_three min_three max_four min_four   -- for this text's walks alone
set_option linter.unusedVariables false
set_option linter.unusedSimpArgs false

/-! ### spec_ValidTables: function 80 -/
mutual
def spec_ValidTables.j0 : Nat → Bool → Int → Int → List (S120) → List (List Int) → List (List Int) → Option (Bool)
 | 0, _, _, _, _, _, _ => none
 | k + 1, x32, x245000, x245001, x245002, x245003, x245004 => if x32 = true then (some false) else (if (x245003.length : Int) = (x245002.length : Int) then (spec_ValidTables.j1 k ((x245004.length : Int) != (x245002.length : Int)) x245000 x245001 x245002 x245003 x245004) else (spec_ValidTables.j1 k true x245000 x245001 x245002 x245003 x245004))
def spec_ValidTables.j1 : Nat → Bool → Int → Int → List (S120) → List (List Int) → List (List Int) → Option (Bool)
 | 0, _, _, _, _, _, _ => none
 | k + 1, x48, x245000, x245001, x245002, x245003, x245004 => if x48 = true then (some false) else (spec_ValidTables.l0 k 0 x245000 x245001 x245002 x245003 x245004)
def spec_ValidTables.l0 : Nat → Int → Int → Int → List (S120) → List (List Int) → List (List Int) → Option (Bool)
 | 0, _, _, _, _, _, _ => none
 | k + 1, x3, x245000, x245001, x245002, x245003, x245004 => if x3 < (x245002.length : Int) then ((spec_l6rowOK.f k x245000 x245001 x245002 x245003 x245004 x3).bind fun Bz => (if Bz = true then (spec_ValidTables.l0 k (wrap64 (x3 + 1)) x245000 x245001 x245002 x245003 x245004) else (some false))) else (some true)
end
def spec_ValidTables.f (k : Nat) (Bb : Int) (Bc : Int) (Bd : List (S120)) (Be : List (List Int)) (Bf : List (List Int)) : Option (Bool) := if Bb < 1 then (spec_ValidTables.j0 k true Bb Bc Bd Be Bf) else (if Bb > 40 then (spec_ValidTables.j0 k true Bb Bc Bd Be Bf) else (if Bc < 1 then (spec_ValidTables.j0 k true Bb Bc Bd Be Bf) else (if Bc > 40 then (spec_ValidTables.j0 k true Bb Bc Bd Be Bf) else ((spec_l4targetsOK.f k Bd (wrap64 (Bb * Bc))).bind fun Br => (spec_ValidTables.j0 k (!Br) Bb Bc Bd Be Bf)))))
theorem spec_ValidTables.mono_l : ∀ k, (∀ y0 y1 y2 y3 y4 y5, LeO (spec_ValidTables.j0 k y0 y1 y2 y3 y4 y5) (spec_ValidTables.j0 (k + 1) y0 y1 y2 y3 y4 y5)) ∧ (∀ y0 y1 y2 y3 y4 y5, LeO (spec_ValidTables.j1 k y0 y1 y2 y3 y4 y5) (spec_ValidTables.j1 (k + 1) y0 y1 y2 y3 y4 y5)) ∧ (∀ y0 y1 y2 y3 y4 y5, LeO (spec_ValidTables.l0 k y0 y1 y2 y3 y4 y5) (spec_ValidTables.l0 (k + 1) y0 y1 y2 y3 y4 y5))
 | 0 => ⟨fun _ _ _ _ _ _ r h => by simp [spec_ValidTables.j0] at h, fun _ _ _ _ _ _ r h => by simp [spec_ValidTables.j1] at h, fun _ _ _ _ _ _ r h => by simp [spec_ValidTables.l0] at h⟩
 | k + 1 => by
  obtain ⟨ih0, ih1, ih2⟩ := spec_ValidTables.mono_l k; refine ⟨?_, ?_, ?_⟩
  ·intro y0 y1 y2 y3 y4 y5; unfold spec_ValidTables.j0; have m1 := @spec_l4targetsOK.mono; have m2 := @spec_l6rowOK.mono; exact zm
  ·intro y0 y1 y2 y3 y4 y5; unfold spec_ValidTables.j1; have m1 := @spec_l4targetsOK.mono; have m2 := @spec_l6rowOK.mono; exact zm
  ·intro y0 y1 y2 y3 y4 y5; unfold spec_ValidTables.l0; have m1 := @spec_l4targetsOK.mono; have m2 := @spec_l6rowOK.mono; exact zm
theorem spec_ValidTables.mono : ∀ a0 a1 a2 a3 a4 k, LeO (spec_ValidTables.f k a0 a1 a2 a3 a4) (spec_ValidTables.f (k + 1) a0 a1 a2 a3 a4) := by
 intro a0 a1 a2 a3 a4 k; obtain ⟨ih0, ih1, ih2⟩ := spec_ValidTables.mono_l k; unfold spec_ValidTables.f; have m1 := @spec_l4targetsOK.mono; have m2 := @spec_l6rowOK.mono; exact zm
set_option maxHeartbeats 8000000 in
set_option maxRecDepth 100000 in
theorem spec_ValidTables.calls (k : Nat) (Bb : Int) (Bc : Int) (Bj : Option Addr) (Bm : Nat) (Bd : List (S120)) (Bk : Option Addr) (Bn : Nat) (Be : List (List Int)) (Bl : Option Addr) (Bo : Nat) (Bf : List (List Int)) (r : Bool) (w : World) (hr0_2 : Kd.C k120 w Bj Bd.length Bd) (hc0_2 : Bd.length ≤ Bm) (hr0_3 : Kd.C (Kd.slice 3 (Kd.int .i64)) w Bk Be.length Be) (hc0_3 : Be.length ≤ Bn) (hr0_4 : Kd.C (Kd.slice 3 (Kd.int .i64)) w Bl Bf.length Bf) (hc0_4 : Bf.length ≤ Bo) (h : spec_ValidTables.f k Bb Bc Bd Be Bf = some r) :
  Calls Tryd.prog 80 #[.agg #[.int .i64 Bb, .int .i64 Bc, .slice Bj Bd.length Bm, .slice Bk Be.length Bn, .slice Bl Bf.length Bo]] w fun e w' => e = .returned (.bool r) ∧ Below w.heap.size w w' := by
 have hu47 := Tryd.underlying47; have Bt := zA hr0_2; have Bs := zA hc0_2; clear hr0_2 hc0_2; have Bw := zA hr0_3; have Bu := zA hc0_3; clear hr0_3 hc0_3; have Bx := zA hr0_4; have Bv := zA hc0_4; clear hr0_4 hc0_4; have HB := zA (Below.refl w.heap.size w); have H : (if Bb < 1 then (spec_ValidTables.j0 k true Bb Bc Bd Be Bf) else (if Bb > 40 then (spec_ValidTables.j0 k true Bb Bc Bd Be Bf) else (if Bc < 1 then (spec_ValidTables.j0 k true Bb Bc Bd Be Bf) else (if Bc > 40 then (spec_ValidTables.j0 k true Bb Bc Bd Be Bf) else ((spec_l4targetsOK.f k Bd (wrap64 (Bb * Bc))).bind fun Br => (spec_ValidTables.j0 k (!Br) Bb Bc Bd Be Bf)))))) = some r := h; clear h; have HC2 := zA H; clear H; go_enter Tryd.func80, Tryd.ntmps80
 go_upto_region 1 with (first | ((with_reducible refine gate_dst (N := 1) rfl ?_); (try (refine gate_guard (by rfl) ?_; dsimp only)); refine zbx (N := 1) (cs := #[.int .i64 Bb, .int .i64 Bc, .slice Bj Bd.length Bm, .slice Bk Be.length Bn, .slice Bl Bf.length Bo]) (t := 47) ?_; intro Bp hg w3 hbox hb; have Ba := zA (hbox); have BA := zA (zg hg : w.heap.size ≤ Bp); have Bg := zA (zg hg : w.heap.size ≤ Bp); replace HB := zA (below_step z_ hb); clear hb hbox hg))
 (try simp only [Act.put, List.setIfInBounds_toArray, List.set_cons_zero, List.set_cons_succ])
 go_cut [32] (fun v32 wc => ∃ (kq : Nat) (Bq : Bool), v32 = .bool Bq ∧ Aside0 (spec_ValidTables.j0 kq Bq Bb Bc Bd Be Bf = some r) ∧ Aside0 (kq ≤ k) ∧ Aside0 (wc.heap[Bp]? = some (.cells #[.int .i64 Bb, .int .i64 Bc, (.slice Bj Bd.length Bm), (.slice Bk Be.length Bn), (.slice Bl Bf.length Bo)] 47 (0, 0))) ∧ Aside0 (Below w.heap.size w wc))
 case first =>
  have H := HC2.out; clear HC2
  by_cases c4 : Bb < 1
  ·rw [if_pos c4] at H; have c4b0 := decide_eq_true c4; clear c4
   (first | rw [c4b0] | (simp only [i64_w, i32_w]; rw [c4b0]) | skip)
   have H' := zA H; clear H; obtain ⟨haa, hab, hac, had, hae, haf, hag, hah, hai, haj⟩ := zh5 Ba.out; go_wp2; go_meet
   case rel => exact ⟨_, (true), zr, H', ⟨by first | omega | exact Nat.le_refl _⟩, ⟨zb Ba.out⟩, ⟨zs Bg.out⟩⟩
  ·rw [if_neg c4] at H; have c4b0 := decide_eq_false c4; clear c4
   (first | rw [c4b0] | (simp only [i64_w, i32_w]; rw [c4b0]) | skip)
   by_cases c6 : Bb > 40
   ·rw [if_pos c6] at H; have c6b0 : decide (40 < Bb) = true := decide_eq_true c6; clear c6; have H' := zA H; clear H; obtain ⟨hak, hal, ham, han, hao, hap, haq, har, has, hat⟩ := zh5 Ba.out; go_wp2; go_meet
    case rel => exact ⟨_, (true), zr, H', ⟨by first | omega | exact Nat.le_refl _⟩, ⟨zb Ba.out⟩, ⟨zs Bg.out⟩⟩
   ·rw [if_neg c6] at H; have c6b0 : decide (40 < Bb) = false := decide_eq_false c6; clear c6
    by_cases c8 : Bc < 1
    ·rw [if_pos c8] at H; have c8b0 := decide_eq_true c8; clear c8; have H' := zA H; clear H; obtain ⟨hau, hav, haw, hax, hay, haz, haA, haB, haC, haD⟩ := zh5 Ba.out; go_wp2; go_meet
     case rel => exact ⟨_, (true), zr, H', ⟨by first | omega | exact Nat.le_refl _⟩, ⟨zb Ba.out⟩, ⟨zs Bg.out⟩⟩
    ·rw [if_neg c8] at H; have c8b0 := decide_eq_false c8; clear c8
     by_cases c10 : Bc > 40
     ·rw [if_pos c10] at H; have c10b0 : decide (40 < Bc) = true := decide_eq_true c10; clear c10; have H' := zA H; clear H; obtain ⟨haE, haF, haG, haH, haI, haJ, haK, haL, haM, haN⟩ := zh5 Ba.out; go_wp2; go_meet
      case rel => exact ⟨_, (true), zr, H', ⟨by first | omega | exact Nat.le_refl _⟩, ⟨zb Ba.out⟩, ⟨zs Bg.out⟩⟩
     ·rw [if_neg c10] at H; have c10b0 : decide (40 < Bc) = false := decide_eq_false c10; clear c10; replace H := Option.bind_eq_some_iff.mp H; obtain ⟨Br, A120, H⟩ := H; (try dsimp only at H); have A12 := zA A120; clear A120; have H' := zA H; clear H; obtain ⟨haO, haP, haQ, haR, haS, haT, haU, haV, haW, haX⟩ := zh5 Ba.out; go_wp2_with (first | (go_at_call 136; (with_reducible refine (spec_l4targetsOK.calls k _ _ Bd (wrap64 (Bb * Bc)) Br _ ?s1 ?s2 A12.out).mono ?_); (case s1 => exact zc (Kd.C_below Bt.out HB.out)); (case s2 => exact Bs.out); rintro e w14 ⟨rfl, hb⟩; replace Ba := zA (zB Ba.out hb); replace HB := zA (below_step (zs Bg.out) hb); (try clear hb))); go_meet
      case rel => exact ⟨_, (!Br), zr, H', ⟨by first | omega | exact Nat.le_refl _⟩, ⟨zb Ba.out⟩, ⟨zs Bg.out⟩⟩
 case rest =>
  clear HC2; (try clear c1); (try clear c4); (try clear c4b0); (try clear c6); (try clear c6b0); (try clear c8); (try clear c8b0); (try clear c10); (try clear c10b0); (try clear haE haF haG haH haI); (try clear haO haP haQ haR haS); (try clear haa hab hac had hae); (try clear hak hal ham han hao); (try clear hau hav haw hax hay); (try clear haJ haK haL haM haN); (try clear haT haU haV haW haX); (try clear haf hag hah hai haj); (try clear hap haq har has hat); (try clear haz haA haB haC haD); obtain ⟨kq, Bq, rfl, HA, HJ1, Ba, HB⟩ := hcut; cases kq with
  | zero => exact absurd HA.out (by simp [spec_ValidTables.j0])
  | succ kj1 =>
   have H := HA.out; clear HA; simp only [spec_ValidTables.j0] at H
   by_cases c15 : Bq = true
   ·subst c15; rw [if_pos rfl] at H; (try dsimp only at H); obtain rfl := Option.some.inj H; go_wp2; go_ret; exact ⟨ze, (zs Bg.out)⟩
   ·replace c15 := Bool.eq_false_iff.mpr c15; subst c15; rw [if_neg (show ¬ (false = true) by decide)] at H; (try dsimp only at H); have HC16 := zA H; clear H
    go_upto_region 3 with (fail)
    go_cut [48] (fun v48 wc => ∃ (kq : Nat) (Bi : Bool), v48 = .bool Bi ∧ Aside0 (spec_ValidTables.j1 kq Bi Bb Bc Bd Be Bf = some r) ∧ Aside0 (kq ≤ kj1) ∧ Aside0 (wc.heap[Bp]? = some (.cells #[.int .i64 Bb, .int .i64 Bc, (.slice Bj Bd.length Bm), (.slice Bk Be.length Bn), (.slice Bl Bf.length Bo)] 47 (0, 0))) ∧ Aside0 (Below w.heap.size w wc))
    case first =>
     have H := HC16.out; clear HC16
     by_cases c17 : (Be.length : Int) = (Bd.length : Int)
     ·rw [if_pos c17] at H; have c17b0 := beq_iff_eq.mpr c17; have c17b1 := bne_eq_false_iff_eq.mpr c17; have c17b2 : (Be.length == Bd.length) = true := by first | simpa using c17 | (simp at c17 ⊢; omega)
      clear c17
      (first | rw [c17b0] | (simp only [i64_w, i32_w]; rw [c17b0]) | skip)
      have H' := zA H; clear H; obtain ⟨haY, haZ, ha0, ha1, ha2, ha3, ha4, ha5, ha6, ha7⟩ := zh5 Ba.out; go_wp2; go_meet
      case rel => exact ⟨_, (((Bf.length : Int) != (Bd.length : Int))), zr, H', ⟨by have := HJ1.out; first | omega | exact Nat.le_refl _⟩, ⟨zb Ba.out⟩, ⟨zs Bg.out⟩⟩
     ·rw [if_neg c17] at H; have c17b0 := beq_eq_false_iff_ne.mpr c17; have c17b1 := bne_iff_ne.mpr c17; have c17b2 : (Be.length == Bd.length) = false := by first | simpa using c17 | (simp at c17 ⊢; omega)
      (first | rw [c17b0] | (simp only [i64_w, i32_w]; rw [c17b0]) | skip)
      have H' := zA H; clear H; obtain ⟨ha8, ha9, hba, hbb, hbc, hbd, hbe, hbf, hbg, hbh⟩ := zh5 Ba.out; go_wp2; go_meet
      case rel => exact ⟨_, (true), zr, H', ⟨by have := HJ1.out; first | omega | exact Nat.le_refl _⟩, ⟨zb Ba.out⟩, ⟨zs Bg.out⟩⟩
    case rest =>
     clear HC16; (try clear c1); (try clear c4); (try clear c4b0); (try clear c6); (try clear c6b0); (try clear c8); (try clear c8b0); (try clear c10); (try clear c10b0); (try clear c15); (try clear c17); (try clear c17b0); (try clear c17b1); (try clear c17b2); (try clear haE haF haG haH haI); (try clear haO haP haQ haR haS); (try clear haY haZ ha0 ha1 ha2); (try clear ha8 ha9 hba hbb hbc); (try clear haa hab hac had hae); (try clear hak hal ham han hao); (try clear hau hav haw hax hay); (try clear haJ haK haL haM haN); (try clear haT haU haV haW haX); (try clear ha3 ha4 ha5 ha6 ha7); (try clear hbd hbe hbf hbg hbh); (try clear haf hag hah hai haj); (try clear hap haq har has hat); (try clear haz haA haB haC haD); obtain ⟨kq, Bi, rfl, HA, HJ15, Ba, HB⟩ := hcut; cases kq with
     | zero => exact absurd HA.out (by simp [spec_ValidTables.j1])
     | succ kj15 =>
      have H := HA.out; clear HA; simp only [spec_ValidTables.j1] at H
      by_cases c20 : Bi = true
      ·subst c20; rw [if_pos rfl] at H; (try dsimp only at H); obtain rfl := Option.some.inj H; go_wp2; go_ret; exact ⟨ze, (zs Bg.out)⟩
      ·replace c20 := Bool.eq_false_iff.mpr c20; subst c20; rw [if_neg (show ¬ (false = true) by decide)] at H; (try dsimp only at H); have H' := zA H; clear H; go_wp2
       go_loopg [3] kj15 (fun kq v3 w' => ∃ (Bh : Int), v3 = .int .i64 Bh ∧ Aside0 (spec_ValidTables.l0 kq Bh Bb Bc Bd Be Bf = some r) ∧ Aside0 (kq ≤ kj15) ∧ Aside0 (w'.heap[Bp]? = some (.cells #[.int .i64 Bb, .int .i64 Bc, (.slice Bj Bd.length Bm), (.slice Bk Be.length Bn), (.slice Bl Bf.length Bo)] 47 (0, 0))) ∧ Aside0 (Below w.heap.size w w'))
       case atStart => exact ⟨(0), zr, H', ⟨Nat.le_refl _⟩, ⟨zb Ba.out⟩, ⟨zs Bg.out⟩⟩
       case round =>
        clear H'; (try clear c1); (try clear c4); (try clear c4b0); (try clear c6); (try clear c6b0); (try clear c8); (try clear c8b0); (try clear c10); (try clear c10b0); (try clear c15); (try clear c17); (try clear c17b0); (try clear c17b1); (try clear c17b2); (try clear c20); (try clear haE haF haG haH haI); (try clear haO haP haQ haR haS); (try clear haY haZ ha0 ha1 ha2); (try clear ha8 ha9 hba hbb hbc); (try clear haa hab hac had hae); (try clear hak hal ham han hao); (try clear hau hav haw hax hay); (try clear haJ haK haL haM haN); (try clear haT haU haV haW haX); (try clear ha3 ha4 ha5 ha6 ha7); (try clear hbd hbe hbf hbg hbh); (try clear haf hag hah hai haj); (try clear hap haq har has hat); (try clear haz haA haB haC haD); obtain ⟨Bh, rfl, HA, HK3, Ba, HB⟩ := hrel; cases gk with
        | zero => exact absurd HA.out (by simp [spec_ValidTables.l0])
        | succ k3 =>
         have H := HA.out; clear HA; simp only [spec_ValidTables.l0] at H
         by_cases c21 : Bh < (Bd.length : Int)
         ·rw [if_pos c21] at H; have c21b0 := decide_eq_true c21; clear c21; replace H := Option.bind_eq_some_iff.mp H; obtain ⟨Bz, A220, H⟩ := H; (try dsimp only at H); have A22 := zA A220; clear A220
          by_cases c23 : Bz = true
          ·subst c23; rw [if_pos rfl] at H; (try dsimp only at H); have H' := zA H; clear H; obtain ⟨hbi, hbj, hbk, hbl, hbm, hbn, hbo, hbp, hbq, hbr⟩ := zh5 Ba.out; go_wp2_with (first | ((with_reducible refine gate_callee (f := 143) rfl ?_); refine goesL_ (some 58) rfl rfl Tryd.func143 (by kernel_rfl) rfl #[.agg #[.int .i64 Bb, .int .i64 Bc, .slice Bj Bd.length Bm, .slice Bk Be.length Bn, .slice Bl Bf.length Bo], .int .i64 Bh] rfl za ?_; (with_reducible refine (spec_l6rowOK.calls k3 Bb Bc _ _ Bd _ _ Be _ _ Bf Bh true _ ?s1 ?s2 ?s3 ?s4 ?s5 ?s6 A22.out).mono ?_); (case s1 => exact zc (Kd.C_below Bt.out HB.out)); (case s2 => exact Bs.out); (case s3 => exact zc (Kd.C_below Bw.out HB.out)); (case s4 => exact Bu.out); (case s5 => exact zc (Kd.C_below Bx.out HB.out)); (case s6 => exact Bv.out); rintro e w25 ⟨rfl, hb⟩; refine ⟨_, rfl, ?_⟩; replace Ba := zA (zB Ba.out hb); replace HB := zA (below_step (zs Bg.out) hb); (try clear hb))); go_roundg k3
           case measure => have := HJ1.out; have := HJ15.out; have := HK3.out; omega
           case rel => exact ⟨(wrap64 (Bh + 1)), zr, H', ⟨by have := HJ1.out; have := HJ15.out; have := HK3.out; omega⟩, ⟨zb Ba.out⟩, ⟨zs Bg.out⟩⟩
          ·replace c23 := Bool.eq_false_iff.mpr c23; subst c23; rw [if_neg (show ¬ (false = true) by decide)] at H; (try dsimp only at H); obtain rfl := Option.some.inj H; obtain ⟨hbs, hbt, hbu, hbv, hbw, hbx, hby, hbz, hbA, hbB⟩ := zh5 Ba.out; go_wp2_with (first | ((with_reducible refine gate_callee (f := 143) rfl ?_); refine goesL_ (some 58) rfl rfl Tryd.func143 (by kernel_rfl) rfl #[.agg #[.int .i64 Bb, .int .i64 Bc, .slice Bj Bd.length Bm, .slice Bk Be.length Bn, .slice Bl Bf.length Bo], .int .i64 Bh] rfl za ?_; (with_reducible refine (spec_l6rowOK.calls k3 Bb Bc _ _ Bd _ _ Be _ _ Bf Bh false _ ?s1 ?s2 ?s3 ?s4 ?s5 ?s6 A22.out).mono ?_); (case s1 => exact zc (Kd.C_below Bt.out HB.out)); (case s2 => exact Bs.out); (case s3 => exact zc (Kd.C_below Bw.out HB.out)); (case s4 => exact Bu.out); (case s5 => exact zc (Kd.C_below Bx.out HB.out)); (case s6 => exact Bv.out); rintro e w27 ⟨rfl, hb⟩; refine ⟨_, rfl, ?_⟩; replace Ba := zA (zB Ba.out hb); replace HB := zA (below_step (zs Bg.out) hb); (try clear hb))); go_ret; exact ⟨ze, (zs Bg.out)⟩
         ·rw [if_neg c21] at H; have c21b0 := decide_eq_false c21; clear c21; obtain rfl := Option.some.inj H; obtain ⟨hbC, hbD, hbE, hbF, hbG, hbH, hbI, hbJ, hbK, hbL⟩ := zh5 Ba.out; go_wp2; go_ret; exact ⟨ze, (zs Bg.out)⟩

/-! ### spec_l8asks: function 81 -/
def spec_l8asks.f (Bg : Int) (Bh : Int) (Bb : List (S120)) (Bd : List (List Int)) (Be : List (List Int)) (a1 : Int) (a2 : Int) : Option (Bool) := if a1 ≥ 0 then (if a1 < (Bb.length : Int) then (if a2 ≥ 0 then (some (decide (a2 < (wrap64 (Bg * Bh))))) else (some false)) else (some false)) else (some false)
set_option maxHeartbeats 8000000 in
set_option maxRecDepth 100000 in
theorem spec_l8asks.calls (Bg : Int) (Bh : Int) (Bi : Option Addr) (Bl : Nat) (Bb : List (S120)) (Bj : Option Addr) (Bm : Nat) (Bd : List (List Int)) (Bk : Option Addr) (Bn : Nat) (Be : List (List Int)) (a1 : Int) (a2 : Int) (r : Bool) (w : World) (hr0_2 : Kd.C k120 w Bi Bb.length Bb) (hc0_2 : Bb.length ≤ Bl) (hr0_3 : Kd.C (Kd.slice 3 (Kd.int .i64)) w Bj Bd.length Bd) (hc0_3 : Bd.length ≤ Bm) (hr0_4 : Kd.C (Kd.slice 3 (Kd.int .i64)) w Bk Be.length Be) (hc0_4 : Be.length ≤ Bn) (h : spec_l8asks.f Bg Bh Bb Bd Be a1 a2 = some r) :
  Calls Tryd.prog 81 #[.agg #[.int .i64 Bg, .int .i64 Bh, .slice Bi Bb.length Bl, .slice Bj Bd.length Bm, .slice Bk Be.length Bn], .int .i64 a1, .int .i64 a2] w fun e w' => e = .returned (.bool r) ∧ Below w.heap.size w w' := by
 have hu47 := Tryd.underlying47; have Bs := zA hr0_2; have Bp := zA hc0_2; clear hr0_2 hc0_2; have Bt := zA hr0_3; have Bq := zA hc0_3; clear hr0_3 hc0_3; have Bu := zA hr0_4; have Br := zA hc0_4; clear hr0_4 hc0_4; have HB := zA (Below.refl w.heap.size w); have H : (if a1 ≥ 0 then (if a1 < (Bb.length : Int) then (if a2 ≥ 0 then (some (decide (a2 < (wrap64 (Bg * Bh))))) else (some false)) else (some false)) else (some false)) = some r := h; clear h
 by_cases c4 : a1 ≥ 0
 ·rw [if_pos c4] at H; have c4b0 : decide (0 ≤ a1) = true := decide_eq_true c4; clear c4
  by_cases c5 : a1 < (Bb.length : Int)
  ·rw [if_pos c5] at H; have c5b0 := decide_eq_true c5; clear c5
   by_cases c6 : a2 ≥ 0
   ·rw [if_pos c6] at H; have c6b0 : decide (0 ≤ a2) = true := decide_eq_true c6; clear c6; obtain rfl := Option.some.inj H; go_enter Tryd.func81, Tryd.ntmps81; go_wp2_with (first | ((with_reducible refine gate_dst (N := 3) rfl ?_); (try (refine gate_guard (by rfl) ?_; dsimp only)); refine zbx (N := 3) (cs := #[.int .i64 Bg, .int .i64 Bh, .slice Bi Bb.length Bl, .slice Bj Bd.length Bm, .slice Bk Be.length Bn]) (t := 47) ?_; intro Ba hg w7 hbox hb; have Bf := zA (hbox); have Bo := zA (zg hg : w.heap.size ≤ Ba); have Bc := zA (zg hg : w.heap.size ≤ Ba); replace HB := zA (below_step z_ hb); clear hb hbox hg; obtain ⟨haa, hab, hac, had, hae, haf, hag, hah, hai, haj⟩ := zh5 Bf.out)); go_ret; exact ⟨ze, (zs Bc.out)⟩
   ·rw [if_neg c6] at H; have c6b0 : decide (0 ≤ a2) = false := decide_eq_false c6; clear c6; obtain rfl := Option.some.inj H; go_enter Tryd.func81, Tryd.ntmps81; go_wp2_with (first | ((with_reducible refine gate_dst (N := 3) rfl ?_); (try (refine gate_guard (by rfl) ?_; dsimp only)); refine zbx (N := 3) (cs := #[.int .i64 Bg, .int .i64 Bh, .slice Bi Bb.length Bl, .slice Bj Bd.length Bm, .slice Bk Be.length Bn]) (t := 47) ?_; intro Ba hg w9 hbox hb; have Bf := zA (hbox); have Bo := zA (zg hg : w.heap.size ≤ Ba); have Bc := zA (zg hg : w.heap.size ≤ Ba); replace HB := zA (below_step z_ hb); clear hb hbox hg; obtain ⟨hak, hal, ham, han, hao, hap, haq, har, has, hat⟩ := zh5 Bf.out)); go_ret; exact ⟨ze, (zs Bc.out)⟩
  ·rw [if_neg c5] at H; have c5b0 := decide_eq_false c5; clear c5; obtain rfl := Option.some.inj H; go_enter Tryd.func81, Tryd.ntmps81; go_wp2_with (first | ((with_reducible refine gate_dst (N := 3) rfl ?_); (try (refine gate_guard (by rfl) ?_; dsimp only)); refine zbx (N := 3) (cs := #[.int .i64 Bg, .int .i64 Bh, .slice Bi Bb.length Bl, .slice Bj Bd.length Bm, .slice Bk Be.length Bn]) (t := 47) ?_; intro Ba hg w11 hbox hb; have Bf := zA (hbox); have Bo := zA (zg hg : w.heap.size ≤ Ba); have Bc := zA (zg hg : w.heap.size ≤ Ba); replace HB := zA (below_step z_ hb); clear hb hbox hg; obtain ⟨hau, hav, haw, hax, hay, haz, haA, haB, haC, haD⟩ := zh5 Bf.out)); go_ret; exact ⟨ze, (zs Bc.out)⟩
 ·rw [if_neg c4] at H; have c4b0 : decide (0 ≤ a1) = false := decide_eq_false c4; clear c4; obtain rfl := Option.some.inj H; go_enter Tryd.func81, Tryd.ntmps81; go_wp2_with (first | ((with_reducible refine gate_dst (N := 3) rfl ?_); (try (refine gate_guard (by rfl) ?_; dsimp only)); refine zbx (N := 3) (cs := #[.int .i64 Bg, .int .i64 Bh, .slice Bi Bb.length Bl, .slice Bj Bd.length Bm, .slice Bk Be.length Bn]) (t := 47) ?_; intro Ba hg w13 hbox hb; have Bf := zA (hbox); have Bo := zA (zg hg : w.heap.size ≤ Ba); have Bc := zA (zg hg : w.heap.size ≤ Ba); replace HB := zA (below_step z_ hb); clear hb hbox hg)); go_ret; exact ⟨ze, (zs Bc.out)⟩

/-! ### spec_l8count: function 148 -/
def spec_l8count.f (a0 : Int) : Option (Bool) := if a0 ≥ 0 then (some (decide (a0 ≤ 1000000))) else (some false)
set_option maxHeartbeats 8000000 in
set_option maxRecDepth 100000 in
theorem spec_l8count.calls (a0 : Int) (r : Bool) (w : World) (h : spec_l8count.f a0 = some r) :
  Calls Tryd.prog 148 #[.int .i64 a0] w fun e w' => e = .returned (.bool r) ∧ Drawn0 w w' := by
 have H : (if a0 ≥ 0 then (some (decide (a0 ≤ 1000000))) else (some false)) = some r := h; clear h
 by_cases c2 : a0 ≥ 0
 ·rw [if_pos c2] at H; have c2b0 : decide (0 ≤ a0) = true := decide_eq_true c2; clear c2; obtain rfl := Option.some.inj H; go_enter Tryd.func148, Tryd.ntmps148; go_wp2; go_ret; exact ⟨by first | rfl | (simp; done) | (simp [*]; done), by repeat (first | exact Drawn0.refl _ | apply Drawn0.step)⟩
 ·rw [if_neg c2] at H; have c2b0 : decide (0 ≤ a0) = false := decide_eq_false c2; clear c2; obtain rfl := Option.some.inj H; go_enter Tryd.func148, Tryd.ntmps148; go_wp2; go_ret; exact ⟨by first | rfl | (simp; done) | (simp [*]; done), by repeat (first | exact Drawn0.refl _ | apply Drawn0.step)⟩

end Go.Proofs.YthbeplmihjhoeaaDoor.PFnExactRunFleet
