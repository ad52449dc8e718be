-- made by wip/tools/myprint.py (this session's own program, over the kit's printer)
import Derived.Test.YtibipjpmeekifaaDoorPFnExactLayoutDeclsx0
import Derived.Test.YtibipjpmeekifaaDoorPFnExactLayoutDeclsx7
import Derived.Test.YtibipjpmeekifaaDoorPFnExactLayoutDeclsx8
namespace Go.Proofs.YtibipjpmeekifaaDoor.PFnExactLayoutDecls
open Go.RowKit Go.Proofs.YtibipjpmeekifaaDoorW.PrintWords Go.Proofs.YtibipjpmeekifaaDoorW.PrintLast Go.Proofs.YtibipjpmeekifaaDoorW.PrintMore
attribute [local go_sem] max2_int min2_int max_two min_two max_three min_three max_four min_four   -- for this text's walks alone
set_option linter.unusedVariables false
set_option linter.unusedSimpArgs false

/-! ### impl_ValidLayout: function 21 -/
mutual
def impl_ValidLayout.j0 : Nat → Bool → Int → Int → List Int → List Int → List (S49) → Option (Bool)
 | 0, _, _, _, _, _, _ => none
 | k + 1, x38, x284000, x284001, x284002, x284003, x284004 => if x38 = true then (some false) else (impl_ValidLayout.l0 k x284002 (x284002.length : Int) 0 x284000 x284001 x284002 x284003 x284004)
def impl_ValidLayout.l0 : Nat → List Int → Int → Int → Int → Int → List Int → List Int → List (S49) → Option (Bool)
 | 0, _, _, _, _, _, _, _, _ => none
 | k + 1, x40, x41, x42, x284000, x284001, x284002, x284003, x284004 => if x42 < x41 then (if 0 ≤ x42 then (if x42 < (x40.length : Int) then (if (rd x40 x42) < 0 then (some false) else (if (rd x40 x42) > 9 then (some false) else (impl_ValidLayout.l0 k x40 x41 (wrap64 (x42 + 1)) x284000 x284001 x284002 x284003 x284004))) else (none)) else (none)) else (impl_ValidLayout.l1 k x284003 (x284003.length : Int) 0 x284000 x284001 x284002 x284003 x284004)
def impl_ValidLayout.l1 : Nat → List Int → Int → Int → Int → Int → List Int → List Int → List (S49) → Option (Bool)
 | 0, _, _, _, _, _, _, _, _ => none
 | k + 1, x54, x55, x56, x284000, x284001, x284002, x284003, x284004 => if x56 < x55 then (if 0 ≤ x56 then (if x56 < (x54.length : Int) then (if (rd x54 x56) < 0 then (some false) else ((impl_free.f k x284000 x284001 x284002 x56).bind fun Bt => (if (Go.bits .andNot .i64 (rd x54 x56) Bt) = 0 then (if x56 < (x284002.length : Int) then (if (rd x284002 x56) = 0 then (if (rd x54 x56) = 0 then (impl_ValidLayout.l1 k x54 x55 (wrap64 (x56 + 1)) x284000 x284001 x284002 x284003 x284004) else (some false)) else (impl_ValidLayout.l1 k x54 x55 (wrap64 (x56 + 1)) x284000 x284001 x284002 x284003 x284004)) else (none)) else (some false)))) else (none)) else (none)) else ((impl_targetsOk.f k x284004 (wrap64 (x284000 * x284001))).bind fun BD => (if BD = true then ((impl_ValidLayout_any.f x284004 x284000 x284001 x284002 x284003 x284004).bind fun BE => (some (!BE))) else (some false)))
end
def impl_ValidLayout.f (k : Nat) (Bd : Int) (Be : Int) (Bc : List Int) (Bf : List Int) (Bi : List (S49)) : Option (Bool) := (impl_sideOk.f Bd).bind fun Bz => (if Bz = true then ((impl_sideOk.f Be).bind fun BA => (if BA = true then (if (Bc.length : Int) = (wrap64 (Bd * Be)) then (impl_ValidLayout.j0 k ((Bf.length : Int) != (wrap64 (Bd * Be))) Bd Be Bc Bf Bi) else (impl_ValidLayout.j0 k true Bd Be Bc Bf Bi)) else (impl_ValidLayout.j0 k true Bd Be Bc Bf Bi))) else (impl_ValidLayout.j0 k true Bd Be Bc Bf Bi))
theorem impl_ValidLayout.mono_l : ∀ k, (∀ y0 y1 y2 y3 y4 y5, LeO (impl_ValidLayout.j0 k y0 y1 y2 y3 y4 y5) (impl_ValidLayout.j0 (k + 1) y0 y1 y2 y3 y4 y5)) ∧ (∀ y0 y1 y2 y3 y4 y5 y6 y7, LeO (impl_ValidLayout.l0 k y0 y1 y2 y3 y4 y5 y6 y7) (impl_ValidLayout.l0 (k + 1) y0 y1 y2 y3 y4 y5 y6 y7)) ∧ (∀ y0 y1 y2 y3 y4 y5 y6 y7, LeO (impl_ValidLayout.l1 k y0 y1 y2 y3 y4 y5 y6 y7) (impl_ValidLayout.l1 (k + 1) y0 y1 y2 y3 y4 y5 y6 y7))
 | 0 => ⟨fun _ _ _ _ _ _ r h => by simp [impl_ValidLayout.j0] at h, fun _ _ _ _ _ _ _ _ r h => by simp [impl_ValidLayout.l0] at h, fun _ _ _ _ _ _ _ _ r h => by simp [impl_ValidLayout.l1] at h⟩
 | k + 1 => by
  obtain ⟨ih0, ih1, ih2⟩ := impl_ValidLayout.mono_l k; refine ⟨?_, ?_, ?_⟩
  ·intro y0 y1 y2 y3 y4 y5; unfold impl_ValidLayout.j0; have m1 := @impl_free.mono; have m2 := @impl_targetsOk.mono; exact zm
  ·intro y0 y1 y2 y3 y4 y5 y6 y7; unfold impl_ValidLayout.l0; have m1 := @impl_free.mono; have m2 := @impl_targetsOk.mono; exact zm
  ·intro y0 y1 y2 y3 y4 y5 y6 y7; unfold impl_ValidLayout.l1; have m1 := @impl_free.mono; have m2 := @impl_targetsOk.mono; exact zm
theorem impl_ValidLayout.mono : ∀ a0 a1 a2 a3 a4 k, LeO (impl_ValidLayout.f k a0 a1 a2 a3 a4) (impl_ValidLayout.f (k + 1) a0 a1 a2 a3 a4) := by
 intro a0 a1 a2 a3 a4 k; obtain ⟨ih0, ih1, ih2⟩ := impl_ValidLayout.mono_l k; unfold impl_ValidLayout.f; have m1 := @impl_free.mono; have m2 := @impl_targetsOk.mono; exact zm
set_option maxHeartbeats 8000000 in
set_option maxRecDepth 100000 in
theorem impl_ValidLayout.calls (k : Nat) (Bd : Int) (Be : Int) (Bp : Option Addr) (Br : Nat) (Bc : List Int) (Bq : Option Addr) (Bs : Nat) (Bf : List Int) (Bl : Option Addr) (Bm : Nat) (Bi : List (S49)) (r : Bool) (w : World) (hr0_2 : Kd.C (Kd.int .i64) w Bp Bc.length Bc) (hc0_2 : Bc.length ≤ Br) (hr0_3 : Kd.C (Kd.int .i64) w Bq Bf.length Bf) (hc0_3 : Bf.length ≤ Bs) (hr0_4 : Kd.C k49 w Bl Bi.length Bi) (hc0_4 : Bi.length ≤ Bm) (hL : LaidW w) (h : impl_ValidLayout.f k Bd Be Bc Bf Bi = some r) :
  Calls Tryd.prog 21 #[.agg #[.int .i64 Bd, .int .i64 Be, .slice Bp Bc.length Br, .slice Bq Bf.length Bs, .slice Bl Bi.length Bm]] w fun e w' => e = .returned (.bool r) ∧ Below w.heap.size w w' := by
 have hu31 := Tryd.underlying31; have Bj := zA hr0_2; have Bn := zA hc0_2; clear hr0_2 hc0_2; have Bk := zA hr0_3; have BF := zA hc0_3; clear hr0_3 hc0_3; have Bv := zA hr0_4; have Bu := zA hc0_4; clear hr0_4 hc0_4; have HLD := zA hL; clear hL; have HB := zA (Below.refl w.heap.size w); have H : ((impl_sideOk.f Bd).bind fun Bz => (if Bz = true then ((impl_sideOk.f Be).bind fun BA => (if BA = true then (if (Bc.length : Int) = (wrap64 (Bd * Be)) then (impl_ValidLayout.j0 k ((Bf.length : Int) != (wrap64 (Bd * Be))) Bd Be Bc Bf Bi) else (impl_ValidLayout.j0 k true Bd Be Bc Bf Bi)) else (impl_ValidLayout.j0 k true Bd Be Bc Bf Bi))) else (impl_ValidLayout.j0 k true Bd Be Bc Bf Bi))) = some r := h; clear h; have HC2 := zA H; clear H; go_enter Tryd.func21, Tryd.ntmps21
 go_upto_region 1 with (first | ((with_reducible refine gate_dst (N := 1) rfl ?_); (try (refine gate_guard (by rfl) ?_; dsimp only)); refine zbx (N := 1) (cs := #[.int .i64 Bd, .int .i64 Be, .slice Bp Bc.length Br, .slice Bq Bf.length Bs, .slice Bl Bi.length Bm]) (t := 31) ?_; intro Bo hg w3 hbox hb; have Bb := zA (hbox); have BG := zA (zg hg : w.heap.size ≤ Bo); have Bg := zA (zg hg : w.heap.size ≤ Bo); replace HB := zA (below_step z_ hb); clear hb hbox hg))
 (try simp only [Act.put, List.setIfInBounds_toArray, List.set_cons_zero, List.set_cons_succ])
 go_cut [38] (fun v38 wc => ∃ (kq : Nat) (Bx : Bool), v38 = .bool Bx ∧ Aside0 (impl_ValidLayout.j0 kq Bx Bd Be Bc Bf Bi = some r) ∧ Aside0 (kq ≤ k) ∧ Aside0 (wc.heap[Bo]? = some (.cells #[.int .i64 Bd, .int .i64 Be, (.slice Bp Bc.length Br), (.slice Bq Bf.length Bs), (.slice Bl Bi.length Bm)] 31 (0, 0))) ∧ Aside0 (Below w.heap.size w wc))
 case first =>
  have H := HC2.out; clear HC2; replace H := Option.bind_eq_some_iff.mp H; obtain ⟨Bz, A40, H⟩ := H; (try dsimp only at H); have A4 := zA A40; clear A40
  by_cases c5 : Bz = true
  ·subst c5; rw [if_pos rfl] at H; (try dsimp only at H); replace H := Option.bind_eq_some_iff.mp H; obtain ⟨BA, A60, H⟩ := H; (try dsimp only at H); have A6 := zA A60; clear A60
   by_cases c7 : BA = true
   ·subst c7; rw [if_pos rfl] at H; (try dsimp only at H)
    by_cases c8 : (Bc.length : Int) = (wrap64 (Bd * Be))
    ·rw [if_pos c8] at H; have c8b0 := beq_iff_eq.mpr c8; have c8b1 := bne_eq_false_iff_eq.mpr c8; clear c8
     (first | rw [c8b0] | (simp only [i64_w, i32_w]; rw [c8b0]) | skip)
     have H' := zA H; clear H; obtain ⟨haa, hab, hac, had, hae, haf, hag, hah, hai, haj⟩ := zh5 Bb.out; go_wp2_with (first | ((with_reducible refine gate_callee (f := 35) rfl ?_); refine goesL_ (some 9) rfl rfl Tryd.func35 (by kernel_rfl) rfl #[.int .i64 Bd] rfl za ?_; (with_reducible refine (impl_sideOk.calls Bd true _ A4.out).mono ?_); rintro e w' ⟨rfl, ⟨nd, rfl⟩⟩; refine ⟨_, rfl, ?_⟩) | (go_at_call 35; (with_reducible refine (impl_sideOk.calls Be true _ A6.out).mono ?_); rintro e w' ⟨rfl, ⟨nd, rfl⟩⟩)); go_meet
     case rel => exact ⟨_, (((Bf.length : Int) != (wrap64 (Bd * Be)))), zr, H', ⟨by first | omega | exact Nat.le_refl _⟩, ⟨zb Bb.out⟩, ⟨zs Bg.out⟩⟩
    ·rw [if_neg c8] at H; have c8b0 := beq_eq_false_iff_ne.mpr c8; have c8b1 := bne_iff_ne.mpr c8
     (first | rw [c8b0] | (simp only [i64_w, i32_w]; rw [c8b0]) | skip)
     have H' := zA H; clear H; obtain ⟨hak, hal, ham, han, hao, hap, haq, har, has, hat⟩ := zh5 Bb.out; go_wp2_with (first | ((with_reducible refine gate_callee (f := 35) rfl ?_); refine goesL_ (some 9) rfl rfl Tryd.func35 (by kernel_rfl) rfl #[.int .i64 Bd] rfl za ?_; (with_reducible refine (impl_sideOk.calls Bd true _ A4.out).mono ?_); rintro e w' ⟨rfl, ⟨nd, rfl⟩⟩; refine ⟨_, rfl, ?_⟩) | (go_at_call 35; (with_reducible refine (impl_sideOk.calls Be true _ A6.out).mono ?_); rintro e w' ⟨rfl, ⟨nd, rfl⟩⟩)); go_meet
     case rel => exact ⟨_, (true), zr, H', ⟨by first | omega | exact Nat.le_refl _⟩, ⟨zb Bb.out⟩, ⟨zs Bg.out⟩⟩
   ·replace c7 := Bool.eq_false_iff.mpr c7; subst c7; rw [if_neg (show ¬ (false = true) by decide)] at H; (try dsimp only at H); have H' := zA H; clear H; obtain ⟨hau, hav, haw, hax, hay, haz, haA, haB, haC, haD⟩ := zh5 Bb.out; go_wp2_with (first | ((with_reducible refine gate_callee (f := 35) rfl ?_); refine goesL_ (some 9) rfl rfl Tryd.func35 (by kernel_rfl) rfl #[.int .i64 Bd] rfl za ?_; (with_reducible refine (impl_sideOk.calls Bd true _ A4.out).mono ?_); rintro e w' ⟨rfl, ⟨nd, rfl⟩⟩; refine ⟨_, rfl, ?_⟩) | (go_at_call 35; (with_reducible refine (impl_sideOk.calls Be false _ A6.out).mono ?_); rintro e w' ⟨rfl, ⟨nd, rfl⟩⟩)); go_meet
    case rel => exact ⟨_, (true), zr, H', ⟨by first | omega | exact Nat.le_refl _⟩, ⟨zb Bb.out⟩, ⟨zs Bg.out⟩⟩
  ·replace c5 := Bool.eq_false_iff.mpr c5; subst c5; rw [if_neg (show ¬ (false = true) by decide)] at H; (try dsimp only at H); have H' := zA H; clear H; obtain ⟨haE, haF, haG, haH, haI, haJ, haK, haL, haM, haN⟩ := zh5 Bb.out; go_wp2_with (first | ((with_reducible refine gate_callee (f := 35) rfl ?_); refine goesL_ (some 9) rfl rfl Tryd.func35 (by kernel_rfl) rfl #[.int .i64 Bd] rfl za ?_; (with_reducible refine (impl_sideOk.calls Bd false _ A4.out).mono ?_); rintro e w' ⟨rfl, ⟨nd, rfl⟩⟩; refine ⟨_, rfl, ?_⟩)); go_meet
   case rel => exact ⟨_, (true), zr, H', ⟨by first | omega | exact Nat.le_refl _⟩, ⟨zb Bb.out⟩, ⟨zs Bg.out⟩⟩
 case rest =>
  clear HC2; (try clear c2); (try clear c5); (try clear c7); (try clear c8); (try clear c8b0); (try clear c8b1); (try clear hak hal ham han hao); (try clear hau hav haw hax hay); (try clear haE haF haG haH haI); (try clear haa hab hac had hae); (try clear hap haq har has hat); (try clear haz haA haB haC haD); (try clear haJ haK haL haM haN); (try clear haf hag hah hai haj); obtain ⟨kq, Bx, rfl, HA, HJ1, Bb, HB⟩ := hcut; cases kq with
  | zero => exact absurd HA.out (by simp [impl_ValidLayout.j0])
  | succ kj1 =>
   have H := HA.out; clear HA; simp only [impl_ValidLayout.j0] at H
   by_cases c13 : Bx = true
   ·subst c13; rw [if_pos rfl] at H; (try dsimp only at H); obtain rfl := Option.some.inj H; go_wp2; go_ret; exact ⟨ze, (zs Bg.out)⟩
   ·replace c13 := Bool.eq_false_iff.mpr c13; subst c13; rw [if_neg (show ¬ (false = true) by decide)] at H; (try dsimp only at H); have H' := zA H; clear H; obtain ⟨haO, haP, haQ, haR, haS, haT, haU, haV, haW, haX⟩ := zh5 Bb.out; go_wp2
    go_loopg [42] kj1 (fun kq v42 w' => ∃ (Bh : Int), v42 = .int .i64 Bh ∧ Aside0 (impl_ValidLayout.l0 kq Bc (Bc.length : Int) Bh Bd Be Bc Bf Bi = some r) ∧ Aside0 (kq ≤ kj1) ∧ Aside0 (w'.heap[Bo]? = some (.cells #[.int .i64 Bd, .int .i64 Be, (.slice Bp Bc.length Br), (.slice Bq Bf.length Bs), (.slice Bl Bi.length Bm)] 31 (0, 0))) ∧ Aside0 (Below w.heap.size w w'))
    case atStart => exact ⟨(0), zr, H', ⟨Nat.le_refl _⟩, ⟨zb Bb.out⟩, ⟨zs Bg.out⟩⟩
    case round =>
     clear H'; (try clear c1); (try clear c5); (try clear c7); (try clear c8); (try clear c8b0); (try clear c8b1); (try clear c13); (try clear hak hal ham han hao); (try clear hau hav haw hax hay); (try clear haE haF haG haH haI); (try clear haO haP haQ haR haS); (try clear haa hab hac had hae); (try clear hap haq har has hat); (try clear haz haA haB haC haD); (try clear haJ haK haL haM haN); (try clear haT haU haV haW haX); (try clear haf hag hah hai haj); obtain ⟨Bh, rfl, HA, HK2, Bb, HB⟩ := hrel; cases gk with
     | zero => exact absurd HA.out (by simp [impl_ValidLayout.l0])
     | succ k2 =>
      have H := HA.out; clear HA; simp only [impl_ValidLayout.l0] at H
      by_cases c15 : Bh < (Bc.length : Int)
      ·rw [if_pos c15] at H; have c15b0 := decide_eq_true c15; clear c15
       by_cases c16 : 0 ≤ Bh
       ·rw [if_pos c16] at H; have c16b0 := decide_eq_true c16; clear c16
        by_cases c17 : Bh < (Bc.length : Int)
        ·rw [if_pos c17] at H; have c17b0 := decide_eq_true c17; clear c17
         by_cases c18 : (rd Bc Bh) < 0
         ·rw [if_pos c18] at H; have c18b0 := decide_eq_true c18; clear c18; obtain rfl := Option.some.inj H; have p286 : 0 ≤ (Bh : Int) := zd; have q286 : Bh < (Bc.length : Int) := zd; obtain ⟨BB, e286, haY⟩ := Kd.at_int Bj.out Bh p286 q286; cases e286; replace haY := zx HB.out haY; replace p286 := eq_true p286; replace q286 := eq_true q286; go_wp2; go_ret; exact ⟨ze, (zs Bg.out)⟩
         ·rw [if_neg c18] at H; have c18b0 := decide_eq_false c18; clear c18
          by_cases c19 : (rd Bc Bh) > 9
          ·rw [if_pos c19] at H; have c19b0 : decide (9 < (rd Bc Bh)) = true := decide_eq_true c19; clear c19; obtain rfl := Option.some.inj H; have p286 : 0 ≤ (Bh : Int) := zd; have q286 : Bh < (Bc.length : Int) := zd; obtain ⟨BB, e286, haY⟩ := Kd.at_int Bj.out Bh p286 q286; cases e286; replace haY := zx HB.out haY; replace p286 := eq_true p286; replace q286 := eq_true q286; go_wp2; go_ret; exact ⟨ze, (zs Bg.out)⟩
          ·rw [if_neg c19] at H; have c19b0 : decide (9 < (rd Bc Bh)) = false := decide_eq_false c19; clear c19; have H' := zA H; clear H; have p286 : 0 ≤ (Bh : Int) := zd; have q286 : Bh < (Bc.length : Int) := zd; obtain ⟨BB, e286, haY⟩ := Kd.at_int Bj.out Bh p286 q286; cases e286; replace haY := zx HB.out haY; replace p286 := eq_true p286; replace q286 := eq_true q286; go_wp2; go_roundg k2
           case measure => have := HJ1.out; have := HK2.out; omega
           case rel => exact ⟨(wrap64 (Bh + 1)), zr, H', ⟨by have := HJ1.out; have := HK2.out; omega⟩, ⟨zb Bb.out⟩, ⟨zs Bg.out⟩⟩
        ·rw [if_neg c17] at H; exact absurd H (by simp)
       ·rw [if_neg c16] at H; exact absurd H (by simp)
      ·rw [if_neg c15] at H; have c15b0 := decide_eq_false c15; clear c15; have H' := zA H; clear H; obtain ⟨haZ, ha0, ha1, ha2, ha3, ha4, ha5, ha6, ha7, ha8⟩ := zh5 Bb.out; go_wp2
       go_loopg [56] k2 (fun kq v56 w' => ∃ (Ba : Int), v56 = .int .i64 Ba ∧ Aside0 (impl_ValidLayout.l1 kq Bf (Bf.length : Int) Ba Bd Be Bc Bf Bi = some r) ∧ Aside0 (kq ≤ k2) ∧ Aside0 (w'.heap[Bo]? = some (.cells #[.int .i64 Bd, .int .i64 Be, (.slice Bp Bc.length Br), (.slice Bq Bf.length Bs), (.slice Bl Bi.length Bm)] 31 (0, 0))) ∧ Aside0 (Below w.heap.size w w'))
       case atStart => exact ⟨(0), zr, H', ⟨Nat.le_refl _⟩, ⟨zb Bb.out⟩, ⟨zs Bg.out⟩⟩
       case round =>
        clear H'; (try clear c1); (try clear c5); (try clear c7); (try clear c8); (try clear c8b0); (try clear c8b1); (try clear c13); (try clear c15); (try clear c15b0); (try clear c16); (try clear c16b0); (try clear c17); (try clear c17b0); (try clear c18); (try clear c18b0); (try clear c19); (try clear c19b0); (try clear hak hal ham han hao); (try clear hau hav haw hax hay); (try clear haE haF haG haH haI); (try clear haO haP haQ haR haS); (try clear haZ ha0 ha1 ha2 ha3); (try clear haa hab hac had hae); (try clear hap haq har has hat); (try clear haz haA haB haC haD); (try clear haJ haK haL haM haN); (try clear haT haU haV haW haX); (try clear ha4 ha5 ha6 ha7 ha8); (try clear haf hag hah hai haj); (try clear haY); (try clear p286); (try clear q286); obtain ⟨Ba, rfl, HA, HK3, Bb, HB⟩ := hrel; cases gk with
        | zero => exact absurd HA.out (by simp [impl_ValidLayout.l1])
        | succ k3 =>
         have H := HA.out; clear HA; simp only [impl_ValidLayout.l1] at H
         by_cases c21 : Ba < (Bf.length : Int)
         ·rw [if_pos c21] at H; have c21b0 := decide_eq_true c21; clear c21
          by_cases c22 : 0 ≤ Ba
          ·rw [if_pos c22] at H; have c22b0 := decide_eq_true c22; clear c22
           by_cases c23 : Ba < (Bf.length : Int)
           ·rw [if_pos c23] at H; have c23b0 := decide_eq_true c23; clear c23
            by_cases c24 : (rd Bf Ba) < 0
            ·rw [if_pos c24] at H; have c24b0 := decide_eq_true c24; clear c24; obtain rfl := Option.some.inj H; have p287 : 0 ≤ (Ba : Int) := zd; have q287 : Ba < (Bf.length : Int) := zd; obtain ⟨Bw, e287, ha9⟩ := Kd.at_int Bk.out Ba p287 q287; cases e287; replace ha9 := zx HB.out ha9; replace p287 := eq_true p287; replace q287 := eq_true q287; go_wp2; go_ret; exact ⟨ze, (zs Bg.out)⟩
            ·rw [if_neg c24] at H; have c24b0 := decide_eq_false c24; clear c24; replace H := Option.bind_eq_some_iff.mp H; obtain ⟨Bt, A250, H⟩ := H; (try dsimp only at H); have A25 := zA A250; clear A250
             by_cases c26 : (Go.bits .andNot .i64 (rd Bf Ba) Bt) = 0
             ·rw [if_pos c26] at H; have c26b0 := beq_iff_eq.mpr c26; have c26b1 := bne_eq_false_iff_eq.mpr c26; clear c26
              by_cases c27 : Ba < (Bc.length : Int)
              ·rw [if_pos c27] at H; have c27b0 := decide_eq_true c27; clear c27
               by_cases c28 : (rd Bc Ba) = 0
               ·rw [if_pos c28] at H; have c28b0 := beq_iff_eq.mpr c28; have c28b1 := bne_eq_false_iff_eq.mpr c28; clear c28
                by_cases c29 : (rd Bf Ba) = 0
                ·rw [if_pos c29] at H; have c29b0 := beq_iff_eq.mpr c29; have c29b1 := bne_eq_false_iff_eq.mpr c29; clear c29; have H' := zA H; clear H; have p287 : 0 ≤ (Ba : Int) := zd; have q287 : Ba < (Bf.length : Int) := zd; obtain ⟨Bw, e287, ha9⟩ := Kd.at_int Bk.out Ba p287 q287; cases e287; replace ha9 := zx HB.out ha9; replace p287 := eq_true p287; replace q287 := eq_true q287; obtain ⟨hba, hbb, hbc, hbd, hbe, hbf, hbg, hbh, hbi, hbj⟩ := zh5 Bb.out; go_wp2_with (first | (go_at_call 23; (with_reducible refine (impl_free.calls k3 Bd Be _ _ Bc Ba Bt _ ?s1 ?s2 A25.out).mono ?_); (case s1 => exact zc (Kd.C_below Bj.out HB.out)); (case s2 => exact Bn.out); rintro e w' ⟨rfl, ⟨nd, rfl⟩⟩; have p289 : 0 ≤ (Ba : Int) := zd; have q289 : Ba < (Bc.length : Int) := zd; obtain ⟨BC, e289, hbk⟩ := Kd.at_int Bj.out Ba p289 q289; cases e289; replace hbk := zx HB.out hbk; replace p289 := eq_true p289; replace q289 := eq_true q289)); go_roundg k3
                 case measure => have := HJ1.out; have := HK2.out; have := HK3.out; omega
                 case rel => exact ⟨(wrap64 (Ba + 1)), zr, H', ⟨by have := HJ1.out; have := HK2.out; have := HK3.out; omega⟩, ⟨zb Bb.out⟩, ⟨zs Bg.out⟩⟩
                ·rw [if_neg c29] at H; have c29b0 := beq_eq_false_iff_ne.mpr c29; have c29b1 := bne_iff_ne.mpr c29; obtain rfl := Option.some.inj H; have p287 : 0 ≤ (Ba : Int) := zd; have q287 : Ba < (Bf.length : Int) := zd; obtain ⟨Bw, e287, ha9⟩ := Kd.at_int Bk.out Ba p287 q287; cases e287; replace ha9 := zx HB.out ha9; replace p287 := eq_true p287; replace q287 := eq_true q287; obtain ⟨hbl, hbm, hbn, hbo, hbp, hbq, hbr, hbs, hbt, hbu⟩ := zh5 Bb.out; go_wp2_with (first | (go_at_call 23; (with_reducible refine (impl_free.calls k3 Bd Be _ _ Bc Ba Bt _ ?s1 ?s2 A25.out).mono ?_); (case s1 => exact zc (Kd.C_below Bj.out HB.out)); (case s2 => exact Bn.out); rintro e w' ⟨rfl, ⟨nd, rfl⟩⟩; have p289 : 0 ≤ (Ba : Int) := zd; have q289 : Ba < (Bc.length : Int) := zd; obtain ⟨BC, e289, hbk⟩ := Kd.at_int Bj.out Ba p289 q289; cases e289; replace hbk := zx HB.out hbk; replace p289 := eq_true p289; replace q289 := eq_true q289)); go_ret; exact ⟨ze, (zs Bg.out)⟩
               ·rw [if_neg c28] at H; have c28b0 := beq_eq_false_iff_ne.mpr c28; have c28b1 := bne_iff_ne.mpr c28; have H' := zA H; clear H; have p287 : 0 ≤ (Ba : Int) := zd; have q287 : Ba < (Bf.length : Int) := zd; obtain ⟨Bw, e287, ha9⟩ := Kd.at_int Bk.out Ba p287 q287; cases e287; replace ha9 := zx HB.out ha9; replace p287 := eq_true p287; replace q287 := eq_true q287; obtain ⟨hbv, hbw, hbx, hby, hbz, hbA, hbB, hbC, hbD, hbE⟩ := zh5 Bb.out; go_wp2_with (first | (go_at_call 23; (with_reducible refine (impl_free.calls k3 Bd Be _ _ Bc Ba Bt _ ?s1 ?s2 A25.out).mono ?_); (case s1 => exact zc (Kd.C_below Bj.out HB.out)); (case s2 => exact Bn.out); rintro e w' ⟨rfl, ⟨nd, rfl⟩⟩; have p289 : 0 ≤ (Ba : Int) := zd; have q289 : Ba < (Bc.length : Int) := zd; obtain ⟨BC, e289, hbk⟩ := Kd.at_int Bj.out Ba p289 q289; cases e289; replace hbk := zx HB.out hbk; replace p289 := eq_true p289; replace q289 := eq_true q289)); go_roundg k3
                case measure => have := HJ1.out; have := HK2.out; have := HK3.out; omega
                case rel => exact ⟨(wrap64 (Ba + 1)), zr, H', ⟨by have := HJ1.out; have := HK2.out; have := HK3.out; omega⟩, ⟨zb Bb.out⟩, ⟨zs Bg.out⟩⟩
              ·rw [if_neg c27] at H; exact absurd H (by simp)
             ·rw [if_neg c26] at H; have c26b0 := beq_eq_false_iff_ne.mpr c26; have c26b1 := bne_iff_ne.mpr c26; obtain rfl := Option.some.inj H; have p287 : 0 ≤ (Ba : Int) := zd; have q287 : Ba < (Bf.length : Int) := zd; obtain ⟨Bw, e287, ha9⟩ := Kd.at_int Bk.out Ba p287 q287; cases e287; replace ha9 := zx HB.out ha9; replace p287 := eq_true p287; replace q287 := eq_true q287; obtain ⟨hbF, hbG, hbH, hbI, hbJ, hbK, hbL, hbM, hbN, hbO⟩ := zh5 Bb.out; go_wp2_with (first | (go_at_call 23; (with_reducible refine (impl_free.calls k3 Bd Be _ _ Bc Ba Bt _ ?s1 ?s2 A25.out).mono ?_); (case s1 => exact zc (Kd.C_below Bj.out HB.out)); (case s2 => exact Bn.out); rintro e w' ⟨rfl, ⟨nd, rfl⟩⟩)); go_ret; exact ⟨ze, (zs Bg.out)⟩
           ·rw [if_neg c23] at H; exact absurd H (by simp)
          ·rw [if_neg c22] at H; exact absurd H (by simp)
         ·rw [if_neg c21] at H; have c21b0 := decide_eq_false c21; clear c21; replace H := Option.bind_eq_some_iff.mp H; obtain ⟨BD, A340, H⟩ := H; (try dsimp only at H); have A34 := zA A340; clear A340
          by_cases c35 : BD = true
          ·subst c35; rw [if_pos rfl] at H; (try dsimp only at H); replace H := Option.bind_eq_some_iff.mp H; obtain ⟨BE, A360, H⟩ := H; (try dsimp only at H); have A36 := zA A360; clear A360; obtain rfl := Option.some.inj H; obtain ⟨hbP, hbQ, hbR, hbS, hbT, hbU, hbV, hbW, hbX, hbY⟩ := zh5 Bb.out; go_wp2_with (first | ((with_reducible refine gate_callee (f := 36) rfl ?_); refine goesL_ (some 96) rfl rfl Tryd.func36 (by kernel_rfl) rfl #[.slice Bl Bi.length Bm, .int .i64 (wrap64 (Bd * Be))] rfl za ?_; (with_reducible refine (impl_targetsOk.calls k3 _ _ Bi (wrap64 (Bd * Be)) true _ ?s1 ?s2 ?s3 A34.out).mono ?_); (case s1 => exact zc (Kd.C_below Bv.out HB.out)); (case s2 => exact Bu.out); (case s3 => exact LaidW.below HLD.out (zs Bg.out)); rintro e w38 ⟨rfl, hb⟩; refine ⟨_, rfl, ?_⟩; replace Bb := zA (zB Bb.out hb); replace HB := zA (below_step (zs Bg.out) hb); (try clear hb); obtain ⟨hbZ, hb0, hb1, hb2, hb3, hb4, hb5, hb6, hb7, hb8⟩ := zh5 Bb.out) | (go_at_call 37; (with_reducible refine (impl_ValidLayout_any.calls _ _ Bi Bd Be Bp Br Bc Bq Bs Bf Bl Bm Bi BE _ ?s1 ?s2 ?s3 ?s4 ?s5 ?s6 ?s7 ?s8 ?s9 A36.out).mono ?_); (case s1 => exact zc (Kd.C_below Bv.out HB.out)); (case s2 => exact Bu.out); (case s3 => exact zc (Kd.C_below Bj.out HB.out)); (case s4 => exact Bn.out); (case s5 => exact zc (Kd.C_below Bk.out HB.out)); (case s6 => exact BF.out); (case s7 => exact zc (Kd.C_below Bv.out HB.out)); (case s8 => exact Bu.out); (case s9 => (with_reducible repeat (first | refine blk_drewN ?_ _ | refine blk_drew ?_ | refine blk_alloc ?_ _)); exact Aside0.out (by assumption)); rintro e w40 ⟨rfl, hb⟩; replace Bb := zA (zB Bb.out hb); replace HB := zA (below_step (zs Bg.out) hb); (try clear hb)))
           go_ret; exact ⟨ze, (zs Bg.out)⟩
          ·replace c35 := Bool.eq_false_iff.mpr c35; subst c35; rw [if_neg (show ¬ (false = true) by decide)] at H; (try dsimp only at H); obtain rfl := Option.some.inj H; obtain ⟨hb9, hca, hcb, hcc, hcd, hce, hcf, hcg, hch, hci⟩ := zh5 Bb.out; go_wp2_with (first | ((with_reducible refine gate_callee (f := 36) rfl ?_); refine goesL_ (some 96) rfl rfl Tryd.func36 (by kernel_rfl) rfl #[.slice Bl Bi.length Bm, .int .i64 (wrap64 (Bd * Be))] rfl za ?_; (with_reducible refine (impl_targetsOk.calls k3 _ _ Bi (wrap64 (Bd * Be)) false _ ?s1 ?s2 ?s3 A34.out).mono ?_); (case s1 => exact zc (Kd.C_below Bv.out HB.out)); (case s2 => exact Bu.out); (case s3 => exact LaidW.below HLD.out (zs Bg.out)); rintro e w42 ⟨rfl, hb⟩; refine ⟨_, rfl, ?_⟩; replace Bb := zA (zB Bb.out hb); replace HB := zA (below_step (zs Bg.out) hb); (try clear hb))); go_ret; exact ⟨ze, (zs Bg.out)⟩

/-! ### bytes_Clone: function 24 -/
-- only: true
def bytes_Clone.f (l0 : List Int) : Option (List Int) := if l0.length ≤ 1000000000 then some l0 else none
set_option maxHeartbeats 4000000 in
set_option maxRecDepth 100000 in
theorem bytes_Clone.calls (A0 : Option Addr) (c0 : Nat) (l0 : List Int) (r : List Int) (w : World) (hr0 : Kd.C (Kd.int .u8) w A0 l0.length l0) (hc0 : l0.length ≤ c0) (h : bytes_Clone.f l0 = some r) :
  Calls Tryd.prog 24 #[.slice A0 l0.length c0] w fun e w' => ∃ v0_ : Value, e = .returned (v0_) ∧ Kd.R (Kd.int .u8) 5 w' w.heap.size (fun _ => True) v0_ r ∧ Below w.heap.size w w' := by
 unfold bytes_Clone.f at h
 by_cases hl : l0.length ≤ 1000000000
 case neg => rw [if_neg hl] at h; cases h
 rw [if_pos hl] at h; have e := Option.some.inj h; subst e; have q22 : ∀ (w : World) (a : Option Addr) (n c n' c' : Nat), (binOp .eql 41 (.slice a n c) (.slice none n' c')).run Tryd.prog w = .ok (.bool a.isNone) w := fun w a n c n' c' => Lib.run_eql_slice_nil w _ _ a n c n' c' Tryd.underlying41
 have hu22 := Tryd.underlying41; cases A0 with
 | none =>
  have e : l0 = [] := by
   have := hr0.2.2; cases l0 with
   | nil => rfl
   | cons a t => obtain ⟨ad, e, _⟩ := this (by simp); cases e
  subst e; clear hr0 hl h hc0; go_enter Tryd.func24, Tryd.ntmps24; go_wp2; go_ret; exact ⟨_, rfl, Kd.R_nil _ _ _ _ _, Below.refl _ _⟩
 | some ad =>
  have HR := zA hr0; have HL := zA hl; have HB := zA (Below.refl w.heap.size w); clear hr0 hl h hc0; go_enter Tryd.func24, Tryd.ntmps24; go_wp2_with (first | ((with_reducible refine gate_dst (N := 5) rfl ?_); refine Kd.R_lit (Kd.int .u8) _ 5 ?hg (N := 5) ?hd (xs := ([] : List Int)) (inner := []) (ok := fun _ => True) (okp := fun _ => True) ?hr ?hp (fun _ hk => hk) trivial (Below.refl _ _) (Nat.le_refl _) (by simp) ?_; (case hd => rfl); (case hg => rfl); (case hr => first | (go_simp; done) | (go_simp; rfl)); (case hp => exact Reps.none _ _); intro v5 w5 ho hb hg hat; have n0_ := zA hb; have HO := zA ho; clear HB hb hg hat ho; have HB := n0_; clear n0_) | ((with_reducible refine gate_builtin (b := .append) (xs := #[.tmp 5, .tmp 6]) rfl ?_); at_builtin; refine Kd.R_append_rows (Kd.int .u8) (w0 := w) w.heap.size rfl (.tmp 5) (.tmp 6) 41 5 (.int .u8 0) 1 rfl Tryd.underlying41 info5 rfl (by decide) (by omega) v5 ([] : List Int) l0 _ _ _ (fun _ => True) (fun _ => False) rfl rfl ?aO ?aR (fun _ _ h => h) (fun _ h => h.elim) ?aF ?aB ?aS ?aL ?_; (case aR => exact Kd.C_below HR.out HB.out); (case aB => exact HB.out); (case aF => exact (fun _ _ => trivial)); (case aO => exact HO.out); (case aS => exact (below_size HB.out)); (case aL => have := HL.out; simp only [List.length_nil]; omega); intro v7 w7 ho hb hg hat; have HV := zA ho; have n1_ := zA hb; clear HO HB ho hb hg hat; have HB := n1_; clear n1_)); go_ret; exact ⟨_, rfl, HV.out, HB.out⟩

end Go.Proofs.YtibipjpmeekifaaDoor.PFnExactLayoutDecls
