-- made by wip/tools/myprint.py (this session's own program, over the kit's printer)
import Derived.Test.YtibipjpmeekifaaDoorPFnExactLayoutDeclsx0
namespace Go.Proofs.YtibipjpmeekifaaDoor.PFnExactLayoutDecls
open Go.RowKit Go.Proofs.YtibipjpmeekifaaDoorW.PrintWords Go.Proofs.YtibipjpmeekifaaDoorW.PrintLast Go.Proofs.YtibipjpmeekifaaDoorW.PrintMore
attribute [local go_sem] max2_int min2_int max_two min_two max_three min_three max_four min_four   -- for this text's walks alone
set_option linter.unusedVariables false
set_option linter.unusedSimpArgs false

/-! ### laws_toIntS: function 19 -/
def laws_toIntS.l0 : Nat → List Int → List Int → Int → Option (List Int)
 | 0, _, _, _ => none
 | k + 1, x0, x3, x4 => if x4 < (x0.length : Int) then (if 0 ≤ x4 then (if x4 < (x3.length : Int) then (laws_toIntS.l0 k x0 (x3.set (x4 : Int).toNat (rd x0 x4)) (wrap64 (x4 + 1))) else (none)) else (none)) else (some x3)
def laws_toIntS.f (k : Nat) (l0 : List Int) : Option (List Int) := if 0 ≤ (l0.length : Int) then (if ((l0.length : Int) : Int).toNat ≤ 35184372088832 then (laws_toIntS.l0 k l0 (List.replicate ((l0.length : Int) : Int).toNat 0) 0) else (none)) else (none)
theorem laws_toIntS.mono_l : ∀ k, (∀ y0 y1 y2, LeO (laws_toIntS.l0 k y0 y1 y2) (laws_toIntS.l0 (k + 1) y0 y1 y2))
 | 0 => fun _ _ _ r h => by simp [laws_toIntS.l0] at h
 | k + 1 => by
  have ih0 := laws_toIntS.mono_l k
  ·intro y0 y1 y2; unfold laws_toIntS.l0; exact zm
theorem laws_toIntS.mono : ∀ a0 k, LeO (laws_toIntS.f k a0) (laws_toIntS.f (k + 1) a0) := by
 intro a0 k; have ih0 := laws_toIntS.mono_l k; unfold laws_toIntS.f; exact zm
set_option maxHeartbeats 8000000 in
set_option maxRecDepth 100000 in
theorem laws_toIntS.calls (k : Nat) (A0 : Option Addr) (c0 : Nat) (l0 : List Int) (r : List Int) (w : World) (hr0 : Kd.C (Kd.int .i64) w A0 l0.length l0) (hc0 : l0.length ≤ c0) (h : laws_toIntS.f k l0 = some r) :
  Calls Tryd.prog 19 #[.slice A0 l0.length c0] w fun e w' => ∃ v0_ : Value, e = .returned (v0_) ∧ Kd.R (Kd.int .i64) 3 w' w.heap.size (fun _ => True) v0_ r ∧ Below w.heap.size w w' := by
 have HR0 := zA hr0; have HC0 := zA hc0; clear hr0 hc0; have HB := zA (Below.refl w.heap.size w); have H : (if 0 ≤ (l0.length : Int) then (if ((l0.length : Int) : Int).toNat ≤ 35184372088832 then (laws_toIntS.l0 k l0 (List.replicate ((l0.length : Int) : Int).toNat 0) 0) else (none)) else (none)) = some r := h; clear h
 by_cases c2 : 0 ≤ (l0.length : Int)
 ·rw [if_pos c2] at H; have c2b0 := eq_true c2; have c2b1 := decide_eq_true c2; clear c2
  by_cases c3 : ((l0.length : Int) : Int).toNat ≤ 35184372088832
  ·rw [if_pos c3] at H; have c3b0 := eq_true c3; have c3b1 := decide_eq_true c3; clear c3; obtain ⟨y238, hy238⟩ : ∃ y_ : List Int, y_ = (List.replicate ((l0.length : Int) : Int).toNat 0) := ⟨_, rfl⟩; replace H : (laws_toIntS.l0 k l0 y238 0) = some r := zh hy238; have Ny238 := zA hy238; clear hy238; have H' := zA H; clear H; go_enter Tryd.func19, Tryd.ntmps19; go_wp2_with (first | ((with_reducible refine gate_dst (N := 7) rfl ?_); refine Kd.R_make (Kd.int .i64) _ 3 rfl (N := 7) rfl 22 _ _ rfl (l0.length : Int) rfl rfl Tryd.underlying22 (.int .i64 0) 8 info3 rfl (by decide) (by omega) 0 (ok := fun _ => True) (okp := fun _ => True) rfl (fun _ hk => hk) trivial (zd) (Nat.le_trans (Nat.mul_le_mul_right _ (zd : (l0.length : Int).toNat ≤ 35184372088832)) (by omega)) (Below.refl _ _) (Nat.le_refl _) ?_; intro v239 w4 ho5 hb hg_ hnew_; clear hg_ hnew_; (first | rw [← Ny238.out] at ho5 | (simp only [Int.reduceToNat] at ho5; rw [← Ny238.out] at ho5)); have Bd := zA (Kd.R_lower ho5 (below_size z_)); replace HB := zA (below_step z_ hb); clear hb ho5))
   go_loopg [4] k (fun kq v4 w' => ∃ (Bb : List Int) (Ba : Int), v4 = .int .i64 Ba ∧ Aside0 (laws_toIntS.l0 kq l0 Bb Ba = some r) ∧ Aside0 (kq ≤ k) ∧ Aside0 (Kd.R (Kd.int .i64) 3 w' w.heap.size (fun _ => True) v239 Bb) ∧ Aside0 (Below w.heap.size w w'))
   case atStart => exact ⟨(y238), (0), zr, H', ⟨Nat.le_refl _⟩, ⟨zR Bd.out⟩, ⟨z_⟩⟩
   case round =>
    clear H'; (try clear c1); (try clear c2); (try clear c2b0); (try clear c2b1); (try clear c3); (try clear c3b0); (try clear c3b1); obtain ⟨Bb, Ba, rfl, HA, HK1, Bc, HB⟩ := hrel; cases gk with
    | zero => exact absurd HA.out (by simp [laws_toIntS.l0])
    | succ k1 =>
     have H := HA.out; clear HA; simp only [laws_toIntS.l0] at H
     by_cases c6 : Ba < (l0.length : Int)
     ·rw [if_pos c6] at H; have c6b0 := decide_eq_true c6; clear c6
      by_cases c7 : 0 ≤ Ba
      ·rw [if_pos c7] at H; have c7b0 := decide_eq_true c7; clear c7
       by_cases c8 : Ba < (Bb.length : Int)
       ·rw [if_pos c8] at H; have c8b0 := decide_eq_true c8; clear c8; obtain ⟨y242, hy242⟩ : ∃ y_ : List Int, y_ = (Bb.set (Ba : Int).toNat (rd l0 Ba)) := ⟨_, rfl⟩; replace H : (laws_toIntS.l0 k1 l0 y242 (wrap64 (Ba + 1))) = some r := zh hy242; have Ny242 := zA hy242; clear hy242; have H' := zA H; clear H; have p241 := zt (0 ≤ (Ba : Int)); have q241 := zt (Ba < (l0.length : Int)); obtain ⟨Be, e241, haa⟩ := Kd.at_int HR0.out Ba zd zd; cases e241; replace haa := zx HB.out haa; have p9 : 0 ≤ (Ba : Int) := zd; have q9 : (Ba : Int) < ((Bb.length : Int) : Int) := zd; obtain ⟨go9, Bh, Bf, Bg, gl9, cl9, HG9⟩ := Kd.R_form Bc.out (by omega)
        (first | cases Bf | (injection Bf with ea_ en_ ec_; (first | subst ea_ | (injection ea_ with ea_; subst ea_)); subst ec_; clear en_))
        have GB9 := zA Bg; have GG9 := zA HG9; clear Bg gl9 HG9; obtain ⟨hab, hf9_0⟩ := Kd.R_celln 0 Bc.out (Ba : Int) p9 q9; replace p9 := eq_true p9; replace q9 := eq_true q9; have HP10 := Kd.R_putg Bc.out (Ba : Int) (rd l0 Ba); go_wp2_with (first | ((with_reducible refine gate_store (t := 3) (p := 20) rfl ?_); refine store_event (t := 3) (p := 20) (v := ?vo_w11) (w1 := (wr.setCell ⟨go9, (Ba : Int).toNat, none⟩ (.int .i64 (rd l0 Ba)))) ?hg ?ho ?hn ?hr ?_; (case ho => rfl); (case hg => rfl); (case hn => rfl); (case hr => first | (go_simp; done) | (go_simp; rfl)); intro w11 hw; have hg : wr.grownBy w11 (some go9) := (by rw [hw]; exact HP10.2); have hp_ : Kd.R (Kd.int .i64) 3 w11 w.heap.size (fun _ => True) (.slice (some ⟨go9, 0, none⟩) Bb.length Bh) y242 := (by rw [hw, Ny242.out]; exact HP10.1); clear HP10; replace Bc := zA (hp_); replace HB := zA ((by rw [hw]; exact below_set (HB.out) GB9.out : Below w.heap.size w w11)); clear hg hw hp_)); go_roundg k1
        case measure => have := HK1.out; omega
        case rel => exact ⟨(y242), (wrap64 (Ba + 1)), zr, H', ⟨by have := HK1.out; omega⟩, ⟨zR Bc.out⟩, ⟨z_⟩⟩
       ·rw [if_neg c8] at H; exact absurd H (by simp)
      ·rw [if_neg c7] at H; exact absurd H (by simp)
     ·rw [if_neg c6] at H; have c6b0 := decide_eq_false c6; clear c6; obtain rfl := Option.some.inj H; go_wp2; go_ret; exact ⟨_, ze, by (with_reducible repeat (first | apply Kd.R_alloc | apply Kd.R_drewN | apply Kd.R_drew)); exact Bc.out, z_⟩
  ·rw [if_neg c3] at H; exact absurd H (by simp)
 ·rw [if_neg c2] at H; exact absurd H (by simp)

/-! ### laws_toByteS: function 44 -/
def laws_toByteS.l0 : Nat → List Int → List Int → Int → Option (List Int)
 | 0, _, _, _ => none
 | k + 1, x0, x3, x4 => if x4 < (x0.length : Int) then (if 0 ≤ x4 then (if x4 < (x3.length : Int) then (laws_toByteS.l0 k x0 (x3.set (x4 : Int).toNat (rd x0 x4)) (wrap64 (x4 + 1))) else (none)) else (none)) else (some x3)
def laws_toByteS.f (k : Nat) (l0 : List Int) : Option (List Int) := if 0 ≤ (l0.length : Int) then (if ((l0.length : Int) : Int).toNat ≤ 281474976710656 then (laws_toByteS.l0 k l0 (List.replicate ((l0.length : Int) : Int).toNat 0) 0) else (none)) else (none)
theorem laws_toByteS.mono_l : ∀ k, (∀ y0 y1 y2, LeO (laws_toByteS.l0 k y0 y1 y2) (laws_toByteS.l0 (k + 1) y0 y1 y2))
 | 0 => fun _ _ _ r h => by simp [laws_toByteS.l0] at h
 | k + 1 => by
  have ih0 := laws_toByteS.mono_l k
  ·intro y0 y1 y2; unfold laws_toByteS.l0; exact zm
theorem laws_toByteS.mono : ∀ a0 k, LeO (laws_toByteS.f k a0) (laws_toByteS.f (k + 1) a0) := by
 intro a0 k; have ih0 := laws_toByteS.mono_l k; unfold laws_toByteS.f; exact zm
set_option maxHeartbeats 8000000 in
set_option maxRecDepth 100000 in
theorem laws_toByteS.calls (k : Nat) (A0 : Option Addr) (c0 : Nat) (l0 : List Int) (r : List Int) (w : World) (hr0 : Kd.C (Kd.int .u8) w A0 l0.length l0) (hc0 : l0.length ≤ c0) (h : laws_toByteS.f k l0 = some r) :
  Calls Tryd.prog 44 #[.slice A0 l0.length c0] w fun e w' => ∃ v0_ : Value, e = .returned (v0_) ∧ Kd.R (Kd.int .u8) 5 w' w.heap.size (fun _ => True) v0_ r ∧ Below w.heap.size w w' := by
 have HR0 := zA hr0; have HC0 := zA hc0; clear hr0 hc0; have HB := zA (Below.refl w.heap.size w); have H : (if 0 ≤ (l0.length : Int) then (if ((l0.length : Int) : Int).toNat ≤ 281474976710656 then (laws_toByteS.l0 k l0 (List.replicate ((l0.length : Int) : Int).toNat 0) 0) else (none)) else (none)) = some r := h; clear h
 by_cases c2 : 0 ≤ (l0.length : Int)
 ·rw [if_pos c2] at H; have c2b0 := eq_true c2; have c2b1 := decide_eq_true c2; clear c2
  by_cases c3 : ((l0.length : Int) : Int).toNat ≤ 281474976710656
  ·rw [if_pos c3] at H; have c3b0 := eq_true c3; have c3b1 := decide_eq_true c3; clear c3; obtain ⟨y243, hy243⟩ : ∃ y_ : List Int, y_ = (List.replicate ((l0.length : Int) : Int).toNat 0) := ⟨_, rfl⟩; replace H : (laws_toByteS.l0 k l0 y243 0) = some r := zh hy243; have Ny243 := zA hy243; clear hy243; have H' := zA H; clear H; go_enter Tryd.func44, Tryd.ntmps44; go_wp2_with (first | ((with_reducible refine gate_dst (N := 7) rfl ?_); refine Kd.R_make (Kd.int .u8) _ 5 rfl (N := 7) rfl 41 _ _ rfl (l0.length : Int) rfl rfl Tryd.underlying41 (.int .u8 0) 1 info5 rfl (by decide) (by omega) 0 (ok := fun _ => True) (okp := fun _ => True) rfl (fun _ hk => hk) trivial (zd) (Nat.le_trans (Nat.mul_le_mul_right _ (zd : (l0.length : Int).toNat ≤ 281474976710656)) (by omega)) (Below.refl _ _) (Nat.le_refl _) ?_; intro v244 w4 ho5 hb hg_ hnew_; clear hg_ hnew_; (first | rw [← Ny243.out] at ho5 | (simp only [Int.reduceToNat] at ho5; rw [← Ny243.out] at ho5)); have Bd := zA (Kd.R_lower ho5 (below_size z_)); replace HB := zA (below_step z_ hb); clear hb ho5))
   go_loopg [4] k (fun kq v4 w' => ∃ (Bb : List Int) (Ba : Int), v4 = .int .i64 Ba ∧ Aside0 (laws_toByteS.l0 kq l0 Bb Ba = some r) ∧ Aside0 (kq ≤ k) ∧ Aside0 (Kd.R (Kd.int .u8) 5 w' w.heap.size (fun _ => True) v244 Bb) ∧ Aside0 (Below w.heap.size w w'))
   case atStart => exact ⟨(y243), (0), zr, H', ⟨Nat.le_refl _⟩, ⟨zR Bd.out⟩, ⟨z_⟩⟩
   case round =>
    clear H'; (try clear c2); (try clear c2b0); (try clear c2b1); (try clear c3); (try clear c3b0); (try clear c3b1); obtain ⟨Bb, Ba, rfl, HA, HK1, Bc, HB⟩ := hrel; cases gk with
    | zero => exact absurd HA.out (by simp [laws_toByteS.l0])
    | succ k1 =>
     have H := HA.out; clear HA; simp only [laws_toByteS.l0] at H
     by_cases c6 : Ba < (l0.length : Int)
     ·rw [if_pos c6] at H; have c6b0 := decide_eq_true c6; clear c6
      by_cases c7 : 0 ≤ Ba
      ·rw [if_pos c7] at H; have c7b0 := decide_eq_true c7; clear c7
       by_cases c8 : Ba < (Bb.length : Int)
       ·rw [if_pos c8] at H; have c8b0 := decide_eq_true c8; clear c8; obtain ⟨y247, hy247⟩ : ∃ y_ : List Int, y_ = (Bb.set (Ba : Int).toNat (rd l0 Ba)) := ⟨_, rfl⟩; replace H : (laws_toByteS.l0 k1 l0 y247 (wrap64 (Ba + 1))) = some r := zh hy247; have Ny247 := zA hy247; clear hy247; have H' := zA H; clear H; have p246 := zt (0 ≤ (Ba : Int)); have q246 := zt (Ba < (l0.length : Int)); obtain ⟨Be, e246, haa⟩ := Kd.at_int HR0.out Ba zd zd; cases e246; replace haa := zx HB.out haa; have p9 : 0 ≤ (Ba : Int) := zd; have q9 : (Ba : Int) < ((Bb.length : Int) : Int) := zd; obtain ⟨go9, Bh, Bf, Bg, gl9, cl9, HG9⟩ := Kd.R_form Bc.out (by omega)
        (first | cases Bf | (injection Bf with ea_ en_ ec_; (first | subst ea_ | (injection ea_ with ea_; subst ea_)); subst ec_; clear en_))
        have GB9 := zA Bg; have GG9 := zA HG9; clear Bg gl9 HG9; obtain ⟨hab, hf9_0⟩ := Kd.R_celln 0 Bc.out (Ba : Int) p9 q9; replace p9 := eq_true p9; replace q9 := eq_true q9; have HP10 := Kd.R_putg Bc.out (Ba : Int) (rd l0 Ba); go_wp2_with (first | ((with_reducible refine gate_store (t := 5) (p := 20) rfl ?_); refine store_event (t := 5) (p := 20) (v := ?vo_w11) (w1 := (wr.setCell ⟨go9, (Ba : Int).toNat, none⟩ (.int .u8 (rd l0 Ba)))) ?hg ?ho ?hn ?hr ?_; (case ho => rfl); (case hg => rfl); (case hn => rfl); (case hr => first | (go_simp; done) | (go_simp; rfl)); intro w11 hw; have hg : wr.grownBy w11 (some go9) := (by rw [hw]; exact HP10.2); have hp_ : Kd.R (Kd.int .u8) 5 w11 w.heap.size (fun _ => True) (.slice (some ⟨go9, 0, none⟩) Bb.length Bh) y247 := (by rw [hw, Ny247.out]; exact HP10.1); clear HP10; replace Bc := zA (hp_); replace HB := zA ((by rw [hw]; exact below_set (HB.out) GB9.out : Below w.heap.size w w11)); clear hg hw hp_)); go_roundg k1
        case measure => have := HK1.out; omega
        case rel => exact ⟨(y247), (wrap64 (Ba + 1)), zr, H', ⟨by have := HK1.out; omega⟩, ⟨zR Bc.out⟩, ⟨z_⟩⟩
       ·rw [if_neg c8] at H; exact absurd H (by simp)
      ·rw [if_neg c7] at H; exact absurd H (by simp)
     ·rw [if_neg c6] at H; have c6b0 := decide_eq_false c6; clear c6; obtain rfl := Option.some.inj H; go_wp2; go_ret; exact ⟨_, ze, by (with_reducible repeat (first | apply Kd.R_alloc | apply Kd.R_drewN | apply Kd.R_drew)); exact Bc.out, z_⟩
  ·rw [if_neg c3] at H; exact absurd H (by simp)
 ·rw [if_neg c2] at H; exact absurd H (by simp)

/-! ### laws_toTarget: function 34 -/
def laws_toTarget.f (k : Nat) (Bh : List Int) (Bg : Int) (Bj : Int) : Option (List Int × Int × Int) := (laws_toByteS.f k Bh).bind fun Bi => (some (Bi, Bg, Bj))
theorem laws_toTarget.mono : ∀ a0 a1 a2 k, LeO (laws_toTarget.f k a0 a1 a2) (laws_toTarget.f (k + 1) a0 a1 a2) := by
 intro a0 a1 a2 k; unfold laws_toTarget.f; have m1 := @laws_toByteS.mono; exact zm
set_option maxHeartbeats 8000000 in
set_option maxRecDepth 100000 in
theorem laws_toTarget.calls (k : Nat) (Bv : Option Addr) (Bw : Nat) (Bh : List Int) (Bg : Int) (Bj : Int) (r1 : List Int) (r2 : Int) (r3 : Int) (w : World) (hr0_0 : Kd.C (Kd.int .u8) w Bv Bh.length Bh) (hc0_0 : Bh.length ≤ Bw) (h : laws_toTarget.f k Bh Bg Bj = some (r1, r2, r3)) :
  Calls Tryd.prog 34 #[.agg #[.slice Bv Bh.length Bw, .int .i64 Bg, .int .i64 Bj]] w fun e w' => ∃ v0_ : Value, e = .returned (.agg #[v0_, .int .i64 r2, .int .i64 r3]) ∧ Kd.R (Kd.int .u8) 5 w' w.heap.size (fun _ => True) v0_ r1 ∧ Below w.heap.size w w' := by
 have hu61 := Tryd.underlying61; have hu49 := Tryd.underlying49; have BA := zA hr0_0; have Bz := zA hc0_0; clear hr0_0 hc0_0; have HB := zA (Below.refl w.heap.size w); have H : ((laws_toByteS.f k Bh).bind fun Bi => (some (Bi, Bg, Bj))) = some (r1, r2, r3) := h; clear h; replace H := Option.bind_eq_some_iff.mp H; obtain ⟨Bi, A20, H⟩ := H; replace H : (some (Bi, Bg, Bj)) = some (r1, r2, r3) := H; have A2 := zA A20; clear A20; simp only [Option.some.injEq, Prod.mk.injEq] at H; obtain ⟨rfl, rfl, rfl⟩ := H; go_enter Tryd.func34, Tryd.ntmps34; go_wp2_with (first | ((with_reducible refine gate_dst (N := 1) rfl ?_); refine zbx (N := 1) (cs := #[.slice Bv Bh.length Bw, .int .i64 Bg, .int .i64 Bj]) (t := 61) ?_; intro Bl hg w3 hbox hb; have Ba := zA (hbox); have BC := zA (zg hg : w.heap.size ≤ Bl); have Be := zA (zg hg : w.heap.size ≤ Bl); replace HB := zA (below_step z_ hb); clear hb hbox hg) | ((with_reducible refine gate_dst (N := 2) rfl ?_); refine zbx (N := 2) (cs := #[.slice none 0 0, .int .i64 0, .int .i64 0]) (t := 49) ?_; intro Bc hg w4 hbox hb; have Bd := zA (hbox); have BD := zA ((by rw [hg]; exact (below_size (zs Be.out)) : w.heap.size ≤ Bc)); have Bk := zA ((by rw [hg]; exact (below_size (zs Be.out)) : w.heap.size ≤ Bc)); replace HB := zA (below_step (zs Be.out) hb); have Bn := zA ((by rw [hg]; exact Nat.ne_of_lt (zw Ba.out) : Bl ≠ Bc)); have Bp := zA ((by rw [hg]; exact Nat.ne_of_gt (zw Ba.out) : Bc ≠ Bl)); replace Ba := zA (zB Ba.out hb); clear hb hbox hg) | ((with_reducible refine gate_dst (N := 3) rfl ?_); refine zbx (N := 3) (cs := #[.slice none 0 0, .int .i64 0, .int .i64 0]) (t := 49) ?_; intro Bf hg w5 hbox hb; have Bm := zA (hbox); have BE := zA ((by rw [hg]; exact (below_size (zs2 Be.out Bk.out)) : w.heap.size ≤ Bf)); have Bt := zA ((by rw [hg]; exact (below_size (zs2 Be.out Bk.out)) : w.heap.size ≤ Bf)); replace HB := zA (below_step (zs2 Be.out Bk.out) hb); have Bo := zA ((by rw [hg]; exact Nat.ne_of_lt (zw Ba.out) : Bl ≠ Bf)); have Bq := zA ((by rw [hg]; exact Nat.ne_of_gt (zw Ba.out) : Bf ≠ Bl)); replace Ba := zA (zB Ba.out hb); have Bb := zA ((by rw [hg]; exact Nat.ne_of_lt (zw Bd.out) : Bc ≠ Bf)); have Br := zA ((by rw [hg]; exact Nat.ne_of_gt (zw Bd.out) : Bf ≠ Bc)); replace Bd := zA (zB Bd.out hb); clear hb hbox hg; have hnb6 := Bn.out; have hnc6 := Bp.out; have hnb7 := Bo.out; have hnc7 := Bq.out; obtain ⟨haa, hab, hac, had, hae, haf⟩ := zh3 Ba.out) | ((with_reducible refine gate_callee (f := 44) rfl ?_); refine goesL_ (some 6) rfl rfl Tryd.func44 (by kernel_rfl) rfl #[.slice Bv Bh.length Bw] rfl za ?_; (with_reducible refine (laws_toByteS.calls k _ _ Bh Bi _ ?s1 ?s2 A2.out).mono ?_); (case s1 => exact zc (Kd.C_below BA.out HB.out)); (case s2 => exact Bz.out); rintro e w9 ⟨v252, rfl, ho0, hb⟩; refine ⟨_, rfl, ?_⟩; have Bx := zA (Kd.R_lower ho0 (below_size (zs3 Be.out Bk.out Bt.out))); replace Ba := zA (zB Ba.out hb); replace Bd := zA (zB Bd.out hb); replace Bm := zA (zB Bm.out hb); replace HB := zA (below_step (zs3 Be.out Bk.out Bt.out) hb); (try clear hb); (try clear ho0); obtain ⟨Bs, Bu, BB⟩ := Kd.R_slice Bx.out; subst BB; have hnb11 := Br.out; have hnc11 := Bb.out; obtain ⟨hag, hah, hai, haj, hak, hal⟩ := zh3 Bm.out; obtain ⟨ham, han, hao, hap, haq, har⟩ := zh3 Ba.out; obtain ⟨has, hat, hau, hav, haw, hax⟩ := zh3 Bd.out))
 refine bodyPost_ret (results_cell_row rfl _ _ Bc 49 #[.slice Bs Bi.length Bu, .int .i64 Bg, .int .i64 Bj] (0, 0) _ rfl (by (with_reducible repeat (first | refine blk_drewN ?_ _ | refine blk_drew ?_ | refine blk_alloc ?_ _)); refine blk_put (cs := #[.slice Bs Bi.length Bu, .int .i64 Bg, .int .i64 0]) ?_ 2 _ rfl; (with_reducible repeat (first | refine blk_drewN ?_ _ | refine blk_drew ?_ | refine blk_alloc ?_ _)); refine blk_put (cs := #[.slice Bs Bi.length Bu, .int .i64 0, .int .i64 0]) ?_ 1 _ rfl; (with_reducible repeat (first | refine blk_drewN ?_ _ | refine blk_drew ?_ | refine blk_alloc ?_ _)); refine blk_put (cs := #[.slice none 0 0, .int .i64 0, .int .i64 0]) ?_ 0 _ rfl; (with_reducible repeat (first | refine blk_drewN ?_ _ | refine blk_drew ?_ | refine blk_alloc ?_ _)); refine blk_far ?_ Bb.out _; (with_reducible repeat (first | refine blk_drewN ?_ _ | refine blk_drew ?_ | refine blk_alloc ?_ _)); refine blk_far ?_ Bb.out _; (with_reducible repeat (first | refine blk_drewN ?_ _ | refine blk_drew ?_ | refine blk_alloc ?_ _)); refine blk_far ?_ Bb.out _; (with_reducible repeat (first | refine blk_drewN ?_ _ | refine blk_drew ?_ | refine blk_alloc ?_ _)); exact Bd.out) Tryd.underlying49 rfl (by kernel_rfl)) rfl ?_; exact ⟨_, ze, by (with_reducible repeat (first | apply Kd.R_alloc | apply Kd.R_drewN | apply Kd.R_drew)); exact Kd.R_mono (Kd.R_far (p := ⟨Bc, 2, none⟩) (Kd.R_far (p := ⟨Bc, 1, none⟩) (Kd.R_far (p := ⟨Bc, 0, none⟩) (Kd.R_far (p := ⟨Bf, 2, none⟩) (Kd.R_far (p := ⟨Bf, 1, none⟩) (Kd.R_far (p := ⟨Bf, 0, none⟩) (Kd.R_types (Kd.R_types Bx.out Bm.out (by decide)) Bd.out (by decide)) (fun _ hk => hk.1.2) (.slice Bs Bi.length Bu)) (fun _ hk => hk.1.2) (.int .i64 Bg)) (fun _ hk => hk.1.2) (.int .i64 Bj)) (fun _ hk => hk.2) (.slice Bs Bi.length Bu)) (fun _ hk => hk.2) (.int .i64 Bg)) (fun _ hk => hk.2) (.int .i64 Bj)) (fun _ hk => trivial), (zs3 Be.out Bk.out Bt.out)⟩

/-! ### laws_toTargetS: function 20 -/
def laws_toTargetS.l0 : Nat → List (S61) → List (S49) → Int → Option ((List (S49)))
 | 0, _, _, _ => none
 | k + 1, x0, x3, x4 => if x4 < (x0.length : Int) then (if 0 ≤ x4 then ((laws_toTarget.f k ((rd_T61 x0 x4).f0) ((rd_T61 x0 x4).f1) ((rd_T61 x0 x4).f2)).bind fun bt258 => (if x4 < (x3.length : Int) then (laws_toTargetS.l0 k x0 (x3.set (x4 : Int).toNat (⟨bt258.1, bt258.2.1, bt258.2.2⟩ : S49)) (wrap64 (x4 + 1))) else (none))) else (none)) else (some x3)
def laws_toTargetS.f (k : Nat) (l0 : List (S61)) : Option ((List (S49))) := if 0 ≤ (l0.length : Int) then (if ((l0.length : Int) : Int).toNat ≤ 7036874417766 then (laws_toTargetS.l0 k l0 (List.replicate ((l0.length : Int) : Int).toNat z49) 0) else (none)) else (none)
theorem laws_toTargetS.mono_l : ∀ k, (∀ y0 y1 y2, LeO (laws_toTargetS.l0 k y0 y1 y2) (laws_toTargetS.l0 (k + 1) y0 y1 y2))
 | 0 => fun _ _ _ r h => by simp [laws_toTargetS.l0] at h
 | k + 1 => by
  have ih0 := laws_toTargetS.mono_l k
  ·intro y0 y1 y2; unfold laws_toTargetS.l0; have m1 := @laws_toTarget.mono; exact zm
theorem laws_toTargetS.mono : ∀ a0 k, LeO (laws_toTargetS.f k a0) (laws_toTargetS.f (k + 1) a0) := by
 intro a0 k; have ih0 := laws_toTargetS.mono_l k; unfold laws_toTargetS.f; have m1 := @laws_toTarget.mono; exact zm
set_option maxHeartbeats 8000000 in
set_option maxRecDepth 100000 in
theorem laws_toTargetS.calls (k : Nat) (A0 : Option Addr) (c0 : Nat) (l0 : List (S61)) (r : List (S49)) (w : World) (hr0 : Kd.C k61 w A0 l0.length l0) (hc0 : l0.length ≤ c0) (h : laws_toTargetS.f k l0 = some r) :
  Calls Tryd.prog 20 #[.slice A0 l0.length c0] w fun e w' => ∃ v0_ : Value, e = .returned (v0_) ∧ Kd.S k49 49 w' w.heap.size (fun _ => True) v0_ r ∧ Below w.heap.size w w' := by
 have hu61 := Tryd.underlying61; have hu49 := Tryd.underlying49; have HR0 := zA hr0; have HC0 := zA hc0; clear hr0 hc0; have HB := zA (Below.refl w.heap.size w); have H : (if 0 ≤ (l0.length : Int) then (if ((l0.length : Int) : Int).toNat ≤ 7036874417766 then (laws_toTargetS.l0 k l0 (List.replicate ((l0.length : Int) : Int).toNat z49) 0) else (none)) else (none)) = some r := h; clear h
 by_cases c2 : 0 ≤ (l0.length : Int)
 ·rw [if_pos c2] at H; have c2b0 := eq_true c2; have c2b1 := decide_eq_true c2; clear c2
  by_cases c3 : ((l0.length : Int) : Int).toNat ≤ 7036874417766
  ·rw [if_pos c3] at H; have c3b0 := eq_true c3; have c3b1 := decide_eq_true c3; clear c3; obtain ⟨y254, hy254⟩ : ∃ y_ : List (S49), y_ = (List.replicate ((l0.length : Int) : Int).toNat z49) := ⟨_, rfl⟩; replace H : (laws_toTargetS.l0 k l0 y254 0) = some r := zh hy254; have Ny254 := zA hy254; clear hy254; have H' := zA H; clear H; go_enter Tryd.func20, Tryd.ntmps20; go_wp2_with (first | ((with_reducible refine gate_dst (N := 7) rfl ?_); refine Kd.S_make k49 _ 49 rfl (N := 7) rfl 29 _ _ rfl (l0.length : Int) rfl rfl Tryd.underlying29 (.agg #[(.slice none 0 0), (.int .i64 0), (.int .i64 0)]) 40 info49 rfl (by decide) (by omega) z49 (ok := fun _ => True) (okp := fun _ => True) (k49_mkM _ _ _ z49 (Kd.R_nil _ _ _ _ _)) (fun _ hk => hk) trivial (zd) (Nat.le_trans (Nat.mul_le_mul_right _ (zd : (l0.length : Int).toNat ≤ 7036874417766)) (by omega)) (Below.refl _ _) (Nat.le_refl _) ?_; intro v255 w4 ho5 hb hg_ hnew_; clear hg_ hnew_; (first | rw [← Ny254.out] at ho5 | (simp only [Int.reduceToNat] at ho5; rw [← Ny254.out] at ho5)); have Bl := zA (Kd.S_lower ho5 (below_size z_)); replace HB := zA (below_step z_ hb); clear hb ho5))
   go_loopg [4] k (fun kq v4 w' => ∃ (Bc : List (S49)) (Ba : Int), v4 = .int .i64 Ba ∧ Aside0 (laws_toTargetS.l0 kq l0 Bc Ba = some r) ∧ Aside0 (kq ≤ k) ∧ Aside0 (Kd.S k49 49 w' w.heap.size (fun _ => True) v255 Bc) ∧ Aside0 (Below w.heap.size w w'))
   case atStart => exact ⟨(y254), (0), zr, H', ⟨Nat.le_refl _⟩, ⟨zS Bl.out⟩, ⟨z_⟩⟩
   case round =>
    clear H'; (try clear c2); (try clear c2b0); (try clear c2b1); (try clear c3); (try clear c3b0); (try clear c3b1); obtain ⟨Bc, Ba, rfl, HA, HK1, Bb, HB⟩ := hrel; cases gk with
    | zero => exact absurd HA.out (by simp [laws_toTargetS.l0])
    | succ k1 =>
     have H := HA.out; clear HA; simp only [laws_toTargetS.l0] at H
     by_cases c6 : Ba < (l0.length : Int)
     ·rw [if_pos c6] at H; have c6b0 := decide_eq_true c6; clear c6
      by_cases c7 : 0 ≤ Ba
      ·rw [if_pos c7] at H; have c7b0 := decide_eq_true c7; clear c7; replace H := Option.bind_eq_some_iff.mp H; obtain ⟨⟨Bi, Bd, Be⟩, A80, H⟩ := H; (try dsimp only at H); have A8 := zA A80; clear A80
       by_cases c9 : Ba < (Bc.length : Int)
       ·rw [if_pos c9] at H; have c9b0 := decide_eq_true c9; clear c9; obtain ⟨y263, hy263⟩ : ∃ y_ : List (S49), y_ = (Bc.set (Ba : Int).toNat (⟨Bi, Bd, Be⟩ : S49)) := ⟨_, rfl⟩; replace H : (laws_toTargetS.l0 k1 l0 y263 (wrap64 (Ba + 1))) = some r := zh hy263; have Ny263 := zA hy263; clear hy263; have H' := zA H; clear H; have p257 := zt (0 ≤ (Ba : Int)); have q257 := zt (Ba < (l0.length : Int)); obtain ⟨Bp, Bj, Bk, e257, haa, hab, hac, hl257_0, hi257_0⟩ := at_T61 HR0.out Ba zd zd; cases e257; replace haa := zx HB.out haa; replace hab := zx HB.out hab; replace hac := zx HB.out hac; have Bh := zA hi257_0; have Bg := zA hl257_0; clear hi257_0 hl257_0; go_wp2_with (first | ((with_reducible refine gate_callee (f := 34) rfl ?_); refine goesL_ (some 20) rfl rfl Tryd.func34 (by kernel_rfl) rfl #[.agg #[.slice Bj ((rd_T61 l0 Ba).f0).length Bk, .int .i64 ((rd_T61 l0 Ba).f1), .int .i64 ((rd_T61 l0 Ba).f2)]] rfl za ?_; (with_reducible refine (laws_toTarget.calls k1 _ _ ((rd_T61 l0 Ba).f0) ((rd_T61 l0 Ba).f1) ((rd_T61 l0 Ba).f2) Bi Bd Be _ ?s1 ?s2 A8.out).mono ?_); (case s1 => exact zc (Kd.C_below Bh.out HB.out)); (case s2 => exact Bg.out); rintro e w11 ⟨v259, rfl, ho0, hb⟩; refine ⟨_, rfl, ?_⟩; replace Bb := zA (Kd.S_elder' (zS Bb.out) (Kd.R_base ho0) hb); have Bf := zA (Kd.R_lower ho0 (below_size z_)); replace HB := zA (below_step z_ hb); (try clear hb); (try clear ho0); have p10 : 0 ≤ (Ba : Int) := zd; have q10 : (Ba : Int) < ((Bc.length : Int) : Int) := zd; obtain ⟨go10, Bm, Bn, Bo, gl10, cl10, HG10⟩ := Kd.S_form Bb.out (by omega); (first | cases Bn | (injection Bn with ea_ en_ ec_; (first | subst ea_ | (injection ea_ with ea_; subst ea_)); subst ec_; clear en_)); have GB10 := zA Bo; have GG10 := zA HG10; clear Bo gl10 HG10; obtain ⟨_, ce10, hcl10, hM10, hcc10, hfr10, _, _⟩ := Kd.S_elem Bb.out z49 (Ba : Int) p10 q10; obtain ⟨ve10_0, rfl, ge10_0⟩ := k49_openM hM10; have had : w11.cell? ⟨go10, (Ba : Int).toNat * 3, none⟩ = some (ve10_0) := hcc10 0 _ rfl; have hae : w11.cell? ⟨go10, (Ba : Int).toNat * 3 + 1, none⟩ = some (.int .i64 ((rd_T49 Bc Ba).f1)) := hcc10 1 _ rfl; have haf : w11.cell? ⟨go10, (Ba : Int).toNat * 3 + 2, none⟩ = some (.int .i64 ((rd_T49 Bc Ba).f2)) := hcc10 2 _ rfl; have hf10_0 : w11.frozen? ⟨go10, (Ba : Int).toNat * 3, none⟩ = false := hfr10 0; have hf10_1 : w11.frozen? ⟨go10, (Ba : Int).toNat * 3 + 1, none⟩ = false := hfr10 1; have hf10_2 : w11.frozen? ⟨go10, (Ba : Int).toNat * 3 + 2, none⟩ = false := hfr10 2; (try clear hcl10); (try clear hcc10); (try clear hfr10); (try clear hM10); replace p10 := eq_true p10; replace q10 := eq_true q10; have n_ := zA (Kd.S_mono (ok' := (fun k_ => zO k_ (v259))) Bb.out (fun k_ hk => hk.2)); clear Bb; have Bb := n_; clear n_; have HX12 := zA (show Kd.S k49 49 w11 w.heap.size (fun k_ => ((fun _ => True)) k_ ∧ ¬ ((fun k_ => some k_ = (v259 : Value).ownBlock)) k_) (.slice (some ⟨go10, 0, none⟩) Bc.length Bm) Bc from (by (with_reducible repeat (first | apply Kd.S_alloc | apply Kd.S_drewN | apply Kd.S_drew)); exact Kd.S_mono Bb.out (fun k_ hk => ⟨trivial, fun e_ => hk e_⟩))); obtain ⟨oki12, ce12, hcl12, hM12, hcc12, hfr12, hoki12, hH12⟩ := Kd.S_elem HX12.out z49 (Ba : Int) (zd) (by have h_ : (Ba : Int) < ((Bc.length : Int) : Int) := zd; first | exact h_ | (have e_ := (Kd.S_reads' Bb.out).1; omega) | simpa using h_); obtain ⟨ve12_0, rfl, ge12_0⟩ := k49_openM hM12; have HP12 := Kd.S_seg hH12 (zd) (by have h_ : (Ba : Int) < ((Bc.length : Int) : Int) := zd; first | exact h_ | (have e_ := (Kd.S_reads' Bb.out).1; omega) | simpa using h_) (seg := [v259, .int .i64 Bd, .int .i64 Be]) (j := 0) (show 3 ≤ 3 from by decide) (x' := (⟨Bi, Bd, Be⟩ : S49)) (k49_mkM _ _ _ (⟨Bi, Bd, Be⟩ : S49) (Kd.R_mono (Kd.R_tight rfl (Kd.R_mono (ok' := fun k_ => ((fun _ => True)) k_ ∧ k_ ≠ go10) (Kd.R_apart' (Bf.out) (Kd.S_typed Bb.out) (by decide)) (fun k_ hk => ⟨trivial, fun e_ => (hk.2) (by rw [e_]; rfl)⟩))) (fun _ h_ => Or.inr (h_)))) (fun _ hk => hk) (fun k_ hk_ => ((Kd.R_mono (ok' := fun k_ => ((fun _ => True)) k_ ∧ k_ ≠ go10) (Kd.R_apart' (Bf.out) (Kd.S_typed Bb.out) (by decide)) (fun k_ hk => ⟨trivial, fun e_ => (hk.2) (by rw [e_]; rfl)⟩))).1 k_ hk_.symm); have hag := hcc12 0 _ rfl; (try simp only [show (k49).sz = 3 from rfl, Nat.mul_one, Nat.add_zero] at hag); have hf12_0 := hfr12 0; (try simp only [show (k49).sz = 3 from rfl, Nat.mul_one, Nat.add_zero] at hf12_0); have hah := hcc12 1 _ rfl; (try simp only [show (k49).sz = 3 from rfl, Nat.mul_one, Nat.add_zero] at hah); have hf12_1 := hfr12 1; (try simp only [show (k49).sz = 3 from rfl, Nat.mul_one, Nat.add_zero] at hf12_1); have hai := hcc12 2 _ rfl; (try simp only [show (k49).sz = 3 from rfl, Nat.mul_one, Nat.add_zero] at hai); have hf12_2 := hfr12 2; (try simp only [show (k49).sz = 3 from rfl, Nat.mul_one, Nat.add_zero] at hf12_2); (try clear hcl12); (try clear hcc12); (try clear hfr12); (try clear hM12); (try clear hoki12); (try clear hH12)) | ((with_reducible refine gate_store (t := 49) (p := 21) rfl ?_); refine store_event (t := 49) (p := 21) (v := ?vo_w13) (w1 := (((w11.setCell ⟨go10, (Ba : Int).toNat * 3, none⟩ (v259)).setCell ⟨go10, (Ba : Int).toNat * 3 + 1, none⟩ (.int .i64 Bd)).setCell ⟨go10, (Ba : Int).toNat * 3 + 2, none⟩ (.int .i64 Be))) ?hg ?ho ?hn ?hr ?_; (case ho => rfl); (case hg => rfl); (case hn => rfl); (case hr => first | (go_simp; done) | (go_simp; rfl) | (obtain ⟨_, _, e_v259, _, _⟩ := Kd.R_reads (‹Aside0 (Kd.R _ _ _ _ _ v259 _)›).out; subst e_v259; first | (go_simp; done) | (go_simp; rfl))); intro w13 hw; have hg : w11.grownBy w13 (some go10) := (by rw [hw]; exact HP12.2); have hp_ : Kd.S k49 49 w13 w.heap.size (fun _ => True) (.slice (some ⟨go10, 0, none⟩) Bc.length Bm) y263 := (by rw [hw, Ny263.out]; exact HP12.1); clear HP12; replace Bb := zA (hp_); replace HB := zA ((by rw [hw]; exact below_set (below_set (below_set (HB.out) GB10.out) GB10.out) GB10.out : Below w.heap.size w w13)); clear Bf; clear hg hw hp_))
        go_roundg k1
        case measure => have := HK1.out; omega
        case rel => exact ⟨(y263), (wrap64 (Ba + 1)), zr, H', ⟨by have := HK1.out; omega⟩, ⟨zS Bb.out⟩, ⟨z_⟩⟩
       ·rw [if_neg c9] at H; exact absurd H (by simp)
      ·rw [if_neg c7] at H; exact absurd H (by simp)
     ·rw [if_neg c6] at H; have c6b0 := decide_eq_false c6; clear c6; obtain rfl := Option.some.inj H; go_wp2; go_ret; exact ⟨_, ze, by (with_reducible repeat (first | apply Kd.S_alloc | apply Kd.S_drewN | apply Kd.S_drew)); exact Bb.out, z_⟩
  ·rw [if_neg c3] at H; exact absurd H (by simp)
 ·rw [if_neg c2] at H; exact absurd H (by simp)

/-! ### laws_toLayout: function 6 -/
def laws_toLayout.f (k : Nat) (Bf : Int) (Bg : Int) (Bs : List Int) (Bp : List Int) (Bm : List (S61)) : Option (Int × Int × List Int × List Int × (List (S49))) := (laws_toIntS.f k Bs).bind fun Bn => ((laws_toIntS.f k Bp).bind fun Bq => ((laws_toTargetS.f k Bm).bind fun Bk => (some (Bf, Bg, Bn, Bq, Bk))))
theorem laws_toLayout.mono : ∀ a0 a1 a2 a3 a4 k, LeO (laws_toLayout.f k a0 a1 a2 a3 a4) (laws_toLayout.f (k + 1) a0 a1 a2 a3 a4) := by
 intro a0 a1 a2 a3 a4 k; unfold laws_toLayout.f; have m1 := @laws_toIntS.mono; have m2 := @laws_toTargetS.mono; exact zm
set_option maxHeartbeats 8000000 in
set_option maxRecDepth 100000 in
theorem laws_toLayout.calls (k : Nat) (Bf : Int) (Bg : Int) (Bw : Option Addr) (BB : Nat) (Bs : List Int) (Bx : Option Addr) (BC : Nat) (Bp : List Int) (Bz : Option Addr) (BD : Nat) (Bm : List (S61)) (r1 : Int) (r2 : Int) (r3 : List Int) (r4 : List Int) (r5 : List (S49)) (w : World) (hr0_2 : Kd.C (Kd.int .i64) w Bw Bs.length Bs) (hc0_2 : Bs.length ≤ BB) (hr0_3 : Kd.C (Kd.int .i64) w Bx Bp.length Bp) (hc0_3 : Bp.length ≤ BC) (hr0_4 : Kd.C k61 w Bz Bm.length Bm) (hc0_4 : Bm.length ≤ BD) (h : laws_toLayout.f k Bf Bg Bs Bp Bm = some (r1, r2, r3, r4, r5)) :
  Calls Tryd.prog 6 #[.agg #[.int .i64 Bf, .int .i64 Bg, .slice Bw Bs.length BB, .slice Bx Bp.length BC, .slice Bz Bm.length BD]] w fun e w' => ∃ v2_ v3_ v4_ : Value, e = .returned (.agg #[.int .i64 r1, .int .i64 r2, v2_, v3_, v4_]) ∧ Kd.R (Kd.int .i64) 3 w' w.heap.size (fun k_ => zO k_ (v3_)) v2_ r3 ∧ Kd.R (Kd.int .i64) 3 w' w.heap.size (fun k_ => zO k_ (v2_)) v3_ r4 ∧ Kd.S k49 49 w' w.heap.size (fun _ => True) v4_ r5 ∧ Below w.heap.size w w' := by
 have hu25 := Tryd.underlying25; have hu31 := Tryd.underlying31; have BQ := zA hr0_2; have BN := zA hc0_2; clear hr0_2 hc0_2; have BR := zA hr0_3; have BO := zA hc0_3; clear hr0_3 hc0_3; have BS := zA hr0_4; have BP := zA hc0_4; clear hr0_4 hc0_4; have HB := zA (Below.refl w.heap.size w); have H : ((laws_toIntS.f k Bs).bind fun Bn => ((laws_toIntS.f k Bp).bind fun Bq => ((laws_toTargetS.f k Bm).bind fun Bk => (some (Bf, Bg, Bn, Bq, Bk))))) = some (r1, r2, r3, r4, r5) := h; clear h; replace H := Option.bind_eq_some_iff.mp H; obtain ⟨Bn, A20, H⟩ := H; replace H : ((laws_toIntS.f k Bp).bind fun Bq => ((laws_toTargetS.f k Bm).bind fun Bk => (some (Bf, Bg, Bn, Bq, Bk)))) = some (r1, r2, r3, r4, r5) := H; have A2 := zA A20; clear A20; replace H := Option.bind_eq_some_iff.mp H; obtain ⟨Bq, A30, H⟩ := H; replace H : ((laws_toTargetS.f k Bm).bind fun Bk => (some (Bf, Bg, Bn, Bq, Bk))) = some (r1, r2, r3, r4, r5) := H; have A3 := zA A30; clear A30; replace H := Option.bind_eq_some_iff.mp H; obtain ⟨Bk, A40, H⟩ := H; replace H : (some (Bf, Bg, Bn, Bq, Bk)) = some (r1, r2, r3, r4, r5) := H; have A4 := zA A40; clear A40; simp only [Option.some.injEq, Prod.mk.injEq] at H; obtain ⟨rfl, rfl, rfl, rfl, rfl⟩ := H; go_enter Tryd.func6, Tryd.ntmps6; go_wp2_with (first | ((with_reducible refine gate_dst (N := 1) rfl ?_); refine zbx (N := 1) (cs := #[.int .i64 Bf, .int .i64 Bg, .slice Bw Bs.length BB, .slice Bx Bp.length BC, .slice Bz Bm.length BD]) (t := 25) ?_; intro Br hg w5 hbox hb; have Bb := zA (hbox); have BW := zA (zg hg : w.heap.size ≤ Br); have Bd := zA (zg hg : w.heap.size ≤ Br); replace HB := zA (below_step z_ hb); clear hb hbox hg) | ((with_reducible refine gate_dst (N := 2) rfl ?_); refine zbx (N := 2) (cs := #[.int .i64 0, .int .i64 0, .slice none 0 0, .slice none 0 0, .slice none 0 0]) (t := 31) ?_; intro Ba hg w6 hbox hb; have Be := zA (hbox); have BX := zA ((by rw [hg]; exact (below_size (zs Bd.out)) : w.heap.size ≤ Ba)); have Bh := zA ((by rw [hg]; exact (below_size (zs Bd.out)) : w.heap.size ≤ Ba)); replace HB := zA (below_step (zs Bd.out) hb); have BH := zA ((by rw [hg]; exact Nat.ne_of_lt (zw Bb.out) : Br ≠ Ba)); have BI := zA ((by rw [hg]; exact Nat.ne_of_gt (zw Bb.out) : Ba ≠ Br)); replace Bb := zA (zB Bb.out hb); clear hb hbox hg) | ((with_reducible refine gate_dst (N := 3) rfl ?_); refine zbx (N := 3) (cs := #[.int .i64 0, .int .i64 0, .slice none 0 0, .slice none 0 0, .slice none 0 0]) (t := 31) ?_; intro Bj hg w7 hbox hb; have Bc := zA (hbox); have BZ := zA ((by rw [hg]; exact (below_size (zs2 Bd.out Bh.out)) : w.heap.size ≤ Bj)); have Bo := zA ((by rw [hg]; exact (below_size (zs2 Bd.out Bh.out)) : w.heap.size ≤ Bj)); replace HB := zA (below_step (zs2 Bd.out Bh.out) hb); have Bl := zA ((by rw [hg]; exact Nat.ne_of_lt (zw Bb.out) : Br ≠ Bj)); have BJ := zA ((by rw [hg]; exact Nat.ne_of_gt (zw Bb.out) : Bj ≠ Br)); replace Bb := zA (zB Bb.out hb); have Bi := zA ((by rw [hg]; exact Nat.ne_of_lt (zw Be.out) : Ba ≠ Bj)); have BK := zA ((by rw [hg]; exact Nat.ne_of_gt (zw Be.out) : Bj ≠ Ba)); replace Be := zA (zB Be.out hb); clear hb hbox hg; have hnb8 := BH.out; have hnc8 := BI.out; have hnb9 := Bl.out; have hnc9 := BJ.out; obtain ⟨haa, hab, hac, had, hae, haf, hag, hah, hai, haj⟩ := zh5 Bb.out; have hnb11 := BK.out; have hnc11 := Bi.out; obtain ⟨hak, hal, ham, han, hao, hap, haq, har, has, hat⟩ := zh5 Bc.out) | ((with_reducible refine gate_callee (f := 19) rfl ?_); refine goesL_ (some 12) rfl rfl Tryd.func19 (by kernel_rfl) rfl #[.slice Bw Bs.length BB] rfl za ?_; (with_reducible refine (laws_toIntS.calls k _ _ Bs Bn _ ?s1 ?s2 A2.out).mono ?_); (case s1 => exact Kd.C_below BQ.out (zs3 Bd.out Bh.out Bo.out)); (case s2 => exact BN.out); rintro e w13 ⟨v268, rfl, ho0, hb⟩; refine ⟨_, rfl, ?_⟩; have Bt := zA (Kd.R_lower ho0 (below_size (zs3 Bd.out Bh.out Bo.out))); replace Bb := zA (blk_below (g := Br) (o := .cells #[.int .i64 Bf, .int .i64 Bg, .slice Bw Bs.length BB, .slice Bx Bp.length BC, .slice Bz Bm.length BD] 25 (0, 0)) (zf Bb.out Bl.out) hb); replace Be := zA (blk_below (g := Ba) (o := .cells #[.int .i64 0, .int .i64 0, .slice none 0 0, .slice none 0 0, .slice none 0 0] 31 (0, 0)) (zf Be.out Bi.out) hb); replace Bc := zA (blk_below (g := Bj) (o := .cells #[.int .i64 Bf, .int .i64 Bg, .slice none 0 0, .slice none 0 0, .slice none 0 0] 31 (0, 0)) (zq Bc.out) hb); replace HB := zA (below_step (zs3 Bd.out Bh.out Bo.out) hb); (try clear hb); (try clear ho0); obtain ⟨Bu, Bv, BT⟩ := Kd.R_slice Bt.out; subst BT; obtain ⟨hau, hav, haw, hax, hay, haz, haA, haB, haC, haD⟩ := zh5 Bc.out; obtain ⟨haE, haF, haG, haH, haI, haJ, haK, haL, haM, haN⟩ := zh5 Bb.out) | ((with_reducible refine gate_callee (f := 19) rfl ?_); refine goesL_ (some 16) rfl rfl Tryd.func19 (by kernel_rfl) rfl #[.slice Bx Bp.length BC] rfl za ?_; (with_reducible refine (laws_toIntS.calls k _ _ Bp Bq _ ?s1 ?s2 A3.out).mono ?_); (case s1 => exact Kd.C_below BR.out (zs3 Bd.out Bh.out Bo.out)); (case s2 => exact BO.out); rintro e w17 ⟨v271, rfl, ho0, hb⟩; refine ⟨_, rfl, ?_⟩; have BF := zA (Kd.R_lower (Kd.R_new' ho0 (zl Bt.out)) (below_size (zs3 Bd.out Bh.out Bo.out))); replace Bt := zA (Kd.R_elder' (zK Bt.out Bc.out) (Kd.R_base ho0) hb); replace Bb := zA (blk_below (g := Br) (o := .cells #[.int .i64 Bf, .int .i64 Bg, .slice Bw Bs.length BB, .slice Bx Bp.length BC, .slice Bz Bm.length BD] 25 (0, 0)) (zf Bb.out Bl.out) hb); replace Be := zA (blk_below (g := Ba) (o := .cells #[.int .i64 0, .int .i64 0, .slice none 0 0, .slice none 0 0, .slice none 0 0] 31 (0, 0)) (zf Be.out Bi.out) hb); replace Bc := zA (blk_below (g := Bj) (o := .cells #[.int .i64 Bf, .int .i64 Bg, .slice Bu Bn.length Bv, .slice none 0 0, .slice none 0 0] 31 (0, 0)) (zq Bc.out) hb); replace HB := zA (below_step (zs3 Bd.out Bh.out Bo.out) hb); (try clear hb); (try clear ho0); obtain ⟨BG, BL, BU⟩ := Kd.R_slice BF.out; subst BU; obtain ⟨haO, haP, haQ, haR, haS, haT, haU, haV, haW, haX⟩ := zh5 Bc.out; obtain ⟨haY, haZ, ha0, ha1, ha2, ha3, ha4, ha5, ha6, ha7⟩ := zh5 Bb.out) | ((with_reducible refine gate_callee (f := 20) rfl ?_); refine goesL_ (some 20) rfl rfl Tryd.func20 (by kernel_rfl) rfl #[.slice Bz Bm.length BD] rfl za ?_; (with_reducible refine (laws_toTargetS.calls k _ _ Bm Bk _ ?s1 ?s2 A4.out).mono ?_); (case s1 => exact Kd.C_below BS.out (zs3 Bd.out Bh.out Bo.out)); (case s2 => exact BP.out); rintro e w21 ⟨v274, rfl, ho0, hb⟩; refine ⟨_, rfl, ?_⟩; replace Bt := zA (Kd.R_below (zK Bt.out Bc.out) hb); replace BF := zA (Kd.R_below (zK BF.out Bc.out) hb); have BM := zA (Kd.S_lower ho0 (below_size (zs3 Bd.out Bh.out Bo.out))); replace Bb := zA (blk_below (g := Br) (o := .cells #[.int .i64 Bf, .int .i64 Bg, .slice Bw Bs.length BB, .slice Bx Bp.length BC, .slice Bz Bm.length BD] 25 (0, 0)) (zf Bb.out Bl.out) hb); replace Be := zA (blk_below (g := Ba) (o := .cells #[.int .i64 0, .int .i64 0, .slice none 0 0, .slice none 0 0, .slice none 0 0] 31 (0, 0)) (zf Be.out Bi.out) hb); replace Bc := zA (blk_below (g := Bj) (o := .cells #[.int .i64 Bf, .int .i64 Bg, .slice Bu Bn.length Bv, .slice BG Bq.length BL, .slice none 0 0] 31 (0, 0)) (zq Bc.out) hb); replace HB := zA (below_step (zs3 Bd.out Bh.out Bo.out) hb); (try clear hb); (try clear ho0); obtain ⟨BA, BE, BV⟩ := Kd.S_slice BM.out; subst BV; obtain ⟨ha8, ha9, hba, hbb, hbc, hbd, hbe, hbf, hbg, hbh⟩ := zh5 Bc.out; obtain ⟨hbi, hbj, hbk, hbl, hbm, hbn, hbo, hbp, hbq, hbr⟩ := zh5 Be.out))
 refine bodyPost_ret (results_cell_row rfl _ _ Ba 31 #[.int .i64 Bf, .int .i64 Bg, .slice Bu Bn.length Bv, .slice BG Bq.length BL, .slice BA Bk.length BE] (0, 0) _ rfl (by (with_reducible repeat (first | refine blk_drewN ?_ _ | refine blk_drew ?_ | refine blk_alloc ?_ _)); refine blk_put (cs := #[.int .i64 Bf, .int .i64 Bg, .slice Bu Bn.length Bv, .slice BG Bq.length BL, .slice none 0 0]) ?_ 4 _ rfl; (with_reducible repeat (first | refine blk_drewN ?_ _ | refine blk_drew ?_ | refine blk_alloc ?_ _)); refine blk_put (cs := #[.int .i64 Bf, .int .i64 Bg, .slice Bu Bn.length Bv, .slice none 0 0, .slice none 0 0]) ?_ 3 _ rfl; (with_reducible repeat (first | refine blk_drewN ?_ _ | refine blk_drew ?_ | refine blk_alloc ?_ _)); refine blk_put (cs := #[.int .i64 Bf, .int .i64 Bg, .slice none 0 0, .slice none 0 0, .slice none 0 0]) ?_ 2 _ rfl; (with_reducible repeat (first | refine blk_drewN ?_ _ | refine blk_drew ?_ | refine blk_alloc ?_ _)); refine blk_put (cs := #[.int .i64 Bf, .int .i64 0, .slice none 0 0, .slice none 0 0, .slice none 0 0]) ?_ 1 _ rfl; (with_reducible repeat (first | refine blk_drewN ?_ _ | refine blk_drew ?_ | refine blk_alloc ?_ _)); refine blk_put (cs := #[.int .i64 0, .int .i64 0, .slice none 0 0, .slice none 0 0, .slice none 0 0]) ?_ 0 _ rfl; (with_reducible repeat (first | refine blk_drewN ?_ _ | refine blk_drew ?_ | refine blk_alloc ?_ _)); refine blk_far ?_ Bi.out _; (with_reducible repeat (first | refine blk_drewN ?_ _ | refine blk_drew ?_ | refine blk_alloc ?_ _)); exact Be.out) Tryd.underlying31 rfl (by kernel_rfl)) rfl ?_
 exact ⟨_, _, _, ze, by (with_reducible repeat (first | apply Kd.R_alloc | apply Kd.R_drewN | apply Kd.R_drew)); exact Kd.R_mono (Kd.R_far (p := ⟨Ba, 4, none⟩) (Kd.R_far (p := ⟨Ba, 3, none⟩) (Kd.R_far (p := ⟨Ba, 2, none⟩) (Kd.R_far (p := ⟨Ba, 1, none⟩) (Kd.R_far (p := ⟨Ba, 0, none⟩) (Kd.R_far (p := ⟨Bj, 4, none⟩) (Kd.R_types (Kd.R_types Bt.out Bc.out (by decide)) Be.out (by decide)) (fun _ hk => hk.1.2) (.slice BA Bk.length BE)) (fun _ hk => hk.2) (.int .i64 Bf)) (fun _ hk => hk.2) (.int .i64 Bg)) (fun _ hk => hk.2) (.slice Bu Bn.length Bv)) (fun _ hk => hk.2) (.slice BG Bq.length BL)) (fun _ hk => hk.2) (.slice BA Bk.length BE)) (fun _ hk => hk.1.1.2), by (with_reducible repeat (first | apply Kd.R_alloc | apply Kd.R_drewN | apply Kd.R_drew)); exact Kd.R_mono (Kd.R_far (p := ⟨Ba, 4, none⟩) (Kd.R_far (p := ⟨Ba, 3, none⟩) (Kd.R_far (p := ⟨Ba, 2, none⟩) (Kd.R_far (p := ⟨Ba, 1, none⟩) (Kd.R_far (p := ⟨Ba, 0, none⟩) (Kd.R_far (p := ⟨Bj, 4, none⟩) (Kd.R_types (Kd.R_types BF.out Bc.out (by decide)) Be.out (by decide)) (fun _ hk => hk.1.2) (.slice BA Bk.length BE)) (fun _ hk => hk.2) (.int .i64 Bf)) (fun _ hk => hk.2) (.int .i64 Bg)) (fun _ hk => hk.2) (.slice Bu Bn.length Bv)) (fun _ hk => hk.2) (.slice BG Bq.length BL)) (fun _ hk => hk.2) (.slice BA Bk.length BE)) (fun _ hk => hk.1.1.2), by (with_reducible repeat (first | apply Kd.S_alloc | apply Kd.S_drewN | apply Kd.S_drew)); exact Kd.S_mono (Kd.S_far (p := ⟨Ba, 4, none⟩) (Kd.S_far (p := ⟨Ba, 3, none⟩) (Kd.S_far (p := ⟨Ba, 2, none⟩) (Kd.S_far (p := ⟨Ba, 1, none⟩) (Kd.S_far (p := ⟨Ba, 0, none⟩) (Kd.S_far (p := ⟨Bj, 4, none⟩) (Kd.S_types (Kd.S_types BM.out Bc.out (by decide)) Be.out (by decide)) (fun _ hk => hk.1.2) (.slice BA Bk.length BE)) (fun _ hk => hk.2) (.int .i64 Bf)) (fun _ hk => hk.2) (.int .i64 Bg)) (fun _ hk => hk.2) (.slice Bu Bn.length Bv)) (fun _ hk => hk.2) (.slice BG Bq.length BL)) (fun _ hk => hk.2) (.slice BA Bk.length BE)) (fun _ hk => trivial), (zs3 Bd.out Bh.out Bo.out)⟩

/-! ### impl_side: function 39 -/
def dxz (d : Int) : Int := if d = 1 then 1 else if d = 3 then -1 else 0
def dyz (d : Int) : Int := if d = 0 then -1 else if d = 2 then 1 else 0
def sideL (w h c d : Int) : Int := if c % w + dxz d < 0 ∨ w ≤ c % w + dxz d ∨ c / w + dyz d < 0 ∨ h ≤ c / w + dyz d then -1 else (c / w + dyz d) * w + (c % w + dxz d)
def sideIn (w h c d : Int) : Prop := 1 ≤ w ∧ w ≤ 40 ∧ 1 ≤ h ∧ h ≤ 40 ∧ 0 ≤ c ∧ c ≤ 1600 ∧ 0 ≤ d ∧ d ≤ 3
instance (w h c d : Int) : Decidable (sideIn w h c d) := by unfold sideIn; infer_instance
def impl_side.f (a0 : Int) (a1 : Int) (a2 : Int) (a3 : Int) : Option (Int) := if sideIn a0 a1 a2 a3 then some (sideL a0 a1 a2 a3) else none
set_option maxHeartbeats 4000000 in
theorem impl_side.calls (a0 : Int) (a1 : Int) (a2 : Int) (a3 : Int) (r : Int) (w : World) (h : impl_side.f a0 a1 a2 a3 = some r) :
  Calls Tryd.prog 39 #[.int .i64 a0, .int .i64 a1, .int .i64 a2, .int .i64 a3] w fun e w' => e = .returned (.int .i64 r) ∧ Drawn0 w w' := by
 unfold impl_side.f at h
 by_cases hs : sideIn a0 a1 a2 a3
 ·rw [if_pos hs] at h; injection h with h; have Hr := zA h; clear h; obtain ⟨w1, w2, h1, h2, c0, c1, d0, d1⟩ := hs; have m0 : 0 ≤ a2 % a0 := Int.emod_nonneg _ (by omega); have m1 : a2 % a0 < a0 := Int.emod_lt_of_pos _ (by omega); have q0 : 0 ≤ a2 / a0 := Int.ediv_nonneg c0 (by omega); have q1 : a2 / a0 ≤ a2 := Int.ediv_le_self _ c0; have hw : (a0 == 0) = false := by rw [beq_eq_false_iff_ne]; omega
  have mul : ∀ y : Int, 0 ≤ y → y < a1 → 0 ≤ y * a0 ∧ y * a0 ≤ 1600 := fun y hy0 hy1 =>
   ⟨Int.mul_nonneg hy0 (by omega), Int.le_trans (Int.mul_le_mul (show y ≤ 40 by omega) w2 (by omega) (by omega)) (by omega)⟩
  have fin : ∀ x y : Int, -1 ≤ x → x ≤ a0 → -1 ≤ y → y ≤ 1700 → x = a2 % a0 + dxz a3 → y = a2 / a0 + dyz a3 →
    (x < 0 ∨ a0 ≤ x ∨ y < 0 ∨ a1 ≤ y → -1 = r) ∧ (¬ (x < 0 ∨ a0 ≤ x ∨ y < 0 ∨ a1 ≤ y) → wrap64 (wrap64 (y * a0) + x) = r) := by
   intro x y x0 x1 y0 y1 ex ey; have hr := Hr.out; unfold sideL at hr; rw [← ex, ← ey] at hr; refine ⟨fun c => by rw [if_pos c] at hr; exact hr, fun c => ?_⟩; rw [if_neg c] at hr; have := mul y (by omega) (by omega); rw [show wrap64 (y * a0) = y * a0 by unfold wrap64; omega, show wrap64 (y * a0 + x) = y * a0 + x by unfold wrap64; omega]; exact hr
  have F := zA fin; clear fin mul; have hd : a3 = 0 ∨ a3 = 1 ∨ a3 = 2 ∨ a3 = 3 := by omega
  have ya : wrap64 (a2 / a0) = a2 / a0 := by unfold wrap64; omega
  have Ya := zA ya; clear ya
  rcases hd with rfl | rfl | rfl | rfl
  all_goals clear d0 d1
  ·have i0 : ∀ w, (Instr.index 74 (.agg #[.int .i64 0, .int .i64 1, .int .i64 0, .int .i64 (-1)]) (.int .i64 0)).run Tryd.prog w = .ok (.int .i64 0) w := fun _ => by kernel_rfl
   have i1 : ∀ w, (Instr.index 74 (.agg #[.int .i64 (-1), .int .i64 0, .int .i64 1, .int .i64 0]) (.int .i64 0)).run Tryd.prog w = .ok (.int .i64 (-1)) w := fun _ => by kernel_rfl
   have A := zA (F.out (a2 % a0) (a2 / a0 + -1) (by omega) (by omega) (by omega) (by omega) (by simp [dxz]) (by simp [dyz])); clear F; go_enter Tryd.func39, Tryd.ntmps39; go_wp2; go_quiet (fail); go_wp2
   all_goals
    go_ret; refine ⟨?_, ⟨_, rfl⟩⟩
    first
     | exact congrArg (fun x => Ending.returned (Value.int .i64 x)) (A.out.1 (by omega))
     | exact congrArg (fun x => Ending.returned (Value.int .i64 x)) (A.out.2 (by omega))
  ·have i0 : ∀ w, (Instr.index 74 (.agg #[.int .i64 0, .int .i64 1, .int .i64 0, .int .i64 (-1)]) (.int .i64 1)).run Tryd.prog w = .ok (.int .i64 1) w := fun _ => by kernel_rfl
   have i1 : ∀ w, (Instr.index 74 (.agg #[.int .i64 (-1), .int .i64 0, .int .i64 1, .int .i64 0]) (.int .i64 1)).run Tryd.prog w = .ok (.int .i64 0) w := fun _ => by kernel_rfl
   have A := zA (F.out (a2 % a0 + 1) (a2 / a0) (by omega) (by omega) (by omega) (by omega) (by simp [dxz]) (by simp [dyz])); clear F; go_enter Tryd.func39, Tryd.ntmps39; go_wp2; go_quiet (fail); go_wp2
   all_goals
    go_ret; refine ⟨?_, ⟨_, rfl⟩⟩
    first
     | exact congrArg (fun x => Ending.returned (Value.int .i64 x)) (A.out.1 (by omega))
     | exact congrArg (fun x => Ending.returned (Value.int .i64 x)) (A.out.2 (by omega))
  ·have i0 : ∀ w, (Instr.index 74 (.agg #[.int .i64 0, .int .i64 1, .int .i64 0, .int .i64 (-1)]) (.int .i64 2)).run Tryd.prog w = .ok (.int .i64 0) w := fun _ => by kernel_rfl
   have i1 : ∀ w, (Instr.index 74 (.agg #[.int .i64 (-1), .int .i64 0, .int .i64 1, .int .i64 0]) (.int .i64 2)).run Tryd.prog w = .ok (.int .i64 1) w := fun _ => by kernel_rfl
   have A := zA (F.out (a2 % a0) (a2 / a0 + 1) (by omega) (by omega) (by omega) (by omega) (by simp [dxz]) (by simp [dyz])); clear F; go_enter Tryd.func39, Tryd.ntmps39; go_wp2; go_quiet (fail); go_wp2
   all_goals
    go_ret; refine ⟨?_, ⟨_, rfl⟩⟩
    first
     | exact congrArg (fun x => Ending.returned (Value.int .i64 x)) (A.out.1 (by omega))
     | exact congrArg (fun x => Ending.returned (Value.int .i64 x)) (A.out.2 (by omega))
  ·have i0 : ∀ w, (Instr.index 74 (.agg #[.int .i64 0, .int .i64 1, .int .i64 0, .int .i64 (-1)]) (.int .i64 3)).run Tryd.prog w = .ok (.int .i64 (-1)) w := fun _ => by kernel_rfl
   have i1 : ∀ w, (Instr.index 74 (.agg #[.int .i64 (-1), .int .i64 0, .int .i64 1, .int .i64 0]) (.int .i64 3)).run Tryd.prog w = .ok (.int .i64 0) w := fun _ => by kernel_rfl
   have A := zA (F.out (a2 % a0 + -1) (a2 / a0) (by omega) (by omega) (by omega) (by omega) (by simp [dxz]) (by simp [dyz])); clear F; go_enter Tryd.func39, Tryd.ntmps39; go_wp2; go_quiet (fail); go_wp2
   all_goals
    go_ret; refine ⟨?_, ⟨_, rfl⟩⟩
    first
     | exact congrArg (fun x => Ending.returned (Value.int .i64 x)) (A.out.1 (by omega))
     | exact congrArg (fun x => Ending.returned (Value.int .i64 x)) (A.out.2 (by omega))
 ·rw [if_neg hs] at h; cases h

/-! ### impl_free: function 23 -/
def impl_free.l0 : Nat → Int → Int → List Int → Int → Int → Int → Option (Int)
 | 0, _, _, _, _, _, _ => none
 | k + 1, x0, x1, x2, x3, x9, x12 => if x12 < 4 then ((impl_side.f x0 x1 x3 x12).bind fun Bb => (if Bb ≥ 0 then (if 0 ≤ Bb then (if Bb < (x2.length : Int) then (if (rd x2 Bb) > 0 then (if 0 ≤ x12 then (impl_free.l0 k x0 x1 x2 x3 (Go.bits .or .i64 x9 (shl .i64 1 x12)) (wrap64 (x12 + 1))) else (none)) else (impl_free.l0 k x0 x1 x2 x3 x9 (wrap64 (x12 + 1)))) else (none)) else (none)) else (impl_free.l0 k x0 x1 x2 x3 x9 (wrap64 (x12 + 1))))) else (some x9)
def impl_free.f (k : Nat) (a0 : Int) (a1 : Int) (l2 : List Int) (a3 : Int) : Option (Int) := impl_free.l0 k a0 a1 l2 a3 0 0
theorem impl_free.mono_l : ∀ k, (∀ y0 y1 y2 y3 y4 y5, LeO (impl_free.l0 k y0 y1 y2 y3 y4 y5) (impl_free.l0 (k + 1) y0 y1 y2 y3 y4 y5))
 | 0 => fun _ _ _ _ _ _ r h => by simp [impl_free.l0] at h
 | k + 1 => by
  have ih0 := impl_free.mono_l k
  ·intro y0 y1 y2 y3 y4 y5; unfold impl_free.l0; exact zm
theorem impl_free.mono : ∀ a0 a1 a2 a3 k, LeO (impl_free.f k a0 a1 a2 a3) (impl_free.f (k + 1) a0 a1 a2 a3) := by
 intro a0 a1 a2 a3 k; have ih0 := impl_free.mono_l k; unfold impl_free.f; exact zm
set_option maxHeartbeats 8000000 in
set_option maxRecDepth 100000 in
theorem impl_free.calls (k : Nat) (a0 : Int) (a1 : Int) (A2 : Option Addr) (c2 : Nat) (l2 : List Int) (a3 : Int) (r : Int) (w : World) (hr2 : Kd.C (Kd.int .i64) w A2 l2.length l2) (hc2 : l2.length ≤ c2) (h : impl_free.f k a0 a1 l2 a3 = some r) :
  Calls Tryd.prog 23 #[.int .i64 a0, .int .i64 a1, .slice A2 l2.length c2, .int .i64 a3] w fun e w' => e = .returned (.int .i64 r) ∧ Drawn0 w w' := by
 have HR2 := zA hr2; have HC2 := zA hc2; clear hr2 hc2; have H : (impl_free.l0 k a0 a1 l2 a3 0 0) = some r := h; clear h; have H' := zA H; clear H; go_enter Tryd.func23, Tryd.ntmps23; go_wp2
 go_loopg [9, 12] k (fun kq v9 v12 w' => ∃ (Bc : Int) (Ba : Int), v9 = .int .i64 Bc ∧ v12 = .int .i64 Ba ∧ Aside0 (impl_free.l0 kq a0 a1 l2 a3 Bc Ba = some r) ∧ Aside0 (kq ≤ k) ∧ Drawn0 w w')
 case atStart => exact ⟨(0), (0), zr, zr, H', ⟨Nat.le_refl _⟩, by repeat (first | exact Drawn0.refl _ | apply Drawn0.step)⟩
 case round =>
  clear H'; (try clear c2); obtain ⟨Bc, Ba, rfl, rfl, HA, HK1, ⟨m1, rfl⟩⟩ := hrel; cases gk with
  | zero => exact absurd HA.out (by simp [impl_free.l0])
  | succ k1 =>
   have H := HA.out; clear HA; simp only [impl_free.l0] at H
   by_cases c5 : Ba < 4
   ·rw [if_pos c5] at H; have c5b0 := decide_eq_true c5; clear c5; replace H := Option.bind_eq_some_iff.mp H; obtain ⟨Bb, A60, H⟩ := H; (try dsimp only at H); have A6 := zA A60; clear A60
    by_cases c7 : Bb ≥ 0
    ·rw [if_pos c7] at H; have c7b0 : decide (0 ≤ Bb) = true := decide_eq_true c7; clear c7
     by_cases c8 : 0 ≤ Bb
     ·rw [if_pos c8] at H; have c8b0 := decide_eq_true c8; clear c8
      by_cases c9 : Bb < (l2.length : Int)
      ·rw [if_pos c9] at H; have c9b0 := decide_eq_true c9; clear c9
       by_cases c10 : (rd l2 Bb) > 0
       ·rw [if_pos c10] at H; have c10b0 : decide (0 < (rd l2 Bb)) = true := decide_eq_true c10; clear c10
        by_cases c11 : 0 ≤ Ba
        ·rw [if_pos c11] at H; have c11b0 := eq_true c11; have c11b1 := decide_eq_true c11; clear c11; obtain ⟨ji12, hji12⟩ : ∃ j_ : Int, (shl .i64 1 Ba) = j_ := ⟨_, rfl⟩; replace H : (impl_free.l0 k1 a0 a1 l2 a3 (Go.bits .or .i64 Bc (ji12)) (wrap64 (Ba + 1))) = some r := by first | (rw [hji12] at H; exact H) | (simp only [hji12] at H ⊢; exact H)
         (try rw [hji12] at A6); have hji12_ : (IntKind.i64.wrap (1 * 2 ^ min Ba.toNat 64)) = ji12 := hji12; have hji12z : Ba ≤ 64 → (IntKind.i64.wrap (1 * 2 ^ Ba.toNat)) = ji12 := shl_small hji12; have hji12u : (IntKind.i64.wrap (2 ^ min Ba.toNat 64)) = ji12 := by have h_ := hji12_; rw [Int.one_mul] at h_; exact h_
         have hji12v : Ba ≤ 64 → (IntKind.i64.wrap (2 ^ Ba.toNat)) = ji12 := fun hle_ => by have h_ := hji12z hle_; rw [Int.one_mul] at h_; exact h_
         have hji12y : (wrap64 (1 * 2 ^ min Ba.toNat 64)) = ji12 := (i64_w _).symm.trans hji12_; have hji12x : Ba ≤ 64 → (wrap64 (1 * 2 ^ Ba.toNat)) = ji12 := fun h_ => (i64_w _).symm.trans (hji12z h_)
         have H' := zA H; clear H; go_wp2_with (first | ((with_reducible refine gate_callee (f := 39) rfl ?_); refine goesL_ (some 19) rfl rfl Tryd.func39 (by kernel_rfl) rfl #[.int .i64 a0, .int .i64 a1, .int .i64 a3, .int .i64 Ba] rfl za ?_; (with_reducible refine (impl_side.calls a0 a1 a3 Ba Bb _ A6.out).mono ?_); rintro e w' ⟨rfl, ⟨nd, rfl⟩⟩; refine ⟨_, rfl, ?_⟩; have p277 : 0 ≤ (Bb : Int) := zd; have q277 : Bb < (l2.length : Int) := zd; obtain ⟨Bd, e277, haa⟩ := Kd.at_int HR2.out Bb p277 q277; cases e277; replace p277 := eq_true p277; replace q277 := eq_true q277)); go_roundg k1
         case measure => have := HK1.out; omega
         case rel => exact ⟨(Go.bits .or .i64 Bc (ji12)), (wrap64 (Ba + 1)), (by first | rfl | (simp; done) | (simp only [← hji12] <;> (first | rfl | simp)) | (simp [*]; done)), zr, H', ⟨by have := HK1.out; omega⟩, by repeat (first | exact Drawn0.refl _ | apply Drawn0.step)⟩
        ·rw [if_neg c11] at H; exact absurd H (by simp)
       ·rw [if_neg c10] at H; have c10b0 : decide (0 < (rd l2 Bb)) = false := decide_eq_false c10; clear c10; have H' := zA H; clear H; go_wp2_with (first | ((with_reducible refine gate_callee (f := 39) rfl ?_); refine goesL_ (some 19) rfl rfl Tryd.func39 (by kernel_rfl) rfl #[.int .i64 a0, .int .i64 a1, .int .i64 a3, .int .i64 Ba] rfl za ?_; (with_reducible refine (impl_side.calls a0 a1 a3 Ba Bb _ A6.out).mono ?_); rintro e w' ⟨rfl, ⟨nd, rfl⟩⟩; refine ⟨_, rfl, ?_⟩; have p277 : 0 ≤ (Bb : Int) := zd; have q277 : Bb < (l2.length : Int) := zd; obtain ⟨Bd, e277, haa⟩ := Kd.at_int HR2.out Bb p277 q277; cases e277; replace p277 := eq_true p277; replace q277 := eq_true q277)); go_roundg k1
        case measure => have := HK1.out; omega
        case rel => exact ⟨(Bc), (wrap64 (Ba + 1)), zr, zr, H', ⟨by have := HK1.out; omega⟩, by repeat (first | exact Drawn0.refl _ | apply Drawn0.step)⟩
      ·rw [if_neg c9] at H; exact absurd H (by simp)
     ·rw [if_neg c8] at H; exact absurd H (by simp)
    ·rw [if_neg c7] at H; have c7b0 : decide (0 ≤ Bb) = false := decide_eq_false c7; clear c7; have H' := zA H; clear H; go_wp2_with (first | ((with_reducible refine gate_callee (f := 39) rfl ?_); refine goesL_ (some 19) rfl rfl Tryd.func39 (by kernel_rfl) rfl #[.int .i64 a0, .int .i64 a1, .int .i64 a3, .int .i64 Ba] rfl za ?_; (with_reducible refine (impl_side.calls a0 a1 a3 Ba Bb _ A6.out).mono ?_); rintro e w' ⟨rfl, ⟨nd, rfl⟩⟩; refine ⟨_, rfl, ?_⟩)); go_roundg k1
     case measure => have := HK1.out; omega
     case rel => exact ⟨(Bc), (wrap64 (Ba + 1)), zr, zr, H', ⟨by have := HK1.out; omega⟩, by repeat (first | exact Drawn0.refl _ | apply Drawn0.step)⟩
   ·rw [if_neg c5] at H; have c5b0 := decide_eq_false c5; clear c5; obtain rfl := Option.some.inj H; go_wp2; go_ret; exact ⟨by first | rfl | (simp; done) | (simp [*]; done), by repeat (first | exact Drawn0.refl _ | apply Drawn0.step)⟩

/-! ### impl_sideOk: function 35 -/
def impl_sideOk.f (a0 : Int) : Option (Bool) := if a0 ≥ 1 then (some (decide (a0 ≤ 40))) else (some false)
set_option maxHeartbeats 8000000 in
set_option maxRecDepth 100000 in
theorem impl_sideOk.calls (a0 : Int) (r : Bool) (w : World) (h : impl_sideOk.f a0 = some r) :
  Calls Tryd.prog 35 #[.int .i64 a0] w fun e w' => e = .returned (.bool r) ∧ Drawn0 w w' := by
 have H : (if a0 ≥ 1 then (some (decide (a0 ≤ 40))) else (some false)) = some r := h; clear h
 by_cases c2 : a0 ≥ 1
 ·rw [if_pos c2] at H; have c2b0 : decide (1 ≤ a0) = true := decide_eq_true c2; clear c2; obtain rfl := Option.some.inj H; go_enter Tryd.func35, Tryd.ntmps35; go_wp2; go_ret; exact ⟨by first | rfl | (simp; done) | (simp [*]; done), by repeat (first | exact Drawn0.refl _ | apply Drawn0.step)⟩
 ·rw [if_neg c2] at H; have c2b0 : decide (1 ≤ a0) = false := decide_eq_false c2; clear c2; obtain rfl := Option.some.inj H; go_enter Tryd.func35, Tryd.ntmps35; go_wp2; go_ret; exact ⟨by first | rfl | (simp; done) | (simp [*]; done), by repeat (first | exact Drawn0.refl _ | apply Drawn0.step)⟩

-- NOT PRINTED: function 55 (utf8_decodeRuneSlow)

/-! ### utf8_DecodeRune: function 52 -/
def decI (l : List Int) : Int × Int :=
 if l.length = 0 then (65533, 0) else
  (((Lib.decodeN l.length (rd l 0).toNat (rd l 1).toNat (rd l 2).toNat (rd l 3).toNat).1 : Nat), ((Lib.decodeN l.length (rd l 0).toNat (rd l 1).toNat (rd l 2).toNat (rd l 3).toNat).2 : Nat))
def bytesB (l : List Int) : Bool := l.all fun x => decide (0 ≤ x) && decide (x ≤ 255)
def utf8_DecodeRune.f (l0 : List Int) : Option (Int × Int) := if l0.length = 0 then none else if bytesB l0 = true then some (decI l0) else none
theorem bytesB_at {l : List Int} (h : bytesB l = true) (j : Nat) : 0 ≤ rd l (j : Int) ∧ rd l (j : Int) ≤ 255 := by
 unfold bytesB at h; rw [List.all_eq_true] at h; unfold rd
 by_cases hj : j < l.length
 ·have := h _ (List.getElem_mem hj); simp only [Bool.and_eq_true, decide_eq_true_eq] at this; simp only [Int.toNat_natCast, List.getD_eq_getElem?_getD, List.getElem?_eq_getElem hj, Option.getD_some]; exact this
 ·simp only [Int.toNat_natCast, List.getD_eq_getElem?_getD, List.getElem?_eq_none (Nat.le_of_not_lt hj), Option.getD_none]
  omega
theorem decI_bys {l : List Int} (h : bytesB l = true) : decI l = (((Lib.decodeGo (bys l)).1 : Int), ((Lib.decodeGo (bys l)).2 : Int)) := by
 unfold decI Lib.decodeGo; rw [bys_size]
 by_cases h0 : l.length = 0
 ·rw [if_pos h0, if_pos h0]; rfl
 ·rw [if_neg h0, if_neg h0, Lib.decode_at, bys_size]; have b0 := bytesB_at h 0; have b1 := bytesB_at h 1; have b2 := bytesB_at h 2; have b3 := bytesB_at h 3; rw [bys_get, bys_get, bys_get, bys_get]; simp only [Nat.zero_add, Nat.sub_zero]; rw [Nat.mod_eq_of_lt (by omega), Nat.mod_eq_of_lt (by omega), Nat.mod_eq_of_lt (by omega), Nat.mod_eq_of_lt (by omega)]
  rfl
theorem utf8_DecodeRune.calls (A0 : Option Addr) (c0 : Nat) (l0 : List Int) (r1 : Int) (r2 : Int) (w : World) (hr0 : Kd.C (Kd.int .u8) w A0 l0.length l0) (hc0 : l0.length ≤ c0) (hL : LaidW w) (h : utf8_DecodeRune.f l0 = some (r1, r2)) :
  Calls Tryd.prog 52 #[.slice A0 l0.length c0] w fun e w' => e = .returned (.tuple #[.int .i32 r1, .int .i64 r2]) ∧ Below w.heap.size w w' := by
 unfold utf8_DecodeRune.f at h
 by_cases h0 : l0.length = 0
 ·rw [if_pos h0] at h; cases h
 rw [if_neg h0] at h
 by_cases hb : bytesB l0 = true
 ·rw [if_pos hb] at h; injection h with h; rw [decI_bys hb] at h; injection h with h1 h2; subst h1 h2; obtain ⟨ad, rfl, hx⟩ := Kd.at_int hr0 0 (by omega) (by omega); obtain ⟨b, off, sp⟩ := ad; obtain rfl : sp = none := by
   have e : (Addr.add ⟨b, off, sp⟩ (0 : Int).toNat) = ⟨b, off, sp⟩ := by simp [Addr.add]
   rw [e] at hx; exact cell_spot hx
  have hp : ∀ j, j < (bys l0).size → w.cell? ⟨b, off + j, none⟩ = some (.int .u8 ((bys l0).get! j).toNat) := by
   intro j hj; rw [bys_size] at hj; obtain ⟨ad, e, hx⟩ := Kd.at_int hr0 (j : Int) (by omega) (by omega); injection e with e; subst e; rw [Addr.add_lit] at hx; have hr := bytesB_at hb j; rw [bys_get, Nat.mod_eq_of_lt (by omega), Int.toNat_of_nonneg hr.1]; exact hx
  have := Any7.utf8_DecodeRune Tryd.lays7_32 (bys l0) b off c0 w (LaidW.utf8 hL) hp; rw [bys_size] at this; exact this
 ·rw [if_neg hb] at h; cases h

end Go.Proofs.YtibipjpmeekifaaDoor.PFnExactLayoutDecls
