-- made by wip/tools/myprint.py (this session's own program, over the kit's printer)
import Derived.Test.YthbeplmihjhoeaaDoorPFnExactTickFleetx0
namespace Go.Proofs.YthbeplmihjhoeaaDoor.PFnExactTickFleet
open Go.RowKit Go.Proofs.YthbeplmihjhoeaaDoorW.PrintWords Go.Proofs.YthbeplmihjhoeaaDoorW.PrintLast Go.Proofs.YthbeplmihjhoeaaDoorW.PrintMore
attribute [local go_sem] max2_int min2_int max_two min_two max_three min_three max_four min_four   -- for this text's walks alone
set_option linter.unusedVariables false
set_option linter.unusedSimpArgs false

/-! ### laws_markByteS: function 34 -/
def laws_markByteS.l0 : Nat → List Int → Int → Int → Option (Int × List Int)
 | 0, _, _, _ => none
 | k + 1, x0, x1, x5 => if x5 < (x0.length : Int) then (if 0 ≤ x5 then (laws_markByteS.l0 k (x0.set (x5 : Int).toNat ((x1) % 256)) (wrap64 (x1 + 1)) (wrap64 (x5 + 1))) else (none)) else (some (x1, x0))
def laws_markByteS.f (k : Nat) (l0 : List Int) (a1 : Int) : Option (Int × List Int) := laws_markByteS.l0 k l0 a1 0
theorem laws_markByteS.mono_l : ∀ k, (∀ y0 y1 y2, LeO (laws_markByteS.l0 k y0 y1 y2) (laws_markByteS.l0 (k + 1) y0 y1 y2))
 | 0 => fun _ _ _ r h => by simp [laws_markByteS.l0] at h
 | k + 1 => by
  have ih0 := laws_markByteS.mono_l k
  ·intro y0 y1 y2; unfold laws_markByteS.l0; exact zm
theorem laws_markByteS.mono : ∀ a0 a1 k, LeO (laws_markByteS.f k a0 a1) (laws_markByteS.f (k + 1) a0 a1) := by
 intro a0 a1 k; have ih0 := laws_markByteS.mono_l k; unfold laws_markByteS.f; exact zm
set_option maxHeartbeats 8000000 in
set_option maxRecDepth 100000 in
theorem laws_markByteS.calls (k : Nat) (P0_ : Nat → Prop) (u9000_ : Value) (l0 : List Int) (a1 : Int) (r1 : Int) (r2 : List Int) (w0 w : World) (hB : Below w0.heap.size w0 w) (ho0 : Kd.R (Kd.int .u8) 5 w w0.heap.size P0_ u9000_ l0) (h : laws_markByteS.f k l0 a1 = some (r1, r2)) :
  Calls Tryd.prog 34 #[u9000_, .int .i64 a1] w fun e w' => e = .returned (.int .i64 r1) ∧ Kd.R (Kd.int .u8) 5 w' w0.heap.size (fun k_ => (P0_ k_ ∨ w.heap.size ≤ k_)) u9000_ r2 ∧ Below w0.heap.size w0 w' ∧ Kept w w' (fun k_ => P0_ k_) := by
 have HO0 := zA (show Kd.R (Kd.int .u8) 5 w w0.heap.size (fun k_ => (P0_ k_ ∨ w.heap.size ≤ k_)) u9000_ l0 from Kd.R_mono ho0 (fun k_ hk => (.inl hk))); have HK := zA (Kept.refl w (fun k_ => P0_ k_)); have HW0 := zA hB.size; have HB := zA hB; clear hB; have H : (laws_markByteS.l0 k l0 a1 0) = some (r1, r2) := h; clear h; have H' := zA H; clear H; go_enter Tryd.func34, Tryd.ntmps34; go_wp2
 go_loopg [1, 5] k (fun kq v1 v5 w' => ∃ (x0_1 : List Int) (x1_1 : Int) (x5_1 : Int), v1 = .int .i64 x1_1 ∧ v5 = .int .i64 x5_1 ∧ Aside0 (laws_markByteS.l0 kq x0_1 x1_1 x5_1 = some (r1, r2)) ∧ Aside0 (kq ≤ k) ∧ Aside0 (Kd.R (Kd.int .u8) 5 w' w0.heap.size (fun k_ => (P0_ k_ ∨ w.heap.size ≤ k_)) u9000_ x0_1) ∧ Aside0 (Kept w w' (fun k_ => P0_ k_)) ∧ Aside0 (Below w0.heap.size w0 w'))
 case atStart => exact ⟨(l0), (a1), (0), zr, zr, H', ⟨Nat.le_refl _⟩, ⟨zR HO0.out⟩, ⟨by repeat (first | (with_reducible first | exact HK.out | apply Kept.alloc | apply Kept.drewN | apply Kept.drew) | exact HK.out)⟩, ⟨z_⟩⟩
 case round =>
  clear H'; (try clear p2); obtain ⟨x0_1, x1_1, x5_1, rfl, rfl, HA, HK1, HO_0, HK, HB⟩ := hrel; cases gk with
  | zero => exact absurd HA.out (by simp [laws_markByteS.l0])
  | succ k1 =>
   have H := HA.out; clear HA; simp only [laws_markByteS.l0] at H
   by_cases c3 : x5_1 < (x0_1.length : Int)
   ·rw [if_pos c3] at H; have c3b0 : decide (x5_1 < (x0_1.length : Int)) = true := decide_eq_true c3; clear c3
    by_cases c4 : 0 ≤ x5_1
    ·rw [if_pos c4] at H; have c4b0 : decide (0 ≤ x5_1) = true := decide_eq_true c4; clear c4; obtain ⟨y175, hy175⟩ : ∃ y_ : List Int, y_ = (x0_1.set (x5_1 : Int).toNat ((x1_1) % 256)) := ⟨_, rfl⟩; replace H : (laws_markByteS.l0 k1 y175 (wrap64 (x1_1 + 1)) (wrap64 (x5_1 + 1))) = some (r1, r2) := zh hy175; have Ny175 := zA hy175; clear hy175; have H' := zA H; clear H; obtain ⟨Ao6, co6, eo6⟩ := Kd.R_slice HO_0.out; subst eo6; have p5 : 0 ≤ (x5_1 : Int) := zd; have q5 : (x5_1 : Int) < ((x0_1.length : Int) : Int) := zd; obtain ⟨go5, co5, eo5, gb5, gl5, cl5, HG5⟩ := Kd.R_form HO_0.out (by omega)
     (first | cases eo5 | (injection eo5 with ea_ en_ ec_; (first | subst ea_ | (injection ea_ with ea_; subst ea_)); subst ec_; clear en_))
     have GB5 := zA gb5; have GG5 := zA HG5; clear gb5 gl5 HG5; have HMgo5 := zA (show (P0_ go5 ∨ w.heap.size ≤ go5) from (HO_0.out.1 _ rfl)); obtain ⟨hx5_0, hf5_0⟩ := Kd.R_celln 0 HO_0.out (x5_1 : Int) p5 q5; replace p5 := eq_true p5; replace q5 := eq_true q5; have HP7 := Kd.R_putg HO_0.out (x5_1 : Int) ((x1_1) % 256); go_wp2_with (first | ((with_reducible refine gate_store (t := 5) (p := 16) rfl ?_); refine store_event (t := 5) (p := 16) (v := ?vo_w8) (w1 := (wr.setCell ⟨go5, (x5_1 : Int).toNat, none⟩ (.int .u8 ((x1_1) % 256)))) ?hg ?ho ?hn ?hr ?_; (case ho => rfl); (case hg => rfl); (case hn => rfl); (case hr => first | (go_simp; done) | (go_simp; rfl)); intro w8 hw; have hg : wr.grownBy w8 (some go5) := (by rw [hw]; exact HP7.2); have hp_ : Kd.R (Kd.int .u8) 5 w8 w0.heap.size (fun k_ => (P0_ k_ ∨ w.heap.size ≤ k_)) (.slice (some ⟨go5, 0, none⟩) x0_1.length co6) y175 := (by rw [hw, Ny175.out]; exact HP7.1); clear HP7; replace HB := zA ((by rw [hw]; exact below_set (HB.out) GB5.out : Below w0.heap.size w0 w8)); replace HK := zA (Kept.of_grown (S := (fun k_ => P0_ k_)) hg (by repeat (first | (with_reducible first | exact HK.out | apply Kept.alloc | apply Kept.drewN | apply Kept.drew) | exact HK.out)) (fun k_ e_ => (HO_0.out.1 k_ e_))); replace HO_0 := zA (hp_); clear hg hw hp_)); go_roundg k1
     case measure => have := HK1.out; omega
     case rel => exact ⟨(y175), (wrap64 (x1_1 + 1)), (wrap64 (x5_1 + 1)), zr, zr, H', ⟨by have := HK1.out; omega⟩, ⟨zR HO_0.out⟩, ⟨by repeat (first | (with_reducible first | exact HK.out | apply Kept.alloc | apply Kept.drewN | apply Kept.drew) | exact HK.out)⟩, ⟨z_⟩⟩
    ·rw [if_neg c4] at H; exact absurd H (by simp)
   ·rw [if_neg c3] at H; have c3b0 : decide (x5_1 < (x0_1.length : Int)) = false := decide_eq_false c3; clear c3; simp only [Option.some.injEq, Prod.mk.injEq] at H; obtain ⟨rfl, rfl⟩ := H; obtain ⟨Ao9, co9, eo9⟩ := Kd.R_slice HO_0.out; subst eo9; go_wp2; go_ret; exact ⟨ze, by (with_reducible repeat (first | apply Kd.R_alloc | apply Kd.R_drewN | apply Kd.R_drew)); exact HO_0.out, z_, by repeat (first | (with_reducible first | exact HK.out | apply Kept.alloc | apply Kept.drewN | apply Kept.drew) | exact HK.out)⟩

/-! ### laws_markTargetS: function 78 -/
def totalT : List S120 → Int
 | [] => 0
 | x :: xs => x.f0.length + 2 + totalT xs
def smallT (l : List S120) : Bool := decide (l.length ≤ 1048576) && l.all fun x => decide (x.f0.length ≤ 1048576)
theorem smallT_iff {l : List S120} : smallT l = true ↔ l.length ≤ 1048576 ∧ ∀ x ∈ l, x.f0.length ≤ 1048576 := by
 unfold smallT; rw [Bool.and_eq_true, decide_eq_true_eq, List.all_eq_true]; simp only [decide_eq_true_eq]
theorem totalT_drop {l : List S120} {i : Nat} (h : i < l.length) : totalT (l.drop i) = (l.getD i z120).f0.length + 2 + totalT (l.drop (i + 1)) := by
 rw [List.drop_eq_getElem_cons h, List.getD_eq_getElem?_getD, List.getElem?_eq_getElem h]; rfl
theorem totalT_le {l : List S120} (h : ∀ x ∈ l, x.f0.length ≤ 1048576) : 0 ≤ totalT l ∧ totalT l ≤ 1048578 * l.length := by
 induction l with
 | nil => exact ⟨Int.le_refl _, Int.le_refl _⟩
 | cons x xs ih =>
  have a := ih (fun y hy => h y (List.mem_cons_of_mem _ hy)); have b := h x List.mem_cons_self; unfold totalT; rw [List.length_cons]
  omega
theorem mkB_at (d : Nat) : ∀ (k : Nat) (x : List Int) (a i : Int), 0 ≤ i → (x.length : Int) - i = d → d < k → 0 ≤ a → a + d ≤ 4611686018427387904 → x.length ≤ 1048576 → ∃ y, laws_markByteS.l0 k x a i = some (a + d, y) := by
 induction d with
 | zero =>
  intro k x a i h0 hd hk _ _ _; cases k with
  | zero => omega
  | succ k =>
   simp only [laws_markByteS.l0]; rw [if_neg (by omega)]; exact ⟨x, by rw [show a + ((0 : Nat) : Int) = a from Int.add_zero a]⟩
 | succ d ih =>
  intro k x a i h0 hd hk ha hb hl; cases k with
  | zero => omega
  | succ k =>
   simp only [laws_markByteS.l0]; rw [if_pos (by omega), if_pos h0, show wrap64 (a + 1) = a + 1 from by unfold wrap64; omega, show wrap64 (i + 1) = i + 1 from by unfold wrap64; omega]; obtain ⟨y, e⟩ := ih k (x.set i.toNat (a % 256)) (a + 1) (i + 1) (by omega) (by rw [List.length_set]; omega) (by omega) (by omega) (by omega) (by rw [List.length_set]; exact hl); exact ⟨y, by rw [e]; congr 2; omega⟩
theorem mkB_some (x : List Int) (a : Int) (ha : 0 ≤ a) (hb : a ≤ 2305843009213693952) (hl : x.length ≤ 1048576) : ∃ y, laws_markByteS.f (x.length + 1) x a = some (a + x.length, y) :=
 mkB_at x.length (x.length + 1) x a 0 (by omega) (by omega) (by omega) ha (by omega) hl
section
variable {w : World} {base g n cap : Nat} {P0_ : Nat → Prop} {xs : List S120}
theorem tgt_open (h : Kd.S k120 120 w base P0_ (.slice (some ⟨g, 0, none⟩) n cap) xs) (i : Int) (h0 : 0 ≤ i) (h1 : i < n) :
  ∃ (oki : Nat → Prop) (A : Option Addr) (m : Nat), Kd.R (Kd.int .u8) 5 w base oki (.slice A (rd_T120 xs i).f0.length m) (rd_T120 xs i).f0 ∧ (∀ k, oki k → P0_ k ∧ k ≠ g) ∧
   w.cell? ⟨g, i.toNat * 3, none⟩ = some (.slice A (rd_T120 xs i).f0.length m) ∧ w.cell? ⟨g, i.toNat * 3 + 1, none⟩ = some (.int .i64 (rd_T120 xs i).f1) ∧ w.cell? ⟨g, i.toNat * 3 + 2, none⟩ = some (.int .i64 (rd_T120 xs i).f2) ∧
   (∀ j, w.frozen? ⟨g, i.toNat * 3 + j, none⟩ = false) ∧
   Kd.H k120 120 w base P0_ (.slice (some ⟨g, 0, none⟩) n cap) xs i oki [.slice A (rd_T120 xs i).f0.length m, .int .i64 (rd_T120 xs i).f1, .int .i64 (rd_T120 xs i).f2] := by
 obtain ⟨oki, c, hcl, hM, hcc, hfz, hoki, hH⟩ := Kd.S_elem h z120 i h0 h1; obtain ⟨c0, c1, rfl, ⟨v, rfl, hR⟩, d0, d1, rfl, e0, e1⟩ := hM; have e0 : d0 = [Value.int .i64 (rd_T120 xs i).f1] := e0; have e1 : d1 = [Value.int .i64 (rd_T120 xs i).f2] := e1; subst e0 e1; obtain ⟨A, m, hv⟩ := Kd.R_slice hR; subst hv; exact ⟨oki, A, m, hR, hoki, hcc 0 _ rfl, hcc 1 _ rfl, hcc 2 _ rfl, hfz, hH⟩
theorem tgt_back {t : List Int} {f1 f2 : Int} {i : Int} {oki okp : Nat → Prop} {v : Value} (hH : Kd.H k120 120 w base P0_ (.slice (some ⟨g, 0, none⟩) n cap) xs i oki [v, .int .i64 f1, .int .i64 f2]) (hR : Kd.R (Kd.int .u8) 5 w base okp v t) (hok : ∀ k, okp k → oki k) :
  Kd.S k120 120 w base P0_ (.slice (some ⟨g, 0, none⟩) n cap) (xs.set i.toNat ⟨t, f1, f2⟩) :=
 Kd.H_back hH (x' := ⟨t, f1, f2⟩) (okp := okp) ⟨[v], [.int .i64 f1, .int .i64 f2], rfl, ⟨v, rfl, hR⟩, [.int .i64 f1], [.int .i64 f2], rfl, rfl, rfl⟩ hok
theorem tgt_put1 (h : Kd.S k120 120 w base P0_ (.slice (some ⟨g, 0, none⟩) n cap) xs) (i : Int) (h0 : 0 ≤ i) (h1 : i < n) (u : Int) :
  Kd.S k120 120 (w.setCell ⟨g, i.toNat * 3 + 1, none⟩ (.int .i64 u)) base P0_ (.slice (some ⟨g, 0, none⟩) n cap) (xs.set i.toNat ⟨(rd_T120 xs i).f0, u, (rd_T120 xs i).f2⟩) ∧ w.grownBy (w.setCell ⟨g, i.toNat * 3 + 1, none⟩ (.int .i64 u)) (some g) := by
 obtain ⟨oki, A, m, hR, _, _, _, _, _, hH⟩ := tgt_open h i h0 h1; exact Kd.S_seg0 hH h0 h1 (seg := [.int .i64 u]) (j := 1) (by show 1 + 1 ≤ 3; omega) (x' := ⟨(rd_T120 xs i).f0, u, (rd_T120 xs i).f2⟩) (okp := oki)
  ⟨[_], [.int .i64 u, .int .i64 (rd_T120 xs i).f2], rfl, ⟨_, rfl, hR⟩, [.int .i64 u], [.int .i64 (rd_T120 xs i).f2], rfl, rfl, rfl⟩ (fun _ q => q)
theorem tgt_put2 (h : Kd.S k120 120 w base P0_ (.slice (some ⟨g, 0, none⟩) n cap) xs) (i : Int) (h0 : 0 ≤ i) (h1 : i < n) (u : Int) :
  Kd.S k120 120 (w.setCell ⟨g, i.toNat * 3 + 2, none⟩ (.int .i64 u)) base P0_ (.slice (some ⟨g, 0, none⟩) n cap) (xs.set i.toNat ⟨(rd_T120 xs i).f0, (rd_T120 xs i).f1, u⟩) ∧ w.grownBy (w.setCell ⟨g, i.toNat * 3 + 2, none⟩ (.int .i64 u)) (some g) := by
 obtain ⟨oki, A, m, hR, _, _, _, _, _, hH⟩ := tgt_open h i h0 h1; exact Kd.S_seg0 hH h0 h1 (seg := [.int .i64 u]) (j := 2) (by show 2 + 1 ≤ 3; omega) (x' := ⟨(rd_T120 xs i).f0, (rd_T120 xs i).f1, u⟩) (okp := oki)
  ⟨[_], [.int .i64 (rd_T120 xs i).f1, .int .i64 u], rfl, ⟨_, rfl, hR⟩, [.int .i64 (rd_T120 xs i).f1], [.int .i64 u], rfl, rfl, rfl⟩ (fun _ q => q)
end
def laws_markTargetS.f (l0 : List S120) (a1 : Int) : Option Int := if smallT l0 = true ∧ 0 ≤ a1 ∧ a1 ≤ 1152921504606846976 then some (a1 + totalT l0) else none
set_option maxHeartbeats 8000000 in
set_option maxRecDepth 100000 in
theorem laws_markTargetS.calls (P0_ : Nat → Prop) (u9000_ : Value) (l0 : List S120) (a1 : Int) (r1 : Int) (w0 w : World) (hB : Below w0.heap.size w0 w) (ho0 : Kd.S k120 120 w w0.heap.size P0_ u9000_ l0) (h : laws_markTargetS.f l0 a1 = some r1) :
  Calls Tryd.prog 78 #[u9000_, .int .i64 a1] w fun e w' => e = .returned (.int .i64 r1) ∧ Below w0.heap.size w0 w' ∧ Kept w w' (fun k_ => P0_ k_ ∧ IsT w k_ [120, 5]) := by
 unfold laws_markTargetS.f at h
 by_cases hs : smallT l0 = true ∧ 0 ≤ a1 ∧ a1 ≤ 1152921504606846976
 ·rw [if_pos hs] at h; obtain rfl := Option.some.inj h; clear h; obtain ⟨hs0, ha0, ha1⟩ := hs; obtain ⟨hs1, hs2⟩ := smallT_iff.1 hs0; have hle := totalT_le hs2; have HO0 := zA ho0; have HK := zA (Kept.refl w (fun k_ => P0_ k_ ∧ IsT w k_ [120, 5])); have HB := zA hB; have HS2 := zA hs2; have HLE := zA hle; have HS1 := zA hs1; have HA0 := zA ha0; have HA1 := zA ha1; clear hB ho0 hs2 hs1 hs0 hle ha0 ha1; go_enter Tryd.func78, Tryd.ntmps78; go_wp2
  go_loopg [1, 5] l0.length (fun kq v1 v5 w' => ∃ (x0_1 : List S120) (x1_1 : Int) (x5_1 : Int), v1 = .int .i64 x1_1 ∧ v5 = .int .i64 x5_1 ∧ Aside0 (0 ≤ x5_1 ∧ (kq : Int) + x5_1 = l0.length) ∧ Aside0 (0 ≤ x1_1 ∧ x1_1 + totalT (l0.drop x5_1.toNat) = a1 + totalT l0) ∧ Aside0 (x0_1.length = l0.length ∧ ∀ j : Nat, x5_1 ≤ j → x0_1.getD j z120 = l0.getD j z120) ∧ Aside0 (Kd.S k120 120 w' w0.heap.size P0_ u9000_ x0_1) ∧ Aside0 (Kept w w' (fun k_ => P0_ k_ ∧ IsT w k_ [120, 5])) ∧ Aside0 (Below w0.heap.size w0 w'))
  case atStart => exact ⟨l0, a1, 0, zr, zr, ⟨by omega, by omega⟩, ⟨HA0.out, rfl⟩, ⟨rfl, fun _ _ => rfl⟩, ⟨zS HO0.out⟩, ⟨HK.out.below (by repeat (first | exact Below.refl _ _ | apply below_alloc | apply pw_below_drewN | apply below_drew1))⟩, ⟨z_⟩⟩
  case round =>
   clear HO0 HK HB; obtain ⟨x0_1, x1_1, x5_1, rfl, rfl, HI, HT, HN, HO, HK, HB⟩ := hrel
   by_cases c3 : x5_1 < (x0_1.length : Int)
   ·have c3b0 : decide (x5_1 < (x0_1.length : Int)) = true := decide_eq_true c3; have c4 : 0 ≤ x5_1 := HI.out.1; have hlen := HN.out.1; have hd := totalT_drop (l := l0) (i := x5_1.toNat) (by omega); have hn : rd_T120 x0_1 x5_1 = l0.getD x5_1.toNat z120 := HN.out.2 x5_1.toNat (by omega); have hrow : (l0.getD x5_1.toNat z120).f0.length ≤ 1048576 := HS2.out _ (by rw [List.getD_eq_getElem?_getD, List.getElem?_eq_getElem (show x5_1.toNat < l0.length by omega)]; exact List.getElem_mem _); rw [← hn] at hrow hd; have hdl := totalT_le (l := l0.drop (x5_1.toNat + 1)) (fun y hy => HS2.out y (List.mem_of_mem_drop hy)); have hT := HT.out; have hLE := HLE.out; have hS1 := HS1.out; have hA1 := HA1.out; obtain ⟨y, A0⟩ := mkB_some (rd_T120 x0_1 x5_1).f0 x1_1 hT.1 (by omega) hrow; have A := zA A0; obtain ⟨g, cap, hu, hge, hlt, cs, hcs⟩ := Kd.S_form HO.out (show 0 < x0_1.length by omega); subst hu; obtain ⟨oki, A1, n1, hR, hoki, hx0, hx1, hx2, hfz, hH⟩ := tgt_open HO.out x5_1 c4 c3; have GR := zA hR; have GH := zA hH; have hok : ∀ q_, some q_ = (Value.slice A1 (rd_T120 x0_1 x5_1).f0.length n1).ownBlock → P0_ q_ ∧ IsT wr q_ [120, 5] := fun q_ e_ => ⟨(hoki q_ (hR.1 q_ e_.symm)).1, 5, by simp, Kd.R_typed hR q_ e_.symm⟩
    have GO := zA hok; have GP := zA (show P0_ g from (Kd.S_R HO.out).1 g rfl); have GG := zA (show w0.heap.size ≤ g from hge); have hw1 : wrap64 (x1_1 + ((rd_T120 x0_1 x5_1).f0.length : Int) + 1) = x1_1 + ((rd_T120 x0_1 x5_1).f0.length : Int) + 1 := by unfold wrap64; omega
    have hw2 : wrap64 (x1_1 + ((rd_T120 x0_1 x5_1).f0.length : Int) + 1 + 1) = x1_1 + ((rd_T120 x0_1 x5_1).f0.length : Int) + 1 + 1 := by unfold wrap64; omega
    have HT2 := zA (show 0 ≤ x1_1 + ((rd_T120 x0_1 x5_1).f0.length : Int) + 1 + 1 ∧ x1_1 + ((rd_T120 x0_1 x5_1).f0.length : Int) + 1 + 1 + totalT (l0.drop (x5_1 + 1).toNat) = a1 + totalT l0 from ⟨by omega, by rw [show (x5_1 + 1).toNat = x5_1.toNat + 1 by omega]; omega⟩); have hw5 : wrap64 (x5_1 + 1) = x5_1 + 1 := by unfold wrap64; omega
    have HI2 := zA (show 0 ≤ wrap64 (x5_1 + 1) ∧ wrap64 (x5_1 + 1) = x5_1 + 1 from ⟨by omega, hw5⟩); have W1 := zA hw1; have W2 := zA hw2; have C4 := zA c4; have C3 := zA c3; clear hR hH hok hoki hcs hlt hge hfz hd hrow hdl hn hT hLE hS1 hA1 A0 hlen hw5 hw1 hw2 hx1 hx2; replace c4 := eq_true c4; replace c3 := eq_true c3; go_wp2_with (go_at_call 34; (refine (laws_markByteS.calls _ (fun k_ => some k_ = (Value.slice A1 (rd_T120 x0_1 x5_1).f0.length n1).ownBlock) (.slice A1 (rd_T120 x0_1 x5_1).f0.length n1) (rd_T120 x0_1 x5_1).f0 x1_1 _ y w0 _ ?s1 ?s2 A.out).mono ?_); (case s1 => repeat (first | (with_reducible first | exact HB.out | apply below_alloc | apply pw_below_drewN | apply below_drew1) | exact HB.out)); (case s2 => (with_reducible repeat (first | apply Kd.R_alloc | apply Kd.R_drewN | apply Kd.R_drew)); exact Kd.R_tight rfl GR.out); rintro e w8 ⟨rfl, hr, hb, hk⟩; have n0_ := zA (tgt_back (Kd.H_step (Kd.H_below GH.out (by repeat (first | exact Below.refl _ _ | apply below_alloc | apply pw_below_drewN | apply below_drew1))) (fun q_ _ hn hlt => hk.2 q_ hlt (fun e_ => hn (GR.out.1 q_ e_.symm)))) (Kd.R_tight rfl hr) (fun q_ e_ => GR.out.1 q_ e_.symm)); have n1_ := zA hb; have hk2 := (Kept.of_below (w := wr) (by repeat (first | exact Below.refl _ _ | apply below_alloc | apply pw_below_drewN | apply below_drew1)) (fun k_ => some k_ = (Value.slice A1 (rd_T120 x0_1 x5_1).f0.length n1).ownBlock)).then_ hk (fun _ q => .inl q); have n2_ := zA (HK.out.then_ hk2 (fun q_ e_ => (Nat.lt_or_ge q_ w.heap.size).elim (fun hq => .inl (Kept.inS HK.out hq (GO.out q_ e_).1 (GO.out q_ e_).2)) .inr)); clear hr hb hk hk2 GR GH GO hx0; clear HO HB HK; have HO := n0_; have HB := n1_; have HK := n2_; clear n0_ n1_ n2_; obtain ⟨oki, A2, n2, _, _, _, hx1, hx2, hfz, _⟩ := tgt_open HO.out x5_1 C4.out C3.out; have hf1 := hfz 1; have hf2 := hfz 2; clear hfz)
    have P1 := tgt_put1 HO.out x5_1 C4.out C3.out (x1_1 + ((rd_T120 x0_1 x5_1).f0.length : Int)); have P2 := tgt_put2 P1.1 x5_1 C4.out C3.out (wrap64 (x1_1 + ((rd_T120 x0_1 x5_1).f0.length : Int) + 1)); have K0 : ∀ k, some g = some k → (fun k_ => P0_ k_ ∧ IsT w k_ [120, 5]) k ∨ w.heap.size ≤ k := fun k e => by
     cases e; exact (Nat.lt_or_ge g w.heap.size).elim (fun hq => .inl (Kept.inS HK.out hq GP.out ⟨120, by simp, Kd.S_typed HO.out g rfl⟩)) .inr
    have K2 := Kept.of_grown P2.2 (Kept.of_grown P1.2 HK.out K0) K0; go_roundg (l0.length - (x5_1 + 1).toNat)
    case measure => have a := HI.out; have b := C3.out; have d := HN.out.1; omega
    case rel =>
     refine ⟨((x0_1.set x5_1.toNat ⟨y, _, _⟩).set x5_1.toNat ⟨_, _, _⟩).set x5_1.toNat ⟨_, _, _⟩, _, _, zr, zr, ⟨by have a := HI.out; have b := HI2.out; have d := HN.out.1; have b2 := C3.out; omega⟩, ⟨by rw [HI2.out.2, W1.out, W2.out]; exact HT2.out⟩, ⟨by simp only [List.length_set]; exact HN.out.1, fun j hj => ?_⟩, ⟨zS P2.1⟩, ⟨K2.below (by repeat (first | exact Below.refl _ _ | apply below_alloc | apply pw_below_drewN | apply below_drew1))⟩, ⟨below_set (below_set HB.out GG.out) GG.out⟩⟩; have a := HI.out; have b := HI2.out; simp only [List.getD_eq_getElem?_getD]; rw [List.getElem?_set_ne (by omega), List.getElem?_set_ne (by omega), List.getElem?_set_ne (by omega)]; have := HN.out.2 j (by omega)
     simpa only [List.getD_eq_getElem?_getD] using this
   ·have c3b0 : decide (x5_1 < (x0_1.length : Int)) = false := decide_eq_false c3; have e : x1_1 = a1 + totalT l0 := by
     have a := HT.out.2; rw [List.drop_eq_nil_of_le (by have b := HN.out.1; omega)] at a; have z : totalT [] = 0 := rfl
     omega
    subst e; obtain ⟨Ao9, co9, eo9⟩ := Kd.S_slice HO.out; subst eo9; go_wp2; go_ret; exact ⟨rfl, z_, HK.out.below (by repeat (first | exact Below.refl _ _ | apply below_alloc | apply pw_below_drewN | apply below_drew1))⟩
 ·rw [if_neg hs] at h; cases h

/-! ### laws_markIntS: function 29 -/
def laws_markIntS.l0 : Nat → List Int → Int → Int → Option (Int × List Int)
 | 0, _, _, _ => none
 | k + 1, x0, x1, x5 => if x5 < (x0.length : Int) then (if 0 ≤ x5 then (laws_markIntS.l0 k (x0.set (x5 : Int).toNat x1) (wrap64 (x1 + 1)) (wrap64 (x5 + 1))) else (none)) else (some (x1, x0))
def laws_markIntS.f (k : Nat) (l0 : List Int) (a1 : Int) : Option (Int × List Int) := laws_markIntS.l0 k l0 a1 0
theorem laws_markIntS.mono_l : ∀ k, (∀ y0 y1 y2, LeO (laws_markIntS.l0 k y0 y1 y2) (laws_markIntS.l0 (k + 1) y0 y1 y2))
 | 0 => fun _ _ _ r h => by simp [laws_markIntS.l0] at h
 | k + 1 => by
  have ih0 := laws_markIntS.mono_l k
  ·intro y0 y1 y2; unfold laws_markIntS.l0; exact zm
theorem laws_markIntS.mono : ∀ a0 a1 k, LeO (laws_markIntS.f k a0 a1) (laws_markIntS.f (k + 1) a0 a1) := by
 intro a0 a1 k; have ih0 := laws_markIntS.mono_l k; unfold laws_markIntS.f; exact zm
set_option maxHeartbeats 8000000 in
set_option maxRecDepth 100000 in
theorem laws_markIntS.calls (k : Nat) (P0_ : Nat → Prop) (u9000_ : Value) (l0 : List Int) (a1 : Int) (r1 : Int) (r2 : List Int) (w0 w : World) (hB : Below w0.heap.size w0 w) (ho0 : Kd.R (Kd.int .i64) 3 w w0.heap.size P0_ u9000_ l0) (h : laws_markIntS.f k l0 a1 = some (r1, r2)) :
  Calls Tryd.prog 29 #[u9000_, .int .i64 a1] w fun e w' => e = .returned (.int .i64 r1) ∧ Kd.R (Kd.int .i64) 3 w' w0.heap.size (fun k_ => (P0_ k_ ∨ w.heap.size ≤ k_)) u9000_ r2 ∧ Below w0.heap.size w0 w' ∧ Kept w w' (fun k_ => P0_ k_) := by
 have HO0 := zA (show Kd.R (Kd.int .i64) 3 w w0.heap.size (fun k_ => (P0_ k_ ∨ w.heap.size ≤ k_)) u9000_ l0 from Kd.R_mono ho0 (fun k_ hk => (.inl hk))); have HK := zA (Kept.refl w (fun k_ => P0_ k_)); have HW0 := zA hB.size; have HB := zA hB; clear hB; have H : (laws_markIntS.l0 k l0 a1 0) = some (r1, r2) := h; clear h; have H' := zA H; clear H; go_enter Tryd.func29, Tryd.ntmps29; go_wp2
 go_loopg [1, 5] k (fun kq v1 v5 w' => ∃ (x0_1 : List Int) (x1_1 : Int) (x5_1 : Int), v1 = .int .i64 x1_1 ∧ v5 = .int .i64 x5_1 ∧ Aside0 (laws_markIntS.l0 kq x0_1 x1_1 x5_1 = some (r1, r2)) ∧ Aside0 (kq ≤ k) ∧ Aside0 (Kd.R (Kd.int .i64) 3 w' w0.heap.size (fun k_ => (P0_ k_ ∨ w.heap.size ≤ k_)) u9000_ x0_1) ∧ Aside0 (Kept w w' (fun k_ => P0_ k_)) ∧ Aside0 (Below w0.heap.size w0 w'))
 case atStart => exact ⟨(l0), (a1), (0), zr, zr, H', ⟨Nat.le_refl _⟩, ⟨zR HO0.out⟩, ⟨by repeat (first | (with_reducible first | exact HK.out | apply Kept.alloc | apply Kept.drewN | apply Kept.drew) | exact HK.out)⟩, ⟨z_⟩⟩
 case round =>
  clear H'; (try clear c2); (try clear p2); obtain ⟨x0_1, x1_1, x5_1, rfl, rfl, HA, HK1, HO_0, HK, HB⟩ := hrel; cases gk with
  | zero => exact absurd HA.out (by simp [laws_markIntS.l0])
  | succ k1 =>
   have H := HA.out; clear HA; simp only [laws_markIntS.l0] at H
   by_cases c3 : x5_1 < (x0_1.length : Int)
   ·rw [if_pos c3] at H; have c3b0 : decide (x5_1 < (x0_1.length : Int)) = true := decide_eq_true c3; clear c3
    by_cases c4 : 0 ≤ x5_1
    ·rw [if_pos c4] at H; have c4b0 : decide (0 ≤ x5_1) = true := decide_eq_true c4; clear c4; obtain ⟨y176, hy176⟩ : ∃ y_ : List Int, y_ = (x0_1.set (x5_1 : Int).toNat x1_1) := ⟨_, rfl⟩; replace H : (laws_markIntS.l0 k1 y176 (wrap64 (x1_1 + 1)) (wrap64 (x5_1 + 1))) = some (r1, r2) := zh hy176; have Ny176 := zA hy176; clear hy176; have H' := zA H; clear H; obtain ⟨Ao6, co6, eo6⟩ := Kd.R_slice HO_0.out; subst eo6; have p5 : 0 ≤ (x5_1 : Int) := zd; have q5 : (x5_1 : Int) < ((x0_1.length : Int) : Int) := zd; obtain ⟨go5, co5, eo5, gb5, gl5, cl5, HG5⟩ := Kd.R_form HO_0.out (by omega)
     (first | cases eo5 | (injection eo5 with ea_ en_ ec_; (first | subst ea_ | (injection ea_ with ea_; subst ea_)); subst ec_; clear en_))
     have GB5 := zA gb5; have GG5 := zA HG5; clear gb5 gl5 HG5; have HMgo5 := zA (show (P0_ go5 ∨ w.heap.size ≤ go5) from (HO_0.out.1 _ rfl)); obtain ⟨hx5_0, hf5_0⟩ := Kd.R_celln 0 HO_0.out (x5_1 : Int) p5 q5; replace p5 := eq_true p5; replace q5 := eq_true q5; have HP7 := Kd.R_putg HO_0.out (x5_1 : Int) x1_1; go_wp2_with (first | ((with_reducible refine gate_store (t := 3) (p := 15) rfl ?_); refine store_event (t := 3) (p := 15) (v := ?vo_w8) (w1 := (wr.setCell ⟨go5, (x5_1 : Int).toNat, none⟩ (.int .i64 x1_1))) ?hg ?ho ?hn ?hr ?_; (case ho => rfl); (case hg => rfl); (case hn => rfl); (case hr => first | (go_simp; done) | (go_simp; rfl)); intro w8 hw; have hg : wr.grownBy w8 (some go5) := (by rw [hw]; exact HP7.2); have hp_ : Kd.R (Kd.int .i64) 3 w8 w0.heap.size (fun k_ => (P0_ k_ ∨ w.heap.size ≤ k_)) (.slice (some ⟨go5, 0, none⟩) x0_1.length co6) y176 := (by rw [hw, Ny176.out]; exact HP7.1); clear HP7; replace HB := zA ((by rw [hw]; exact below_set (HB.out) GB5.out : Below w0.heap.size w0 w8)); replace HK := zA (Kept.of_grown (S := (fun k_ => P0_ k_)) hg (by repeat (first | (with_reducible first | exact HK.out | apply Kept.alloc | apply Kept.drewN | apply Kept.drew) | exact HK.out)) (fun k_ e_ => (HO_0.out.1 k_ e_))); replace HO_0 := zA (hp_); clear hg hw hp_)); go_roundg k1
     case measure => have := HK1.out; omega
     case rel => exact ⟨(y176), (wrap64 (x1_1 + 1)), (wrap64 (x5_1 + 1)), zr, zr, H', ⟨by have := HK1.out; omega⟩, ⟨zR HO_0.out⟩, ⟨by repeat (first | (with_reducible first | exact HK.out | apply Kept.alloc | apply Kept.drewN | apply Kept.drew) | exact HK.out)⟩, ⟨z_⟩⟩
    ·rw [if_neg c4] at H; exact absurd H (by simp)
   ·rw [if_neg c3] at H; have c3b0 : decide (x5_1 < (x0_1.length : Int)) = false := decide_eq_false c3; clear c3; simp only [Option.some.injEq, Prod.mk.injEq] at H; obtain ⟨rfl, rfl⟩ := H; obtain ⟨Ao9, co9, eo9⟩ := Kd.R_slice HO_0.out; subst eo9; go_wp2; go_ret; exact ⟨ze, by (with_reducible repeat (first | apply Kd.R_alloc | apply Kd.R_drewN | apply Kd.R_drew)); exact HO_0.out, z_, by repeat (first | (with_reducible first | exact HK.out | apply Kept.alloc | apply Kept.drewN | apply Kept.drew) | exact HK.out)⟩

/-! ### laws_markIntSS: function 88 -/
def totalL : List (List Int) → Int
 | [] => 0
 | x :: xs => x.length + totalL xs
def smallL (l : List (List Int)) : Bool := decide (l.length ≤ 1048576) && l.all fun x => decide (x.length ≤ 1048576)
theorem smallL_iff {l : List (List Int)} : smallL l = true ↔ l.length ≤ 1048576 ∧ ∀ x ∈ l, x.length ≤ 1048576 := by
 unfold smallL; rw [Bool.and_eq_true, decide_eq_true_eq, List.all_eq_true]; simp only [decide_eq_true_eq]
theorem totalL_drop {l : List (List Int)} {i : Nat} (h : i < l.length) : totalL (l.drop i) = (l.getD i []).length + totalL (l.drop (i + 1)) := by
 rw [List.drop_eq_getElem_cons h, List.getD_eq_getElem?_getD, List.getElem?_eq_getElem h]; rfl
theorem totalL_le {l : List (List Int)} (h : ∀ x ∈ l, x.length ≤ 1048576) : 0 ≤ totalL l ∧ totalL l ≤ 1048576 * l.length := by
 induction l with
 | nil => exact ⟨Int.le_refl _, Int.le_refl _⟩
 | cons x xs ih =>
  have a := ih (fun y hy => h y (List.mem_cons_of_mem _ hy)); have b := h x List.mem_cons_self; unfold totalL; rw [List.length_cons]
  omega
theorem totalL_len : ∀ (xs ys : List (List Int)), ys.length = xs.length → (∀ j : Nat, (ys.getD j []).length = (xs.getD j []).length) → totalL ys = totalL xs ∧ smallL ys = smallL xs
 | [], [], _, _ => ⟨rfl, rfl⟩
 | x :: xs, [], h, _ => by simp at h
 | [], y :: ys, h, _ => by simp at h
 | x :: xs, y :: ys, h, hj => by
  have h0 : y.length = x.length := hj 0; have hl : ys.length = xs.length := by simpa using h
  obtain ⟨a, b⟩ := totalL_len xs ys hl (fun j => hj (j + 1)); refine ⟨by unfold totalL; rw [a, h0], ?_⟩; unfold smallL at b ⊢; rw [List.length_cons, List.length_cons, List.all_cons, List.all_cons, h0, hl]; rw [hl] at b
  by_cases q : xs.length ≤ 1048576
  ·rw [decide_eq_true q, Bool.true_and, Bool.true_and] at b; rw [b]
  ·rw [decide_eq_false (show ¬ xs.length + 1 ≤ 1048576 by omega), Bool.false_and, Bool.false_and]
theorem mkI_at (d : Nat) : ∀ (k : Nat) (x : List Int) (a i : Int), 0 ≤ i → (x.length : Int) - i = d → d < k → 0 ≤ a → a + d ≤ 4611686018427387904 → x.length ≤ 1048576 → ∃ y, laws_markIntS.l0 k x a i = some (a + d, y) := by
 induction d with
 | zero =>
  intro k x a i h0 hd hk _ _ _; cases k with
  | zero => omega
  | succ k =>
   simp only [laws_markIntS.l0]; rw [if_neg (by omega)]; exact ⟨x, by rw [show a + ((0 : Nat) : Int) = a from Int.add_zero a]⟩
 | succ d ih =>
  intro k x a i h0 hd hk ha hb hl; cases k with
  | zero => omega
  | succ k =>
   simp only [laws_markIntS.l0]; rw [if_pos (by omega), if_pos h0, show wrap64 (a + 1) = a + 1 from by unfold wrap64; omega, show wrap64 (i + 1) = i + 1 from by unfold wrap64; omega]; obtain ⟨y, e⟩ := ih k (x.set i.toNat a) (a + 1) (i + 1) (by omega) (by rw [List.length_set]; omega) (by omega) (by omega) (by omega) (by rw [List.length_set]; exact hl); exact ⟨y, by rw [e]; congr 2; omega⟩
theorem mkI_some (x : List Int) (a : Int) (ha : 0 ≤ a) (hb : a ≤ 2305843009213693952) (hl : x.length ≤ 1048576) : ∃ y, laws_markIntS.f (x.length + 1) x a = some (a + x.length, y) :=
 mkI_at x.length (x.length + 1) x a 0 (by omega) (by omega) (by omega) ha (by omega) hl
set_option maxHeartbeats 8000000 in
set_option maxRecDepth 100000 in
theorem laws_markIntS.ch (k : Nat) (P0_ : Nat → Prop) (u9000_ : Value) (l0 : List Int) (a1 : Int) (r1 : Int) (r2 : List Int) (w0 w : World) (hB : Below w0.heap.size w0 w) (ho0 : Kd.R (Kd.int .i64) 3 w w0.heap.size P0_ u9000_ l0) (h : laws_markIntS.f k l0 a1 = some (r1, r2)) :
  Calls Tryd.prog 29 #[u9000_, .int .i64 a1] w fun e w' => e = .returned (.int .i64 r1) ∧ Below w0.heap.size w0 w' ∧ IntCh w w' (fun k_ => some k_ = u9000_.ownBlock) := by
 have HO0 := zA (Kd.R_tight rfl ho0); have HK := zA (IntCh.refl w (fun k_ => some k_ = u9000_.ownBlock)); have HB := zA hB; clear hB ho0; have H' := zA (show laws_markIntS.l0 k l0 a1 0 = some (r1, r2) from h); clear h; go_enter Tryd.func29, Tryd.ntmps29; go_wp2
 go_loopg [1, 5] k (fun kq v1 v5 w' => ∃ (x0_1 : List Int) (x1_1 : Int) (x5_1 : Int), v1 = .int .i64 x1_1 ∧ v5 = .int .i64 x5_1 ∧ Aside0 (laws_markIntS.l0 kq x0_1 x1_1 x5_1 = some (r1, r2)) ∧ Aside0 (kq ≤ k) ∧ Aside0 (Kd.R (Kd.int .i64) 3 w' w0.heap.size (fun k_ => some k_ = u9000_.ownBlock) u9000_ x0_1) ∧ Aside0 (IntCh w w' (fun k_ => some k_ = u9000_.ownBlock)) ∧ Aside0 (Below w0.heap.size w0 w'))
 case atStart => exact ⟨l0, a1, 0, zr, zr, H', ⟨Nat.le_refl _⟩, ⟨zR HO0.out⟩, ⟨HK.out.then_ (IntCh.of_below (by repeat (first | exact Below.refl _ _ | apply below_alloc | apply pw_below_drewN | apply below_drew1)) (fun _ => False)) (fun _ _ q => q.elim)⟩, ⟨z_⟩⟩
 case round =>
  clear H' HO0 HK HB; obtain ⟨x0_1, x1_1, x5_1, rfl, rfl, HA, HK1, HO_0, HK, HB⟩ := hrel; cases gk with
  | zero => exact absurd HA.out (by simp [laws_markIntS.l0])
  | succ k1 =>
   have H := HA.out; clear HA; simp only [laws_markIntS.l0] at H
   by_cases c3 : x5_1 < (x0_1.length : Int)
   ·rw [if_pos c3] at H; have c3b0 : decide (x5_1 < (x0_1.length : Int)) = true := decide_eq_true c3
    by_cases c4 : 0 ≤ x5_1
    ·rw [if_pos c4] at H; have c4b0 : decide (0 ≤ x5_1) = true := decide_eq_true c4; have H' := zA H; clear H; obtain ⟨g, cap, hu, hge, hlt, cs, hcs⟩ := Kd.R_form HO_0.out (by omega); subst hu; obtain ⟨hx5, hf5⟩ := Kd.R_celln 0 HO_0.out x5_1 c4 c3; have HG := zA hcs; have HP := Kd.R_putg HO_0.out x5_1 x1_1; have HC := zA ((blk_cell hcs x5_1.toNat).symm.trans hx5); have HGE := zA hge; clear hcs hge hlt; replace c4 := eq_true c4; replace c3 := eq_true c3; go_wp2_with ((with_reducible refine gate_store (t := 3) (p := 15) rfl ?_); refine store_event (t := 3) (p := 15) (v := ?vo_w8) (w1 := (wr.setCell ⟨g, (x5_1 : Int).toNat, none⟩ (.int .i64 x1_1))) ?hg ?ho ?hn ?hr ?_; (case ho => rfl); (case hg => rfl); (case hn => rfl); (case hr => first | (go_simp; done) | (go_simp; rfl)); intro w8 hw; replace HO_0 := zA (show Kd.R (Kd.int .i64) 3 w8 w0.heap.size (fun k_ => some k_ = (Value.slice (some ⟨g, 0, none⟩) x0_1.length cap).ownBlock) (.slice (some ⟨g, 0, none⟩) x0_1.length cap) (x0_1.set x5_1.toNat x1_1) from by rw [hw]; exact HP.1); replace HB := zA (show Below w0.heap.size w0 w8 from by rw [hw]; exact below_set HB.out HGE.out); replace HK := zA (show IntCh w w8 (fun k_ => some k_ = (Value.slice (some ⟨g, 0, none⟩) x0_1.length cap).ownBlock) from by rw [hw]; exact HK.out.then_ (IntCh.set HG.out HC.out) (fun q_ _ e_ => by rw [e_]; rfl)); clear HP HG HC HGE hx5 hf5 hw); go_roundg k1
     case measure => have := HK1.out; omega
     case rel => exact ⟨_, _, _, zr, zr, H', ⟨by have := HK1.out; omega⟩, ⟨zR HO_0.out⟩, ⟨HK.out.then_ (IntCh.of_below (by repeat (first | exact Below.refl _ _ | apply below_alloc | apply pw_below_drewN | apply below_drew1)) (fun _ => False)) (fun _ _ q => q.elim)⟩, ⟨z_⟩⟩
    ·rw [if_neg c4] at H; exact absurd H (by simp)
   ·rw [if_neg c3] at H; have c3b0 : decide (x5_1 < (x0_1.length : Int)) = false := decide_eq_false c3; simp only [Option.some.injEq, Prod.mk.injEq] at H; obtain ⟨rfl, rfl⟩ := H; obtain ⟨Ao9, co9, eo9⟩ := Kd.R_slice HO_0.out; subst eo9; go_wp2; go_ret; exact ⟨rfl, z_, HK.out.then_ (IntCh.of_below (by repeat (first | exact Below.refl _ _ | apply below_alloc | apply pw_below_drewN | apply below_drew1)) (fun _ => False)) (fun _ _ q => q.elim)⟩
def laws_markIntSS.f (l0 : List (List Int)) (a1 : Int) : Option Int := if smallL l0 = true ∧ 0 ≤ a1 ∧ a1 ≤ 1152921504606846976 then some (a1 + totalL l0) else none
set_option maxHeartbeats 8000000 in
set_option maxRecDepth 100000 in
theorem laws_markIntSS.calls (P0_ : Nat → Prop) (u9000_ : Value) (l0 : List (List Int)) (a1 : Int) (r1 : Int) (w0 w : World) (hB : Below w0.heap.size w0 w) (ho0 : Kd.R (Kd.slice 3 (Kd.int .i64)) 22 w w0.heap.size P0_ u9000_ l0) (h : laws_markIntSS.f l0 a1 = some r1) :
  Calls Tryd.prog 88 #[u9000_, .int .i64 a1] w fun e w' => e = .returned (.int .i64 r1) ∧ Below w0.heap.size w0 w' ∧ IntCh w w' (fun k_ => P0_ k_ ∧ IsT w k_ [22, 3]) := by
 unfold laws_markIntSS.f at h
 by_cases hs : smallL l0 = true ∧ 0 ≤ a1 ∧ a1 ≤ 1152921504606846976
 ·rw [if_pos hs] at h; obtain rfl := Option.some.inj h; clear h; obtain ⟨hs0, ha0, ha1⟩ := hs; obtain ⟨hs1, hs2⟩ := smallL_iff.1 hs0; have hle := totalL_le hs2; have HO0 := zA ho0; have HK := zA (IntCh.refl w (fun k_ => P0_ k_ ∧ IsT w k_ [22, 3])); have HB := zA hB; have HS2 := zA hs2; have HLE := zA hle; have HS1 := zA hs1; have HA0 := zA ha0; have HA1 := zA ha1; clear hB ho0 hs2 hs1 hs0 hle ha0 ha1; go_enter Tryd.func88, Tryd.ntmps88; go_wp2
  go_loopg [1, 5] l0.length (fun kq v1 v5 w' => ∃ (x0_1 : List (List Int)) (x1_1 : Int) (x5_1 : Int), v1 = .int .i64 x1_1 ∧ v5 = .int .i64 x5_1 ∧ Aside0 (0 ≤ x5_1 ∧ (kq : Int) + x5_1 = l0.length) ∧ Aside0 (0 ≤ x1_1 ∧ x1_1 + totalL (l0.drop x5_1.toNat) = a1 + totalL l0) ∧ Aside0 (x0_1.length = l0.length ∧ ∀ j : Nat, (x0_1.getD j []).length = (l0.getD j []).length) ∧ Aside0 (Kd.R (Kd.slice 3 (Kd.int .i64)) 22 w' w0.heap.size P0_ u9000_ x0_1) ∧ Aside0 (IntCh w w' (fun k_ => P0_ k_ ∧ IsT w k_ [22, 3])) ∧ Aside0 (Below w0.heap.size w0 w'))
  case atStart => exact ⟨l0, a1, 0, zr, zr, ⟨by omega, by omega⟩, ⟨HA0.out, rfl⟩, ⟨rfl, fun _ => rfl⟩, ⟨zR HO0.out⟩, ⟨HK.out.then_ (IntCh.of_below (by repeat (first | exact Below.refl _ _ | apply below_alloc | apply pw_below_drewN | apply below_drew1)) (fun _ => False)) (fun _ _ q => q.elim)⟩, ⟨z_⟩⟩
  case round =>
   clear HO0 HK HB; obtain ⟨x0_1, x1_1, x5_1, rfl, rfl, HI, HT, HN, HO, HK, HB⟩ := hrel
   by_cases c3 : x5_1 < (x0_1.length : Int)
   ·have c3b0 : decide (x5_1 < (x0_1.length : Int)) = true := decide_eq_true c3; have c4 : 0 ≤ x5_1 := HI.out.1; have hlen := HN.out.1; have hd := totalL_drop (l := l0) (i := x5_1.toNat) (by omega); have hrow : (l0.getD x5_1.toNat []).length ≤ 1048576 := HS2.out _ (by rw [List.getD_eq_getElem?_getD, List.getElem?_eq_getElem (show x5_1.toNat < l0.length by omega)]; exact List.getElem_mem _); have hdl := totalL_le (l := l0.drop (x5_1.toNat + 1)) (fun y hy => HS2.out y (List.mem_of_mem_drop hy)); have hn := HN.out.2 x5_1.toNat; obtain ⟨row, er⟩ : ∃ row, row = x0_1.getD x5_1.toNat [] := ⟨_, rfl⟩; rw [← er] at hn; have hT := HT.out; have hLE := HLE.out; have hS1 := HS1.out; have hA1 := HA1.out; obtain ⟨y, A0⟩ := mkI_some row x1_1 hT.1 (by omega) (by omega); have A := zA A0; have C3 := zA (show x5_1 < (l0.length : Int) by omega); obtain ⟨g, cap, hu, hge, hlt, hcells⟩ := Kd.R_form HO.out (show 0 < x0_1.length by omega); subst hu; obtain ⟨c, hcl, hM, hcc, hfz⟩ := Kd.R_elem HO.out ([] : List Int) x5_1 c4 c3; rw [← er] at hM; obtain ⟨v, rfl, hR⟩ := hM; obtain ⟨A1, n1, hv⟩ := Kd.R_slice hR; subst hv; have hx : wr.cell? ⟨g, x5_1.toNat, none⟩ = some (.slice A1 row.length n1) := by
     have := hcc 0 _ rfl; rw [show x5_1.toNat * (Kd.slice 3 (Kd.int .i64)).sz + 0 = x5_1.toNat from by show x5_1.toNat * 1 + 0 = _; omega] at this; exact this
    have hok : ∀ q_, some q_ = (Value.slice A1 row.length n1).ownBlock → P0_ q_ ∧ IsT wr q_ [22, 3] := fun q_ e_ => ⟨(hR.1 q_ e_.symm).1, 3, by simp, Kd.R_typed hR q_ e_.symm⟩
    have GR := zA hR; have GO := zA hok; have HT2 := zA (show 0 ≤ x1_1 + (row.length : Int) ∧ x1_1 + (row.length : Int) + totalL (l0.drop (x5_1 + 1).toNat) = a1 + totalL l0 from ⟨by omega, by rw [show (x5_1 + 1).toNat = x5_1.toNat + 1 by omega]; omega⟩); have hw5 : wrap64 (x5_1 + 1) = x5_1 + 1 := by unfold wrap64; omega
    have HI2 := zA (show 0 ≤ wrap64 (x5_1 + 1) ∧ wrap64 (x5_1 + 1) = x5_1 + 1 from ⟨by omega, hw5⟩); clear er hR hok hcc hcells hlt hge hcl hfz hd hrow hdl hn hT hLE hS1 hA1 A0 hlen hw5; replace c4 := eq_true c4; replace c3 := eq_true c3; go_wp2_with (go_at_call 29; (refine (laws_markIntS.ch _ (fun k_ => P0_ k_) (.slice A1 row.length n1) row x1_1 _ y w0 _ ?s1 ?s2 A.out).mono ?_); (case s1 => repeat (first | (with_reducible first | exact HB.out | apply below_alloc | apply pw_below_drewN | apply below_drew1) | exact HB.out)); (case s2 => (with_reducible repeat (first | apply Kd.R_alloc | apply Kd.R_drewN | apply Kd.R_drew)); exact Kd.R_mono GR.out (fun _ hk => hk.1)); rintro e w8 ⟨rfl, hb, hk⟩; have hk2 := (IntCh.of_below (w := wr) (by repeat (first | exact Below.refl _ _ | apply below_alloc | apply pw_below_drewN | apply below_drew1)) (fun k_ => some k_ = (Value.slice A1 row.length n1).ownBlock)).then_ hk (fun _ _ q => q); have hk3 := HK.out.then_ hk2 (fun q_ hq e_ => HK.out.inS hq (GO.out q_ e_).1 (GO.out q_ e_).2); obtain ⟨ys, hyl, hyj, hyR⟩ := hk2.rows HO.out; replace HO := zA (show Kd.R (Kd.slice 3 (Kd.int .i64)) 22 w8 w0.heap.size P0_ (.slice (some ⟨g, 0, none⟩) x0_1.length cap) ys from hyR); replace HB := zA hb; replace HK := zA hk3; replace HN := zA (show ys.length = l0.length ∧ ∀ j : Nat, (ys.getD j []).length = (l0.getD j []).length from ⟨hyl.trans HN.out.1, fun j => (hyj j).trans (HN.out.2 j)⟩); clear GR GO hb hk hk2 hk3 hyl hyj hyR hx); go_roundg (l0.length - (x5_1 + 1).toNat)
    case measure => have a := HI.out; have b := C3.out; omega
    case rel => exact ⟨ys, _, _, zr, zr, ⟨by have a := HI.out; have b := HI2.out; have d := C3.out; omega⟩, ⟨by rw [HI2.out.2]; exact HT2.out⟩, HN, ⟨by (with_reducible repeat (first | apply Kd.R_alloc | apply Kd.R_drewN | apply Kd.R_drew)); exact HO.out⟩, ⟨HK.out.then_ (IntCh.of_below (by repeat (first | exact Below.refl _ _ | apply below_alloc | apply pw_below_drewN | apply below_drew1)) (fun _ => False)) (fun _ _ q => q.elim)⟩, ⟨z_⟩⟩
   ·have c3b0 : decide (x5_1 < (x0_1.length : Int)) = false := decide_eq_false c3; have e : x1_1 = a1 + totalL l0 := by
     have a := HT.out.2; rw [List.drop_eq_nil_of_le (by have b := HN.out.1; omega)] at a; have z : totalL [] = 0 := rfl
     omega
    subst e; obtain ⟨Ao9, co9, eo9⟩ := Kd.R_slice HO.out; subst eo9; go_wp2; go_ret; exact ⟨rfl, z_, HK.out.then_ (IntCh.of_below (by repeat (first | exact Below.refl _ _ | apply below_alloc | apply pw_below_drewN | apply below_drew1)) (fun _ => False)) (fun _ _ q => q.elim)⟩
 ·rw [if_neg hs] at h; cases h

/-! ### laws_markTables: function 28 -/
def laws_markTables.f (a0_0 a0_1 : Int) (l0_2 : List S120) (l0_3 l0_4 : List (List Int)) (a1 : Int) : Option Int := (laws_markTargetS.f l0_2 a1).bind fun t => (laws_markIntSS.f l0_3 t).bind fun u => laws_markIntSS.f l0_4 u
set_option maxHeartbeats 8000000 in
set_option maxRecDepth 100000 in
theorem laws_markTables.calls (a0_0 a0_1 : Int) (P0_2 : Nat → Prop) (u0_2 : Value) (l0_2 : List S120) (P0_3 : Nat → Prop) (u0_3 : Value) (l0_3 : List (List Int)) (P0_4 : Nat → Prop) (u0_4 : Value) (l0_4 : List (List Int)) (a1 r : Int) (w0 w : World) (hB : Below w0.heap.size w0 w)
  (hT : Kd.S k120 120 w w0.heap.size P0_2 u0_2 l0_2) (hD : Kd.S (Kd.slice 3 (Kd.int .i64)) 22 w w0.heap.size P0_3 u0_3 l0_3) (hH : Kd.S (Kd.slice 3 (Kd.int .i64)) 22 w w0.heap.size P0_4 u0_4 l0_4) (h : laws_markTables.f a0_0 a0_1 l0_2 l0_3 l0_4 a1 = some r) :
  Calls Tryd.prog 28 #[.agg #[.int .i64 a0_0, .int .i64 a0_1, u0_2, u0_3, u0_4], .int .i64 a1] w fun e w' => e = .returned (.int .i64 r) ∧ Below w0.heap.size w0 w' ∧ Kept w w' (fun k_ => ((P0_2 k_ ∧ IsT w k_ [120, 5]) ∨ (P0_3 k_ ∧ IsT w k_ [22, 3])) ∨ (P0_4 k_ ∧ IsT w k_ [22, 3])) := by
 have hu48 := Tryd.underlying47; obtain ⟨AT, cT, eT⟩ := Kd.S_slice hT; obtain ⟨AD, cD, eD⟩ := Kd.S_slice hD; obtain ⟨AH, cH, eH⟩ := Kd.S_slice hH; subst eT eD eH; obtain ⟨t, B1, h⟩ := Option.bind_eq_some_iff.mp h; obtain ⟨u, B2, B3⟩ := Option.bind_eq_some_iff.mp h; have et : t = a1 + totalT l0_2 := by
  unfold laws_markTargetS.f at B1
  split at B1
  ·exact (Option.some.inj B1).symm
  ·cases B1
 subst et; have eu : u = a1 + totalT l0_2 + totalL l0_3 := by
  unfold laws_markIntSS.f at B2
  split at B2
  ·exact (Option.some.inj B2).symm
  ·cases B2
 subst eu; have er : r = a1 + totalT l0_2 + totalL l0_3 + totalL l0_4 := by
  unfold laws_markIntSS.f at B3
  split at B3
  ·exact (Option.some.inj B3).symm
  ·cases B3
 subst er; clear h; have A1 := zA B1; have A2 := zA B2; have A3 := zA B3; have HT := zA hT; have HD := zA (Kd.S_R hD); have HH := zA (Kd.S_R hH); have HK := zA (Kept.refl w (fun k_ => ((P0_2 k_ ∧ IsT w k_ [120, 5]) ∨ (P0_3 k_ ∧ IsT w k_ [22, 3])) ∨ (P0_4 k_ ∧ IsT w k_ [22, 3]))); have HB := zA hB; clear B1 B2 B3 hT hD hH hB; go_enter Tryd.func28, Tryd.ntmps28; go_wp2_with (first | ((with_reducible refine gate_dst (N := 2) rfl ?_); refine zbx (N := 2) (cs := #[.int .i64 a0_0, .int .i64 a0_1, .slice AT l0_2.length cT, .slice AD l0_3.length cD, .slice AH l0_4.length cH]) (t := 47) ?_; intro gb hg w6 hbox hb; replace HB := zA (below_step z_ hb); have BK := zA hbox; replace HT := zA (Kd.S_below (by (with_reducible repeat (first | apply Kd.S_alloc | apply Kd.S_drewN | apply Kd.S_drew)); exact HT.out) hb); replace HD := zA (Kd.R_below (by (with_reducible repeat (first | apply Kd.R_alloc | apply Kd.R_drewN | apply Kd.R_drew)); exact HD.out) hb); replace HH := zA (Kd.R_below (by (with_reducible repeat (first | apply Kd.R_alloc | apply Kd.R_drewN | apply Kd.R_drew)); exact HH.out) hb); replace HK := zA ((HK.out.below (by repeat (first | exact Below.refl _ _ | apply below_alloc | apply pw_below_drewN | apply below_drew1))).below hb); clear hb hbox hg; have hc2 : w6.cell? ⟨gb, 2, none⟩ = some (.slice AT l0_2.length cT) := (blk_cell BK.out 2).trans rfl; have hc3 : w6.cell? ⟨gb, 3, none⟩ = some (.slice AD l0_3.length cD) := (blk_cell BK.out 3).trans rfl; have hc4 : w6.cell? ⟨gb, 4, none⟩ = some (.slice AH l0_4.length cH) := (blk_cell BK.out 4).trans rfl) | (go_at_call 78; (refine (laws_markTargetS.calls P0_2 _ l0_2 a1 _ w0 _ ?s1 ?s2 A1.out).mono ?_); (case s1 => repeat (first | (with_reducible first | exact HB.out | apply below_alloc | apply pw_below_drewN | apply below_drew1) | exact HB.out)); (case s2 => exact (by (with_reducible repeat (first | apply Kd.S_alloc | apply Kd.S_drewN | apply Kd.S_drew)); exact HT.out)); rintro e w7 ⟨rfl, hb, hk⟩; have n0_ := zA hb; have n1_ := zA (blk_keptT (by (with_reducible repeat (first | refine blk_drewN ?_ _ | refine blk_drew ?_ | refine blk_alloc ?_ _)); exact BK.out) hk (by decide)); have n3_ := zA (R_keptT (by (with_reducible repeat (first | apply Kd.R_alloc | apply Kd.R_drewN | apply Kd.R_drew)); exact HD.out) hk (by decide)); have n4_ := zA (R_keptT (by (with_reducible repeat (first | apply Kd.R_alloc | apply Kd.R_drewN | apply Kd.R_drew)); exact HH.out) hk (by decide)); have n5_ := zA (Kept.thenT (HK.out.below (by repeat (first | exact Below.refl _ _ | apply below_alloc | apply pw_below_drewN | apply below_drew1))) hk (fun _ p q => .inl (.inl ⟨p, q⟩))); clear HB BK HT HD HH HK hb hk; have HB := n0_; have BK := n1_; have HD := n3_; have HH := n4_; have HK := n5_; clear n0_ n1_ n3_ n4_ n5_; have hc2 : w7.cell? ⟨gb, 2, none⟩ = some (.slice AT l0_2.length cT) := (blk_cell BK.out 2).trans rfl; have hc3 : w7.cell? ⟨gb, 3, none⟩ = some (.slice AD l0_3.length cD) := (blk_cell BK.out 3).trans rfl; have hc4 : w7.cell? ⟨gb, 4, none⟩ = some (.slice AH l0_4.length cH) := (blk_cell BK.out 4).trans rfl) | ((with_reducible refine gate_callee (f := 88) rfl ?_); refine goesL_ (some 12) rfl rfl Tryd.func88 (by kernel_rfl) rfl #[.slice AD l0_3.length cD, .int .i64 (a1 + totalT l0_2)] rfl za ?_; (refine (laws_markIntSS.calls P0_3 _ l0_3 (a1 + totalT l0_2) _ w0 _ ?s1 ?s2 A2.out).mono ?_); (case s1 => repeat (first | (with_reducible first | exact HB.out | apply below_alloc | apply pw_below_drewN | apply below_drew1) | exact HB.out)); (case s2 => exact (by (with_reducible repeat (first | apply Kd.R_alloc | apply Kd.R_drewN | apply Kd.R_drew)); exact HD.out)); rintro e w8 ⟨rfl, hb, hk⟩; refine ⟨_, rfl, ?_⟩; obtain ⟨ys, hyl, hyj, hyR⟩ := hk.rows (by (with_reducible repeat (first | apply Kd.R_alloc | apply Kd.R_drewN | apply Kd.R_drew)); exact HH.out); have n0_ := zA hb; have n1_ := zA (blk_keptT (by (with_reducible repeat (first | refine blk_drewN ?_ _ | refine blk_drew ?_ | refine blk_alloc ?_ _)); exact BK.out) hk.kept (by decide)); have n4_ := zA hyR; have n5_ := zA (Kept.thenT (HK.out.below (by repeat (first | exact Below.refl _ _ | apply below_alloc | apply pw_below_drewN | apply below_drew1))) hk.kept (fun _ p q => .inl (.inr ⟨p, q⟩))); have LY := zA (totalL_len l0_4 ys hyl hyj); have LL := zA hyl; clear HB BK HD HH HK hb hk hyl hyj hyR; have HB := n0_; have BK := n1_; have HH := n4_; have HK := n5_; clear n0_ n1_ n4_ n5_; have hc2 : w8.cell? ⟨gb, 2, none⟩ = some (.slice AT l0_2.length cT) := (blk_cell BK.out 2).trans rfl; have hc3 : w8.cell? ⟨gb, 3, none⟩ = some (.slice AD l0_3.length cD) := (blk_cell BK.out 3).trans rfl; have hc4 : w8.cell? ⟨gb, 4, none⟩ = some (.slice AH l0_4.length cH) := (blk_cell BK.out 4).trans rfl) | ((with_reducible refine gate_callee (f := 88) rfl ?_); refine goesL_ (some 16) rfl rfl Tryd.func88 (by kernel_rfl) rfl #[.slice AH l0_4.length cH, .int .i64 (a1 + totalT l0_2 + totalL l0_3)] rfl za ?_; (refine (laws_markIntSS.calls P0_4 _ ys (a1 + totalT l0_2 + totalL l0_3) (a1 + totalT l0_2 + totalL l0_3 + totalL l0_4) w0 _ ?s1 ?s2 ?s3).mono ?_); (case s1 => repeat (first | (with_reducible first | exact HB.out | apply below_alloc | apply pw_below_drewN | apply below_drew1) | exact HB.out)); (case s2 => exact (by (with_reducible repeat (first | apply Kd.R_alloc | apply Kd.R_drewN | apply Kd.R_drew)); exact HH.out)); (case s3 => unfold laws_markIntSS.f; rw [LY.out.1, LY.out.2]; exact A3.out); rintro e w9 ⟨rfl, hb, hk⟩; refine ⟨_, rfl, ?_⟩; have n0_ := zA hb; have n5_ := zA (Kept.thenT (HK.out.below (by repeat (first | exact Below.refl _ _ | apply below_alloc | apply pw_below_drewN | apply below_drew1))) hk.kept (fun _ p q => .inr ⟨p, q⟩)); clear HB BK HH HK hb hk; have HB := n0_; have HK := n5_; clear n0_ n5_))
 go_ret; exact ⟨rfl, z_, HK.out.below (by repeat (first | exact Below.refl _ _ | apply below_alloc | apply pw_below_drewN | apply below_drew1))⟩

/-! ### laws_szRobotS: function 41 -/
def laws_szRobotS.f (l0 : List (S136)) (a1 : Int) : Option (Int) := if (wrap64 (a1 - (l0.length : Int))) < 0 then (some (-1)) else (some (wrap64 (a1 - (l0.length : Int))))
set_option maxHeartbeats 8000000 in
set_option maxRecDepth 100000 in
theorem laws_szRobotS.calls (A0 : Option Addr) (c0 : Nat) (l0 : List (S136)) (a1 : Int) (r : Int) (w : World) (hr0 : Kd.C k136 w A0 l0.length l0) (hc0 : l0.length ≤ c0) (h : laws_szRobotS.f l0 a1 = some r) :
  Calls Tryd.prog 41 #[.slice A0 l0.length c0, .int .i64 a1] w fun e w' => e = .returned (.int .i64 r) ∧ Drawn0 w w' := by
 have HR0 := zA hr0; have HC0 := zA hc0; clear hr0 hc0; have H : (if (wrap64 (a1 - (l0.length : Int))) < 0 then (some (-1)) else (some (wrap64 (a1 - (l0.length : Int))))) = some r := h; clear h
 by_cases c3 : (wrap64 (a1 - (l0.length : Int))) < 0
 ·rw [if_pos c3] at H; have c3b0 : decide ((wrap64 (a1 - (l0.length : Int))) < 0) = true := decide_eq_true c3; clear c3; obtain rfl := Option.some.inj H; go_enter Tryd.func41, Tryd.ntmps41; go_wp2; go_ret; exact ⟨by first | rfl | (simp; done) | (simp [*]; done), by repeat (first | exact Drawn0.refl _ | apply Drawn0.step)⟩
 ·rw [if_neg c3] at H; have c3b0 : decide ((wrap64 (a1 - (l0.length : Int))) < 0) = false := decide_eq_false c3; clear c3; obtain rfl := Option.some.inj H; go_enter Tryd.func41, Tryd.ntmps41; go_wp2; go_ret; exact ⟨by first | rfl | (simp; done) | (simp [*]; done), by repeat (first | exact Drawn0.refl _ | apply Drawn0.step)⟩

/-! ### spec_l1point: function 183 -/
def spec_l1point.f (a0 : Int) : Option (Bool) := if a0 ≥ 0 then (if a0 ≤ 1114111 then (if a0 < 55296 then (some true) else (some (decide (a0 > 57343)))) else (some false)) else (some false)
set_option maxHeartbeats 8000000 in
set_option maxRecDepth 100000 in
theorem spec_l1point.calls (a0 : Int) (r : Bool) (w : World) (h : spec_l1point.f a0 = some r) :
  Calls Tryd.prog 183 #[.int .i64 a0] w fun e w' => e = .returned (.bool r) ∧ Drawn0 w w' := by
 have H : (if a0 ≥ 0 then (if a0 ≤ 1114111 then (if a0 < 55296 then (some true) else (some (decide (a0 > 57343)))) else (some false)) else (some false)) = some r := h; clear h
 by_cases c2 : a0 ≥ 0
 ·rw [if_pos c2] at H; have c2b0 : decide (0 ≤ a0) = true := decide_eq_true c2; clear c2
  by_cases c3 : a0 ≤ 1114111
  ·rw [if_pos c3] at H; have c3b0 : decide (a0 ≤ 1114111) = true := decide_eq_true c3; clear c3
   by_cases c4 : a0 < 55296
   ·rw [if_pos c4] at H; have c4b0 : decide (a0 < 55296) = true := decide_eq_true c4; clear c4; obtain rfl := Option.some.inj H; go_enter Tryd.func183, Tryd.ntmps183; go_wp2; go_ret; exact ⟨by first | rfl | (simp; done) | (simp [*]; done), by repeat (first | exact Drawn0.refl _ | apply Drawn0.step)⟩
   ·rw [if_neg c4] at H; have c4b0 : decide (a0 < 55296) = false := decide_eq_false c4; clear c4; obtain rfl := Option.some.inj H; go_enter Tryd.func183, Tryd.ntmps183; go_wp2; go_ret; exact ⟨by first | rfl | (simp; done) | (simp [*]; done), by repeat (first | exact Drawn0.refl _ | apply Drawn0.step)⟩
  ·rw [if_neg c3] at H; have c3b0 : decide (a0 ≤ 1114111) = false := decide_eq_false c3; clear c3; obtain rfl := Option.some.inj H; go_enter Tryd.func183, Tryd.ntmps183; go_wp2; go_ret; exact ⟨by first | rfl | (simp; done) | (simp [*]; done), by repeat (first | exact Drawn0.refl _ | apply Drawn0.step)⟩
 ·rw [if_neg c2] at H; have c2b0 : decide (0 ≤ a0) = false := decide_eq_false c2; clear c2; obtain rfl := Option.some.inj H; go_enter Tryd.func183, Tryd.ntmps183; go_wp2; go_ret; exact ⟨by first | rfl | (simp; done) | (simp [*]; done), by repeat (first | exact Drawn0.refl _ | apply Drawn0.step)⟩

/-! ### spec_l1utf8: function 184 -/
def spec_l1utf8.f (a0 : Int) : Option (List Int) := if a0 < 128 then (some (([(a0) % 256] : List Int))) else (if a0 < 2048 then (some (([(wrap64 (192 + (wrap64 (Int.tdiv a0 64)))) % 256, (wrap64 (128 + (Int.tmod a0 64))) % 256] : List Int))) else (if a0 < 65536 then (some (([(wrap64 (224 + (wrap64 (Int.tdiv a0 4096)))) % 256, (wrap64 (128 + (Int.tmod (wrap64 (Int.tdiv a0 64)) 64))) % 256, (wrap64 (128 + (Int.tmod a0 64))) % 256] : List Int))) else (some (([(wrap64 (240 + (wrap64 (Int.tdiv a0 262144)))) % 256, (wrap64 (128 + (Int.tmod (wrap64 (Int.tdiv a0 4096)) 64))) % 256, (wrap64 (128 + (Int.tmod (wrap64 (Int.tdiv a0 64)) 64))) % 256, (wrap64 (128 + (Int.tmod a0 64))) % 256] : List Int)))))
set_option maxHeartbeats 8000000 in
set_option maxRecDepth 100000 in
theorem spec_l1utf8.calls (a0 : Int) (r : List Int) (w : World) (h : spec_l1utf8.f a0 = some r) :
  Calls Tryd.prog 184 #[.int .i64 a0] w fun e w' => ∃ v0_ : Value, e = .returned (v0_) ∧ Kd.R (Kd.int .u8) 5 w' w.heap.size (fun _ => True) v0_ r ∧ Below w.heap.size w w' := by
 have HB := zA (Below.refl w.heap.size w); have H : (if a0 < 128 then (some (([(a0) % 256] : List Int))) else (if a0 < 2048 then (some (([(wrap64 (192 + (wrap64 (Int.tdiv a0 64)))) % 256, (wrap64 (128 + (Int.tmod a0 64))) % 256] : List Int))) else (if a0 < 65536 then (some (([(wrap64 (224 + (wrap64 (Int.tdiv a0 4096)))) % 256, (wrap64 (128 + (Int.tmod (wrap64 (Int.tdiv a0 64)) 64))) % 256, (wrap64 (128 + (Int.tmod a0 64))) % 256] : List Int))) else (some (([(wrap64 (240 + (wrap64 (Int.tdiv a0 262144)))) % 256, (wrap64 (128 + (Int.tmod (wrap64 (Int.tdiv a0 4096)) 64))) % 256, (wrap64 (128 + (Int.tmod (wrap64 (Int.tdiv a0 64)) 64))) % 256, (wrap64 (128 + (Int.tmod a0 64))) % 256] : List Int)))))) = some r := h; clear h
 by_cases c2 : a0 < 128
 ·rw [if_pos c2] at H; have c2b0 : decide (a0 < 128) = true := decide_eq_true c2; clear c2; obtain ⟨y177, hy177⟩ : ∃ y_ : List Int, y_ = (([(a0) % 256] : List Int)) := ⟨_, rfl⟩; replace H : (some y177) = some r := zh hy177; have Ny177 := zA hy177; clear hy177; obtain rfl := Option.some.inj H; go_enter Tryd.func184, Tryd.ntmps184; go_wp2_with (first | ((with_reducible refine gate_dst (N := 7) rfl ?_); refine Kd.R_lit (Kd.int .u8) _ 5 ?hg (N := 7) ?hd (xs := ([(a0) % 256] : List Int)) (inner := [.int .u8 ((a0) % 256)]) (ok := fun _ => True) (okp := fun _ => True) ?hr ?hp (fun _ hk => hk) trivial (Below.refl _ _) (Nat.le_refl _) (by simp) ?_; (case hd => rfl); (case hg => rfl); (case hr => first | (go_simp; done) | (go_simp; rfl)); (case hp => exact (Reps.one (show Kd.M (Kd.int .u8) _ _ _ ((a0) % 256) [.int .u8 ((a0) % 256)] from rfl) (Reps.none _ _))); intro v178 w3 ho4 hb hg_ hnew_; clear hg_ hnew_; (first | rw [← Ny177.out] at ho4 | (simp only [Int.reduceToNat] at ho4; rw [← Ny177.out] at ho4)); have HO179 := zA (Kd.R_lower ho4 (below_size z_)); replace HB := zA (below_step z_ hb); clear hb ho4)); go_ret; exact ⟨_, ze, by (with_reducible repeat (first | apply Kd.R_alloc | apply Kd.R_drewN | apply Kd.R_drew)); exact HO179.out, z_⟩
 ·rw [if_neg c2] at H; have c2b0 : decide (a0 < 128) = false := decide_eq_false c2; clear c2
  by_cases c5 : a0 < 2048
  ·rw [if_pos c5] at H; have c5b0 : decide (a0 < 2048) = true := decide_eq_true c5; clear c5; obtain ⟨y180, hy180⟩ : ∃ y_ : List Int, y_ = (([(wrap64 (192 + (wrap64 (Int.tdiv a0 64)))) % 256, (wrap64 (128 + (Int.tmod a0 64))) % 256] : List Int)) := ⟨_, rfl⟩; replace H : (some y180) = some r := zh hy180; have Ny180 := zA hy180; clear hy180; obtain rfl := Option.some.inj H; go_enter Tryd.func184, Tryd.ntmps184; go_wp2_with (first | ((with_reducible refine gate_dst (N := 18) rfl ?_); refine Kd.R_lit (Kd.int .u8) _ 5 ?hg (N := 18) ?hd (xs := ([(wrap64 (192 + (wrap64 (Int.tdiv a0 64)))) % 256, (wrap64 (128 + (Int.tmod a0 64))) % 256] : List Int)) (inner := [.int .u8 ((wrap64 (192 + (wrap64 (Int.tdiv a0 64)))) % 256), .int .u8 ((wrap64 (128 + (Int.tmod a0 64))) % 256)]) (ok := fun _ => True) (okp := fun _ => True) ?hr ?hp (fun _ hk => hk) trivial (Below.refl _ _) (Nat.le_refl _) (by simp) ?_; (case hd => rfl); (case hg => rfl); (case hr => first | (go_simp; done) | (go_simp; rfl)); (case hp => exact (Reps.one (show Kd.M (Kd.int .u8) _ _ _ ((wrap64 (192 + (wrap64 (Int.tdiv a0 64)))) % 256) [.int .u8 ((wrap64 (192 + (wrap64 (Int.tdiv a0 64)))) % 256)] from rfl) (Reps.one (show Kd.M (Kd.int .u8) _ _ _ ((wrap64 (128 + (Int.tmod a0 64))) % 256) [.int .u8 ((wrap64 (128 + (Int.tmod a0 64))) % 256)] from rfl) (Reps.none _ _)))); intro v181 w6 ho7 hb hg_ hnew_; clear hg_ hnew_; (first | rw [← Ny180.out] at ho7 | (simp only [Int.reduceToNat] at ho7; rw [← Ny180.out] at ho7)); have HO182 := zA (Kd.R_lower ho7 (below_size z_)); replace HB := zA (below_step z_ hb); clear hb ho7))
   go_ret; exact ⟨_, ze, by (with_reducible repeat (first | apply Kd.R_alloc | apply Kd.R_drewN | apply Kd.R_drew)); exact HO182.out, z_⟩
  ·rw [if_neg c5] at H; have c5b0 : decide (a0 < 2048) = false := decide_eq_false c5; clear c5
   by_cases c8 : a0 < 65536
   ·rw [if_pos c8] at H; have c8b0 : decide (a0 < 65536) = true := decide_eq_true c8; clear c8; obtain ⟨y183, hy183⟩ : ∃ y_ : List Int, y_ = (([(wrap64 (224 + (wrap64 (Int.tdiv a0 4096)))) % 256, (wrap64 (128 + (Int.tmod (wrap64 (Int.tdiv a0 64)) 64))) % 256, (wrap64 (128 + (Int.tmod a0 64))) % 256] : List Int)) := ⟨_, rfl⟩; replace H : (some y183) = some r := zh hy183; have Ny183 := zA hy183; clear hy183; obtain rfl := Option.some.inj H; go_enter Tryd.func184, Tryd.ntmps184; go_wp2_with (first | ((with_reducible refine gate_dst (N := 34) rfl ?_); refine Kd.R_lit (Kd.int .u8) _ 5 ?hg (N := 34) ?hd (xs := ([(wrap64 (224 + (wrap64 (Int.tdiv a0 4096)))) % 256, (wrap64 (128 + (Int.tmod (wrap64 (Int.tdiv a0 64)) 64))) % 256, (wrap64 (128 + (Int.tmod a0 64))) % 256] : List Int)) (inner := [.int .u8 ((wrap64 (224 + (wrap64 (Int.tdiv a0 4096)))) % 256), .int .u8 ((wrap64 (128 + (Int.tmod (wrap64 (Int.tdiv a0 64)) 64))) % 256), .int .u8 ((wrap64 (128 + (Int.tmod a0 64))) % 256)]) (ok := fun _ => True) (okp := fun _ => True) ?hr ?hp (fun _ hk => hk) trivial (Below.refl _ _) (Nat.le_refl _) (by simp) ?_; (case hd => rfl); (case hg => rfl); (case hr => first | (go_simp; done) | (go_simp; rfl)); (case hp => exact (Reps.one (show Kd.M (Kd.int .u8) _ _ _ ((wrap64 (224 + (wrap64 (Int.tdiv a0 4096)))) % 256) [.int .u8 ((wrap64 (224 + (wrap64 (Int.tdiv a0 4096)))) % 256)] from rfl) (Reps.one (show Kd.M (Kd.int .u8) _ _ _ ((wrap64 (128 + (Int.tmod (wrap64 (Int.tdiv a0 64)) 64))) % 256) [.int .u8 ((wrap64 (128 + (Int.tmod (wrap64 (Int.tdiv a0 64)) 64))) % 256)] from rfl) (Reps.one (show Kd.M (Kd.int .u8) _ _ _ ((wrap64 (128 + (Int.tmod a0 64))) % 256) [.int .u8 ((wrap64 (128 + (Int.tmod a0 64))) % 256)] from rfl) (Reps.none _ _))))); intro v184 w9 ho10 hb hg_ hnew_; clear hg_ hnew_; (first | rw [← Ny183.out] at ho10 | (simp only [Int.reduceToNat] at ho10; rw [← Ny183.out] at ho10)); have HO185 := zA (Kd.R_lower ho10 (below_size z_)); replace HB := zA (below_step z_ hb); clear hb ho10))
    go_ret; exact ⟨_, ze, by (with_reducible repeat (first | apply Kd.R_alloc | apply Kd.R_drewN | apply Kd.R_drew)); exact HO185.out, z_⟩
   ·rw [if_neg c8] at H; have c8b0 : decide (a0 < 65536) = false := decide_eq_false c8; clear c8; obtain ⟨y186, hy186⟩ : ∃ y_ : List Int, y_ = (([(wrap64 (240 + (wrap64 (Int.tdiv a0 262144)))) % 256, (wrap64 (128 + (Int.tmod (wrap64 (Int.tdiv a0 4096)) 64))) % 256, (wrap64 (128 + (Int.tmod (wrap64 (Int.tdiv a0 64)) 64))) % 256, (wrap64 (128 + (Int.tmod a0 64))) % 256] : List Int)) := ⟨_, rfl⟩; replace H : (some y186) = some r := zh hy186; have Ny186 := zA hy186; clear hy186; obtain rfl := Option.some.inj H; go_enter Tryd.func184, Tryd.ntmps184; go_wp2_with (first | ((with_reducible refine gate_dst (N := 53) rfl ?_); refine Kd.R_lit (Kd.int .u8) _ 5 ?hg (N := 53) ?hd (xs := ([(wrap64 (240 + (wrap64 (Int.tdiv a0 262144)))) % 256, (wrap64 (128 + (Int.tmod (wrap64 (Int.tdiv a0 4096)) 64))) % 256, (wrap64 (128 + (Int.tmod (wrap64 (Int.tdiv a0 64)) 64))) % 256, (wrap64 (128 + (Int.tmod a0 64))) % 256] : List Int)) (inner := [.int .u8 ((wrap64 (240 + (wrap64 (Int.tdiv a0 262144)))) % 256), .int .u8 ((wrap64 (128 + (Int.tmod (wrap64 (Int.tdiv a0 4096)) 64))) % 256), .int .u8 ((wrap64 (128 + (Int.tmod (wrap64 (Int.tdiv a0 64)) 64))) % 256), .int .u8 ((wrap64 (128 + (Int.tmod a0 64))) % 256)]) (ok := fun _ => True) (okp := fun _ => True) ?hr ?hp (fun _ hk => hk) trivial (Below.refl _ _) (Nat.le_refl _) (by simp) ?_; (case hd => rfl); (case hg => rfl); (case hr => first | (go_simp; done) | (go_simp; rfl)); (case hp => exact (Reps.one (show Kd.M (Kd.int .u8) _ _ _ ((wrap64 (240 + (wrap64 (Int.tdiv a0 262144)))) % 256) [.int .u8 ((wrap64 (240 + (wrap64 (Int.tdiv a0 262144)))) % 256)] from rfl) (Reps.one (show Kd.M (Kd.int .u8) _ _ _ ((wrap64 (128 + (Int.tmod (wrap64 (Int.tdiv a0 4096)) 64))) % 256) [.int .u8 ((wrap64 (128 + (Int.tmod (wrap64 (Int.tdiv a0 4096)) 64))) % 256)] from rfl) (Reps.one (show Kd.M (Kd.int .u8) _ _ _ ((wrap64 (128 + (Int.tmod (wrap64 (Int.tdiv a0 64)) 64))) % 256) [.int .u8 ((wrap64 (128 + (Int.tmod (wrap64 (Int.tdiv a0 64)) 64))) % 256)] from rfl) (Reps.one (show Kd.M (Kd.int .u8) _ _ _ ((wrap64 (128 + (Int.tmod a0 64))) % 256) [.int .u8 ((wrap64 (128 + (Int.tmod a0 64))) % 256)] from rfl) (Reps.none _ _)))))); intro v187 w11 ho12 hb hg_ hnew_; clear hg_ hnew_; (first | rw [← Ny186.out] at ho12 | (simp only [Int.reduceToNat] at ho12; rw [← Ny186.out] at ho12)); have HO188 := zA (Kd.R_lower ho12 (below_size z_)); replace HB := zA (below_step z_ hb); clear hb ho12))
    go_ret; exact ⟨_, ze, by (with_reducible repeat (first | apply Kd.R_alloc | apply Kd.R_drewN | apply Kd.R_drew)); exact HO188.out, z_⟩

end Go.Proofs.YthbeplmihjhoeaaDoor.PFnExactTickFleet
