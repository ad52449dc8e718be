-- made by wip/tools/myprint.py (this session's own program, over the kit's printer)
import Derived.Test.YthbeplmihjhoeaaDoorPFnExactBuildGraphx0
import Derived.Test.YthbeplmihjhoeaaDoorPFnExactBuildGraphx10
namespace Go.Proofs.YthbeplmihjhoeaaDoor.PFnExactBuildGraph
open Go.RowKit Go.Proofs.YthbeplmihjhoeaaDoorW.PrintWords Go.Proofs.YthbeplmihjhoeaaDoorW.PrintLast Go.Proofs.YthbeplmihjhoeaaDoorW.PrintMore
attribute [local go_sem] max2_int min2_int max_two min_two max_three min_three max_four min_four   -- for this text's walks alone
set_option linter.unusedVariables false
set_option linter.unusedSimpArgs false

/-! ### laws_markByteS: function 34 -/
def laws_markByteS.l0 : Nat → List Int → Int → Int → Option (Int × List Int)
 | 0, _, _, _ => none
 | k + 1, x0, x1, x5 => if x5 < (x0.length : Int) then (if 0 ≤ x5 then (laws_markByteS.l0 k (x0.set (x5 : Int).toNat ((x1) % 256)) (wrap64 (x1 + 1)) (wrap64 (x5 + 1))) else (none)) else (some (x1, x0))
def laws_markByteS.f (k : Nat) (l0 : List Int) (a1 : Int) : Option (Int × List Int) := laws_markByteS.l0 k l0 a1 0
theorem laws_markByteS.mono_l : ∀ k, (∀ y0 y1 y2, LeO (laws_markByteS.l0 k y0 y1 y2) (laws_markByteS.l0 (k + 1) y0 y1 y2))
 | 0 => fun _ _ _ r h => by simp [laws_markByteS.l0] at h
 | k + 1 => by
  have ih0 := laws_markByteS.mono_l k
  ·intro y0 y1 y2
   unfold laws_markByteS.l0
   exact zm
theorem laws_markByteS.mono : ∀ a0 a1 k, LeO (laws_markByteS.f k a0 a1) (laws_markByteS.f (k + 1) a0 a1) := by
 intro a0 a1 k
 have ih0 := laws_markByteS.mono_l k
 unfold laws_markByteS.f
 exact zm
set_option maxHeartbeats 8000000 in
set_option maxRecDepth 100000 in
theorem laws_markByteS.calls (k : Nat) (P0_ : Nat → Prop) (u9000_ : Value) (l0 : List Int) (a1 : Int) (r1 : Int) (r2 : List Int) (w0 w : World) (hB : Below w0.heap.size w0 w) (ho0 : Kd.R (Kd.int .u8) 5 w w0.heap.size P0_ u9000_ l0) (h : laws_markByteS.f k l0 a1 = some (r1, r2)) :
  Calls Tryd.prog 34 #[u9000_, .int .i64 a1] w fun e w' => e = .returned (.int .i64 r1) ∧ Kd.R (Kd.int .u8) 5 w' w0.heap.size (fun k_ => (P0_ k_ ∨ w.heap.size ≤ k_)) u9000_ r2 ∧ Below w0.heap.size w0 w' ∧ Kept w w' (fun k_ => P0_ k_) := by
 have HO0 := zA (show Kd.R (Kd.int .u8) 5 w w0.heap.size (fun k_ => (P0_ k_ ∨ w.heap.size ≤ k_)) u9000_ l0 from Kd.R_mono ho0 (fun k_ hk => (.inl hk)))
 have HK := zA (Kept.refl w (fun k_ => P0_ k_))
 have HW0 := zA hB.size
 have HB := zA hB
 clear hB
 have H : (laws_markByteS.l0 k l0 a1 0) = some (r1, r2) := h
 clear h
 have H' := zA H
 clear H
 go_enter Tryd.func34, Tryd.ntmps34
 go_wp2
 go_loopg [1, 5] k (fun kq v1 v5 w' => ∃ (x0_1 : List Int) (x1_1 : Int) (x5_1 : Int), v1 = .int .i64 x1_1 ∧ v5 = .int .i64 x5_1 ∧ Aside0 (laws_markByteS.l0 kq x0_1 x1_1 x5_1 = some (r1, r2)) ∧ Aside0 (kq ≤ k) ∧ Aside0 (Kd.R (Kd.int .u8) 5 w' w0.heap.size (fun k_ => (P0_ k_ ∨ w.heap.size ≤ k_)) u9000_ x0_1) ∧ Aside0 (Kept w w' (fun k_ => P0_ k_)) ∧ Aside0 (Below w0.heap.size w0 w'))
 case atStart => exact ⟨(l0), (a1), (0), zr, zr, H', ⟨Nat.le_refl _⟩, ⟨zR HO0.out⟩, ⟨by repeat (first | (with_reducible first | exact HK.out | apply Kept.alloc | apply Kept.drewN | apply Kept.drew) | exact HK.out)⟩, ⟨z_⟩⟩
 case round =>
  clear H'
  (try clear p2)
  obtain ⟨x0_1, x1_1, x5_1, rfl, rfl, HA, HK1, HO_0, HK, HB⟩ := hrel
  cases gk with
  | zero => exact absurd HA.out (by simp [laws_markByteS.l0])
  | succ k1 =>
   have H := HA.out
   clear HA
   simp only [laws_markByteS.l0] at H
   by_cases c3 : x5_1 < (x0_1.length : Int)
   ·rw [if_pos c3] at H
    have c3b0 : decide (x5_1 < (x0_1.length : Int)) = true := decide_eq_true c3
    clear c3
    by_cases c4 : 0 ≤ x5_1
    ·rw [if_pos c4] at H
     have c4b0 : decide (0 ≤ x5_1) = true := decide_eq_true c4
     clear c4
     obtain ⟨y314, hy314⟩ : ∃ y_ : List Int, y_ = (x0_1.set (x5_1 : Int).toNat ((x1_1) % 256)) := ⟨_, rfl⟩
     replace H : (laws_markByteS.l0 k1 y314 (wrap64 (x1_1 + 1)) (wrap64 (x5_1 + 1))) = some (r1, r2) := zh hy314
     have Ny314 := zA hy314
     clear hy314
     have H' := zA H
     clear H
     obtain ⟨Ao6, co6, eo6⟩ := Kd.R_slice HO_0.out
     subst eo6
     have p5 : 0 ≤ (x5_1 : Int) := zd
     have q5 : (x5_1 : Int) < ((x0_1.length : Int) : Int) := zd
     obtain ⟨go5, co5, eo5, gb5, gl5, cl5, HG5⟩ := Kd.R_form HO_0.out (by omega)
     (first | cases eo5 | (injection eo5 with ea_ en_ ec_; (first | subst ea_ | (injection ea_ with ea_; subst ea_)); subst ec_; clear en_))
     have GB5 := zA gb5
     have GG5 := zA HG5
     clear gb5 gl5 HG5
     have HMgo5 := zA (show (P0_ go5 ∨ w.heap.size ≤ go5) from (HO_0.out.1 _ rfl))
     obtain ⟨hx5_0, hf5_0⟩ := Kd.R_celln 0 HO_0.out (x5_1 : Int) p5 q5
     replace p5 := eq_true p5
     replace q5 := eq_true q5
     have HP7 := Kd.R_putg HO_0.out (x5_1 : Int) ((x1_1) % 256)
     go_wp2_with (first | ((with_reducible refine gate_store (t := 5) (p := 16) rfl ?_); refine store_event (t := 5) (p := 16) (v := ?vo_w8) (w1 := (wr.setCell ⟨go5, (x5_1 : Int).toNat, none⟩ (.int .u8 ((x1_1) % 256)))) ?hg ?ho ?hn ?hr ?_; (case ho => rfl); (case hg => rfl); (case hn => rfl); (case hr => first | (go_simp; done) | (go_simp; rfl)); intro w8 hw; have hg : wr.grownBy w8 (some go5) := (by rw [hw]; exact HP7.2); have hp_ : Kd.R (Kd.int .u8) 5 w8 w0.heap.size (fun k_ => (P0_ k_ ∨ w.heap.size ≤ k_)) (.slice (some ⟨go5, 0, none⟩) x0_1.length co6) y314 := (by rw [hw, Ny314.out]; exact HP7.1); clear HP7; have n0_ := zA (hp_); have n1_ := zA ((by rw [hw]; exact below_set (HB.out) GB5.out : Below w0.heap.size w0 w8)); have n2_ := zA (Kept.of_grown (S := (fun k_ => P0_ k_)) hg (by repeat (first | (with_reducible first | exact HK.out | apply Kept.alloc | apply Kept.drewN | apply Kept.drew) | exact HK.out)) (fun k_ e_ => (HO_0.out.1 k_ e_))); clear HO_0 HB HK; have HO_0 := n0_; have HB := n1_; have HK := n2_; clear n0_ n1_ n2_; clear hg hw hp_))
     go_roundg k1
     case measure => have := HK1.out; omega
     case rel => exact ⟨(y314), (wrap64 (x1_1 + 1)), (wrap64 (x5_1 + 1)), zr, zr, H', ⟨by have := HK1.out; omega⟩, ⟨zR HO_0.out⟩, ⟨by repeat (first | (with_reducible first | exact HK.out | apply Kept.alloc | apply Kept.drewN | apply Kept.drew) | exact HK.out)⟩, ⟨z_⟩⟩
    ·rw [if_neg c4] at H
     exact absurd H (by simp)
   ·rw [if_neg c3] at H
    have c3b0 : decide (x5_1 < (x0_1.length : Int)) = false := decide_eq_false c3
    clear c3
    simp only [Option.some.injEq, Prod.mk.injEq] at H
    obtain ⟨rfl, rfl⟩ := H
    obtain ⟨Ao9, co9, eo9⟩ := Kd.R_slice HO_0.out
    subst eo9
    go_wp2
    go_ret
    exact ⟨ze, by (with_reducible repeat (first | apply Kd.R_alloc | apply Kd.R_drewN | apply Kd.R_drew)); exact HO_0.out, z_, by repeat (first | (with_reducible first | exact HK.out | apply Kept.alloc | apply Kept.drewN | apply Kept.drew) | exact HK.out)⟩

/-! ### laws_markTargetS: function 78 -/
def totalT : List S120 → Int
 | [] => 0
 | x :: xs => x.f0.length + 2 + totalT xs
def smallT (l : List S120) : Bool := decide (l.length ≤ 1048576) && l.all fun x => decide (x.f0.length ≤ 1048576)
theorem smallT_iff {l : List S120} : smallT l = true ↔ l.length ≤ 1048576 ∧ ∀ x ∈ l, x.f0.length ≤ 1048576 := by
 unfold smallT; rw [Bool.and_eq_true, decide_eq_true_eq, List.all_eq_true]; simp only [decide_eq_true_eq]
theorem totalT_drop {l : List S120} {i : Nat} (h : i < l.length) : totalT (l.drop i) = (l.getD i z120).f0.length + 2 + totalT (l.drop (i + 1)) := by
 rw [List.drop_eq_getElem_cons h, List.getD_eq_getElem?_getD, List.getElem?_eq_getElem h]; rfl
theorem totalT_le {l : List S120} (h : ∀ x ∈ l, x.f0.length ≤ 1048576) : 0 ≤ totalT l ∧ totalT l ≤ 1048578 * l.length := by
 induction l with
 | nil => exact ⟨Int.le_refl _, Int.le_refl _⟩
 | cons x xs ih =>
  have a := ih (fun y hy => h y (List.mem_cons_of_mem _ hy))
  have b := h x List.mem_cons_self
  unfold totalT
  rw [List.length_cons]
  omega
theorem mkB_at (d : Nat) : ∀ (k : Nat) (x : List Int) (a i : Int), 0 ≤ i → (x.length : Int) - i = d → d < k → 0 ≤ a → a + d ≤ 4611686018427387904 → x.length ≤ 1048576 → ∃ y, laws_markByteS.l0 k x a i = some (a + d, y) := by
 induction d with
 | zero =>
  intro k x a i h0 hd hk _ _ _
  cases k with
  | zero => omega
  | succ k =>
   simp only [laws_markByteS.l0]
   rw [if_neg (by omega)]
   exact ⟨x, by rw [show a + ((0 : Nat) : Int) = a from Int.add_zero a]⟩
 | succ d ih =>
  intro k x a i h0 hd hk ha hb hl
  cases k with
  | zero => omega
  | succ k =>
   simp only [laws_markByteS.l0]
   rw [if_pos (by omega), if_pos h0, show wrap64 (a + 1) = a + 1 from by unfold wrap64; omega, show wrap64 (i + 1) = i + 1 from by unfold wrap64; omega]
   obtain ⟨y, e⟩ := ih k (x.set i.toNat (a % 256)) (a + 1) (i + 1) (by omega) (by rw [List.length_set]; omega) (by omega) (by omega) (by omega) (by rw [List.length_set]; exact hl)
   exact ⟨y, by rw [e]; congr 2; omega⟩
theorem mkB_some (x : List Int) (a : Int) (ha : 0 ≤ a) (hb : a ≤ 2305843009213693952) (hl : x.length ≤ 1048576) : ∃ y, laws_markByteS.f (x.length + 1) x a = some (a + x.length, y) :=
 mkB_at x.length (x.length + 1) x a 0 (by omega) (by omega) (by omega) ha (by omega) hl
section
variable {w : World} {base g n cap : Nat} {P0_ : Nat → Prop} {xs : List S120}
theorem tgt_open (h : Kd.S k120 120 w base P0_ (.slice (some ⟨g, 0, none⟩) n cap) xs) (i : Int) (h0 : 0 ≤ i) (h1 : i < n) :
  ∃ (oki : Nat → Prop) (A : Option Addr) (m : Nat), Kd.R (Kd.int .u8) 5 w base oki (.slice A (rd_T120 xs i).f0.length m) (rd_T120 xs i).f0 ∧ (∀ k, oki k → P0_ k ∧ k ≠ g) ∧
   w.cell? ⟨g, i.toNat * 3, none⟩ = some (.slice A (rd_T120 xs i).f0.length m) ∧ w.cell? ⟨g, i.toNat * 3 + 1, none⟩ = some (.int .i64 (rd_T120 xs i).f1) ∧ w.cell? ⟨g, i.toNat * 3 + 2, none⟩ = some (.int .i64 (rd_T120 xs i).f2) ∧
   (∀ j, w.frozen? ⟨g, i.toNat * 3 + j, none⟩ = false) ∧
   Kd.H k120 120 w base P0_ (.slice (some ⟨g, 0, none⟩) n cap) xs i oki [.slice A (rd_T120 xs i).f0.length m, .int .i64 (rd_T120 xs i).f1, .int .i64 (rd_T120 xs i).f2] := by
 obtain ⟨oki, c, hcl, hM, hcc, hfz, hoki, hH⟩ := Kd.S_elem h z120 i h0 h1
 obtain ⟨c0, c1, rfl, ⟨v, rfl, hR⟩, d0, d1, rfl, e0, e1⟩ := hM
 have e0 : d0 = [Value.int .i64 (rd_T120 xs i).f1] := e0
 have e1 : d1 = [Value.int .i64 (rd_T120 xs i).f2] := e1
 subst e0 e1
 obtain ⟨A, m, hv⟩ := Kd.R_slice hR
 subst hv
 exact ⟨oki, A, m, hR, hoki, hcc 0 _ rfl, hcc 1 _ rfl, hcc 2 _ rfl, hfz, hH⟩
theorem tgt_back {t : List Int} {f1 f2 : Int} {i : Int} {oki okp : Nat → Prop} {v : Value} (hH : Kd.H k120 120 w base P0_ (.slice (some ⟨g, 0, none⟩) n cap) xs i oki [v, .int .i64 f1, .int .i64 f2]) (hR : Kd.R (Kd.int .u8) 5 w base okp v t) (hok : ∀ k, okp k → oki k) :
  Kd.S k120 120 w base P0_ (.slice (some ⟨g, 0, none⟩) n cap) (xs.set i.toNat ⟨t, f1, f2⟩) :=
 Kd.H_back hH (x' := ⟨t, f1, f2⟩) (okp := okp) ⟨[v], [.int .i64 f1, .int .i64 f2], rfl, ⟨v, rfl, hR⟩, [.int .i64 f1], [.int .i64 f2], rfl, rfl, rfl⟩ hok
theorem tgt_put1 (h : Kd.S k120 120 w base P0_ (.slice (some ⟨g, 0, none⟩) n cap) xs) (i : Int) (h0 : 0 ≤ i) (h1 : i < n) (u : Int) :
  Kd.S k120 120 (w.setCell ⟨g, i.toNat * 3 + 1, none⟩ (.int .i64 u)) base P0_ (.slice (some ⟨g, 0, none⟩) n cap) (xs.set i.toNat ⟨(rd_T120 xs i).f0, u, (rd_T120 xs i).f2⟩) ∧ w.grownBy (w.setCell ⟨g, i.toNat * 3 + 1, none⟩ (.int .i64 u)) (some g) := by
 obtain ⟨oki, A, m, hR, _, _, _, _, _, hH⟩ := tgt_open h i h0 h1
 exact Kd.S_seg0 hH h0 h1 (seg := [.int .i64 u]) (j := 1) (by show 1 + 1 ≤ 3; omega) (x' := ⟨(rd_T120 xs i).f0, u, (rd_T120 xs i).f2⟩) (okp := oki)
  ⟨[_], [.int .i64 u, .int .i64 (rd_T120 xs i).f2], rfl, ⟨_, rfl, hR⟩, [.int .i64 u], [.int .i64 (rd_T120 xs i).f2], rfl, rfl, rfl⟩ (fun _ q => q)
theorem tgt_put2 (h : Kd.S k120 120 w base P0_ (.slice (some ⟨g, 0, none⟩) n cap) xs) (i : Int) (h0 : 0 ≤ i) (h1 : i < n) (u : Int) :
  Kd.S k120 120 (w.setCell ⟨g, i.toNat * 3 + 2, none⟩ (.int .i64 u)) base P0_ (.slice (some ⟨g, 0, none⟩) n cap) (xs.set i.toNat ⟨(rd_T120 xs i).f0, (rd_T120 xs i).f1, u⟩) ∧ w.grownBy (w.setCell ⟨g, i.toNat * 3 + 2, none⟩ (.int .i64 u)) (some g) := by
 obtain ⟨oki, A, m, hR, _, _, _, _, _, hH⟩ := tgt_open h i h0 h1
 exact Kd.S_seg0 hH h0 h1 (seg := [.int .i64 u]) (j := 2) (by show 2 + 1 ≤ 3; omega) (x' := ⟨(rd_T120 xs i).f0, (rd_T120 xs i).f1, u⟩) (okp := oki)
  ⟨[_], [.int .i64 (rd_T120 xs i).f1, .int .i64 u], rfl, ⟨_, rfl, hR⟩, [.int .i64 (rd_T120 xs i).f1], [.int .i64 u], rfl, rfl, rfl⟩ (fun _ q => q)
end
def laws_markTargetS.f (l0 : List S120) (a1 : Int) : Option Int := if smallT l0 = true ∧ 0 ≤ a1 ∧ a1 ≤ 1152921504606846976 then some (a1 + totalT l0) else none
set_option maxHeartbeats 8000000 in
set_option maxRecDepth 100000 in
theorem laws_markTargetS.calls (P0_ : Nat → Prop) (u9000_ : Value) (l0 : List S120) (a1 : Int) (r1 : Int) (w0 w : World) (hB : Below w0.heap.size w0 w) (ho0 : Kd.S k120 120 w w0.heap.size P0_ u9000_ l0) (h : laws_markTargetS.f l0 a1 = some r1) :
  Calls Tryd.prog 78 #[u9000_, .int .i64 a1] w fun e w' => e = .returned (.int .i64 r1) ∧ Below w0.heap.size w0 w' ∧ Kept w w' (fun k_ => P0_ k_ ∧ IsT w k_ [120, 5]) := by
 unfold laws_markTargetS.f at h
 by_cases hs : smallT l0 = true ∧ 0 ≤ a1 ∧ a1 ≤ 1152921504606846976
 ·rw [if_pos hs] at h
  obtain rfl := Option.some.inj h
  clear h
  obtain ⟨hs0, ha0, ha1⟩ := hs
  obtain ⟨hs1, hs2⟩ := smallT_iff.1 hs0
  have hle := totalT_le hs2
  have HO0 := zA ho0
  have HK := zA (Kept.refl w (fun k_ => P0_ k_ ∧ IsT w k_ [120, 5]))
  have HB := zA hB
  have HS2 := zA hs2
  have HLE := zA hle
  have HS1 := zA hs1
  have HA0 := zA ha0
  have HA1 := zA ha1
  clear hB ho0 hs2 hs1 hs0 hle ha0 ha1
  go_enter Tryd.func78, Tryd.ntmps78
  go_wp2
  go_loopg [1, 5] l0.length (fun kq v1 v5 w' => ∃ (x0_1 : List S120) (x1_1 : Int) (x5_1 : Int), v1 = .int .i64 x1_1 ∧ v5 = .int .i64 x5_1 ∧ Aside0 (0 ≤ x5_1 ∧ (kq : Int) + x5_1 = l0.length) ∧ Aside0 (0 ≤ x1_1 ∧ x1_1 + totalT (l0.drop x5_1.toNat) = a1 + totalT l0) ∧ Aside0 (x0_1.length = l0.length ∧ ∀ j : Nat, x5_1 ≤ j → x0_1.getD j z120 = l0.getD j z120) ∧ Aside0 (Kd.S k120 120 w' w0.heap.size P0_ u9000_ x0_1) ∧ Aside0 (Kept w w' (fun k_ => P0_ k_ ∧ IsT w k_ [120, 5])) ∧ Aside0 (Below w0.heap.size w0 w'))
  case atStart => exact ⟨l0, a1, 0, zr, zr, ⟨by omega, by omega⟩, ⟨HA0.out, rfl⟩, ⟨rfl, fun _ _ => rfl⟩, ⟨zS HO0.out⟩, ⟨HK.out.below (by repeat (first | exact Below.refl _ _ | apply below_alloc | apply pw_below_drewN | apply below_drew1))⟩, ⟨z_⟩⟩
  case round =>
   clear HO0 HK HB
   obtain ⟨x0_1, x1_1, x5_1, rfl, rfl, HI, HT, HN, HO, HK, HB⟩ := hrel
   by_cases c3 : x5_1 < (x0_1.length : Int)
   ·have c3b0 : decide (x5_1 < (x0_1.length : Int)) = true := decide_eq_true c3
    have c4 : 0 ≤ x5_1 := HI.out.1
    have hlen := HN.out.1
    have hd := totalT_drop (l := l0) (i := x5_1.toNat) (by omega)
    have hn : rd_T120 x0_1 x5_1 = l0.getD x5_1.toNat z120 := HN.out.2 x5_1.toNat (by omega)
    have hrow : (l0.getD x5_1.toNat z120).f0.length ≤ 1048576 := HS2.out _ (by rw [List.getD_eq_getElem?_getD, List.getElem?_eq_getElem (show x5_1.toNat < l0.length by omega)]; exact List.getElem_mem _)
    rw [← hn] at hrow hd
    have hdl := totalT_le (l := l0.drop (x5_1.toNat + 1)) (fun y hy => HS2.out y (List.mem_of_mem_drop hy))
    have hT := HT.out
    have hLE := HLE.out
    have hS1 := HS1.out
    have hA1 := HA1.out
    obtain ⟨y, A0⟩ := mkB_some (rd_T120 x0_1 x5_1).f0 x1_1 hT.1 (by omega) hrow
    have A := zA A0
    obtain ⟨g, cap, hu, hge, hlt, cs, hcs⟩ := Kd.S_form HO.out (show 0 < x0_1.length by omega)
    subst hu
    obtain ⟨oki, A1, n1, hR, hoki, hx0, hx1, hx2, hfz, hH⟩ := tgt_open HO.out x5_1 c4 c3
    have GR := zA hR
    have GH := zA hH
    have hok : ∀ q_, some q_ = (Value.slice A1 (rd_T120 x0_1 x5_1).f0.length n1).ownBlock → P0_ q_ ∧ IsT wr q_ [120, 5] := fun q_ e_ => ⟨(hoki q_ (hR.1 q_ e_.symm)).1, 5, by simp, Kd.R_typed hR q_ e_.symm⟩
    have GO := zA hok
    have GP := zA (show P0_ g from (Kd.S_R HO.out).1 g rfl)
    have GG := zA (show w0.heap.size ≤ g from hge)
    have hw1 : wrap64 (x1_1 + ((rd_T120 x0_1 x5_1).f0.length : Int) + 1) = x1_1 + ((rd_T120 x0_1 x5_1).f0.length : Int) + 1 := by unfold wrap64; omega
    have hw2 : wrap64 (x1_1 + ((rd_T120 x0_1 x5_1).f0.length : Int) + 1 + 1) = x1_1 + ((rd_T120 x0_1 x5_1).f0.length : Int) + 1 + 1 := by unfold wrap64; omega
    have HT2 := zA (show 0 ≤ x1_1 + ((rd_T120 x0_1 x5_1).f0.length : Int) + 1 + 1 ∧ x1_1 + ((rd_T120 x0_1 x5_1).f0.length : Int) + 1 + 1 + totalT (l0.drop (x5_1 + 1).toNat) = a1 + totalT l0 from ⟨by omega, by rw [show (x5_1 + 1).toNat = x5_1.toNat + 1 by omega]; omega⟩)
    have hw5 : wrap64 (x5_1 + 1) = x5_1 + 1 := by unfold wrap64; omega
    have HI2 := zA (show 0 ≤ wrap64 (x5_1 + 1) ∧ wrap64 (x5_1 + 1) = x5_1 + 1 from ⟨by omega, hw5⟩)
    have W1 := zA hw1
    have W2 := zA hw2
    have C4 := zA c4
    have C3 := zA c3
    clear hR hH hok hoki hcs hlt hge hfz hd hrow hdl hn hT hLE hS1 hA1 A0 hlen hw5 hw1 hw2 hx1 hx2
    replace c4 := eq_true c4
    replace c3 := eq_true c3
    go_wp2_with (go_at_call 34; (refine (laws_markByteS.calls _ (fun k_ => some k_ = (Value.slice A1 (rd_T120 x0_1 x5_1).f0.length n1).ownBlock) (.slice A1 (rd_T120 x0_1 x5_1).f0.length n1) (rd_T120 x0_1 x5_1).f0 x1_1 _ y w0 _ ?s1 ?s2 A.out).mono ?_); (case s1 => repeat (first | (with_reducible first | exact HB.out | apply below_alloc | apply pw_below_drewN | apply below_drew1) | exact HB.out)); (case s2 => (with_reducible repeat (first | apply Kd.R_alloc | apply Kd.R_drewN | apply Kd.R_drew)); exact Kd.R_tight rfl GR.out); rintro e w8 ⟨rfl, hr, hb, hk⟩; have n0_ := zA (tgt_back (Kd.H_step (Kd.H_below GH.out (by repeat (first | exact Below.refl _ _ | apply below_alloc | apply pw_below_drewN | apply below_drew1))) (fun q_ _ hn hlt => hk.2 q_ hlt (fun e_ => hn (GR.out.1 q_ e_.symm)))) (Kd.R_tight rfl hr) (fun q_ e_ => GR.out.1 q_ e_.symm)); have n1_ := zA hb; have hk2 := (Kept.of_below (w := wr) (by repeat (first | exact Below.refl _ _ | apply below_alloc | apply pw_below_drewN | apply below_drew1)) (fun k_ => some k_ = (Value.slice A1 (rd_T120 x0_1 x5_1).f0.length n1).ownBlock)).then_ hk (fun _ q => .inl q); have n2_ := zA (HK.out.then_ hk2 (fun q_ e_ => (Nat.lt_or_ge q_ w.heap.size).elim (fun hq => .inl (Kept.inS HK.out hq (GO.out q_ e_).1 (GO.out q_ e_).2)) .inr)); clear hr hb hk hk2 GR GH GO hx0; clear HO HB HK; have HO := n0_; have HB := n1_; have HK := n2_; clear n0_ n1_ n2_; obtain ⟨oki, A2, n2, _, _, _, hx1, hx2, hfz, _⟩ := tgt_open HO.out x5_1 C4.out C3.out; have hf1 := hfz 1; have hf2 := hfz 2; clear hfz)
    have P1 := tgt_put1 HO.out x5_1 C4.out C3.out (x1_1 + ((rd_T120 x0_1 x5_1).f0.length : Int))
    have P2 := tgt_put2 P1.1 x5_1 C4.out C3.out (wrap64 (x1_1 + ((rd_T120 x0_1 x5_1).f0.length : Int) + 1))
    have K0 : ∀ k, some g = some k → (fun k_ => P0_ k_ ∧ IsT w k_ [120, 5]) k ∨ w.heap.size ≤ k := fun k e => by
     cases e
     exact (Nat.lt_or_ge g w.heap.size).elim (fun hq => .inl (Kept.inS HK.out hq GP.out ⟨120, by simp, Kd.S_typed HO.out g rfl⟩)) .inr
    have K2 := Kept.of_grown P2.2 (Kept.of_grown P1.2 HK.out K0) K0
    go_roundg (l0.length - (x5_1 + 1).toNat)
    case measure => have a := HI.out; have b := C3.out; have d := HN.out.1; omega
    case rel =>
     refine ⟨((x0_1.set x5_1.toNat ⟨y, _, _⟩).set x5_1.toNat ⟨_, _, _⟩).set x5_1.toNat ⟨_, _, _⟩, _, _, zr, zr, ⟨by have a := HI.out; have b := HI2.out; have d := HN.out.1; have b2 := C3.out; omega⟩, ⟨by rw [HI2.out.2, W1.out, W2.out]; exact HT2.out⟩, ⟨by simp only [List.length_set]; exact HN.out.1, fun j hj => ?_⟩, ⟨zS P2.1⟩, ⟨K2.below (by repeat (first | exact Below.refl _ _ | apply below_alloc | apply pw_below_drewN | apply below_drew1))⟩, ⟨below_set (below_set HB.out GG.out) GG.out⟩⟩
     have a := HI.out
     have b := HI2.out
     simp only [List.getD_eq_getElem?_getD]
     rw [List.getElem?_set_ne (by omega), List.getElem?_set_ne (by omega), List.getElem?_set_ne (by omega)]
     have := HN.out.2 j (by omega)
     simpa only [List.getD_eq_getElem?_getD] using this
   ·have c3b0 : decide (x5_1 < (x0_1.length : Int)) = false := decide_eq_false c3
    have e : x1_1 = a1 + totalT l0 := by
     have a := HT.out.2
     rw [List.drop_eq_nil_of_le (by have b := HN.out.1; omega)] at a
     have z : totalT [] = 0 := rfl
     omega
    subst e
    obtain ⟨Ao9, co9, eo9⟩ := Kd.S_slice HO.out
    subst eo9
    go_wp2
    go_ret
    exact ⟨rfl, z_, HK.out.below (by repeat (first | exact Below.refl _ _ | apply below_alloc | apply pw_below_drewN | apply below_drew1))⟩
 ·rw [if_neg hs] at h; cases h

/-! ### laws_markLayout: function 19 -/
theorem mkL_at (d : Nat) : ∀ (k : Nat) (x : List Int) (a i : Int), 0 ≤ i → (x.length : Int) - i = d → d < k → 0 ≤ a → a + d ≤ 4611686018427387904 → x.length ≤ 1048576 → ∃ y, laws_markIntS.l0 k x a i = some (a + d, y) := by
 induction d with
 | zero =>
  intro k x a i h0 hd hk _ _ _
  cases k with
  | zero => omega
  | succ k =>
   simp only [laws_markIntS.l0]
   rw [if_neg (by omega)]
   exact ⟨x, by rw [show a + ((0 : Nat) : Int) = a from Int.add_zero a]⟩
 | succ d ih =>
  intro k x a i h0 hd hk ha hb hl
  cases k with
  | zero => omega
  | succ k =>
   simp only [laws_markIntS.l0]
   rw [if_pos (by omega), if_pos h0, show wrap64 (a + 1) = a + 1 from by unfold wrap64; omega, show wrap64 (i + 1) = i + 1 from by unfold wrap64; omega]
   obtain ⟨y, e⟩ := ih k (x.set i.toNat a) (a + 1) (i + 1) (by omega) (by rw [List.length_set]; omega) (by omega) (by omega) (by omega) (by rw [List.length_set]; exact hl)
   exact ⟨y, by rw [e]; congr 2; omega⟩
theorem mkL_some (x : List Int) (a : Int) (ha : 0 ≤ a) (hb : a ≤ 2305843009213693952) (hl : x.length ≤ 1048576) : ∃ y, laws_markIntS.f (x.length + 1) x a = some (a + x.length, y) :=
 mkL_at x.length (x.length + 1) x a 0 (by omega) (by omega) (by omega) ha (by omega) hl
def laws_markLayout.f (a0_0 a0_1 : Int) (l0_2 l0_3 : List Int) (l0_4 : List S120) (a1 : Int) : Option Int := if l0_2.length ≤ 1048576 ∧ l0_3.length ≤ 1048576 ∧ 0 ≤ a1 ∧ a1 ≤ 1048576 then laws_markTargetS.f l0_4 (a1 + l0_2.length + l0_3.length) else none
set_option maxHeartbeats 8000000 in
set_option maxRecDepth 100000 in
theorem laws_markLayout.calls (a0_0 a0_1 : Int) (P0_2 : Nat → Prop) (u0_2 : Value) (l0_2 : List Int) (P0_3 : Nat → Prop) (u0_3 : Value) (l0_3 : List Int) (P0_4 : Nat → Prop) (u0_4 : Value) (l0_4 : List S120) (a1 r : Int) (w0 w : World) (hB : Below w0.heap.size w0 w)
  (hC : Kd.R (Kd.int .i64) 3 w w0.heap.size P0_2 u0_2 l0_2) (h23 : ∀ k_, P0_2 k_ → ¬ P0_3 k_) (hE : Kd.R (Kd.int .i64) 3 w w0.heap.size P0_3 u0_3 l0_3) (h32 : ∀ k_, P0_3 k_ → ¬ P0_2 k_) (hT : Kd.S k120 120 w w0.heap.size P0_4 u0_4 l0_4) (h : laws_markLayout.f a0_0 a0_1 l0_2 l0_3 l0_4 a1 = some r) :
  Calls Tryd.prog 19 #[.agg #[.int .i64 a0_0, .int .i64 a0_1, u0_2, u0_3, u0_4], .int .i64 a1] w fun e w' => e = .returned (.int .i64 r) ∧ Below w0.heap.size w0 w' ∧ Kept w w' (fun k_ => (P0_2 k_ ∨ P0_3 k_) ∨ (P0_4 k_ ∧ IsT w k_ [120, 5])) := by
 have hu36 := Tryd.underlying33
 obtain ⟨AC, cC, eC⟩ := Kd.R_slice hC
 obtain ⟨AE, cE, eE⟩ := Kd.R_slice hE
 obtain ⟨AT, cT, eT⟩ := Kd.S_slice hT
 subst eC eE eT
 unfold laws_markLayout.f at h
 by_cases hs : l0_2.length ≤ 1048576 ∧ l0_3.length ≤ 1048576 ∧ 0 ≤ a1 ∧ a1 ≤ 1048576
 ·rw [if_pos hs] at h
  obtain ⟨y1, B1⟩ := mkL_some l0_2 a1 hs.2.2.1 (by omega) hs.1
  obtain ⟨y2, B2⟩ := mkL_some l0_3 (a1 + l0_2.length) (by omega) (by omega) hs.2.1
  have A1 := zA B1
  have A2 := zA B2
  have A3 := zA h
  have HC := zA hC
  have HE := zA hE
  have HT := zA hT
  have H23 := zA h23
  have HK := zA (Kept.refl w (fun k_ => (P0_2 k_ ∨ P0_3 k_) ∨ (P0_4 k_ ∧ IsT w k_ [120, 5])))
  have HB := zA hB
  clear B1 B2 h hC hE hT h23 h32 hB hs
  go_enter Tryd.func19, Tryd.ntmps19
  go_wp2_with (first | ((with_reducible refine gate_dst (N := 2) rfl ?_); refine box_event ?hg (N := 2) ?hd (cs := #[.int .i64 a0_0, .int .i64 a0_1, .slice AC l0_2.length cC, .slice AE l0_3.length cE, .slice AT l0_4.length cT]) (t := 33) ?hr ?_; (case hd => rfl); (case hg => rfl); (case hr => first | (go_simp; done) | (go_simp; rfl)); intro gb hg w6 hbox hb; have n0_ := zA (below_step z_ hb); have n1_ := zA hbox; have n2_ := zA (Kd.R_below (by (with_reducible repeat (first | apply Kd.R_alloc | apply Kd.R_drewN | apply Kd.R_drew)); exact HC.out) hb); have n3_ := zA (Kd.R_below (by (with_reducible repeat (first | apply Kd.R_alloc | apply Kd.R_drewN | apply Kd.R_drew)); exact HE.out) hb); have n4_ := zA (Kd.S_below (by (with_reducible repeat (first | apply Kd.S_alloc | apply Kd.S_drewN | apply Kd.S_drew)); exact HT.out) hb); have n5_ := zA ((HK.out.below (by repeat (first | exact Below.refl _ _ | apply below_alloc | apply pw_below_drewN | apply below_drew1))).below hb); clear HB HC HE HT HK hb hbox hg; have HB := n0_; have BK := n1_; have HC := n2_; have HE := n3_; have HT := n4_; have HK := n5_; clear n0_ n1_ n2_ n3_ n4_ n5_; have hc2 : w6.cell? ⟨gb, 2, none⟩ = some (.slice AC l0_2.length cC) := (blk_cell BK.out 2).trans rfl; have hc3 : w6.cell? ⟨gb, 3, none⟩ = some (.slice AE l0_3.length cE) := (blk_cell BK.out 3).trans rfl; have hc4 : w6.cell? ⟨gb, 4, none⟩ = some (.slice AT l0_4.length cT) := (blk_cell BK.out 4).trans rfl) | ((with_reducible refine gate_callee (f := 29) rfl ?_); refine goesL_ (some 8) rfl rfl Tryd.func29 (by kernel_rfl) rfl #[.slice AC l0_2.length cC, .int .i64 (a1)] rfl za ?_; (refine (laws_markIntS.calls _ (fun k_ => some k_ = (.slice AC l0_2.length cC : Value).ownBlock) (.slice AC l0_2.length cC) l0_2 (a1) _ y1 w0 _ ?s1 ?s2 A1.out).mono ?_); (case s1 => repeat (first | (with_reducible first | exact HB.out | apply below_alloc | apply pw_below_drewN | apply below_drew1) | exact HB.out)); (case s2 => exact Kd.R_tight rfl (by (with_reducible repeat (first | apply Kd.R_alloc | apply Kd.R_drewN | apply Kd.R_drew)); exact HC.out)); rintro e w7 ⟨rfl, hr, hb, hk⟩; refine ⟨_, rfl, ?_⟩; have n0_ := zA hb; have n1_ := zA (blk_keptO (by (with_reducible repeat (first | refine blk_drewN ?_ _ | refine blk_drew ?_ | refine blk_alloc ?_ _)); exact BK.out) hk (Kd.R_typed (by (with_reducible repeat (first | apply Kd.R_alloc | apply Kd.R_drewN | apply Kd.R_drew)); exact HC.out)) (by decide)); have n3_ := zA (Kd.R_kept (by (with_reducible repeat (first | apply Kd.R_alloc | apply Kd.R_drewN | apply Kd.R_drew)); exact HE.out) hk (fun k_ p_ e_ => H23.out k_ (HC.out.1 k_ e_.symm) p_)); have n4_ := zA (S_keptO (by (with_reducible repeat (first | apply Kd.S_alloc | apply Kd.S_drewN | apply Kd.S_drew)); exact HT.out) hk (Kd.R_typed (by (with_reducible repeat (first | apply Kd.R_alloc | apply Kd.R_drewN | apply Kd.R_drew)); exact HC.out)) (by decide)); have n5_ := zA ((HK.out.below (by repeat (first | exact Below.refl _ _ | apply below_alloc | apply pw_below_drewN | apply below_drew1))).then_ hk (fun k_ e_ => .inl (.inl (.inl (HC.out.1 k_ e_.symm))))); clear HB BK HC HE HT HK hr hb hk; have HB := n0_; have BK := n1_; have HE := n3_; have HT := n4_; have HK := n5_; clear n0_ n1_ n3_ n4_ n5_; have hc2 : w7.cell? ⟨gb, 2, none⟩ = some (.slice AC l0_2.length cC) := (blk_cell BK.out 2).trans rfl; have hc3 : w7.cell? ⟨gb, 3, none⟩ = some (.slice AE l0_3.length cE) := (blk_cell BK.out 3).trans rfl; have hc4 : w7.cell? ⟨gb, 4, none⟩ = some (.slice AT l0_4.length cT) := (blk_cell BK.out 4).trans rfl) | ((with_reducible refine gate_callee (f := 29) rfl ?_); refine goesL_ (some 12) rfl rfl Tryd.func29 (by kernel_rfl) rfl #[.slice AE l0_3.length cE, .int .i64 (a1 + l0_2.length)] rfl za ?_; (refine (laws_markIntS.calls _ (fun k_ => some k_ = (.slice AE l0_3.length cE : Value).ownBlock) (.slice AE l0_3.length cE) l0_3 (a1 + l0_2.length) _ y2 w0 _ ?s1 ?s2 A2.out).mono ?_); (case s1 => repeat (first | (with_reducible first | exact HB.out | apply below_alloc | apply pw_below_drewN | apply below_drew1) | exact HB.out)); (case s2 => exact Kd.R_tight rfl (by (with_reducible repeat (first | apply Kd.R_alloc | apply Kd.R_drewN | apply Kd.R_drew)); exact HE.out)); rintro e w8 ⟨rfl, hr, hb, hk⟩; refine ⟨_, rfl, ?_⟩; have n0_ := zA hb; have n1_ := zA (blk_keptO (by (with_reducible repeat (first | refine blk_drewN ?_ _ | refine blk_drew ?_ | refine blk_alloc ?_ _)); exact BK.out) hk (Kd.R_typed (by (with_reducible repeat (first | apply Kd.R_alloc | apply Kd.R_drewN | apply Kd.R_drew)); exact HE.out)) (by decide)); have n4_ := zA (S_keptO (by (with_reducible repeat (first | apply Kd.S_alloc | apply Kd.S_drewN | apply Kd.S_drew)); exact HT.out) hk (Kd.R_typed (by (with_reducible repeat (first | apply Kd.R_alloc | apply Kd.R_drewN | apply Kd.R_drew)); exact HE.out)) (by decide)); have n5_ := zA ((HK.out.below (by repeat (first | exact Below.refl _ _ | apply below_alloc | apply pw_below_drewN | apply below_drew1))).then_ hk (fun k_ e_ => .inl (.inl (.inr (HE.out.1 k_ e_.symm))))); clear HB BK HE HT HK hr hb hk; have HB := n0_; have BK := n1_; have HT := n4_; have HK := n5_; clear n0_ n1_ n4_ n5_; have hc2 : w8.cell? ⟨gb, 2, none⟩ = some (.slice AC l0_2.length cC) := (blk_cell BK.out 2).trans rfl; have hc3 : w8.cell? ⟨gb, 3, none⟩ = some (.slice AE l0_3.length cE) := (blk_cell BK.out 3).trans rfl; have hc4 : w8.cell? ⟨gb, 4, none⟩ = some (.slice AT l0_4.length cT) := (blk_cell BK.out 4).trans rfl) | (go_at_call 78; (refine (laws_markTargetS.calls P0_4 _ l0_4 (a1 + l0_2.length + l0_3.length) _ w0 _ ?s1 ?s2 A3.out).mono ?_); (case s1 => repeat (first | (with_reducible first | exact HB.out | apply below_alloc | apply pw_below_drewN | apply below_drew1) | exact HB.out)); (case s2 => exact (by (with_reducible repeat (first | apply Kd.S_alloc | apply Kd.S_drewN | apply Kd.S_drew)); exact HT.out)); rintro e w9 ⟨rfl, hb, hk⟩; have n0_ := zA hb; have n5_ := zA (Kept.thenT (HK.out.below (by repeat (first | exact Below.refl _ _ | apply below_alloc | apply pw_below_drewN | apply below_drew1))) hk (fun _ p q => .inr ⟨p, q⟩)); clear HB BK HT HK hb hk; have HB := n0_; have HK := n5_; clear n0_ n5_))
  go_ret
  exact ⟨rfl, z_, HK.out.below (by repeat (first | exact Below.refl _ _ | apply below_alloc | apply pw_below_drewN | apply below_drew1))⟩
 ·rw [if_neg hs] at h; cases h

/-! ### laws_markGraph: function 20 -/
def laws_markGraph.f (k : Nat) (a0_0 : Int) (l0_1 : List Int) (l0_2 : List Int) (l0_3 : List Int) (l0_4 : List Int) (a1 : Int) : Option (Int × List Int × List Int × List Int × List Int) := (laws_markIntS.f k l0_1 a1).bind fun bt316 => ((laws_markIntS.f k l0_2 bt316.1).bind fun bt318 => ((laws_markIntS.f k l0_3 bt318.1).bind fun bt320 => ((laws_markIntS.f k l0_4 bt320.1).bind fun bt322 => (some (bt322.1, bt316.2, bt318.2, bt320.2, bt322.2)))))
theorem laws_markGraph.mono : ∀ a0 a1 a2 a3 a4 a5 k, LeO (laws_markGraph.f k a0 a1 a2 a3 a4 a5) (laws_markGraph.f (k + 1) a0 a1 a2 a3 a4 a5) := by
 intro a0 a1 a2 a3 a4 a5 k
 unfold laws_markGraph.f
 have m1 := @laws_markIntS.mono
 exact zm
set_option maxHeartbeats 8000000 in
set_option maxRecDepth 100000 in
theorem laws_markGraph.calls (k : Nat) (a0_0 : Int) (P0_1_ : Nat → Prop) (u9000_ : Value) (l0_1 : List Int) (P0_2_ : Nat → Prop) (u9001_ : Value) (l0_2 : List Int) (P0_3_ : Nat → Prop) (u9002_ : Value) (l0_3 : List Int) (P0_4_ : Nat → Prop) (u9003_ : Value) (l0_4 : List Int) (a1 : Int) (r1 : Int) (r2 : List Int) (r3 : List Int) (r4 : List Int) (r5 : List Int) (w0 w : World) (hB : Below w0.heap.size w0 w) (ho0_1 : Kd.R (Kd.int .i64) 3 w w0.heap.size P0_1_ u9000_ l0_1) (hp0_1_0_2 : ∀ k_, P0_1_ k_ → ¬ P0_2_ k_) (hp0_1_0_3 : ∀ k_, P0_1_ k_ → ¬ P0_3_ k_) (hp0_1_0_4 : ∀ k_, P0_1_ k_ → ¬ P0_4_ k_) (ho0_2 : Kd.R (Kd.int .i64) 3 w w0.heap.size P0_2_ u9001_ l0_2) (hp0_2_0_1 : ∀ k_, P0_2_ k_ → ¬ P0_1_ k_) (hp0_2_0_3 : ∀ k_, P0_2_ k_ → ¬ P0_3_ k_) (hp0_2_0_4 : ∀ k_, P0_2_ k_ → ¬ P0_4_ k_) (ho0_3 : Kd.R (Kd.int .i64) 3 w w0.heap.size P0_3_ u9002_ l0_3) (hp0_3_0_1 : ∀ k_, P0_3_ k_ → ¬ P0_1_ k_) (hp0_3_0_2 : ∀ k_, P0_3_ k_ → ¬ P0_2_ k_) (hp0_3_0_4 : ∀ k_, P0_3_ k_ → ¬ P0_4_ k_) (ho0_4 : Kd.R (Kd.int .i64) 3 w w0.heap.size P0_4_ u9003_ l0_4) (hp0_4_0_1 : ∀ k_, P0_4_ k_ → ¬ P0_1_ k_) (hp0_4_0_2 : ∀ k_, P0_4_ k_ → ¬ P0_2_ k_) (hp0_4_0_3 : ∀ k_, P0_4_ k_ → ¬ P0_3_ k_) (h : laws_markGraph.f k a0_0 l0_1 l0_2 l0_3 l0_4 a1 = some (r1, r2, r3, r4, r5)) :
  Calls Tryd.prog 20 #[.agg #[.int .i64 a0_0, u9000_, u9001_, u9002_, u9003_], .int .i64 a1] w fun e w' => e = .returned (.int .i64 r1) ∧ Kd.R (Kd.int .i64) 3 w' w0.heap.size (fun k_ => ((P0_1_ k_ ∨ P0_2_ k_ ∨ P0_3_ k_ ∨ P0_4_ k_) ∨ w.heap.size ≤ k_)) u9000_ r2 ∧ Kd.R (Kd.int .i64) 3 w' w0.heap.size (fun k_ => ((P0_1_ k_ ∨ P0_2_ k_ ∨ P0_3_ k_ ∨ P0_4_ k_) ∨ w.heap.size ≤ k_)) u9001_ r3 ∧ Kd.R (Kd.int .i64) 3 w' w0.heap.size (fun k_ => ((P0_1_ k_ ∨ P0_2_ k_ ∨ P0_3_ k_ ∨ P0_4_ k_) ∨ w.heap.size ≤ k_)) u9002_ r4 ∧ Kd.R (Kd.int .i64) 3 w' w0.heap.size (fun k_ => ((P0_1_ k_ ∨ P0_2_ k_ ∨ P0_3_ k_ ∨ P0_4_ k_) ∨ w.heap.size ≤ k_)) u9003_ r5 ∧ Below w0.heap.size w0 w' ∧ Kept w w' (fun k_ => P0_1_ k_ ∨ P0_2_ k_ ∨ P0_3_ k_ ∨ P0_4_ k_) := by
 have hu28 := Tryd.underlying28
 have HO0_1 := zA (show Kd.R (Kd.int .i64) 3 w w0.heap.size (fun k_ => ((P0_1_ k_ ∨ P0_2_ k_ ∨ P0_3_ k_ ∨ P0_4_ k_) ∨ w.heap.size ≤ k_) ∧ zO k_ (u9001_) ∧ zO k_ (u9002_) ∧ zO k_ (u9003_)) u9000_ l0_1 from Kd.R_mono ho0_1 (fun k_ hk => ⟨(.inl (.inl hk)), fun e_ => hp0_1_0_2 k_ hk (ho0_2.1 k_ e_.symm), fun e_ => hp0_1_0_3 k_ hk (ho0_3.1 k_ e_.symm), fun e_ => hp0_1_0_4 k_ hk (ho0_4.1 k_ e_.symm)⟩))
 have HO0_2 := zA (show Kd.R (Kd.int .i64) 3 w w0.heap.size (fun k_ => ((P0_1_ k_ ∨ P0_2_ k_ ∨ P0_3_ k_ ∨ P0_4_ k_) ∨ w.heap.size ≤ k_) ∧ zO k_ (u9000_) ∧ zO k_ (u9002_) ∧ zO k_ (u9003_)) u9001_ l0_2 from Kd.R_mono ho0_2 (fun k_ hk => ⟨(.inl (.inr (.inl hk))), fun e_ => hp0_2_0_1 k_ hk (ho0_1.1 k_ e_.symm), fun e_ => hp0_2_0_3 k_ hk (ho0_3.1 k_ e_.symm), fun e_ => hp0_2_0_4 k_ hk (ho0_4.1 k_ e_.symm)⟩))
 have HO0_3 := zA (show Kd.R (Kd.int .i64) 3 w w0.heap.size (fun k_ => ((P0_1_ k_ ∨ P0_2_ k_ ∨ P0_3_ k_ ∨ P0_4_ k_) ∨ w.heap.size ≤ k_) ∧ zO k_ (u9000_) ∧ zO k_ (u9001_) ∧ zO k_ (u9003_)) u9002_ l0_3 from Kd.R_mono ho0_3 (fun k_ hk => ⟨(.inl (.inr (.inr (.inl hk)))), fun e_ => hp0_3_0_1 k_ hk (ho0_1.1 k_ e_.symm), fun e_ => hp0_3_0_2 k_ hk (ho0_2.1 k_ e_.symm), fun e_ => hp0_3_0_4 k_ hk (ho0_4.1 k_ e_.symm)⟩))
 have HO0_4 := zA (show Kd.R (Kd.int .i64) 3 w w0.heap.size (fun k_ => ((P0_1_ k_ ∨ P0_2_ k_ ∨ P0_3_ k_ ∨ P0_4_ k_) ∨ w.heap.size ≤ k_) ∧ zO k_ (u9000_) ∧ zO k_ (u9001_) ∧ zO k_ (u9002_)) u9003_ l0_4 from Kd.R_mono ho0_4 (fun k_ hk => ⟨(.inl (.inr (.inr (.inr hk)))), fun e_ => hp0_4_0_1 k_ hk (ho0_1.1 k_ e_.symm), fun e_ => hp0_4_0_2 k_ hk (ho0_2.1 k_ e_.symm), fun e_ => hp0_4_0_3 k_ hk (ho0_3.1 k_ e_.symm)⟩))
 have HK := zA (Kept.refl w (fun k_ => P0_1_ k_ ∨ P0_2_ k_ ∨ P0_3_ k_ ∨ P0_4_ k_))
 have HW0 := zA hB.size
 have HB := zA hB
 clear hB
 have H : ((laws_markIntS.f k l0_1 a1).bind fun bt316 => ((laws_markIntS.f k l0_2 bt316.1).bind fun bt318 => ((laws_markIntS.f k l0_3 bt318.1).bind fun bt320 => ((laws_markIntS.f k l0_4 bt320.1).bind fun bt322 => (some (bt322.1, bt316.2, bt318.2, bt320.2, bt322.2)))))) = some (r1, r2, r3, r4, r5) := h
 clear h
 replace H := Option.bind_eq_some_iff.mp H
 obtain ⟨⟨t316, t317⟩, A30, H⟩ := H
 replace H : ((laws_markIntS.f k l0_2 t316).bind fun bt318 => ((laws_markIntS.f k l0_3 bt318.1).bind fun bt320 => ((laws_markIntS.f k l0_4 bt320.1).bind fun bt322 => (some (bt322.1, t317, bt318.2, bt320.2, bt322.2))))) = some (r1, r2, r3, r4, r5) := H
 have A3 := zA A30
 clear A30
 replace H := Option.bind_eq_some_iff.mp H
 obtain ⟨⟨t318, t319⟩, A40, H⟩ := H
 replace H : ((laws_markIntS.f k l0_3 t318).bind fun bt320 => ((laws_markIntS.f k l0_4 bt320.1).bind fun bt322 => (some (bt322.1, t317, t319, bt320.2, bt322.2)))) = some (r1, r2, r3, r4, r5) := H
 have A4 := zA A40
 clear A40
 replace H := Option.bind_eq_some_iff.mp H
 obtain ⟨⟨t320, t321⟩, A50, H⟩ := H
 replace H : ((laws_markIntS.f k l0_4 t320).bind fun bt322 => (some (bt322.1, t317, t319, t321, bt322.2))) = some (r1, r2, r3, r4, r5) := H
 have A5 := zA A50
 clear A50
 replace H := Option.bind_eq_some_iff.mp H
 obtain ⟨⟨t322, t323⟩, A60, H⟩ := H
 replace H : (some (t322, t317, t319, t321, t323)) = some (r1, r2, r3, r4, r5) := H
 have A6 := zA A60
 clear A60
 simp only [Option.some.injEq, Prod.mk.injEq] at H
 obtain ⟨rfl, rfl, rfl, rfl, rfl⟩ := H
 obtain ⟨Ao7, co7, eo7⟩ := Kd.R_slice HO0_1.out
 subst eo7
 obtain ⟨Ao8, co8, eo8⟩ := Kd.R_slice HO0_2.out
 subst eo8
 obtain ⟨Ao9, co9, eo9⟩ := Kd.R_slice HO0_3.out
 subst eo9
 obtain ⟨Ao10, co10, eo10⟩ := Kd.R_slice HO0_4.out
 subst eo10
 go_enter Tryd.func20, Tryd.ntmps20
 go_wp2_with (first | ((with_reducible refine gate_dst (N := 2) rfl ?_); refine box_event ?hg (N := 2) ?hd (cs := #[.int .i64 a0_0, .slice Ao7 l0_1.length co7, .slice Ao8 l0_2.length co8, .slice Ao9 l0_3.length co9, .slice Ao10 l0_4.length co10]) (t := 28) ?hr ?_; (case hd => rfl); (case hg => rfl); (case hr => first | (go_simp; done) | (go_simp; rfl)); intro gb315 hg w11 hbox hb; have n0_ := zA (Kd.R_below (zR HO0_1.out) hb); have n1_ := zA (Kd.R_below (zR HO0_2.out) hb); have n2_ := zA (Kd.R_below (zR HO0_3.out) hb); have n3_ := zA (Kd.R_below (zR HO0_4.out) hb); have n4_ := zA (Kept.below (S := (fun k_ => P0_1_ k_ ∨ P0_2_ k_ ∨ P0_3_ k_ ∨ P0_4_ k_)) (by repeat (first | (with_reducible first | exact HK.out | apply Kept.alloc | apply Kept.drewN | apply Kept.drew) | exact HK.out)) hb); have n5_ := zA (below_step z_ hb); have n6_ := zA (hbox); have n7_ := zA ((by rw [hg]; exact (by first | exact HK.out.1 | exact (show Kept w _ (fun k_ => P0_1_ k_ ∨ P0_2_ k_ ∨ P0_3_ k_ ∨ P0_4_ k_) from by repeat (first | (with_reducible first | exact HK.out | apply Kept.alloc | apply Kept.drewN | apply Kept.drew) | exact HK.out)).1) : w.heap.size ≤ gb315)); have n8_ := zA ((by rw [hg]; exact (below_size z_) : w0.heap.size ≤ gb315)); clear HO0_1 HO0_2 HO0_3 HO0_4 HK HB; have HO0_1 := n0_; have HO0_2 := n1_; have HO0_3 := n2_; have HO0_4 := n3_; have HK := n4_; have HB := n5_; have BK315 := n6_; have GW315 := n7_; have GE315 := n8_; clear n0_ n1_ n2_ n3_ n4_ n5_ n6_ n7_ n8_; clear hb hbox hg; obtain ⟨hcz12_0, hcz12_1, hcz12_2, hcz12_3, hcz12_4, hfz12_0, hfz12_1, hfz12_2, hfz12_3, hfz12_4⟩ := zh5 BK315.out) | ((with_reducible refine gate_callee (f := 29) rfl ?_); refine goesL_ (some 8) rfl rfl Tryd.func29 (by kernel_rfl) rfl #[.slice Ao7 l0_1.length co7, .int .i64 a1] rfl za ?_; (with_reducible refine (laws_markIntS.calls k (fun k_ => some k_ = (.slice Ao7 l0_1.length co7 : Value).ownBlock) (.slice Ao7 l0_1.length co7) l0_1 a1 t316 t317 w0 _ ?side1 ?side2 A3.out).mono ?_); (case side1 => repeat (first | (with_reducible first | exact HB.out | apply below_alloc | apply pw_below_drewN | apply below_drew1 | refine below_set ?_ GE315.out) | exact HB.out)); (case side2 => exact Kd.R_tight rfl HO0_1.out); rintro e w13 ⟨rfl, hy0, hb, hkp⟩; refine ⟨_, rfl, ?_⟩; have n0_ := zA (Kd.R_reok rfl hy0 (fun k_ e_ => HO0_1.out.1 k_ e_)); have n1_ := zA (Kd.R_mono (ok' := fun k_ => ((P0_1_ k_ ∨ P0_2_ k_ ∨ P0_3_ k_ ∨ P0_4_ k_) ∨ w.heap.size ≤ k_) ∧ zO k_ (.slice Ao7 l0_1.length co7) ∧ zO k_ (.slice Ao9 l0_3.length co9) ∧ zO k_ (.slice Ao10 l0_4.length co10)) (Kd.R_keptB (HO0_2.out) hkp (fun k_ hk_ hs_ => (hk_.2.1) hs_)) (fun k_ hk_ => ⟨hk_.1.1, hk_.1.2.1, hk_.1.2.2.1, hk_.1.2.2.2⟩)); have n2_ := zA (Kd.R_mono (ok' := fun k_ => ((P0_1_ k_ ∨ P0_2_ k_ ∨ P0_3_ k_ ∨ P0_4_ k_) ∨ w.heap.size ≤ k_) ∧ zO k_ (.slice Ao7 l0_1.length co7) ∧ zO k_ (.slice Ao8 l0_2.length co8) ∧ zO k_ (.slice Ao10 l0_4.length co10)) (Kd.R_keptB (HO0_3.out) hkp (fun k_ hk_ hs_ => (hk_.2.1) hs_)) (fun k_ hk_ => ⟨hk_.1.1, hk_.1.2.1, hk_.1.2.2.1, hk_.1.2.2.2⟩)); have n3_ := zA (Kd.R_mono (ok' := fun k_ => ((P0_1_ k_ ∨ P0_2_ k_ ∨ P0_3_ k_ ∨ P0_4_ k_) ∨ w.heap.size ≤ k_) ∧ zO k_ (.slice Ao7 l0_1.length co7) ∧ zO k_ (.slice Ao8 l0_2.length co8) ∧ zO k_ (.slice Ao9 l0_3.length co9)) (Kd.R_keptB (HO0_4.out) hkp (fun k_ hk_ hs_ => (hk_.2.1) hs_)) (fun k_ hk_ => ⟨hk_.1.1, hk_.1.2.1, hk_.1.2.2.1, hk_.1.2.2.2⟩)); have n4_ := zA (blk_kept (zb BK315.out) hkp (fun hs_ => (fun e_ => (Kd.R_ne HO0_1.out BK315.out (by decide)) e_) hs_)); have n5_ := zA (Kept.then_ (S := (fun k_ => P0_1_ k_ ∨ P0_2_ k_ ∨ P0_3_ k_ ∨ P0_4_ k_)) (by repeat (first | (with_reducible first | exact HK.out | apply Kept.alloc | apply Kept.drewN | apply Kept.drew | refine Kept.setCell ?_ (.inr GW315.out) _) | exact HK.out)) hkp (fun k_ hs_ => (fun e_ => (HO0_1.out.1 k_ e_.symm).1) hs_)); have n6_ := zA (hb); clear HO0_1 HO0_2 HO0_3 HO0_4 BK315 HK HB; have HO0_1 := n0_; have HO0_2 := n1_; have HO0_3 := n2_; have HO0_4 := n3_; have BK315 := n4_; have HK := n5_; have HB := n6_; clear n0_ n1_ n2_ n3_ n4_ n5_ n6_; (try clear hb); (try clear hkp); (try clear hy0); obtain ⟨hcz14_0, hcz14_1, hcz14_2, hcz14_3, hcz14_4, hfz14_0, hfz14_1, hfz14_2, hfz14_3, hfz14_4⟩ := zh5 BK315.out) | ((with_reducible refine gate_callee (f := 29) rfl ?_); refine goesL_ (some 12) rfl rfl Tryd.func29 (by kernel_rfl) rfl #[.slice Ao8 l0_2.length co8, .int .i64 t316] rfl za ?_; (with_reducible refine (laws_markIntS.calls k (fun k_ => some k_ = (.slice Ao8 l0_2.length co8 : Value).ownBlock) (.slice Ao8 l0_2.length co8) l0_2 t316 t318 t319 w0 _ ?side1 ?side2 A4.out).mono ?_); (case side1 => repeat (first | (with_reducible first | exact HB.out | apply below_alloc | apply pw_below_drewN | apply below_drew1 | refine below_set ?_ GE315.out) | exact HB.out)); (case side2 => exact Kd.R_tight rfl HO0_2.out); rintro e w15 ⟨rfl, hy0, hb, hkp⟩; refine ⟨_, rfl, ?_⟩; have n0_ := zA (Kd.R_mono (ok' := fun k_ => ((P0_1_ k_ ∨ P0_2_ k_ ∨ P0_3_ k_ ∨ P0_4_ k_) ∨ w.heap.size ≤ k_) ∧ zO k_ (.slice Ao8 l0_2.length co8) ∧ zO k_ (.slice Ao9 l0_3.length co9) ∧ zO k_ (.slice Ao10 l0_4.length co10)) (Kd.R_keptB (HO0_1.out) hkp (fun k_ hk_ hs_ => (hk_.2.1) hs_)) (fun k_ hk_ => ⟨hk_.1.1, hk_.1.2.1, hk_.1.2.2.1, hk_.1.2.2.2⟩)); have n1_ := zA (Kd.R_reok rfl hy0 (fun k_ e_ => HO0_2.out.1 k_ e_)); have n2_ := zA (Kd.R_mono (ok' := fun k_ => ((P0_1_ k_ ∨ P0_2_ k_ ∨ P0_3_ k_ ∨ P0_4_ k_) ∨ w.heap.size ≤ k_) ∧ zO k_ (.slice Ao7 l0_1.length co7) ∧ zO k_ (.slice Ao8 l0_2.length co8) ∧ zO k_ (.slice Ao10 l0_4.length co10)) (Kd.R_keptB (HO0_3.out) hkp (fun k_ hk_ hs_ => (hk_.2.2.1) hs_)) (fun k_ hk_ => ⟨hk_.1.1, hk_.1.2.1, hk_.1.2.2.1, hk_.1.2.2.2⟩)); have n3_ := zA (Kd.R_mono (ok' := fun k_ => ((P0_1_ k_ ∨ P0_2_ k_ ∨ P0_3_ k_ ∨ P0_4_ k_) ∨ w.heap.size ≤ k_) ∧ zO k_ (.slice Ao7 l0_1.length co7) ∧ zO k_ (.slice Ao8 l0_2.length co8) ∧ zO k_ (.slice Ao9 l0_3.length co9)) (Kd.R_keptB (HO0_4.out) hkp (fun k_ hk_ hs_ => (hk_.2.2.1) hs_)) (fun k_ hk_ => ⟨hk_.1.1, hk_.1.2.1, hk_.1.2.2.1, hk_.1.2.2.2⟩)); have n4_ := zA (blk_kept (zb BK315.out) hkp (fun hs_ => (fun e_ => (Kd.R_ne HO0_2.out BK315.out (by decide)) e_) hs_)); have n5_ := zA (Kept.then_ (S := (fun k_ => P0_1_ k_ ∨ P0_2_ k_ ∨ P0_3_ k_ ∨ P0_4_ k_)) (by repeat (first | (with_reducible first | exact HK.out | apply Kept.alloc | apply Kept.drewN | apply Kept.drew | refine Kept.setCell ?_ (.inr GW315.out) _) | exact HK.out)) hkp (fun k_ hs_ => (fun e_ => (HO0_2.out.1 k_ e_.symm).1) hs_)); have n6_ := zA (hb); clear HO0_1 HO0_2 HO0_3 HO0_4 BK315 HK HB; have HO0_1 := n0_; have HO0_2 := n1_; have HO0_3 := n2_; have HO0_4 := n3_; have BK315 := n4_; have HK := n5_; have HB := n6_; clear n0_ n1_ n2_ n3_ n4_ n5_ n6_; (try clear hb); (try clear hkp); (try clear hy0); obtain ⟨hcz16_0, hcz16_1, hcz16_2, hcz16_3, hcz16_4, hfz16_0, hfz16_1, hfz16_2, hfz16_3, hfz16_4⟩ := zh5 BK315.out) | ((with_reducible refine gate_callee (f := 29) rfl ?_); refine goesL_ (some 16) rfl rfl Tryd.func29 (by kernel_rfl) rfl #[.slice Ao9 l0_3.length co9, .int .i64 t318] rfl za ?_; (with_reducible refine (laws_markIntS.calls k (fun k_ => some k_ = (.slice Ao9 l0_3.length co9 : Value).ownBlock) (.slice Ao9 l0_3.length co9) l0_3 t318 t320 t321 w0 _ ?side1 ?side2 A5.out).mono ?_); (case side1 => repeat (first | (with_reducible first | exact HB.out | apply below_alloc | apply pw_below_drewN | apply below_drew1 | refine below_set ?_ GE315.out) | exact HB.out)); (case side2 => exact Kd.R_tight rfl HO0_3.out); rintro e w17 ⟨rfl, hy0, hb, hkp⟩; refine ⟨_, rfl, ?_⟩; have n0_ := zA (Kd.R_mono (ok' := fun k_ => ((P0_1_ k_ ∨ P0_2_ k_ ∨ P0_3_ k_ ∨ P0_4_ k_) ∨ w.heap.size ≤ k_) ∧ zO k_ (.slice Ao8 l0_2.length co8) ∧ zO k_ (.slice Ao9 l0_3.length co9) ∧ zO k_ (.slice Ao10 l0_4.length co10)) (Kd.R_keptB (HO0_1.out) hkp (fun k_ hk_ hs_ => (hk_.2.2.1) hs_)) (fun k_ hk_ => ⟨hk_.1.1, hk_.1.2.1, hk_.1.2.2.1, hk_.1.2.2.2⟩)); have n1_ := zA (Kd.R_mono (ok' := fun k_ => ((P0_1_ k_ ∨ P0_2_ k_ ∨ P0_3_ k_ ∨ P0_4_ k_) ∨ w.heap.size ≤ k_) ∧ zO k_ (.slice Ao7 l0_1.length co7) ∧ zO k_ (.slice Ao9 l0_3.length co9) ∧ zO k_ (.slice Ao10 l0_4.length co10)) (Kd.R_keptB (HO0_2.out) hkp (fun k_ hk_ hs_ => (hk_.2.2.1) hs_)) (fun k_ hk_ => ⟨hk_.1.1, hk_.1.2.1, hk_.1.2.2.1, hk_.1.2.2.2⟩)); have n2_ := zA (Kd.R_reok rfl hy0 (fun k_ e_ => HO0_3.out.1 k_ e_)); have n3_ := zA (Kd.R_mono (ok' := fun k_ => ((P0_1_ k_ ∨ P0_2_ k_ ∨ P0_3_ k_ ∨ P0_4_ k_) ∨ w.heap.size ≤ k_) ∧ zO k_ (.slice Ao7 l0_1.length co7) ∧ zO k_ (.slice Ao8 l0_2.length co8) ∧ zO k_ (.slice Ao9 l0_3.length co9)) (Kd.R_keptB (HO0_4.out) hkp (fun k_ hk_ hs_ => (hk_.2.2.2) hs_)) (fun k_ hk_ => ⟨hk_.1.1, hk_.1.2.1, hk_.1.2.2.1, hk_.1.2.2.2⟩)); have n4_ := zA (blk_kept (zb BK315.out) hkp (fun hs_ => (fun e_ => (Kd.R_ne HO0_3.out BK315.out (by decide)) e_) hs_)); have n5_ := zA (Kept.then_ (S := (fun k_ => P0_1_ k_ ∨ P0_2_ k_ ∨ P0_3_ k_ ∨ P0_4_ k_)) (by repeat (first | (with_reducible first | exact HK.out | apply Kept.alloc | apply Kept.drewN | apply Kept.drew | refine Kept.setCell ?_ (.inr GW315.out) _) | exact HK.out)) hkp (fun k_ hs_ => (fun e_ => (HO0_3.out.1 k_ e_.symm).1) hs_)); have n6_ := zA (hb); clear HO0_1 HO0_2 HO0_3 HO0_4 BK315 HK HB; have HO0_1 := n0_; have HO0_2 := n1_; have HO0_3 := n2_; have HO0_4 := n3_; have BK315 := n4_; have HK := n5_; have HB := n6_; clear n0_ n1_ n2_ n3_ n4_ n5_ n6_; (try clear hb); (try clear hkp); (try clear hy0); obtain ⟨hcz18_0, hcz18_1, hcz18_2, hcz18_3, hcz18_4, hfz18_0, hfz18_1, hfz18_2, hfz18_3, hfz18_4⟩ := zh5 BK315.out) | ((with_reducible refine gate_callee (f := 29) rfl ?_); refine goesL_ (some 20) rfl rfl Tryd.func29 (by kernel_rfl) rfl #[.slice Ao10 l0_4.length co10, .int .i64 t320] rfl za ?_; (with_reducible refine (laws_markIntS.calls k (fun k_ => some k_ = (.slice Ao10 l0_4.length co10 : Value).ownBlock) (.slice Ao10 l0_4.length co10) l0_4 t320 t322 t323 w0 _ ?side1 ?side2 A6.out).mono ?_); (case side1 => repeat (first | (with_reducible first | exact HB.out | apply below_alloc | apply pw_below_drewN | apply below_drew1 | refine below_set ?_ GE315.out) | exact HB.out)); (case side2 => exact Kd.R_tight rfl HO0_4.out); rintro e w19 ⟨rfl, hy0, hb, hkp⟩; refine ⟨_, rfl, ?_⟩; have n0_ := zA (Kd.R_mono (ok' := fun k_ => ((P0_1_ k_ ∨ P0_2_ k_ ∨ P0_3_ k_ ∨ P0_4_ k_) ∨ w.heap.size ≤ k_) ∧ zO k_ (.slice Ao8 l0_2.length co8) ∧ zO k_ (.slice Ao9 l0_3.length co9) ∧ zO k_ (.slice Ao10 l0_4.length co10)) (Kd.R_keptB (HO0_1.out) hkp (fun k_ hk_ hs_ => (hk_.2.2.2) hs_)) (fun k_ hk_ => ⟨hk_.1.1, hk_.1.2.1, hk_.1.2.2.1, hk_.1.2.2.2⟩)); have n1_ := zA (Kd.R_mono (ok' := fun k_ => ((P0_1_ k_ ∨ P0_2_ k_ ∨ P0_3_ k_ ∨ P0_4_ k_) ∨ w.heap.size ≤ k_) ∧ zO k_ (.slice Ao7 l0_1.length co7) ∧ zO k_ (.slice Ao9 l0_3.length co9) ∧ zO k_ (.slice Ao10 l0_4.length co10)) (Kd.R_keptB (HO0_2.out) hkp (fun k_ hk_ hs_ => (hk_.2.2.2) hs_)) (fun k_ hk_ => ⟨hk_.1.1, hk_.1.2.1, hk_.1.2.2.1, hk_.1.2.2.2⟩)); have n2_ := zA (Kd.R_mono (ok' := fun k_ => ((P0_1_ k_ ∨ P0_2_ k_ ∨ P0_3_ k_ ∨ P0_4_ k_) ∨ w.heap.size ≤ k_) ∧ zO k_ (.slice Ao7 l0_1.length co7) ∧ zO k_ (.slice Ao8 l0_2.length co8) ∧ zO k_ (.slice Ao10 l0_4.length co10)) (Kd.R_keptB (HO0_3.out) hkp (fun k_ hk_ hs_ => (hk_.2.2.2) hs_)) (fun k_ hk_ => ⟨hk_.1.1, hk_.1.2.1, hk_.1.2.2.1, hk_.1.2.2.2⟩)); have n3_ := zA (Kd.R_reok rfl hy0 (fun k_ e_ => HO0_4.out.1 k_ e_)); have n4_ := zA (blk_kept (zb BK315.out) hkp (fun hs_ => (fun e_ => (Kd.R_ne HO0_4.out BK315.out (by decide)) e_) hs_)); have n5_ := zA (Kept.then_ (S := (fun k_ => P0_1_ k_ ∨ P0_2_ k_ ∨ P0_3_ k_ ∨ P0_4_ k_)) (by repeat (first | (with_reducible first | exact HK.out | apply Kept.alloc | apply Kept.drewN | apply Kept.drew | refine Kept.setCell ?_ (.inr GW315.out) _) | exact HK.out)) hkp (fun k_ hs_ => (fun e_ => (HO0_4.out.1 k_ e_.symm).1) hs_)); have n6_ := zA (hb); clear HO0_1 HO0_2 HO0_3 HO0_4 BK315 HK HB; have HO0_1 := n0_; have HO0_2 := n1_; have HO0_3 := n2_; have HO0_4 := n3_; have BK315 := n4_; have HK := n5_; have HB := n6_; clear n0_ n1_ n2_ n3_ n4_ n5_ n6_; (try clear hb); (try clear hkp); (try clear hy0)))
 go_ret
 exact ⟨ze, by (with_reducible repeat (first | apply Kd.R_alloc | apply Kd.R_drewN | apply Kd.R_drew)); exact Kd.R_mono HO0_1.out (fun _ hk => hk.1), by (with_reducible repeat (first | apply Kd.R_alloc | apply Kd.R_drewN | apply Kd.R_drew)); exact Kd.R_mono HO0_2.out (fun _ hk => hk.1), by (with_reducible repeat (first | apply Kd.R_alloc | apply Kd.R_drewN | apply Kd.R_drew)); exact Kd.R_mono HO0_3.out (fun _ hk => hk.1), by (with_reducible repeat (first | apply Kd.R_alloc | apply Kd.R_drewN | apply Kd.R_drew)); exact Kd.R_mono HO0_4.out (fun _ hk => hk.1), (zs GE315.out), by repeat (first | (with_reducible first | exact HK.out | apply Kept.alloc | apply Kept.drewN | apply Kept.drew | refine Kept.setCell ?_ (.inr GW315.out) _) | exact HK.out)⟩

/-! ### laws_heldIntS: function 30 -/
def laws_heldIntS.l0 : Nat → List Int → Int → Int → Option (Int)
 | 0, _, _, _ => none
 | k + 1, x0, x1, x5 => if x5 < (x0.length : Int) then (if 0 ≤ x5 then (if (rd x0 x5) = x1 then (laws_heldIntS.l0 k x0 (wrap64 (x1 + 1)) (wrap64 (x5 + 1))) else (some (-1))) else (none)) else (some x1)
def laws_heldIntS.f (k : Nat) (l0 : List Int) (a1 : Int) : Option (Int) := laws_heldIntS.l0 k l0 a1 0
theorem laws_heldIntS.mono_l : ∀ k, (∀ y0 y1 y2, LeO (laws_heldIntS.l0 k y0 y1 y2) (laws_heldIntS.l0 (k + 1) y0 y1 y2))
 | 0 => fun _ _ _ r h => by simp [laws_heldIntS.l0] at h
 | k + 1 => by
  have ih0 := laws_heldIntS.mono_l k
  ·intro y0 y1 y2
   unfold laws_heldIntS.l0
   exact zm
theorem laws_heldIntS.mono : ∀ a0 a1 k, LeO (laws_heldIntS.f k a0 a1) (laws_heldIntS.f (k + 1) a0 a1) := by
 intro a0 a1 k
 have ih0 := laws_heldIntS.mono_l k
 unfold laws_heldIntS.f
 exact zm
set_option maxHeartbeats 8000000 in
set_option maxRecDepth 100000 in
theorem laws_heldIntS.calls (k : Nat) (A0 : Option Addr) (c0 : Nat) (l0 : List Int) (a1 : Int) (r : Int) (w : World) (hr0 : Kd.C (Kd.int .i64) w A0 l0.length l0) (hc0 : l0.length ≤ c0) (h : laws_heldIntS.f k l0 a1 = some r) :
  Calls Tryd.prog 30 #[.slice A0 l0.length c0, .int .i64 a1] w fun e w' => e = .returned (.int .i64 r) ∧ Drawn0 w w' := by
 have HR0 := zA hr0
 have HC0 := zA hc0
 clear hr0 hc0
 have H : (laws_heldIntS.l0 k l0 a1 0) = some r := h
 clear h
 have H' := zA H
 clear H
 go_enter Tryd.func30, Tryd.ntmps30
 go_wp2
 go_loopg [1, 5] k (fun kq v1 v5 w' => ∃ (x1_1 : Int) (x5_1 : Int), v1 = .int .i64 x1_1 ∧ v5 = .int .i64 x5_1 ∧ Aside0 (laws_heldIntS.l0 kq l0 x1_1 x5_1 = some r) ∧ Aside0 (kq ≤ k) ∧ Drawn0 w w')
 case atStart => exact ⟨(a1), (0), zr, zr, H', ⟨Nat.le_refl _⟩, by repeat (first | exact Drawn0.refl _ | apply Drawn0.step)⟩
 case round =>
  clear H'
  (try clear p2)
  obtain ⟨x1_1, x5_1, rfl, rfl, HA, HK1, ⟨m1, rfl⟩⟩ := hrel
  cases gk with
  | zero => exact absurd HA.out (by simp [laws_heldIntS.l0])
  | succ k1 =>
   have H := HA.out
   clear HA
   simp only [laws_heldIntS.l0] at H
   by_cases c3 : x5_1 < (l0.length : Int)
   ·rw [if_pos c3] at H
    have c3b0 : decide (x5_1 < (l0.length : Int)) = true := decide_eq_true c3
    clear c3
    by_cases c4 : 0 ≤ x5_1
    ·rw [if_pos c4] at H
     have c4b0 : decide (0 ≤ x5_1) = true := decide_eq_true c4
     clear c4
     by_cases c5 : (rd l0 x5_1) = x1_1
     ·rw [if_pos c5] at H
      have c5b0 : ((rd l0 x5_1) == x1_1) = true := beq_iff_eq.mpr c5
      have c5b1 : ((rd l0 x5_1) != x1_1) = false := bne_eq_false_iff_eq.mpr c5
      clear c5
      have H' := zA H
      clear H
      have p324 : 0 ≤ (x5_1 : Int) := zd
      have q324 : x5_1 < (l0.length : Int) := zd
      obtain ⟨ad324, e324, hx324_0⟩ := Kd.at_int HR0.out x5_1 p324 q324
      cases e324
      replace p324 := eq_true p324
      replace q324 := eq_true q324
      go_wp2
      go_roundg k1
      case measure => have := HK1.out; omega
      case rel => exact ⟨(wrap64 (x1_1 + 1)), (wrap64 (x5_1 + 1)), zr, zr, H', ⟨by have := HK1.out; omega⟩, by repeat (first | exact Drawn0.refl _ | apply Drawn0.step)⟩
     ·rw [if_neg c5] at H
      have c5b0 : ((rd l0 x5_1) == x1_1) = false := beq_eq_false_iff_ne.mpr c5
      have c5b1 : ((rd l0 x5_1) != x1_1) = true := bne_iff_ne.mpr c5
      obtain rfl := Option.some.inj H
      have p324 : 0 ≤ (x5_1 : Int) := zd
      have q324 : x5_1 < (l0.length : Int) := zd
      obtain ⟨ad324, e324, hx324_0⟩ := Kd.at_int HR0.out x5_1 p324 q324
      cases e324
      replace p324 := eq_true p324
      replace q324 := eq_true q324
      go_wp2
      go_ret
      exact ⟨by first | rfl | (simp; done) | (simp [*]; done), by repeat (first | exact Drawn0.refl _ | apply Drawn0.step)⟩
    ·rw [if_neg c4] at H
     exact absurd H (by simp)
   ·rw [if_neg c3] at H
    have c3b0 : decide (x5_1 < (l0.length : Int)) = false := decide_eq_false c3
    clear c3
    obtain rfl := Option.some.inj H
    go_wp2
    go_ret
    exact ⟨by first | rfl | (simp; done) | (simp [*]; done), by repeat (first | exact Drawn0.refl _ | apply Drawn0.step)⟩

/-! ### laws_heldGraph: function 21 -/
def laws_heldGraph.f (k : Nat) (a0_0 : Int) (l0_1 : List Int) (l0_2 : List Int) (l0_3 : List Int) (l0_4 : List Int) (a1 : Int) : Option (Int) := (laws_heldIntS.f k l0_1 a1).bind fun t326 => (if t326 < 0 then (some (-1)) else ((laws_heldIntS.f k l0_2 t326).bind fun t327 => (if t327 < 0 then (some (-1)) else ((laws_heldIntS.f k l0_3 t327).bind fun t328 => (if t328 < 0 then (some (-1)) else ((laws_heldIntS.f k l0_4 t328).bind fun t329 => (if t329 < 0 then (some (-1)) else (some t329))))))))
theorem laws_heldGraph.mono : ∀ a0 a1 a2 a3 a4 a5 k, LeO (laws_heldGraph.f k a0 a1 a2 a3 a4 a5) (laws_heldGraph.f (k + 1) a0 a1 a2 a3 a4 a5) := by
 intro a0 a1 a2 a3 a4 a5 k
 unfold laws_heldGraph.f
 have m1 := @laws_heldIntS.mono
 exact zm
set_option maxHeartbeats 8000000 in
set_option maxRecDepth 100000 in
theorem laws_heldGraph.calls (k : Nat) (a0_0 : Int) (A0_1 : Option Addr) (c0_1 : Nat) (l0_1 : List Int) (A0_2 : Option Addr) (c0_2 : Nat) (l0_2 : List Int) (A0_3 : Option Addr) (c0_3 : Nat) (l0_3 : List Int) (A0_4 : Option Addr) (c0_4 : Nat) (l0_4 : List Int) (a1 : Int) (r : Int) (w : World) (hr0_1 : Kd.C (Kd.int .i64) w A0_1 l0_1.length l0_1) (hc0_1 : l0_1.length ≤ c0_1) (hr0_2 : Kd.C (Kd.int .i64) w A0_2 l0_2.length l0_2) (hc0_2 : l0_2.length ≤ c0_2) (hr0_3 : Kd.C (Kd.int .i64) w A0_3 l0_3.length l0_3) (hc0_3 : l0_3.length ≤ c0_3) (hr0_4 : Kd.C (Kd.int .i64) w A0_4 l0_4.length l0_4) (hc0_4 : l0_4.length ≤ c0_4) (h : laws_heldGraph.f k a0_0 l0_1 l0_2 l0_3 l0_4 a1 = some r) :
  Calls Tryd.prog 21 #[.agg #[.int .i64 a0_0, .slice A0_1 l0_1.length c0_1, .slice A0_2 l0_2.length c0_2, .slice A0_3 l0_3.length c0_3, .slice A0_4 l0_4.length c0_4], .int .i64 a1] w fun e w' => e = .returned (.int .i64 r) ∧ Below w.heap.size w w' := by
 have hu28 := Tryd.underlying28
 have HR0_1 := zA hr0_1
 have HC0_1 := zA hc0_1
 clear hr0_1 hc0_1
 have HR0_2 := zA hr0_2
 have HC0_2 := zA hc0_2
 clear hr0_2 hc0_2
 have HR0_3 := zA hr0_3
 have HC0_3 := zA hc0_3
 clear hr0_3 hc0_3
 have HR0_4 := zA hr0_4
 have HC0_4 := zA hc0_4
 clear hr0_4 hc0_4
 have HB := zA (Below.refl w.heap.size w)
 have H : ((laws_heldIntS.f k l0_1 a1).bind fun t326 => (if t326 < 0 then (some (-1)) else ((laws_heldIntS.f k l0_2 t326).bind fun t327 => (if t327 < 0 then (some (-1)) else ((laws_heldIntS.f k l0_3 t327).bind fun t328 => (if t328 < 0 then (some (-1)) else ((laws_heldIntS.f k l0_4 t328).bind fun t329 => (if t329 < 0 then (some (-1)) else (some t329))))))))) = some r := h
 clear h
 replace H := Option.bind_eq_some_iff.mp H
 obtain ⟨t326, A30, H⟩ := H
 replace H : (if t326 < 0 then (some (-1)) else ((laws_heldIntS.f k l0_2 t326).bind fun t327 => (if t327 < 0 then (some (-1)) else ((laws_heldIntS.f k l0_3 t327).bind fun t328 => (if t328 < 0 then (some (-1)) else ((laws_heldIntS.f k l0_4 t328).bind fun t329 => (if t329 < 0 then (some (-1)) else (some t329)))))))) = some r := H
 have A3 := zA A30
 clear A30
 by_cases c4 : t326 < 0
 ·rw [if_pos c4] at H
  have c4b0 : decide (t326 < 0) = true := decide_eq_true c4
  clear c4
  obtain rfl := Option.some.inj H
  go_enter Tryd.func21, Tryd.ntmps21
  go_wp2_with (first | ((with_reducible refine gate_dst (N := 2) rfl ?_); refine box_event ?hg (N := 2) ?hd (cs := #[.int .i64 a0_0, .slice A0_1 l0_1.length c0_1, .slice A0_2 l0_2.length c0_2, .slice A0_3 l0_3.length c0_3, .slice A0_4 l0_4.length c0_4]) (t := 28) ?hr ?_; (case hd => rfl); (case hg => rfl); (case hr => first | (go_simp; done) | (go_simp; rfl)); intro gb325 hg w5 hbox hb; have n0_ := zA (below_step z_ hb); have n1_ := zA (hbox); have n2_ := zA ((by rw [hg]; exact (below_size z_) : w.heap.size ≤ gb325)); have n3_ := zA ((by rw [hg]; exact (below_size z_) : w.heap.size ≤ gb325)); clear HB; have HB := n0_; have BK325 := n1_; have GW325 := n2_; have GE325 := n3_; clear n0_ n1_ n2_ n3_; clear hb hbox hg; obtain ⟨hcz6_0, hcz6_1, hcz6_2, hcz6_3, hcz6_4, hfz6_0, hfz6_1, hfz6_2, hfz6_3, hfz6_4⟩ := zh5 BK325.out) | ((with_reducible refine gate_callee (f := 30) rfl ?_); refine goesL_ (some 8) rfl rfl Tryd.func30 (by kernel_rfl) rfl #[.slice A0_1 l0_1.length c0_1, .int .i64 a1] rfl za ?_; (with_reducible refine (laws_heldIntS.calls k _ _ l0_1 a1 t326 _ ?side1 ?side2 A3.out).mono ?_); (case side1 => exact zc (Kd.C_below HR0_1.out HB.out)); (case side2 => exact HC0_1.out); rintro e w' ⟨rfl, ⟨nd, rfl⟩⟩; refine ⟨_, rfl, ?_⟩))
  go_ret
  exact ⟨ze, (zs GE325.out)⟩
 ·rw [if_neg c4] at H
  have c4b0 : decide (t326 < 0) = false := decide_eq_false c4
  clear c4
  replace H := Option.bind_eq_some_iff.mp H
  obtain ⟨t327, A70, H⟩ := H
  replace H : (if t327 < 0 then (some (-1)) else ((laws_heldIntS.f k l0_3 t327).bind fun t328 => (if t328 < 0 then (some (-1)) else ((laws_heldIntS.f k l0_4 t328).bind fun t329 => (if t329 < 0 then (some (-1)) else (some t329)))))) = some r := H
  have A7 := zA A70
  clear A70
  by_cases c8 : t327 < 0
  ·rw [if_pos c8] at H
   have c8b0 : decide (t327 < 0) = true := decide_eq_true c8
   clear c8
   obtain rfl := Option.some.inj H
   go_enter Tryd.func21, Tryd.ntmps21
   go_wp2_with (first | ((with_reducible refine gate_dst (N := 2) rfl ?_); refine box_event ?hg (N := 2) ?hd (cs := #[.int .i64 a0_0, .slice A0_1 l0_1.length c0_1, .slice A0_2 l0_2.length c0_2, .slice A0_3 l0_3.length c0_3, .slice A0_4 l0_4.length c0_4]) (t := 28) ?hr ?_; (case hd => rfl); (case hg => rfl); (case hr => first | (go_simp; done) | (go_simp; rfl)); intro gb325 hg w9 hbox hb; have n0_ := zA (below_step z_ hb); have n1_ := zA (hbox); have n2_ := zA ((by rw [hg]; exact (below_size z_) : w.heap.size ≤ gb325)); have n3_ := zA ((by rw [hg]; exact (below_size z_) : w.heap.size ≤ gb325)); clear HB; have HB := n0_; have BK325 := n1_; have GW325 := n2_; have GE325 := n3_; clear n0_ n1_ n2_ n3_; clear hb hbox hg; obtain ⟨hcz10_0, hcz10_1, hcz10_2, hcz10_3, hcz10_4, hfz10_0, hfz10_1, hfz10_2, hfz10_3, hfz10_4⟩ := zh5 BK325.out) | ((with_reducible refine gate_callee (f := 30) rfl ?_); refine goesL_ (some 8) rfl rfl Tryd.func30 (by kernel_rfl) rfl #[.slice A0_1 l0_1.length c0_1, .int .i64 a1] rfl za ?_; (with_reducible refine (laws_heldIntS.calls k _ _ l0_1 a1 t326 _ ?side1 ?side2 A3.out).mono ?_); (case side1 => exact zc (Kd.C_below HR0_1.out HB.out)); (case side2 => exact HC0_1.out); rintro e w' ⟨rfl, ⟨nd, rfl⟩⟩; refine ⟨_, rfl, ?_⟩) | ((with_reducible refine gate_callee (f := 30) rfl ?_); refine goesL_ (some 14) rfl rfl Tryd.func30 (by kernel_rfl) rfl #[.slice A0_2 l0_2.length c0_2, .int .i64 t326] rfl za ?_; (with_reducible refine (laws_heldIntS.calls k _ _ l0_2 t326 t327 _ ?side1 ?side2 A7.out).mono ?_); (case side1 => exact zc (Kd.C_below HR0_2.out (zs GE325.out))); (case side2 => exact HC0_2.out); rintro e w' ⟨rfl, ⟨nd, rfl⟩⟩; refine ⟨_, rfl, ?_⟩))
   go_ret
   exact ⟨ze, (zs GE325.out)⟩
  ·rw [if_neg c8] at H
   have c8b0 : decide (t327 < 0) = false := decide_eq_false c8
   clear c8
   replace H := Option.bind_eq_some_iff.mp H
   obtain ⟨t328, A110, H⟩ := H
   replace H : (if t328 < 0 then (some (-1)) else ((laws_heldIntS.f k l0_4 t328).bind fun t329 => (if t329 < 0 then (some (-1)) else (some t329)))) = some r := H
   have A11 := zA A110
   clear A110
   by_cases c12 : t328 < 0
   ·rw [if_pos c12] at H
    have c12b0 : decide (t328 < 0) = true := decide_eq_true c12
    clear c12
    obtain rfl := Option.some.inj H
    go_enter Tryd.func21, Tryd.ntmps21
    go_wp2_with (first | ((with_reducible refine gate_dst (N := 2) rfl ?_); refine box_event ?hg (N := 2) ?hd (cs := #[.int .i64 a0_0, .slice A0_1 l0_1.length c0_1, .slice A0_2 l0_2.length c0_2, .slice A0_3 l0_3.length c0_3, .slice A0_4 l0_4.length c0_4]) (t := 28) ?hr ?_; (case hd => rfl); (case hg => rfl); (case hr => first | (go_simp; done) | (go_simp; rfl)); intro gb325 hg w13 hbox hb; have n0_ := zA (below_step z_ hb); have n1_ := zA (hbox); have n2_ := zA ((by rw [hg]; exact (below_size z_) : w.heap.size ≤ gb325)); have n3_ := zA ((by rw [hg]; exact (below_size z_) : w.heap.size ≤ gb325)); clear HB; have HB := n0_; have BK325 := n1_; have GW325 := n2_; have GE325 := n3_; clear n0_ n1_ n2_ n3_; clear hb hbox hg; obtain ⟨hcz14_0, hcz14_1, hcz14_2, hcz14_3, hcz14_4, hfz14_0, hfz14_1, hfz14_2, hfz14_3, hfz14_4⟩ := zh5 BK325.out) | ((with_reducible refine gate_callee (f := 30) rfl ?_); refine goesL_ (some 8) rfl rfl Tryd.func30 (by kernel_rfl) rfl #[.slice A0_1 l0_1.length c0_1, .int .i64 a1] rfl za ?_; (with_reducible refine (laws_heldIntS.calls k _ _ l0_1 a1 t326 _ ?side1 ?side2 A3.out).mono ?_); (case side1 => exact zc (Kd.C_below HR0_1.out HB.out)); (case side2 => exact HC0_1.out); rintro e w' ⟨rfl, ⟨nd, rfl⟩⟩; refine ⟨_, rfl, ?_⟩) | ((with_reducible refine gate_callee (f := 30) rfl ?_); refine goesL_ (some 14) rfl rfl Tryd.func30 (by kernel_rfl) rfl #[.slice A0_2 l0_2.length c0_2, .int .i64 t326] rfl za ?_; (with_reducible refine (laws_heldIntS.calls k _ _ l0_2 t326 t327 _ ?side1 ?side2 A7.out).mono ?_); (case side1 => exact zc (Kd.C_below HR0_2.out (zs GE325.out))); (case side2 => exact HC0_2.out); rintro e w' ⟨rfl, ⟨nd, rfl⟩⟩; refine ⟨_, rfl, ?_⟩) | ((with_reducible refine gate_callee (f := 30) rfl ?_); refine goesL_ (some 20) rfl rfl Tryd.func30 (by kernel_rfl) rfl #[.slice A0_3 l0_3.length c0_3, .int .i64 t327] rfl za ?_; (with_reducible refine (laws_heldIntS.calls k _ _ l0_3 t327 t328 _ ?side1 ?side2 A11.out).mono ?_); (case side1 => exact zc (Kd.C_below HR0_3.out (zs GE325.out))); (case side2 => exact HC0_3.out); rintro e w' ⟨rfl, ⟨nd, rfl⟩⟩; refine ⟨_, rfl, ?_⟩))
    go_ret
    exact ⟨ze, (zs GE325.out)⟩
   ·rw [if_neg c12] at H
    have c12b0 : decide (t328 < 0) = false := decide_eq_false c12
    clear c12
    replace H := Option.bind_eq_some_iff.mp H
    obtain ⟨t329, A150, H⟩ := H
    replace H : (if t329 < 0 then (some (-1)) else (some t329)) = some r := H
    have A15 := zA A150
    clear A150
    by_cases c16 : t329 < 0
    ·rw [if_pos c16] at H
     have c16b0 : decide (t329 < 0) = true := decide_eq_true c16
     clear c16
     obtain rfl := Option.some.inj H
     go_enter Tryd.func21, Tryd.ntmps21
     go_wp2_with (first | ((with_reducible refine gate_dst (N := 2) rfl ?_); refine box_event ?hg (N := 2) ?hd (cs := #[.int .i64 a0_0, .slice A0_1 l0_1.length c0_1, .slice A0_2 l0_2.length c0_2, .slice A0_3 l0_3.length c0_3, .slice A0_4 l0_4.length c0_4]) (t := 28) ?hr ?_; (case hd => rfl); (case hg => rfl); (case hr => first | (go_simp; done) | (go_simp; rfl)); intro gb325 hg w17 hbox hb; have n0_ := zA (below_step z_ hb); have n1_ := zA (hbox); have n2_ := zA ((by rw [hg]; exact (below_size z_) : w.heap.size ≤ gb325)); have n3_ := zA ((by rw [hg]; exact (below_size z_) : w.heap.size ≤ gb325)); clear HB; have HB := n0_; have BK325 := n1_; have GW325 := n2_; have GE325 := n3_; clear n0_ n1_ n2_ n3_; clear hb hbox hg; obtain ⟨hcz18_0, hcz18_1, hcz18_2, hcz18_3, hcz18_4, hfz18_0, hfz18_1, hfz18_2, hfz18_3, hfz18_4⟩ := zh5 BK325.out) | ((with_reducible refine gate_callee (f := 30) rfl ?_); refine goesL_ (some 8) rfl rfl Tryd.func30 (by kernel_rfl) rfl #[.slice A0_1 l0_1.length c0_1, .int .i64 a1] rfl za ?_; (with_reducible refine (laws_heldIntS.calls k _ _ l0_1 a1 t326 _ ?side1 ?side2 A3.out).mono ?_); (case side1 => exact zc (Kd.C_below HR0_1.out HB.out)); (case side2 => exact HC0_1.out); rintro e w' ⟨rfl, ⟨nd, rfl⟩⟩; refine ⟨_, rfl, ?_⟩) | ((with_reducible refine gate_callee (f := 30) rfl ?_); refine goesL_ (some 14) rfl rfl Tryd.func30 (by kernel_rfl) rfl #[.slice A0_2 l0_2.length c0_2, .int .i64 t326] rfl za ?_; (with_reducible refine (laws_heldIntS.calls k _ _ l0_2 t326 t327 _ ?side1 ?side2 A7.out).mono ?_); (case side1 => exact zc (Kd.C_below HR0_2.out (zs GE325.out))); (case side2 => exact HC0_2.out); rintro e w' ⟨rfl, ⟨nd, rfl⟩⟩; refine ⟨_, rfl, ?_⟩) | ((with_reducible refine gate_callee (f := 30) rfl ?_); refine goesL_ (some 20) rfl rfl Tryd.func30 (by kernel_rfl) rfl #[.slice A0_3 l0_3.length c0_3, .int .i64 t327] rfl za ?_; (with_reducible refine (laws_heldIntS.calls k _ _ l0_3 t327 t328 _ ?side1 ?side2 A11.out).mono ?_); (case side1 => exact zc (Kd.C_below HR0_3.out (zs GE325.out))); (case side2 => exact HC0_3.out); rintro e w' ⟨rfl, ⟨nd, rfl⟩⟩; refine ⟨_, rfl, ?_⟩) | ((with_reducible refine gate_callee (f := 30) rfl ?_); refine goesL_ (some 26) rfl rfl Tryd.func30 (by kernel_rfl) rfl #[.slice A0_4 l0_4.length c0_4, .int .i64 t328] rfl za ?_; (with_reducible refine (laws_heldIntS.calls k _ _ l0_4 t328 t329 _ ?side1 ?side2 A15.out).mono ?_); (case side1 => exact zc (Kd.C_below HR0_4.out (zs GE325.out))); (case side2 => exact HC0_4.out); rintro e w' ⟨rfl, ⟨nd, rfl⟩⟩; refine ⟨_, rfl, ?_⟩))
     go_ret
     exact ⟨ze, (zs GE325.out)⟩
    ·rw [if_neg c16] at H
     have c16b0 : decide (t329 < 0) = false := decide_eq_false c16
     clear c16
     obtain rfl := Option.some.inj H
     go_enter Tryd.func21, Tryd.ntmps21
     go_wp2_with (first | ((with_reducible refine gate_dst (N := 2) rfl ?_); refine box_event ?hg (N := 2) ?hd (cs := #[.int .i64 a0_0, .slice A0_1 l0_1.length c0_1, .slice A0_2 l0_2.length c0_2, .slice A0_3 l0_3.length c0_3, .slice A0_4 l0_4.length c0_4]) (t := 28) ?hr ?_; (case hd => rfl); (case hg => rfl); (case hr => first | (go_simp; done) | (go_simp; rfl)); intro gb325 hg w19 hbox hb; have n0_ := zA (below_step z_ hb); have n1_ := zA (hbox); have n2_ := zA ((by rw [hg]; exact (below_size z_) : w.heap.size ≤ gb325)); have n3_ := zA ((by rw [hg]; exact (below_size z_) : w.heap.size ≤ gb325)); clear HB; have HB := n0_; have BK325 := n1_; have GW325 := n2_; have GE325 := n3_; clear n0_ n1_ n2_ n3_; clear hb hbox hg; obtain ⟨hcz20_0, hcz20_1, hcz20_2, hcz20_3, hcz20_4, hfz20_0, hfz20_1, hfz20_2, hfz20_3, hfz20_4⟩ := zh5 BK325.out) | ((with_reducible refine gate_callee (f := 30) rfl ?_); refine goesL_ (some 8) rfl rfl Tryd.func30 (by kernel_rfl) rfl #[.slice A0_1 l0_1.length c0_1, .int .i64 a1] rfl za ?_; (with_reducible refine (laws_heldIntS.calls k _ _ l0_1 a1 t326 _ ?side1 ?side2 A3.out).mono ?_); (case side1 => exact zc (Kd.C_below HR0_1.out HB.out)); (case side2 => exact HC0_1.out); rintro e w' ⟨rfl, ⟨nd, rfl⟩⟩; refine ⟨_, rfl, ?_⟩) | ((with_reducible refine gate_callee (f := 30) rfl ?_); refine goesL_ (some 14) rfl rfl Tryd.func30 (by kernel_rfl) rfl #[.slice A0_2 l0_2.length c0_2, .int .i64 t326] rfl za ?_; (with_reducible refine (laws_heldIntS.calls k _ _ l0_2 t326 t327 _ ?side1 ?side2 A7.out).mono ?_); (case side1 => exact zc (Kd.C_below HR0_2.out (zs GE325.out))); (case side2 => exact HC0_2.out); rintro e w' ⟨rfl, ⟨nd, rfl⟩⟩; refine ⟨_, rfl, ?_⟩) | ((with_reducible refine gate_callee (f := 30) rfl ?_); refine goesL_ (some 20) rfl rfl Tryd.func30 (by kernel_rfl) rfl #[.slice A0_3 l0_3.length c0_3, .int .i64 t327] rfl za ?_; (with_reducible refine (laws_heldIntS.calls k _ _ l0_3 t327 t328 _ ?side1 ?side2 A11.out).mono ?_); (case side1 => exact zc (Kd.C_below HR0_3.out (zs GE325.out))); (case side2 => exact HC0_3.out); rintro e w' ⟨rfl, ⟨nd, rfl⟩⟩; refine ⟨_, rfl, ?_⟩) | ((with_reducible refine gate_callee (f := 30) rfl ?_); refine goesL_ (some 26) rfl rfl Tryd.func30 (by kernel_rfl) rfl #[.slice A0_4 l0_4.length c0_4, .int .i64 t328] rfl za ?_; (with_reducible refine (laws_heldIntS.calls k _ _ l0_4 t328 t329 _ ?side1 ?side2 A15.out).mono ?_); (case side1 => exact zc (Kd.C_below HR0_4.out (zs GE325.out))); (case side2 => exact HC0_4.out); rintro e w' ⟨rfl, ⟨nd, rfl⟩⟩; refine ⟨_, rfl, ?_⟩))
     go_ret
     exact ⟨ze, (zs GE325.out)⟩

end Go.Proofs.YthbeplmihjhoeaaDoor.PFnExactBuildGraph
