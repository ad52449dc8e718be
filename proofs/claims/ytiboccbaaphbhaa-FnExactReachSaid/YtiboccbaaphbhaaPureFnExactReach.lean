/- The program's Reach returns what the reference's returns, for all arguments: no condition. -/
import Derived.Test.YtiboccbaaphbhaaQFnExactReach
namespace Go.Proofs.Ytiboccbaaphbhaa.Pure
set_option linter.unusedVariables false
set_option linter.unusedSimpArgs false
set_option linter.unusedSectionVars false
open Go.RowKit Go.Proofs.Ytiboccbaaphbhaa.PFnExactReach Go.Proofs.YtiboccbaaphbhaaW.PrintWords Go.Proofs.YtiboccbaaphbhaaW.PrintLast Go.Proofs.YtiboccbaaphbhaaW.PrintMore
section EvLib
variable {α β : Type}
theorem ev_pos {c : Prop} [Decidable c] {A B : Nat → Option α} {r : α} (h : c) (k : Ev A r) : Ev (fun n => if c then A n else B n) r :=
 Ev.congr (fun _ => if_pos h) k
theorem ev_neg {c : Prop} [Decidable c] {A B : Nat → Option α} {r : α} (h : ¬ c) (k : Ev B r) : Ev (fun n => if c then A n else B n) r :=
 Ev.congr (fun _ => if_neg h) k
theorem ev_ite {c : Prop} [Decidable c] {A B : Nat → Option α} {r : α} (h1 : c → Ev A r) (h2 : ¬ c → Ev B r) : Ev (fun n => if c then A n else B n) r := by
 by_cases h : c
 ·exact ev_pos h (h1 h)
 ·exact ev_neg h (h2 h)
theorem ev_letv {a : α} {f : Nat → α → Option β} {r : β} (k : Ev (fun n => f n a) r) : Ev (fun n => (some a).bind (f n)) r := Ev.bind (Ev.now a) k
end EvLib
theorem wrap64_id {x : Int} (h0 : -9223372036854775808 ≤ x) (h1 : x ≤ 9223372036854775807) : wrap64 x = x := by unfold wrap64; omega
theorem rd_get {l : List Int} {i : Int} (h0 : 0 ≤ i) (h1 : i.toNat < l.length) : rd l i = l[i.toNat] := by
 unfold rd; rw [List.getD_eq_getElem?_getD, List.getElem?_eq_getElem h1]; rfl
theorem rd_mem {l : List Int} {i : Int} (h0 : 0 ≤ i) (h1 : i < l.length) : rd l i ∈ l := by
 have h : i.toNat < l.length := by omega
 rw [rd_get h0 h]; exact List.getElem_mem h
theorem rd_set_eq {l : List Int} {i : Int} {v : Int} (h0 : 0 ≤ i) (h1 : i < l.length) : rd (l.set i.toNat v) i = v := by
 have h : i.toNat < l.length := by omega
 unfold rd; rw [List.getD_eq_getElem?_getD, List.getElem?_set_self h]; rfl
theorem rd_set_ne {l : List Int} {i j : Int} {v : Int} (h0 : 0 ≤ i) (h1 : 0 ≤ j) (h : i ≠ j) : rd (l.set i.toNat v) j = rd l j := by
 unfold rd; rw [List.getD_eq_getElem?_getD, List.getElem?_set_ne (by omega), ← List.getD_eq_getElem?_getD]
theorem rd_ext {l m : List Int} (h : l.length = m.length) (e : ∀ i : Int, 0 ≤ i → i < l.length → rd l i = rd m i) : l = m := by
 apply List.ext_getElem h
 intro i h1 h2
 have := e i (by omega) (by omega)
 rw [rd_get (by omega) (by simpa using h1), rd_get (by omega) (by simpa using h2)] at this
 simpa using this

theorem szIntS_or {l : List Int} {left : Int} (h0 : 0 ≤ left) (h1 : left ≤ 1048576) (hm : l.length ≤ 9223372036854775807) :
  ∃ r, laws_szIntS.f l left = some r ∧ (r = -1 ∨ ((l.length : Int) ≤ left ∧ r = left - l.length)) := by
 simp only [laws_szIntS.f]
 rw [wrap64_id (by omega) (by omega)]
 by_cases h : left - (l.length : Int) < 0
 ·exact ⟨-1, if_pos h, .inl rfl⟩
 ·exact ⟨_, if_neg h, .inr ⟨by omega, rfl⟩⟩

theorem szGraph_or {n : Int} {st tos dr co : List Int} (h1 : st.length ≤ 9223372036854775807) (h2 : tos.length ≤ 9223372036854775807) (h3 : dr.length ≤ 9223372036854775807) (h4 : co.length ≤ 9223372036854775807) :
  ∃ r, laws_szGraph.f n st tos dr co 1048576 = some r ∧ (r = -1 ∨ (st.length + tos.length + dr.length + co.length ≤ 1048576 ∧ 0 ≤ r)) := by
 simp only [laws_szGraph.f]
 obtain ⟨r1, e1, q1⟩ := szIntS_or (l := st) (left := 1048576) (by omega) (by omega) h1
 rw [e1]; simp only [Option.bind_some]
 rcases q1 with rfl | ⟨a1, rfl⟩
 ·exact ⟨-1, if_pos (by omega), .inl rfl⟩
 rw [if_neg (by omega)]
 obtain ⟨r2, e2, q2⟩ := szIntS_or (l := tos) (left := 1048576 - (st.length : Int)) (by omega) (by omega) h2
 rw [e2]; simp only [Option.bind_some]
 rcases q2 with rfl | ⟨a2, rfl⟩
 ·exact ⟨-1, if_pos (by omega), .inl rfl⟩
 rw [if_neg (by omega)]
 obtain ⟨r3, e3, q3⟩ := szIntS_or (l := dr) (left := 1048576 - (st.length : Int) - tos.length) (by omega) (by omega) h3
 rw [e3]; simp only [Option.bind_some]
 rcases q3 with rfl | ⟨a3, rfl⟩
 ·exact ⟨-1, if_pos (by omega), .inl rfl⟩
 rw [if_neg (by omega)]
 obtain ⟨r4, e4, q4⟩ := szIntS_or (l := co) (left := 1048576 - (st.length : Int) - tos.length - dr.length) (by omega) (by omega) h4
 rw [e4]; simp only [Option.bind_some]
 rcases q4 with rfl | ⟨a4, rfl⟩
 ·exact ⟨-1, if_pos (by omega), .inl rfl⟩
 rw [if_neg (by omega)]
 exact ⟨_, rfl, .inr ⟨by omega, by omega⟩⟩

theorem toIntS_loop (x0 : List Int) (hb : x0.length ≤ 35184372088832) (d : Nat) : ∀ (x3 : List Int) (i : Int), 0 ≤ i → x3.length = x0.length → (x0.length : Int) - i = d →
  (∀ j : Int, 0 ≤ j → j < i → rd x3 j = rd x0 j) → Ev (fun k => laws_toIntS.l0 k x0 x3 i) x0 := by
 induction d with
 | zero =>
  intro x3 i h0 hl hd he
  refine Ev.step (fun _ => rfl) ?_
  simp only [laws_toIntS.l0]
  refine ev_neg (by omega) ?_
  have : x3 = x0 := rd_ext hl (fun j a b => he j a (by omega))
  rw [this]; exact Ev.now _
 | succ d ih =>
  intro x3 i h0 hl hd he
  refine Ev.step (fun _ => rfl) ?_
  simp only [laws_toIntS.l0]
  refine ev_pos (by omega) (ev_pos (by omega) (ev_pos (by omega) ?_))
  rw [wrap64_id (by omega) (by omega)]
  refine ih _ _ (by omega) (by simpa using hl) (by omega) ?_
  intro j a b
  by_cases e : j = i
  ·subst e; exact rd_set_eq (by omega) (by omega)
  ·rw [rd_set_ne (by omega) (by omega) (by omega)]; exact he j a (by omega)
theorem toIntS_ev (l : List Int) (hb : l.length ≤ 35184372088832) : Ev (fun k => laws_toIntS.f k l) l := by
 simp only [laws_toIntS.f]
 refine ev_pos (by omega) (ev_pos (by omega) ?_)
 exact toIntS_loop l hb l.length _ 0 (by omega) (by simp) (by omega) (fun j a b => by omega)

theorem toGraph_ev (n : Int) (st tos dr co : List Int) (h : st.length + tos.length + dr.length + co.length ≤ 1048576) : Ev (fun k => laws_toGraph.f k n st tos dr co) (n, st, tos, dr, co) := by
 simp only [laws_toGraph.f]
 exact Ev.bind (toIntS_ev st (by omega)) (Ev.bind (toIntS_ev tos (by omega)) (Ev.bind (toIntS_ev dr (by omega)) (Ev.bind (toIntS_ev co (by omega)) (Ev.now _))))

theorem eqIntS_loop (a b : List Int) (hl : a.length = b.length) (hb : a.length ≤ 9223372036854775800) (d : Nat) : ∀ (i : Int), 0 ≤ i → (a.length : Int) - i = d →
  (∀ j : Int, 0 ≤ j → j < i → rd a j = rd b j) → Ev (fun k => laws_eqIntS.l0 k a b i) (decide (a = b)) := by
 induction d with
 | zero =>
  intro i h0 hd he
  refine Ev.step (fun _ => rfl) ?_
  simp only [laws_eqIntS.l0]
  refine ev_neg (by omega) ?_
  have : a = b := rd_ext hl (fun j p q => he j p (by omega))
  rw [decide_eq_true this]; exact Ev.now _
 | succ d ih =>
  intro i h0 hd he
  refine Ev.step (fun _ => rfl) ?_
  simp only [laws_eqIntS.l0]
  refine ev_pos (by omega) (ev_pos (by omega) (ev_pos (by omega) (ev_ite (fun e => ?_) (fun e => ?_))))
  ·rw [wrap64_id (by omega) (by omega)]
   refine ih _ (by omega) (by omega) ?_
   intro j p q
   by_cases e' : j = i
   ·subst e'; exact e
   ·exact he j p (by omega)
  ·have : a ≠ b := fun h => e (by rw [h])
   rw [decide_eq_false this]; exact Ev.now _
theorem eqIntS_ev (a b : List Int) (hb : a.length ≤ 9223372036854775800) : Ev (fun k => laws_eqIntS.f k a b) (decide (a = b)) := by
 simp only [laws_eqIntS.f]
 refine ev_ite (fun e => ?_) (fun e => ?_)
 ·exact eqIntS_loop a b (by omega) hb a.length 0 (by omega) (by omega) (fun j p q => by omega)
 ·have : a ≠ b := fun h => e (by rw [h])
  rw [decide_eq_false this]; exact Ev.now _
theorem eqIntS_self (a : List Int) (hb : a.length ≤ 9223372036854775800) : Ev (fun k => laws_eqIntS.f k a a) true := by
 have := eqIntS_ev a a hb
 rwa [decide_eq_true rfl] at this

theorem eqGraph_self (n : Int) (st tos dr co : List Int) (h : st.length + tos.length + dr.length + co.length ≤ 9000000000) : Ev (fun k => laws_eqGraph.f k n st tos dr co n st tos dr co) true := by
 simp only [laws_eqGraph.f]
 refine ev_pos (by trivial) (Ev.bind (eqIntS_self st (by omega)) (ev_pos (by trivial) (Ev.bind (eqIntS_self tos (by omega)) (ev_pos (by trivial) (Ev.bind (eqIntS_self dr (by omega)) (ev_pos (by trivial) (Ev.bind (eqIntS_self co (by omega)) ?_)))))))
 exact ev_pos (by trivial) (Ev.now _)

structure ValidG (n : Int) (st tos dr co : List Int) : Prop where
 n1 : 1 ≤ n
 n2 : n ≤ 1600
 len : (st.length : Int) = n + 1
 zero : rd st 0 = 0
 mono : ∀ c : Int, 0 ≤ c → c < n → rd st c ≤ rd st (c + 1)
 most : rd st n ≤ 6400
 lto : (tos.length : Int) = rd st n
 ldr : (dr.length : Int) = rd st n
 lco : (co.length : Int) = rd st n
 edge : ∀ e : Int, 0 ≤ e → e < rd st n → (0 ≤ rd tos e ∧ rd tos e < n) ∧ (0 ≤ rd dr e ∧ rd dr e ≤ 3) ∧ (1 ≤ rd co e ∧ rd co e ≤ 9)
open Classical in
noncomputable def vg (n : Int) (st tos dr co : List Int) : Bool := decide (ValidG n st tos dr co)
open Classical in
theorem vg_true {n : Int} {st tos dr co : List Int} (h : ValidG n st tos dr co) : vg n st tos dr co = true := by unfold vg; exact decide_eq_true h
open Classical in
theorem vg_false {n : Int} {st tos dr co : List Int} (h : ¬ ValidG n st tos dr co) : vg n st tos dr co = false := by unfold vg; exact decide_eq_false h

theorem getD_lt {α : Type} {l : List α} {i : Int} {d : α} (h1 : i.toNat < l.length) : l.getD i.toNat d = l[i.toNat] := by
 rw [List.getD_eq_getElem?_getD, List.getElem?_eq_getElem h1]; rfl
theorem getD_set_eq {α : Type} {l : List α} {i : Int} {v d : α} (h0 : 0 ≤ i) (h1 : i < l.length) : (l.set i.toNat v).getD i.toNat d = v := by
 rw [List.getD_eq_getElem?_getD, List.getElem?_set_self (by omega)]; rfl
theorem getD_set_ne {α : Type} {l : List α} {i j : Int} {v d : α} (h0 : 0 ≤ i) (h1 : 0 ≤ j) (h : i ≠ j) : (l.set i.toNat v).getD j.toNat d = l.getD j.toNat d := by
 rw [List.getD_eq_getElem?_getD, List.getElem?_set_ne (by omega), ← List.getD_eq_getElem?_getD]
theorem getD_ext {α : Type} {l m : List α} (d : α) (h : l.length = m.length) (e : ∀ i : Int, 0 ≤ i → i < l.length → l.getD i.toNat d = m.getD i.toNat d) : l = m := by
 apply List.ext_getElem h
 intro i h1 h2
 have := e i (by omega) (by omega)
 rw [getD_lt (by simpa using h1), getD_lt (by simpa using h2)] at this
 simpa using this
def upI (m : Nat) : List Int := (List.range m).map (fun (j : Nat) => (j : Int))
theorem upI_succ (m : Nat) : upI (m + 1) = upI m ++ [(m : Int)] := by simp [upI, List.range_succ]
theorem upI_length (m : Nat) : (upI m).length = m := by simp [upI]
theorem upI_get (m i : Nat) (h : i < (upI m).length) : (upI m)[i] = (i : Int) := by simp [upI]
theorem rdE_lt {es : List S51} {i : Nat} (h : i < es.length) : rd_T51 es (i : Int) = es[i] := by
 unfold rd_T51
 rw [getD_lt (by rw [Int.toNat_natCast]; exact h)]
 simp only [Int.toNat_natCast]
theorem take_snoc' {α : Type} (l : List α) (i : Nat) (h : i < l.length) : l.take (i + 1) = l.take i ++ [l[i]] := by
 rw [List.take_succ_eq_append_getElem h]
theorem map_snoc {α β : Type} (f : α → β) (l : List α) (x : α) : (l ++ [x]).map f = l.map f ++ [f x] := by rw [List.map_append]; rfl
open Classical in
noncomputable def owner (n : Int) (st : List Int) (e : Int) : Int := if h : ∃ c : Int, 0 ≤ c ∧ c < n ∧ rd st c ≤ e ∧ e < rd st (c + 1) then Classical.choose h else 0
noncomputable def fwdE (n : Int) (st tos dr co : List Int) (e : Int) : S51 := ⟨owner n st e, rd tos e, rd dr e, rd co e⟩
section
variable {n : Int} {st tos dr co : List Int} (v : ValidG n st tos dr co)
include v
theorem st_mono : ∀ (d : Nat) (a : Int), 0 ≤ a → a + d ≤ n → rd st a ≤ rd st (a + d)
 | 0, a, _, _ => by rw [show a + ((0 : Nat) : Int) = a by omega]; exact Int.le_refl _
 | d + 1, a, a0, a1 => by
  have h := st_mono d a a0 (by omega)
  have g := v.mono (a + d) (by omega) (by omega)
  rw [show a + ((d + 1 : Nat) : Int) = a + d + 1 by omega]
  omega
theorem st_le {a b : Int} (a0 : 0 ≤ a) (ab : a ≤ b) (bn : b ≤ n) : rd st a ≤ rd st b := by
 have := st_mono v (b - a).toNat a a0 (by omega)
 rwa [show a + ((b - a).toNat : Int) = b by omega] at this
theorem st_nn {a : Int} (a0 : 0 ≤ a) (an : a ≤ n) : 0 ≤ rd st a ∧ rd st a ≤ rd st n := by
 have h := st_le v (a := 0) (b := a) (by omega) a0 an
 have g := st_le v a0 an (Int.le_refl _)
 have := v.zero
 omega
theorem owner_eq {c e : Int} (c0 : 0 ≤ c) (c1 : c < n) (e0 : rd st c ≤ e) (e1 : e < rd st (c + 1)) : owner n st e = c := by
 have h : ∃ c : Int, 0 ≤ c ∧ c < n ∧ rd st c ≤ e ∧ e < rd st (c + 1) := ⟨c, c0, c1, e0, e1⟩
 unfold owner
 rw [dif_pos h]
 obtain ⟨p0, p1, p2, p3⟩ := Classical.choose_spec h
 generalize Classical.choose h = b at *
 by_cases q : b < c
 ·have := st_le v (a := b + 1) (b := c) (by omega) (by omega) (by omega); omega
 by_cases q2 : c < b
 ·have := st_le v (a := c + 1) (b := b) (by omega) (by omega) (by omega); omega
 omega
theorem l5e_row (c : Int) (c0 : 0 ≤ c) (c1 : c < n) {R : List S51} (H : Ev (fun k => spec_l5edges.l0 k ((upI (rd st (c + 1)).toNat).map (fwdE n st tos dr co)) (c + 1) n st tos dr co) R) (d : Nat) : ∀ e : Nat, rd st c ≤ e → (e : Int) ≤ rd st (c + 1) → rd st (c + 1) - e = d →
  Ev (fun k => spec_l5edges.l1 k ((upI e).map (fwdE n st tos dr co)) c e n st tos dr co) R := by
 have n2 := v.n2
 have len := v.len
 have most := v.most
 have lto := v.lto
 have ldr := v.ldr
 have lco := v.lco
 have nn := st_nn v (a := c + 1) (by omega) (by omega)
 induction d with
 | zero =>
  intro e e0 e1 hd
  refine Ev.step (fun _ => rfl) ?_
  simp only [spec_l5edges.l1]
  rw [wrap64_id (x := c + 1) (by omega) (by omega)]
  refine ev_pos (by omega) (ev_pos (by omega) (ev_neg (by omega) ?_))
  rw [show (rd st (c + 1)).toNat = e by omega] at H
  exact H
 | succ d ih =>
  intro e e0 e1 hd
  have K := ih (e + 1) (by omega) (by omega) (by omega)
  rw [upI_succ, map_snoc] at K
  refine Ev.step (fun _ => rfl) ?_
  simp only [spec_l5edges.l1]
  rw [wrap64_id (x := c + 1) (by omega) (by omega)]
  refine ev_pos (by omega) (ev_pos (by omega) (ev_pos (by omega) (ev_pos (by omega) (ev_pos (by omega) (ev_pos (by omega) (ev_pos (by omega) (ev_pos (by rw [List.length_map, upI_length]; omega) ?_)))))))
  rw [wrap64_id (x := (e : Int) + 1) (by omega) (by omega)]
  rw [show fwdE n st tos dr co (e : Int) = ⟨c, rd tos e, rd dr e, rd co e⟩ by unfold fwdE; rw [owner_eq v c0 c1 e0 (by omega)]] at K
  exact K
theorem l5e_all (d : Nat) : ∀ c : Int, 0 ≤ c → c ≤ n → n - c = d → Ev (fun k => spec_l5edges.l0 k ((upI (rd st c).toNat).map (fwdE n st tos dr co)) c n st tos dr co) ((upI (rd st n).toNat).map (fwdE n st tos dr co)) := by
 have n2 := v.n2
 have len := v.len
 induction d with
 | zero =>
  intro c c0 c1 hd
  obtain rfl : c = n := by omega
  refine Ev.step (fun _ => rfl) ?_
  simp only [spec_l5edges.l0]
  exact ev_neg (by omega) (Ev.now _)
 | succ d ih =>
  intro c c0 c1 hd
  have nn := st_nn v c0 c1
  have mo := v.mono c c0 (by omega)
  refine Ev.step (fun _ => rfl) ?_
  simp only [spec_l5edges.l0]
  refine ev_pos (by omega) (ev_pos c0 (ev_pos (by omega) ?_))
  have K := l5e_row v c c0 (by omega) (ih (c + 1) (by omega) (by omega) (by omega)) (rd st (c + 1) - (rd st c).toNat).toNat (rd st c).toNat (by omega) (by omega) (by omega)
  rw [Int.toNat_of_nonneg nn.1] at K
  exact K
theorem spec_l5edges_ev : Ev (fun k => spec_l5edges.f k n st tos dr co) ((upI (rd st n).toNat).map (fwdE n st tos dr co)) := by
 simp only [spec_l5edges.f]
 have := l5e_all v n.toNat 0 (by omega) (by have := v.n1; omega) (by have := v.n1; omega)
 rw [v.zero] at this
 exact this
end

theorem spec_vg_edges {n : Int} {st tos dr co : List Int} (d : Nat) : ∀ (e : Int), 0 ≤ e → (rd st n) - e = d → 1 ≤ n → n ≤ 1600 → (st.length : Int) = n + 1 → rd st 0 = 0 → rd st n ≤ 6400 →
  (tos.length : Int) = rd st n → (dr.length : Int) = rd st n → (co.length : Int) = rd st n → (∀ c : Int, 0 ≤ c → c < n → rd st c ≤ rd st (c + 1)) →
  (∀ f : Int, 0 ≤ f → f < e → (0 ≤ rd tos f ∧ rd tos f < n) ∧ (0 ≤ rd dr f ∧ rd dr f ≤ 3) ∧ (1 ≤ rd co f ∧ rd co f ≤ 9)) →
  Ev (fun k => spec_ValidGraph.l1 k (rd st n) e n st tos dr co) (vg n st tos dr co) := by
 induction d with
 | zero =>
  intro e h0 hd n1 n2 hl hz hm h1 h2 h3 hs he
  refine Ev.step (fun _ => rfl) ?_
  simp only [spec_ValidGraph.l1]
  refine ev_neg (by omega) ?_
  rw [vg_true ⟨n1, n2, hl, hz, hs, hm, h1, h2, h3, fun f a b => he f a (by omega)⟩]
  exact Ev.now _
 | succ d ih =>
  intro e h0 hd n1 n2 hl hz hm h1 h2 h3 hs he
  refine Ev.step (fun _ => rfl) ?_
  simp only [spec_ValidGraph.l1]
  have bad : ¬ ((0 ≤ rd tos e ∧ rd tos e < n) ∧ (0 ≤ rd dr e ∧ rd dr e ≤ 3) ∧ (1 ≤ rd co e ∧ rd co e ≤ 9)) → Ev (fun _ => some false) (vg n st tos dr co) := by
   intro h; rw [vg_false (fun v => h (v.edge e h0 (by omega)))]; exact Ev.now _
  refine ev_pos (by omega) (ev_pos (by omega) (ev_pos (by omega) ?_))
  refine ev_ite (fun c => bad (by omega)) (fun c1 => ev_ite (fun c => bad (by omega)) (fun c2 => ev_pos (by omega) ?_))
  refine ev_ite (fun c => bad (by omega)) (fun c3 => ev_ite (fun c => bad (by omega)) (fun c4 => ev_pos (by omega) ?_))
  refine ev_ite (fun c => bad (by omega)) (fun c5 => ev_ite (fun c => bad (by omega)) (fun c6 => ?_))
  rw [wrap64_id (by omega) (by omega)]
  refine ih _ (by omega) (by omega) n1 n2 hl hz hm h1 h2 h3 hs (fun f a b => ?_)
  by_cases q : f = e
  ·subst q; omega
  ·exact he f a (by omega)
theorem spec_vg_sorted {n : Int} {st tos dr co : List Int} (d : Nat) : ∀ (c : Int), 0 ≤ c → n - c = d → 1 ≤ n → n ≤ 1600 → (st.length : Int) = n + 1 → rd st 0 = 0 → rd st n ≤ 6400 →
  (tos.length : Int) = rd st n → (dr.length : Int) = rd st n → (co.length : Int) = rd st n → (∀ f : Int, 0 ≤ f → f < c → rd st f ≤ rd st (f + 1)) →
  Ev (fun k => spec_ValidGraph.l0 k (rd st n) c n st tos dr co) (vg n st tos dr co) := by
 induction d with
 | zero =>
  intro c h0 hd n1 n2 hl hz hm h1 h2 h3 hs
  refine Ev.step (fun _ => rfl) ?_
  simp only [spec_ValidGraph.l0]
  refine ev_neg (by omega) ?_
  exact spec_vg_edges (rd st n).toNat 0 (by omega) (by omega) n1 n2 hl hz hm h1 h2 h3 (fun f a b => hs f a (by omega)) (fun f a b => by omega)
 | succ d ih =>
  intro c h0 hd n1 n2 hl hz hm h1 h2 h3 hs
  refine Ev.step (fun _ => rfl) ?_
  simp only [spec_ValidGraph.l0]
  rw [wrap64_id (by omega) (by omega)]
  refine ev_pos (by omega) (ev_pos (by omega) (ev_pos (by omega) (ev_pos (by omega) (ev_pos (by omega) ?_))))
  refine ev_ite (fun q => ?_) (fun q => ?_)
  ·rw [vg_false (fun v => by have := v.mono c h0 (by omega); omega)]; exact Ev.now _
  ·refine ih _ (by omega) (by omega) n1 n2 hl hz hm h1 h2 h3 (fun f a b => ?_)
   by_cases e : f = c
   ·subst e; omega
   ·exact hs f a (by omega)
theorem spec_ValidGraph_ev (n : Int) (st tos dr co : List Int) : Ev (fun k => spec_ValidGraph.f k n st tos dr co) (vg n st tos dr co) := by
 have bad0 : ¬ ValidG n st tos dr co → Ev (fun k => spec_ValidGraph.j0 k true n st tos dr co) (vg n st tos dr co) := by
  intro h; rw [vg_false h]
  refine Ev.step (fun _ => rfl) ?_
  simp only [spec_ValidGraph.j0]
  exact ev_pos (by trivial) (Ev.now _)
 have bad1 : ∀ m, ¬ ValidG n st tos dr co → Ev (fun k => spec_ValidGraph.j1 k m true n st tos dr co) (vg n st tos dr co) := by
  intro m h; rw [vg_false h]
  refine Ev.step (fun _ => rfl) ?_
  simp only [spec_ValidGraph.j1]
  exact ev_pos (by trivial) (Ev.now _)
 simp only [spec_ValidGraph.f]
 refine ev_ite (fun c => bad0 (fun v => by have := v.n1; omega)) (fun c1 => ?_)
 refine ev_ite (fun c => bad0 (fun v => by have := v.n2; omega)) (fun c2 => ?_)
 rw [wrap64_id (by omega) (by omega)]
 refine ev_ite (fun c3 => ev_pos (by omega) ?_) (fun c => bad0 (fun v => c v.len))
 by_cases c4 : rd st 0 = 0
 ·rw [show (rd st 0 != 0) = false by rw [bne_eq_false_iff_eq]; exact c4]
  refine Ev.step (fun _ => rfl) ?_
  simp only [spec_ValidGraph.j0]
  refine ev_neg (by simp) (ev_pos (by omega) (ev_pos (by omega) ?_))
  refine ev_ite (fun c => bad1 _ (fun v => by have := v.most; omega)) (fun c5 => ?_)
  refine ev_ite (fun c6 => ?_) (fun c => bad1 _ (fun v => c v.lto))
  refine ev_ite (fun c7 => ?_) (fun c => bad1 _ (fun v => c v.ldr))
  by_cases c8 : (co.length : Int) = rd st n
  ·rw [show ((co.length : Int) != rd st n) = false by rw [bne_eq_false_iff_eq]; exact c8]
   refine Ev.step (fun _ => rfl) ?_
   simp only [spec_ValidGraph.j1]
   refine ev_neg (by simp) ?_
   exact spec_vg_sorted n.toNat 0 (by omega) (by omega) (by omega) (by omega) c3 c4 (by omega) c6 c7 c8 (fun f a b => by omega)
  ·rw [show ((co.length : Int) != rd st n) = true by rw [bne_iff_ne]; exact c8]
   exact bad1 _ (fun v => c8 v.lco)
 ·rw [show (rd st 0 != 0) = true by rw [bne_iff_ne]; exact c4]
  exact bad0 (fun v => c4 v.zero)

def SortedZ (st : List Int) : Prop := ∀ c : Int, 0 ≤ c → c + 1 < st.length → rd st c ≤ rd st (c + 1)
open Classical in
noncomputable def sortedB (st : List Int) : Bool := decide (SortedZ st)
open Classical in
theorem sortedB_true {st : List Int} (h : SortedZ st) : sortedB st = true := by unfold sortedB; exact decide_eq_true h
open Classical in
theorem sortedB_false {st : List Int} (h : ¬ SortedZ st) : sortedB st = false := by unfold sortedB; exact decide_eq_false h
theorem Less_ev (a b : Int) : cmp_Less_int.f a b = some (decide (a < b)) := by
 simp [cmp_Less_int.f, cmp_isNaN_int.f]
theorem IsSorted_loop (st : List Int) (hb : st.length ≤ 9223372036854775807) (d : Nat) : ∀ (i : Int), i = d → i < st.length → (∀ c : Int, i ≤ c → c + 1 < st.length → rd st c ≤ rd st (c + 1)) →
  Ev (fun k => slices_IsSorted_int_int.l0 k st i) (sortedB st) := by
 induction d with
 | zero =>
  intro i hi hl hs
  refine Ev.step (fun _ => rfl) ?_
  simp only [slices_IsSorted_int_int.l0]
  refine ev_neg (by omega) ?_
  rw [sortedB_true (fun c a b => hs c (by omega) b)]; exact Ev.now _
 | succ d ih =>
  intro i hi hl hs
  refine Ev.step (fun _ => rfl) ?_
  simp only [slices_IsSorted_int_int.l0]
  rw [wrap64_id (by omega) (by omega)]
  refine ev_pos (by omega) (ev_pos (by omega) (ev_pos (by omega) (ev_pos (by omega) (ev_pos (by omega) ?_))))
  simp only [Less_ev]
  refine ev_letv (ev_ite (fun e => ?_) (fun e => ?_))
  ·have e := of_decide_eq_true e
   rw [sortedB_false (fun h => by have := h (i - 1) (by omega) (by omega); rw [show i - 1 + 1 = i by omega] at this; omega)]; exact Ev.now _
  ·have e := of_decide_eq_false (Bool.eq_false_iff.2 e)
   refine ih _ (by omega) (by omega) (fun c a b => ?_)
   by_cases q : c = i - 1
   ·subst q; rw [show i - 1 + 1 = i by omega]; omega
   ·exact hs c (by omega) b
theorem IsSorted_ev (st : List Int) (hb : st.length ≤ 9223372036854775807) : Ev (fun k => slices_IsSorted_int_int.f k st) (sortedB st) := by
 simp only [slices_IsSorted_int_int.f]
 rw [wrap64_id (by omega) (by omega)]
 by_cases h : st.length = 0
 ·refine Ev.step (fun _ => rfl) ?_
  simp only [slices_IsSorted_int_int.l0]
  refine ev_neg (by omega) ?_
  rw [sortedB_true (fun c a b => by omega)]; exact Ev.now _
 ·exact IsSorted_loop st hb (st.length - 1) _ (by omega) (by omega) (fun c a b => by omega)

theorem impl_vg_edges {n : Int} {st tos dr co : List Int} (d : Nat) : ∀ (e : Int), 0 ≤ e → (rd st n) - e = d → 1 ≤ n → n ≤ 1600 → (st.length : Int) = n + 1 → rd st 0 = 0 → rd st n ≤ 6400 →
  (tos.length : Int) = rd st n → (dr.length : Int) = rd st n → (co.length : Int) = rd st n → (∀ c : Int, 0 ≤ c → c < n → rd st c ≤ rd st (c + 1)) →
  (∀ f : Int, 0 ≤ f → f < e → (0 ≤ rd tos f ∧ rd tos f < n) ∧ (0 ≤ rd dr f ∧ rd dr f ≤ 3) ∧ (1 ≤ rd co f ∧ rd co f ≤ 9)) →
  Ev (fun k => impl_ValidGraph.l0 k (rd st n) e n st tos dr co) (vg n st tos dr co) := by
 induction d with
 | zero =>
  intro e h0 hd n1 n2 hl hz hm h1 h2 h3 hs he
  refine Ev.step (fun _ => rfl) ?_
  simp only [impl_ValidGraph.l0]
  refine ev_neg (by omega) ?_
  rw [vg_true ⟨n1, n2, hl, hz, hs, hm, h1, h2, h3, fun f a b => he f a (by omega)⟩]
  exact Ev.now _
 | succ d ih =>
  intro e h0 hd n1 n2 hl hz hm h1 h2 h3 hs he
  refine Ev.step (fun _ => rfl) ?_
  simp only [impl_ValidGraph.l0]
  have bad : ¬ ((0 ≤ rd tos e ∧ rd tos e < n) ∧ (0 ≤ rd dr e ∧ rd dr e ≤ 3) ∧ (1 ≤ rd co e ∧ rd co e ≤ 9)) → Ev (fun _ => some false) (vg n st tos dr co) := by
   intro h; rw [vg_false (fun v => h (v.edge e h0 (by omega)))]; exact Ev.now _
  refine ev_pos (by omega) (ev_pos (by omega) (ev_pos (by omega) ?_))
  refine ev_ite (fun c => bad (by omega)) (fun c1 => ev_ite (fun c => bad (by omega)) (fun c2 => ev_pos (by omega) ?_))
  refine ev_ite (fun c => bad (by omega)) (fun c3 => ev_ite (fun c => bad (by omega)) (fun c4 => ev_pos (by omega) ?_))
  refine ev_ite (fun c => bad (by omega)) (fun c5 => ev_ite (fun c => bad (by omega)) (fun c6 => ?_))
  rw [wrap64_id (by omega) (by omega)]
  refine ih _ (by omega) (by omega) n1 n2 hl hz hm h1 h2 h3 hs (fun f a b => ?_)
  by_cases q : f = e
  ·subst q; omega
  ·exact he f a (by omega)
theorem impl_ValidGraph_ev (n : Int) (st tos dr co : List Int) : Ev (fun k => impl_ValidGraph.f k n st tos dr co) (vg n st tos dr co) := by
 have bad0 : ¬ ValidG n st tos dr co → Ev (fun k => impl_ValidGraph.j0 k true n st tos dr co) (vg n st tos dr co) := by
  intro h; rw [vg_false h]
  refine Ev.step (fun _ => rfl) ?_
  simp only [impl_ValidGraph.j0]
  exact ev_pos (by trivial) (Ev.now _)
 have bad1 : ∀ m, ¬ ValidG n st tos dr co → Ev (fun k => impl_ValidGraph.j1 k m true n st tos dr co) (vg n st tos dr co) := by
  intro m h; rw [vg_false h]
  refine Ev.step (fun _ => rfl) ?_
  simp only [impl_ValidGraph.j1]
  exact ev_pos (by trivial) (Ev.now _)
 simp only [impl_ValidGraph.f]
 refine ev_ite (fun c => bad0 (fun v => by have := v.n1; omega)) (fun c1 => ?_)
 refine ev_ite (fun c => bad0 (fun v => by have := v.n2; omega)) (fun c2 => ?_)
 rw [wrap64_id (by omega) (by omega)]
 refine ev_ite (fun c3 => ev_pos (by omega) ?_) (fun c => bad0 (fun v => c v.len))
 refine ev_ite (fun c4 => ?_) (fun c4 => bad0 (fun v => c4 v.zero))
 refine Ev.bind (IsSorted_ev st (by omega)) ?_
 by_cases cs : SortedZ st
 ·rw [sortedB_true cs]
  simp only [Bool.not_true]
  refine Ev.step (fun _ => rfl) ?_
  simp only [impl_ValidGraph.j0]
  refine ev_neg (by simp) (ev_pos (by omega) (ev_pos (by omega) ?_))
  refine ev_ite (fun c => bad1 _ (fun v => by have := v.most; omega)) (fun c5 => ?_)
  refine ev_ite (fun c6 => ?_) (fun c => bad1 _ (fun v => c v.lto))
  refine ev_ite (fun c7 => ?_) (fun c => bad1 _ (fun v => c v.ldr))
  by_cases c8 : (co.length : Int) = rd st n
  ·rw [show ((co.length : Int) != rd st n) = false by rw [bne_eq_false_iff_eq]; exact c8]
   refine Ev.step (fun _ => rfl) ?_
   simp only [impl_ValidGraph.j1]
   refine ev_neg (by simp) ?_
   exact impl_vg_edges (rd st n).toNat 0 (by omega) (by omega) (by omega) (by omega) c3 c4 (by omega) c6 c7 c8 (fun f a b => cs f a (by omega)) (fun f a b => by omega)
  ·rw [show ((co.length : Int) != rd st n) = true by rw [bne_iff_ne]; exact c8]
   exact bad1 _ (fun v => c8 v.lco)
 ·rw [sortedB_false cs]
  simp only [Bool.not_false]
  exact bad0 (fun v => cs (fun f a b => v.mono f a (by have := v.len; omega)))

def Way (E : Int → Int → Prop) (fr : List Int) (v : Int) : Prop := ∀ P : Int → Prop, (∀ s ∈ fr, P s) → (∀ a b, P a → E a b → P b) → P v
theorem Way.here {E : Int → Int → Prop} {fr : List Int} {s : Int} (h : s ∈ fr) : Way E fr s := fun _ h0 _ => h0 s h
theorem Way.on {E : Int → Int → Prop} {fr : List Int} {a b : Int} (h : Way E fr a) (e : E a b) : Way E fr b := fun P h0 h1 => h1 a b (h P h0 h1) e
structure Snd (n : Int) (E : Int → Int → Prop) (fr : List Int) (out : List Bool) : Prop where
 len : (out.length : Int) = n
 snd : ∀ v : Int, 0 ≤ v → v < n → rdOf false out v = true → Way E fr v
structure IsReach (n : Int) (E : Int → Int → Prop) (fr : List Int) (out : List Bool) : Prop where
 s : Snd n E fr out
 frm : ∀ s ∈ fr, rdOf false out s = true
 cls : ∀ a b : Int, 0 ≤ a → a < n → rdOf false out a = true → E a b → rdOf false out b = true
theorem IsReach.unique {n : Int} {E : Int → Int → Prop} {fr : List Int} {o1 o2 : List Bool} (hE : ∀ a b, E a b → 0 ≤ b ∧ b < n) (hf : ∀ s ∈ fr, 0 ≤ s ∧ s < n) (h1 : IsReach n E fr o1) (h2 : IsReach n E fr o2) : o1 = o2 := by
 have key : ∀ o o' : List Bool, IsReach n E fr o → IsReach n E fr o' → ∀ i : Int, 0 ≤ i → i < n → rdOf false o i = true → rdOf false o' i = true := by
  intro o o' h h' i i0 i1 hi
  exact ((h.s.snd i i0 i1 hi) (fun v => (0 ≤ v ∧ v < n) ∧ rdOf false o' v = true) (fun s hs => ⟨hf s hs, h'.frm s hs⟩) (fun a b ha e => ⟨hE a b e, h'.cls a b ha.1.1 ha.1.2 ha.2 e⟩)).2
 have l1 := h1.s.len
 have l2 := h2.s.len
 refine getD_ext false (by omega) (fun i i0 i1 => ?_)
 have a := key o1 o2 h1 h2 i i0 (by omega)
 have b := key o2 o1 h2 h1 i i0 (by omega)
 unfold rdOf at a b
 cases c1 : o1.getD i.toNat false <;> cases c2 : o2.getD i.toNat false <;> simp_all
theorem rdB_set_eq {o : List Bool} {c : Int} (c0 : 0 ≤ c) (c1 : c < o.length) : rdOf false (o.set c.toNat true) c = true := by unfold rdOf; exact getD_set_eq c0 c1
theorem rdB_set {o : List Bool} {c v : Int} (c0 : 0 ≤ c) (v0 : 0 ≤ v) (h : rdOf false (o.set c.toNat true) v = true) : v = c ∨ rdOf false o v = true := by
 by_cases e : c = v
 ·exact .inl e.symm
 ·unfold rdOf at h ⊢
  rw [getD_set_ne c0 v0 e] at h
  exact .inr h
theorem rdB_keep {o : List Bool} {c v : Int} (c0 : 0 ≤ c) (c1 : c < o.length) (v0 : 0 ≤ v) (h : rdOf false o v = true) : rdOf false (o.set c.toNat true) v = true := by
 by_cases e : c = v
 ·subst e; exact rdB_set_eq c0 c1
 ·unfold rdOf at h ⊢
  rw [getD_set_ne c0 v0 e]
  exact h
theorem cnt_set {o : List Bool} {c : Int} (c0 : 0 ≤ c) (c1 : c < o.length) (h : rdOf false o c = false) : (o.set c.toNat true).count true = o.count true + 1 := by
 have hi : c.toNat < o.length := by omega
 unfold rdOf at h
 rw [getD_lt hi] at h
 rw [List.count_set hi, h]
 simp
theorem Snd.set {n : Int} {E : Int → Int → Prop} {fr : List Int} {o : List Bool} {c : Int} (h : Snd n E fr o) (c0 : 0 ≤ c) (hw : Way E fr c) : Snd n E fr (o.set c.toNat true) := by
 refine ⟨by rw [List.length_set]; exact h.len, fun v v0 v1 hv => ?_⟩
 rcases rdB_set c0 v0 hv with rfl | q
 ·exact hw
 ·exact h.snd v v0 v1 q
theorem Snd.zero {n : Int} (n0 : 0 ≤ n) (E : Int → Int → Prop) (fr : List Int) : Snd n E fr (List.replicate n.toNat false) := by
 refine ⟨by rw [List.length_replicate]; omega, fun v v0 v1 hv => ?_⟩
 unfold rdOf at hv
 rw [getD_lt (by rw [List.length_replicate]; omega)] at hv
 simp at hv
structure Edges (n : Int) (E : Int → Int → Prop) (es : List S51) : Prop where
 small : es.length ≤ 1000000
 one : ∀ i : Int, 0 ≤ i → i < es.length → (0 ≤ (rd_T51 es i).f0 ∧ (rd_T51 es i).f0 < n) ∧ (0 ≤ (rd_T51 es i).f1 ∧ (rd_T51 es i).f1 < n) ∧ E (rd_T51 es i).f0 (rd_T51 es i).f1
 all : ∀ a b : Int, E a b → ∃ i : Int, 0 ≤ i ∧ i < es.length ∧ (rd_T51 es i).f0 = a ∧ (rd_T51 es i).f1 = b
section
variable {n : Int} {E : Int → Int → Prop} {fr : List Int} {es : List S51} (he : Edges n E es) (n1 : 1 ≤ n) (n2 : n ≤ 1000000) (hf : ∀ s ∈ fr, 0 ≤ s ∧ s < n)
include he
theorem l5pass (o0 : List Bool) (f0 : ∀ s ∈ fr, rdOf false o0 s = true) (K1 : ∀ o : List Bool, Snd n E fr o → (∀ s ∈ fr, rdOf false o s = true) → o0.count true < o.count true → ∃ R, Ev (fun k => spec_l5reach.l1 k es o) R ∧ IsReach n E fr R) (m : Nat) :
  ∀ (i : Nat) (o : List Bool) (b : Bool), i + m = es.length → Snd n E fr o → (∀ s ∈ fr, 0 ≤ s) → (∀ s ∈ fr, rdOf false o s = true) → (b = true → o0.count true < o.count true) → (b = false → o = o0 ∧ ∀ j : Int, 0 ≤ j → j < i → rdOf false o (rd_T51 es j).f0 = true → rdOf false o (rd_T51 es j).f1 = true) →
  o0.count true ≤ o.count true → ∃ R, Ev (fun k => spec_l5reach.l2 k es o b i) R ∧ IsReach n E fr R := by
 have sm := he.small
 induction m with
 | zero =>
  intro i o b hi hs hf0 hf1 ht hfl hc
  cases b with
  | true =>
   obtain ⟨R, e, r⟩ := K1 o hs hf1 (ht rfl)
   refine ⟨R, Ev.step (fun _ => rfl) ?_, r⟩
   simp only [spec_l5reach.l2]
   exact ev_neg (by omega) (ev_pos (by trivial) e)
  | false =>
   obtain ⟨rfl, hcl⟩ := hfl rfl
   refine ⟨o, Ev.step (fun _ => rfl) ?_, ⟨hs, hf1, fun a c a0 a1 ha e => ?_⟩⟩
   ·simp only [spec_l5reach.l2]
    exact ev_neg (by omega) (ev_neg (by simp) (Ev.now _))
   ·obtain ⟨j, j0, j1, rfl, rfl⟩ := he.all a c e
    exact hcl j j0 (by omega) ha
 | succ m ih =>
  intro i o b hi hs hf0 hf1 ht hfl hc
  have one := he.one i (by omega) (by omega)
  have len := hs.len
  have go : ∀ (o' : List Bool) (b' : Bool), (∃ R, Ev (fun k => spec_l5reach.l2 k es o' b' (wrap64 ((i : Int) + 1))) R ∧ IsReach n E fr R) ↔ (∃ R, Ev (fun k => spec_l5reach.l2 k es o' b' ((i + 1 : Nat) : Int)) R ∧ IsReach n E fr R) := by
   intro o' b'
   rw [wrap64_id (by omega) (by omega)]
   exact Iff.rfl
  by_cases c0 : rdOf false o (rd_T51 es (i : Int)).f0 = true
  ·by_cases c1 : rdOf false o (rd_T51 es (i : Int)).f1 = true
   ·obtain ⟨R, e, r⟩ := (go o b).2 (ih (i + 1) o b (by omega) hs hf0 hf1 ht (fun hb => ⟨(hfl hb).1, fun j j0 j1 h => by
     by_cases q : j = i
     ·subst q; exact c1
     ·exact (hfl hb).2 j j0 (by omega) h⟩) hc)
    refine ⟨R, Ev.step (fun _ => rfl) ?_, r⟩
    simp only [spec_l5reach.l2]
    exact ev_pos (by omega) (ev_pos (by omega) (ev_pos one.1.1 (ev_pos (by omega) (ev_pos c0 (ev_pos one.2.1.1 (ev_pos (by omega) (ev_pos c1 e)))))))
   ·have c1' : rdOf false o (rd_T51 es (i : Int)).f1 = false := by simpa using c1
    have cs := cnt_set one.2.1.1 (by omega) c1'
    obtain ⟨R, e, r⟩ := (go (o.set (rd_T51 es (i : Int)).f1.toNat true) true).2 (ih (i + 1) _ true (by omega) (hs.set one.2.1.1 ((hs.snd _ one.1.1 one.1.2 c0).on one.2.2)) hf0 (fun s q => rdB_keep one.2.1.1 (by omega) (hf0 s q) (hf1 s q)) (fun _ => by omega) (fun q => by cases q) (by omega))
    refine ⟨R, Ev.step (fun _ => rfl) ?_, r⟩
    simp only [spec_l5reach.l2]
    exact ev_pos (by omega) (ev_pos (by omega) (ev_pos one.1.1 (ev_pos (by omega) (ev_pos c0 (ev_pos one.2.1.1 (ev_pos (by omega) (ev_neg c1 e)))))))
  ·obtain ⟨R, e, r⟩ := (go o b).2 (ih (i + 1) o b (by omega) hs hf0 hf1 ht (fun hb => ⟨(hfl hb).1, fun j j0 j1 h => by
     by_cases q : j = i
     ·subst q; exact absurd h c0
     ·exact (hfl hb).2 j j0 (by omega) h⟩) hc)
   refine ⟨R, Ev.step (fun _ => rfl) ?_, r⟩
   simp only [spec_l5reach.l2]
   exact ev_pos (by omega) (ev_pos (by omega) (ev_pos one.1.1 (ev_pos (by omega) (ev_neg c0 e))))
theorem l5passes (hf0 : ∀ s ∈ fr, 0 ≤ s) (d : Nat) : ∀ o : List Bool, Snd n E fr o → (∀ s ∈ fr, rdOf false o s = true) → o.length - o.count true ≤ d → ∃ R, Ev (fun k => spec_l5reach.l1 k es o) R ∧ IsReach n E fr R := by
 induction d with
 | zero =>
  intro o hs hf1 hd
  obtain ⟨R, e, r⟩ := l5pass he o hf1 (fun o' hs' _ hc => by
   have a := List.count_le_length (a := true) (l := o')
   have b := hs.len
   have c := hs'.len
   omega) es.length 0 o false (by omega) hs hf0 hf1 (fun q => by cases q) (fun _ => ⟨rfl, fun j j0 j1 => by omega⟩) (Nat.le_refl _)
  exact ⟨R, Ev.step (fun _ => rfl) (by simp only [spec_l5reach.l1]; exact e), r⟩
 | succ d ih =>
  intro o hs hf1 hd
  obtain ⟨R, e, r⟩ := l5pass he o hf1 (fun o' hs' hf' hc => ih o' hs' hf' (by
   have b := hs.len
   have c := hs'.len
   omega)) es.length 0 o false (by omega) hs hf0 hf1 (fun q => by cases q) (fun _ => ⟨rfl, fun j j0 j1 => by omega⟩) (Nat.le_refl _)
  exact ⟨R, Ev.step (fun _ => rfl) (by simp only [spec_l5reach.l1]; exact e), r⟩
include n1 n2 hf
theorem l5from (hfl : fr.length ≤ 10000000) (m : Nat) : ∀ (i : Nat) (o : List Bool), i + m = fr.length → Snd n E fr o → (∀ s ∈ fr.take i, rdOf false o s = true) → ∃ R, Ev (fun k => spec_l5reach.l0 k es fr o i) R ∧ IsReach n E fr R := by
 induction m with
 | zero =>
  intro i o hi hs ht
  rw [List.take_of_length_le (by omega)] at ht
  obtain ⟨R, e, r⟩ := l5passes he (fun s q => (hf s q).1) o.length o hs ht (by omega)
  refine ⟨R, Ev.step (fun _ => rfl) ?_, r⟩
  simp only [spec_l5reach.l0]
  exact ev_neg (by omega) e
 | succ m ih =>
  intro i o hi hs ht
  have hmem : rd fr (i : Int) ∈ fr := rd_mem (by omega) (by omega)
  have r0 := hf _ hmem
  have len := hs.len
  obtain ⟨R, e, r⟩ := ih (i + 1) (o.set (rd fr (i : Int)).toNat true) (by omega) (hs.set r0.1 (Way.here hmem)) (fun s q => by
   rw [take_snoc' fr i (by omega), List.mem_append, List.mem_singleton] at q
   rcases q with q | q
   ·exact rdB_keep r0.1 (by omega) (hf s (List.mem_of_mem_take q)).1 (ht s q)
   ·have : rd fr (i : Int) = s := by rw [q, rd_get (by omega) (by omega)]; simp
    rw [this]
    exact rdB_set_eq (this ▸ r0.1) (by omega))
  refine ⟨R, Ev.step (fun _ => rfl) ?_, r⟩
  simp only [spec_l5reach.l0]
  refine ev_pos (by omega) (ev_pos (by omega) (ev_pos r0.1 (ev_pos (by omega) ?_)))
  rw [wrap64_id (by omega) (by omega)]
  exact e
theorem l5reach_ev (hfl : fr.length ≤ 10000000) : ∃ R, Ev (fun k => spec_l5reach.f k es n fr) R ∧ IsReach n E fr R := by
 obtain ⟨R, e, r⟩ := l5from he n1 n2 hf hfl fr.length 0 (List.replicate n.toNat false) (by omega) (Snd.zero (by omega) E fr) (fun s q => by simp at q)
 refine ⟨R, ?_, r⟩
 simp only [spec_l5reach.f]
 exact ev_pos (by omega) (ev_pos (by omega) e)
end

section
variable {n : Int} {st tos dr co : List Int} (v : ValidG n st tos dr co)
include v
theorem owner_ex {e : Int} (e0 : 0 ≤ e) : ∀ m : Nat, (m : Int) ≤ n → e < rd st m → ∃ c : Int, 0 ≤ c ∧ c < n ∧ rd st c ≤ e ∧ e < rd st (c + 1)
 | 0, _, h => by have := v.zero; rw [show ((0 : Nat) : Int) = 0 from rfl] at h; omega
 | m + 1, hm, h => by
  by_cases q : e < rd st (m : Int)
  ·exact owner_ex e0 m (by omega) q
  ·exact ⟨m, by omega, by omega, by omega, by rw [show (m : Int) + 1 = ((m + 1 : Nat) : Int) by omega]; exact h⟩
def Edge (n : Int) (st tos : List Int) (a b : Int) : Prop := 0 ≤ a ∧ a < n ∧ ∃ e : Int, rd st a ≤ e ∧ e < rd st (a + 1) ∧ rd tos e = b
theorem edge_range {a b : Int} (h : Edge n st tos a b) : 0 ≤ b ∧ b < n := by
 obtain ⟨a0, a1, e, e0, e1, rfl⟩ := h
 have x := st_nn v (a := a) a0 (by omega)
 have y := st_le v (a := a + 1) (b := n) (by omega) (by omega) (Int.le_refl _)
 exact (v.edge e (by omega) (by omega)).1
theorem edges_fwd : Edges n (Edge n st tos) ((upI (rd st n).toNat).map (fwdE n st tos dr co)) := by
 have most := v.most
 have nn := st_nn v (a := n) (by have := v.n1; omega) (Int.le_refl _)
 have at_ : ∀ i : Nat, i < (rd st n).toNat → rd_T51 ((upI (rd st n).toNat).map (fwdE n st tos dr co)) (i : Int) = fwdE n st tos dr co i := by
  intro i hi
  rw [rdE_lt (by rw [List.length_map, upI_length]; exact hi), List.getElem_map, upI_get]
 refine ⟨by rw [List.length_map, upI_length]; omega, fun i i0 i1 => ?_, fun a b h => ?_⟩
 ·have n1 := v.n1
  rw [List.length_map, upI_length] at i1
  obtain ⟨j, rfl⟩ := Int.eq_ofNat_of_zero_le i0
  rw [at_ j (by omega)]
  obtain ⟨c, c0, c1, x, y⟩ := owner_ex v (e := j) i0 n.toNat (by omega) (by rw [show (n.toNat : Int) = n by have := v.n1; omega]; omega)
  have o := owner_eq v c0 c1 x y
  have ed := v.edge j i0 (by omega)
  simp only [fwdE]
  rw [o]
  exact ⟨⟨c0, c1⟩, ed.1, c0, c1, j, x, y, rfl⟩
 ·obtain ⟨a0, a1, e, e0, e1, rfl⟩ := h
  have x := st_nn v (a := a) a0 (by omega)
  have y := st_le v (a := a + 1) (b := n) (by omega) (by omega) (Int.le_refl _)
  obtain ⟨j, rfl⟩ := Int.eq_ofNat_of_zero_le (show 0 ≤ e by omega)
  refine ⟨j, by omega, by rw [List.length_map, upI_length]; omega, ?_, ?_⟩
  ·rw [at_ j (by omega)]; exact owner_eq v a0 a1 e0 e1
  ·rw [at_ j (by omega)]; rfl
end
section
variable {n : Int} {E : Int → Int → Prop} {fr : List Int}
structure RInv (n : Int) (E : Int → Int → Prop) (fr : List Int) (s : List Bool × List Int) : Prop where
 sd : Snd n E fr s.1
 q : ∀ c ∈ s.2, (0 ≤ c ∧ c < n) ∧ rdOf false s.1 c = true
 cnt : s.2.length ≤ s.1.count true
theorem visits_inv (n2 : n ≤ 1000000) : ∀ (L : List Int) (s : List Bool × List Int), RInv n E fr s → (∀ c ∈ L, (0 ≤ c ∧ c < n) ∧ Way E fr c) →
  ∃ s', impl_Reach.visits L s = some s' ∧ RInv n E fr s' ∧ (∀ x : Int, 0 ≤ x → rdOf false s.1 x = true → rdOf false s'.1 x = true) ∧ (∀ c ∈ L, rdOf false s'.1 c = true) ∧ (∀ x : Int, 0 ≤ x → rdOf false s'.1 x = true → rdOf false s.1 x = true ∨ x ∈ s'.2) ∧ (∀ x ∈ s.2, x ∈ s'.2) ∧ s'.1.count true + s.2.length = s.1.count true + s'.2.length
 | [], s, i, _ => ⟨s, rfl, i, fun _ _ h => h, (fun c hc => by cases hc), fun _ _ h => .inl h, fun _ h => h, by omega⟩
 | c :: L, s, i, hL => by
  have hc := hL c List.mem_cons_self
  have len := i.sd.len
  have cl := List.count_le_length (a := true) (l := s.1)
  have ic := i.cnt
  by_cases m : rdOf false s.1 c = true
  ·obtain ⟨s', e, i', k1, k2, k3, k4, k5⟩ := visits_inv n2 L s i (fun x hx => hL x (List.mem_cons_of_mem _ hx))
   refine ⟨s', ?_, i', k1, fun x hx => ?_, k3, k4, k5⟩
   ·rw [impl_Reach.visits, impl_Reach.visit, if_pos ⟨hc.1.1, by omega⟩, if_pos m]
    exact e
   ·rcases List.mem_cons.1 hx with rfl | hx
    ·exact k1 _ hc.1.1 m
    ·exact k2 x hx
  ·have m' : rdOf false s.1 c = false := by simpa using m
   have cs := cnt_set hc.1.1 (by omega) m'
   have i2 : RInv n E fr (s.1.set c.toNat true, s.2 ++ [c]) := ⟨i.sd.set hc.1.1 hc.2, fun x hx => by
    rcases List.mem_append.1 hx with hx | hx
    ·exact ⟨(i.q x hx).1, rdB_keep hc.1.1 (by omega) (i.q x hx).1.1 (i.q x hx).2⟩
    ·rw [List.mem_singleton.1 hx]; exact ⟨hc.1, rdB_set_eq hc.1.1 (by omega)⟩, by rw [List.length_append, List.length_singleton, cs]; omega⟩
   obtain ⟨s', e, i', k1, k2, k3, k4, k5⟩ := visits_inv n2 L _ i2 (fun x hx => hL x (List.mem_cons_of_mem _ hx))
   have cq : c ∈ s'.2 := k4 c (List.mem_append_right _ (List.mem_singleton.2 rfl))
   refine ⟨s', ?_, i', fun x x0 hx => k1 x x0 (rdB_keep hc.1.1 (by omega) x0 hx), fun x hx => ?_, fun x x0 hx => ?_, fun x hx => k4 x (List.mem_append_left _ hx), ?_⟩
   ·rw [impl_Reach.visits, impl_Reach.visit, if_pos ⟨hc.1.1, by omega⟩, if_neg m, if_pos (by have c2 := List.count_le_length (a := true) (l := s.1.set c.toNat true); rw [cs, List.length_set] at c2; omega)]
    exact e
   ·rcases List.mem_cons.1 hx with rfl | hx
    ·exact (i'.q _ cq).2
    ·exact k2 x hx
   ·rcases k3 x x0 hx with h | h
    ·rcases rdB_set hc.1.1 x0 h with rfl | h
     ·exact .inr cq
     ·exact .inl h
    ·exact .inr h
   ·simp only [List.length_append, List.length_singleton, cs] at k5
    omega
end
section
variable {n : Int} {st tos dr co : List Int} (v : ValidG n st tos dr co) {fr : List Int}
include v
theorem row_mem {c x : Int} (c0 : 0 ≤ c) (c1 : c < n) : x ∈ (tos.take (rd st (c + 1)).toNat).drop (rd st c).toNat ↔ Edge n st tos c x := by
 have a := st_nn v (a := c) c0 (by omega)
 have b := st_le v (a := c) (b := c + 1) c0 (by omega) (by omega)
 have d := st_le v (a := c + 1) (b := n) (by omega) (by omega) (Int.le_refl _)
 have lto := v.lto
 constructor
 ·intro h
  obtain ⟨j, hj, rfl⟩ := List.getElem_of_mem h
  have hj2 := hj
  rw [List.length_drop, List.length_take] at hj2
  refine ⟨c0, c1, rd st c + j, by omega, by omega, ?_⟩
  rw [List.getElem_drop, List.getElem_take, rd_get (i := rd st c + (j : Int)) (by omega) (by omega)]
  congr 1
  omega
 ·rintro ⟨_, _, e, e0, e1, rfl⟩
  rw [rd_get (i := e) (by omega) (by omega)]
  have hl : e.toNat - (rd st c).toNat < ((tos.take (rd st (c + 1)).toNat).drop (rd st c).toNat).length := by
   rw [List.length_drop, List.length_take]; omega
  have : ((tos.take (rd st (c + 1)).toNat).drop (rd st c).toNat)[e.toNat - (rd st c).toNat] = tos[e.toNat] := by
   rw [List.getElem_drop, List.getElem_take]
   congr 1
   omega
  rw [← this]
  exact List.getElem_mem _
theorem bfs_reach (hf : ∀ s ∈ fr, 0 ≤ s ∧ s < n) : ∀ (k : Nat) (s : List Bool × List Int), RInv n (Edge n st tos) fr s → (∀ x ∈ fr, rdOf false s.1 x = true) → (∀ a b : Int, 0 ≤ a → a < n → rdOf false s.1 a = true → a ∉ s.2 → Edge n st tos a b → rdOf false s.1 b = true) → s.1.length - s.1.count true + s.2.length < k →
  ∃ R, impl_Reach.bfs st tos k s = some R ∧ IsReach n (Edge n st tos) fr R
 | 0, s, _, _, _, hk => by omega
 | k + 1, (out, []), i, hf1, hd, hk => ⟨out, rfl, ⟨i.sd, hf1, fun a b a0 a1 h e => hd a b a0 a1 h (by simp) e⟩⟩
 | k + 1, (out, c :: q), i, hf1, hd, hk => by
  have n2 := v.n2
  have len := v.len
  have lto := v.lto
  have hc := i.q c List.mem_cons_self
  have w := i.sd.snd c hc.1.1 hc.1.2 hc.2
  have a := st_nn v (a := c) hc.1.1 (by omega)
  have b := st_le v (a := c) (b := c + 1) hc.1.1 (by omega) (by omega)
  have d := st_le v (a := c + 1) (b := n) (by omega) (by omega) (Int.le_refl _)
  have ic := i.cnt
  have il := i.sd.len
  have cl := List.count_le_length (a := true) (l := out)
  simp only [List.length_cons] at ic hk il
  have i0 : RInv n (Edge n st tos) fr (out, q) := ⟨i.sd, fun x hx => i.q x (List.mem_cons_of_mem _ hx), by simp only; omega⟩
  obtain ⟨s', e, i', k1, k2, k3, k4, k5⟩ := visits_inv (by omega) ((tos.take (rd st (c + 1)).toNat).drop (rd st c).toNat) (out, q) i0 (fun x hx => by
   have he := (row_mem v hc.1.1 hc.1.2).1 hx
   exact ⟨edge_range v he, w.on he⟩)
  simp only at k1 k3 k4 k5
  have cl' := List.count_le_length (a := true) (l := s'.1)
  have il' := i'.sd.len
  obtain ⟨R, e2, r⟩ := bfs_reach hf k s' i' (fun x hx => k1 x (hf x hx).1 (hf1 x hx)) (fun x y x0 x1 hx hq he => by
   by_cases xc : x = c
   ·subst xc
    exact k2 y ((row_mem v x0 x1).2 he)
   ·rcases k3 x x0 hx with h | h
    ·by_cases xq : x ∈ q
     ·exact absurd (k4 x xq) hq
     ·exact k1 y (edge_range v he).1 (hd x y x0 x1 h (by rw [List.mem_cons]; exact fun o => o.elim xc xq) he)
    ·exact absurd h hq) (by omega)
  refine ⟨R, ?_, r⟩
  simp only [impl_Reach.bfs]
  rw [if_pos ⟨hc.1.1, by omega, a.1, b, by omega⟩, e]
  exact e2
end

theorem spec_from {n : Int} {st tos dr co fr : List Int} (hl : fr.length ≤ 10000000) {R : List Bool × Int} (hb : fr.any (impl_Reach.bad n) = false → Ev (fun k => (spec_l5edges.f k n st tos dr co).bind fun t => (spec_l5reach.f k t n fr).bind fun r => some (r, (0 : Int))) R) (hR : fr.any (impl_Reach.bad n) = true → R = ([], 1)) (m : Nat) :
  ∀ i : Nat, i + m = fr.length → (fr.drop i).any (impl_Reach.bad n) = fr.any (impl_Reach.bad n) → Ev (fun k => spec_Reach.l0 k fr i n st tos dr co) R := by
 induction m with
 | zero =>
  intro i hi ha
  rw [List.drop_of_length_le (by omega)] at ha
  refine Ev.step (fun _ => rfl) ?_
  simp only [spec_Reach.l0]
  exact ev_neg (by omega) (hb ha.symm)
 | succ m ih =>
  intro i hi ha
  have hd : fr.drop i = rd fr (i : Int) :: fr.drop (i + 1) := by
   rw [List.drop_eq_getElem_cons (by omega), rd_get (by omega) (by omega)]
   simp
  rw [hd, List.any_cons] at ha
  refine Ev.step (fun _ => rfl) ?_
  simp only [spec_Reach.l0]
  refine ev_pos (by omega) (ev_pos (by omega) (ev_ite (fun c => ?_) (fun c => ev_ite (fun d => ?_) (fun d => ?_))))
  ·rw [hR (by rw [← ha]; simp [impl_Reach.bad, c])]; exact Ev.now _
  ·rw [hR (by rw [← ha]; simp [impl_Reach.bad, d])]; exact Ev.now _
  ·rw [wrap64_id (by omega) (by omega)]
   refine ih (i + 1) (by omega) ?_
   rw [← ha, show impl_Reach.bad n (rd fr (i : Int)) = false by simp [impl_Reach.bad]; omega]
   rfl
theorem reach_both (n : Int) (st tos dr co fr : List Int) (hl : fr.length ≤ 1048576) :
  ∃ r, Ev (fun k => spec_Reach.f k n st tos dr co fr) r ∧ Ev (fun k => impl_Reach.f k n st tos dr co fr) r ∧ r.1.length ≤ 10000 := by
 have es := spec_ValidGraph_ev n st tos dr co
 have ei := impl_ValidGraph_ev n st tos dr co
 simp only [spec_Reach.f, impl_Reach.f]
 cases hv : vg n st tos dr co with
 | false =>
  rw [hv] at es ei
  refine ⟨([], 1), Ev.bind es (ev_neg (by simp) (Ev.step (fun _ => rfl) ?_)), Ev.bind ei (ev_neg (by simp) (Ev.now _)), by simp⟩
  simp only [spec_Reach.j0]
  exact ev_pos (by trivial) (Ev.now _)
 | true =>
  rw [hv] at es ei
  have v : ValidG n st tos dr co := by
   refine Classical.byContradiction fun q => ?_
   rw [vg_false q] at hv; cases hv
  have n1 := v.n1
  have n2 := v.n2
  have most := v.most
  have len := v.len
  have lto := v.lto
  by_cases c1 : (fr.length : Int) > n
  ·refine ⟨([], 1), Ev.bind es (ev_pos (by trivial) (Ev.step (fun _ => rfl) ?_)), Ev.bind ei (ev_pos (by trivial) (ev_pos (by omega) (ev_pos c1 (Ev.now _)))), by simp⟩
   simp only [spec_Reach.j0]
   exact ev_pos (decide_eq_true c1) (Ev.now _)
  ·cases hb : fr.any (impl_Reach.bad n) with
   | true =>
    refine ⟨([], 1), Ev.bind es (ev_pos (by trivial) (Ev.step (fun _ => rfl) ?_)), Ev.bind ei (ev_pos (by trivial) (ev_pos (by omega) (ev_neg c1 (ev_pos (by trivial) (Ev.now _))))), by simp⟩
    simp only [spec_Reach.j0]
    refine ev_neg (by simpa using c1) ?_
    exact spec_from (by omega) (fun h => by rw [hb] at h; cases h) (fun _ => rfl) fr.length 0 (by omega) (by rw [List.drop_zero])
   | false =>
    have hf : ∀ s ∈ fr, 0 ≤ s ∧ s < n := by
     intro s hs
     have := List.any_eq_false.1 hb s hs
     simp [impl_Reach.bad] at this
     omega
    obtain ⟨R, e1, r1⟩ := l5reach_ev (edges_fwd v) n1 (by omega) hf (by omega)
    have i0 : RInv n (Edge n st tos) fr (List.replicate n.toNat false, []) := ⟨Snd.zero (by omega) _ _, (fun c hc => by cases hc), by simp⟩
    obtain ⟨s, e2, is, k1, k2, k3, k4, k5⟩ := visits_inv (by omega) fr _ i0 (fun c hc => ⟨hf c hc, Way.here hc⟩)
    have c0 : (List.replicate n.toNat false).count true = 0 := by rw [List.count_replicate]; simp
    simp only [c0, List.length_nil] at k5
    have sl := is.sd.len
    have cl := List.count_le_length (a := true) (l := s.1)
    obtain ⟨R', e3, r3⟩ := bfs_reach v hf (n.toNat + 1) s is k2 (fun a b a0 a1 ha hq he => by
     rcases k3 a a0 ha with h | h
     ·exact absurd h (by
       unfold rdOf
       rw [getD_lt (by rw [List.length_replicate]; omega)]
       simp)
     ·exact absurd h hq) (by omega)
    have eq := IsReach.unique (fun a b h => edge_range v h) hf r1 r3
    subst eq
    have rl := r1.s.len
    refine ⟨(R, 0), Ev.bind es (ev_pos (by trivial) (Ev.step (fun _ => rfl) ?_)), Ev.bind ei (ev_pos (by trivial) (ev_pos (by omega) (ev_neg c1 (ev_neg (by simp) ?_)))), by simp only; omega⟩
    ·simp only [spec_Reach.j0]
     refine ev_neg (by simpa using c1) ?_
     exact spec_from (by omega) (fun _ => Ev.bind (spec_l5edges_ev v) (Ev.bind e1 (Ev.now _))) (fun h => by rw [hb] at h; cases h) fr.length 0 (by omega) (by rw [List.drop_zero])
    ·rw [e2]
     refine ev_letv ?_
     rw [e3]
     exact Ev.now _

def upfrom (a : Int) (n : Nat) : List Int := (List.range n).map (fun (j : Nat) => a + (j : Int))
theorem upfrom_length (a : Int) (n : Nat) : (upfrom a n).length = n := by simp [upfrom]
theorem upfrom_rd {a : Int} {n : Nat} {i : Int} (h0 : 0 ≤ i) (h1 : i < n) : rd (upfrom a n) i = a + i := by
 rw [rd_get h0 (by rw [upfrom_length]; omega)]
 simp only [upfrom, List.getElem_map, List.getElem_range]; omega

theorem markIntS_loop (n : Nat) (a : Int) (ha : 0 ≤ a) (hn : a + n ≤ 9223372036854775807) (d : Nat) : ∀ (x : List Int) (i : Int), 0 ≤ i → x.length = n → (n : Int) - i = d →
  (∀ j : Int, 0 ≤ j → j < i → rd x j = a + j) → Ev (fun k => laws_markIntS.l0 k x (a + i) i) (a + n, upfrom a n) := by
 induction d with
 | zero =>
  intro x i h0 hl hd he
  refine Ev.step (fun _ => rfl) ?_
  simp only [laws_markIntS.l0]
  refine ev_neg (by omega) ?_
  have e1 : x = upfrom a n := rd_ext (by rw [hl, upfrom_length]) (fun j p q => by rw [he j p (by omega), upfrom_rd p (by omega)])
  have e2 : i = n := by omega
  rw [e1, e2]; exact Ev.now _
 | succ d ih =>
  intro x i h0 hl hd he
  refine Ev.step (fun _ => rfl) ?_
  simp only [laws_markIntS.l0]
  refine ev_pos (by omega) (ev_pos (by omega) ?_)
  rw [wrap64_id (by omega) (by omega), wrap64_id (by omega) (by omega), show a + i + 1 = a + (i + 1) by omega]
  refine ih _ _ (by omega) (by simpa using hl) (by omega) ?_
  intro j p q
  by_cases e : j = i
  ·subst e; exact rd_set_eq (by omega) (by omega)
  ·rw [rd_set_ne (by omega) (by omega) (by omega)]; exact he j p (by omega)
theorem markIntS_ev (l : List Int) (a : Int) (ha : 0 ≤ a) (hn : a + l.length ≤ 9223372036854775807) : Ev (fun k => laws_markIntS.f k l a) (a + l.length, upfrom a l.length) := by
 have := markIntS_loop l.length a ha hn l.length l 0 (by omega) rfl (by omega) (fun j p q => by omega)
 simpa only [laws_markIntS.f, Int.add_zero] using this

theorem markGraph_big (n : Int) (a b c d : List Int) (h : a.length + b.length + c.length + d.length ≤ 1048576) :
  Ev (fun k => laws_markGraph.f k n a b c d 1) (1 + a.length + b.length + c.length + d.length, upfrom 1 a.length, upfrom (1 + a.length) b.length, upfrom (1 + a.length + b.length) c.length, upfrom (1 + a.length + b.length + c.length) d.length) := by
 simp only [laws_markGraph.f]
 exact Ev.bind (markIntS_ev a 1 (by omega) (by omega)) (Ev.bind (markIntS_ev b (1 + a.length) (by omega) (by omega)) (Ev.bind (markIntS_ev c (1 + a.length + b.length) (by omega) (by omega)) (Ev.bind (markIntS_ev d (1 + a.length + b.length + c.length) (by omega) (by omega)) (Ev.now _))))

theorem eqBoolS_loop (a : List Bool) (hb : a.length ≤ 9223372036854775800) (d : Nat) : ∀ (i : Int), 0 ≤ i → (a.length : Int) - i = d → Ev (fun k => laws_eqBoolS.l0 k a a i) true := by
 induction d with
 | zero =>
  intro i h0 hd
  refine Ev.step (fun _ => rfl) ?_
  simp only [laws_eqBoolS.l0]
  exact ev_neg (by omega) (Ev.now _)
 | succ d ih =>
  intro i h0 hd
  refine Ev.step (fun _ => rfl) ?_
  simp only [laws_eqBoolS.l0]
  refine ev_pos (by omega) (ev_pos (by omega) (ev_pos (by omega) (ev_neg (by simp) ?_)))
  rw [wrap64_id (by omega) (by omega)]
  exact ih _ (by omega) (by omega)
theorem eqBoolS_self (a : List Bool) (hb : a.length ≤ 9223372036854775800) : Ev (fun k => laws_eqBoolS.f k a a) true := by
 simp only [laws_eqBoolS.f]
 exact ev_pos (by trivial) (eqBoolS_loop a hb a.length 0 (by omega) (by omega))
def upB (a : Int) (n : Nat) : List Bool := (List.range n).map (fun (j : Nat) => Int.tmod (a + (j : Int)) 3 == 0)
theorem upB_length (a : Int) (n : Nat) : (upB a n).length = n := by simp [upB]
theorem upB_rd {a : Int} {n : Nat} {i : Int} (h0 : 0 ≤ i) (h1 : i < n) : rdOf false (upB a n) i = (Int.tmod (a + i) 3 == 0) := by
 unfold rdOf
 rw [getD_lt (by rw [upB_length]; omega)]
 simp only [upB, List.getElem_map, List.getElem_range]
 rw [show ((i.toNat : Nat) : Int) = i by omega]
theorem markBoolS_loop (n : Nat) (a : Int) (ha : 0 ≤ a) (hn : a + n ≤ 9223372036854775807) (d : Nat) : ∀ (x : List Bool) (i : Int), 0 ≤ i → x.length = n → (n : Int) - i = d →
  (∀ j : Int, 0 ≤ j → j < i → rdOf false x j = (Int.tmod (a + j) 3 == 0)) → Ev (fun k => laws_markBoolS.l0 k x (a + i) i) (a + n, upB a n) := by
 induction d with
 | zero =>
  intro x i h0 hl hd he
  refine Ev.step (fun _ => rfl) ?_
  simp only [laws_markBoolS.l0]
  refine ev_neg (by omega) ?_
  have e1 : x = upB a n := getD_ext false (by rw [hl, upB_length]) (fun j p q => by
   have x1 := he j p (by omega)
   have x2 := upB_rd (a := a) p (show j < (n : Int) by omega)
   unfold rdOf at x1 x2
   rw [x1, x2])
  have e2 : i = n := by omega
  rw [e1, e2]; exact Ev.now _
 | succ d ih =>
  intro x i h0 hl hd he
  refine Ev.step (fun _ => rfl) ?_
  simp only [laws_markBoolS.l0]
  refine ev_pos (by omega) (ev_pos (by omega) ?_)
  rw [wrap64_id (x := a + i + 1) (by omega) (by omega), wrap64_id (x := i + 1) (by omega) (by omega), show a + i + 1 = a + (i + 1) by omega]
  refine ih _ _ (by omega) (by simpa using hl) (by omega) ?_
  intro j p q
  unfold rdOf
  by_cases e : j = i
  ·subst e; rw [getD_set_eq (by omega) (by omega)]
  ·rw [getD_set_ne (by omega) (by omega) (by omega)]
   have := he j p (by omega)
   unfold rdOf at this
   exact this
theorem markBoolS_ev (l : List Bool) (a : Int) (ha : 0 ≤ a) (hn : a + l.length ≤ 9223372036854775807) : Ev (fun k => laws_markBoolS.f k l a) (a + l.length, upB a l.length) := by
 have := markBoolS_loop l.length a ha hn l.length l 0 (by omega) rfl (by omega) (fun j p q => by omega)
 simpa only [laws_markBoolS.f, Int.add_zero] using this
theorem heldBoolS_loop (n : Nat) (a : Int) (ha : 0 ≤ a) (hn : a + n ≤ 9223372036854775807) (d : Nat) : ∀ (i : Int), 0 ≤ i → (n : Int) - i = d →
  Ev (fun k => laws_heldBoolS.l0 k (upB a n) (a + i) i) (a + n) := by
 induction d with
 | zero =>
  intro i h0 hd
  refine Ev.step (fun _ => rfl) ?_
  simp only [laws_heldBoolS.l0, upB_length]
  refine ev_neg (by omega) ?_
  have e2 : i = n := by omega
  rw [e2]; exact Ev.now _
 | succ d ih =>
  intro i h0 hd
  refine Ev.step (fun _ => rfl) ?_
  simp only [laws_heldBoolS.l0, upB_length]
  refine ev_pos (by omega) (ev_pos (by omega) (ev_neg (by rw [upB_rd h0 (by omega)]; simp) ?_))
  rw [wrap64_id (x := a + i + 1) (by omega) (by omega), wrap64_id (x := i + 1) (by omega) (by omega), show a + i + 1 = a + (i + 1) by omega]
  exact ih _ (by omega) (by omega)
theorem heldBoolS_ev (n : Nat) (a : Int) (ha : 0 ≤ a) (hn : a + n ≤ 9223372036854775807) : Ev (fun k => laws_heldBoolS.f k (upB a n) a) (a + n) := by
 have := heldBoolS_loop n a ha hn n 0 (by omega) (by omega)
 simpa only [laws_heldBoolS.f, Int.add_zero] using this

theorem FnExactReach : laws_FnExactReach.Pure := by
 intro n st tos dr co fr wn w1 w2 w3 w4 w5
 have m1 : st.length ≤ 9223372036854775807 := w1.1
 have m2 : tos.length ≤ 9223372036854775807 := w2.1
 have m3 : dr.length ≤ 9223372036854775807 := w3.1
 have m4 : co.length ≤ 9223372036854775807 := w4.1
 refine Ev.rounds (g := fun k => laws_FnExactReach.f k n st tos dr co fr) ?_
 simp only [laws_FnExactReach.f]
 refine ev_ite (fun _ => Ev.now _) (fun c => ?_)
 obtain ⟨r, e, q⟩ := szGraph_or (n := n) m1 m2 m3 m4
 rw [e]
 refine ev_letv ?_
 rcases q with rfl | ⟨q, q0⟩
 ·exact ev_pos (by omega) (Ev.now _)
 have t := toGraph_ev n st tos dr co q
 have ti := toIntS_ev fr (by omega)
 obtain ⟨⟨g, gx⟩, s, i, gl⟩ := reach_both n st tos dr co fr (by omega)
 dsimp only at gl
 have eq := eqBoolS_self g (by omega)
 have ea := eqGraph_self n st tos dr co (by omega)
 have eb := eqIntS_self fr (by omega)
 have ek := markGraph_big n st tos dr co (by omega)
 have ek2 := markIntS_ev fr (1 + st.length + tos.length + dr.length + co.length) (by omega) (by omega)
 have em := markBoolS_ev g 1 (by omega) (by omega)
 have eh := heldBoolS_ev g.length 1 (by omega) (by omega)
 refine ev_neg (by omega) (Ev.bind t (Ev.bind ti (Ev.bind s (Ev.bind t (Ev.bind ti (Ev.bind i (Ev.bind eq (ev_pos (by trivial) ?_))))))))
 refine Ev.step (fun _ => rfl) ?_
 simp only [laws_FnExactReach.j0]
 refine ev_neg (by simp) (Ev.bind t (Ev.bind ea (ev_pos (by trivial) (Ev.bind ti (Ev.bind eb (ev_pos (by trivial) (Ev.bind ek (Ev.bind ek2 (ev_neg (by dsimp only; omega) (Ev.bind eq (ev_pos (by trivial) ?_)))))))))))
 refine Ev.step (fun _ => rfl) ?_
 simp only [laws_FnExactReach.j1]
 refine ev_neg (by simp) (Ev.bind em (Ev.bind eh (ev_neg (by omega) (ev_pos (by trivial) (Ev.bind t (Ev.bind ti (Ev.bind i (Ev.bind eq (ev_pos (by trivial) ?_)))))))))
 refine Ev.step (fun _ => rfl) ?_
 simp only [laws_FnExactReach.j2]
 exact ev_neg (by simp) (Ev.bind eh (ev_neg (by omega) (ev_pos (by trivial) (Ev.now _))))

end Go.Proofs.Ytiboccbaaphbhaa.Pure
