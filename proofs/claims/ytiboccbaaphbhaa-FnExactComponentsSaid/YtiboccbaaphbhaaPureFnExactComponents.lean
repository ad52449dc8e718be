/- The program's Components returns what the reference's returns, for all arguments: no condition. -/
import Derived.Test.YtiboccbaaphbhaaQFnExactComponents
namespace Go.Proofs.Ytiboccbaaphbhaa.Pure
set_option linter.unusedVariables false
set_option linter.unusedSimpArgs false
set_option linter.unusedSectionVars false
open Go.RowKit Go.Proofs.Ytiboccbaaphbhaa.PFnExactComponents Go.Proofs.YtiboccbaaphbhaaW.PrintWords Go.Proofs.YtiboccbaaphbhaaW.PrintLast Go.Proofs.YtiboccbaaphbhaaW.PrintMore
section EvLib
variable {α β : Type}
theorem ev_pos {c : Prop} [Decidable c] {A B : Nat → Option α} {r : α} (h : c) (k : Ev A r) : Ev (fun n => if c then A n else B n) r :=
 Ev.congr (fun _ => if_pos h) k
theorem ev_neg {c : Prop} [Decidable c] {A B : Nat → Option α} {r : α} (h : ¬ c) (k : Ev B r) : Ev (fun n => if c then A n else B n) r :=
 Ev.congr (fun _ => if_neg h) k
theorem ev_ite {c : Prop} [Decidable c] {A B : Nat → Option α} {r : α} (h1 : c → Ev A r) (h2 : ¬ c → Ev B r) : Ev (fun n => if c then A n else B n) r := by
 by_cases h : c
 ·exact ev_pos h (h1 h)
 ·exact ev_neg h (h2 h)
theorem ev_letv {a : α} {f : Nat → α → Option β} {r : β} (k : Ev (fun n => f n a) r) : Ev (fun n => (some a).bind (f n)) r := Ev.bind (Ev.now a) k
end EvLib
theorem wrap64_id {x : Int} (h0 : -9223372036854775808 ≤ x) (h1 : x ≤ 9223372036854775807) : wrap64 x = x := by unfold wrap64; omega
theorem rd_get {l : List Int} {i : Int} (h0 : 0 ≤ i) (h1 : i.toNat < l.length) : rd l i = l[i.toNat] := by
 unfold rd; rw [List.getD_eq_getElem?_getD, List.getElem?_eq_getElem h1]; rfl
theorem rd_mem {l : List Int} {i : Int} (h0 : 0 ≤ i) (h1 : i < l.length) : rd l i ∈ l := by
 have h : i.toNat < l.length := by omega
 rw [rd_get h0 h]; exact List.getElem_mem h
theorem rd_set_eq {l : List Int} {i : Int} {v : Int} (h0 : 0 ≤ i) (h1 : i < l.length) : rd (l.set i.toNat v) i = v := by
 have h : i.toNat < l.length := by omega
 unfold rd; rw [List.getD_eq_getElem?_getD, List.getElem?_set_self h]; rfl
theorem rd_set_ne {l : List Int} {i j : Int} {v : Int} (h0 : 0 ≤ i) (h1 : 0 ≤ j) (h : i ≠ j) : rd (l.set i.toNat v) j = rd l j := by
 unfold rd; rw [List.getD_eq_getElem?_getD, List.getElem?_set_ne (by omega), ← List.getD_eq_getElem?_getD]
theorem rd_ext {l m : List Int} (h : l.length = m.length) (e : ∀ i : Int, 0 ≤ i → i < l.length → rd l i = rd m i) : l = m := by
 apply List.ext_getElem h; intro i h1 h2; have := e i (by omega) (by omega); rw [rd_get (by omega) (by simpa using h1), rd_get (by omega) (by simpa using h2)] at this
 simpa using this

theorem szIntS_or {l : List Int} {left : Int} (h0 : 0 ≤ left) (h1 : left ≤ 1048576) (hm : l.length ≤ 9223372036854775807) :
  ∃ r, laws_szIntS.f l left = some r ∧ (r = -1 ∨ ((l.length : Int) ≤ left ∧ r = left - l.length)) := by
 simp only [laws_szIntS.f]; rw [wrap64_id (by omega) (by omega)]
 by_cases h : left - (l.length : Int) < 0
 ·exact ⟨-1, if_pos h, .inl rfl⟩
 ·exact ⟨_, if_neg h, .inr ⟨by omega, rfl⟩⟩

theorem szGraph_or {n : Int} {st tos dr co : List Int} (h1 : st.length ≤ 9223372036854775807) (h2 : tos.length ≤ 9223372036854775807) (h3 : dr.length ≤ 9223372036854775807) (h4 : co.length ≤ 9223372036854775807) :
  ∃ r, laws_szGraph.f n st tos dr co 1048576 = some r ∧ (r = -1 ∨ (st.length + tos.length + dr.length + co.length ≤ 1048576 ∧ 0 ≤ r)) := by
 simp only [laws_szGraph.f]; obtain ⟨r1, e1, q1⟩ := szIntS_or (l := st) (left := 1048576) (by omega) (by omega) h1; rw [e1]; simp only [Option.bind_some]
 rcases q1 with rfl | ⟨a1, rfl⟩
 ·exact ⟨-1, if_pos (by omega), .inl rfl⟩
 rw [if_neg (by omega)]; obtain ⟨r2, e2, q2⟩ := szIntS_or (l := tos) (left := 1048576 - (st.length : Int)) (by omega) (by omega) h2; rw [e2]; simp only [Option.bind_some]
 rcases q2 with rfl | ⟨a2, rfl⟩
 ·exact ⟨-1, if_pos (by omega), .inl rfl⟩
 rw [if_neg (by omega)]; obtain ⟨r3, e3, q3⟩ := szIntS_or (l := dr) (left := 1048576 - (st.length : Int) - tos.length) (by omega) (by omega) h3; rw [e3]; simp only [Option.bind_some]
 rcases q3 with rfl | ⟨a3, rfl⟩
 ·exact ⟨-1, if_pos (by omega), .inl rfl⟩
 rw [if_neg (by omega)]; obtain ⟨r4, e4, q4⟩ := szIntS_or (l := co) (left := 1048576 - (st.length : Int) - tos.length - dr.length) (by omega) (by omega) h4; rw [e4]; simp only [Option.bind_some]
 rcases q4 with rfl | ⟨a4, rfl⟩
 ·exact ⟨-1, if_pos (by omega), .inl rfl⟩
 rw [if_neg (by omega)]; exact ⟨_, rfl, .inr ⟨by omega, by omega⟩⟩

theorem toIntS_loop (x0 : List Int) (hb : x0.length ≤ 35184372088832) (d : Nat) : ∀ (x3 : List Int) (i : Int), 0 ≤ i → x3.length = x0.length → (x0.length : Int) - i = d →
  (∀ j : Int, 0 ≤ j → j < i → rd x3 j = rd x0 j) → Ev (fun k => laws_toIntS.l0 k x0 x3 i) x0 := by
 induction d with
 | zero =>
  intro x3 i h0 hl hd he; refine Ev.step (fun _ => rfl) ?_; simp only [laws_toIntS.l0]; refine ev_neg (by omega) ?_; have : x3 = x0 := rd_ext hl (fun j a b => he j a (by omega)); rw [this]; exact Ev.now _
 | succ d ih =>
  intro x3 i h0 hl hd he; refine Ev.step (fun _ => rfl) ?_; simp only [laws_toIntS.l0]; refine ev_pos (by omega) (ev_pos (by omega) (ev_pos (by omega) ?_)); rw [wrap64_id (by omega) (by omega)]; refine ih _ _ (by omega) (by simpa using hl) (by omega) ?_; intro j a b
  by_cases e : j = i
  ·subst e; exact rd_set_eq (by omega) (by omega)
  ·rw [rd_set_ne (by omega) (by omega) (by omega)]; exact he j a (by omega)
theorem toIntS_ev (l : List Int) (hb : l.length ≤ 35184372088832) : Ev (fun k => laws_toIntS.f k l) l := by
 simp only [laws_toIntS.f]; refine ev_pos (by omega) (ev_pos (by omega) ?_); exact toIntS_loop l hb l.length _ 0 (by omega) (by simp) (by omega) (fun j a b => by omega)

theorem toGraph_ev (n : Int) (st tos dr co : List Int) (h : st.length + tos.length + dr.length + co.length ≤ 1048576) : Ev (fun k => laws_toGraph.f k n st tos dr co) (n, st, tos, dr, co) := by
 simp only [laws_toGraph.f]; exact Ev.bind (toIntS_ev st (by omega)) (Ev.bind (toIntS_ev tos (by omega)) (Ev.bind (toIntS_ev dr (by omega)) (Ev.bind (toIntS_ev co (by omega)) (Ev.now _))))

theorem eqIntS_loop (a b : List Int) (hl : a.length = b.length) (hb : a.length ≤ 9223372036854775800) (d : Nat) : ∀ (i : Int), 0 ≤ i → (a.length : Int) - i = d →
  (∀ j : Int, 0 ≤ j → j < i → rd a j = rd b j) → Ev (fun k => laws_eqIntS.l0 k a b i) (decide (a = b)) := by
 induction d with
 | zero =>
  intro i h0 hd he; refine Ev.step (fun _ => rfl) ?_; simp only [laws_eqIntS.l0]; refine ev_neg (by omega) ?_; have : a = b := rd_ext hl (fun j p q => he j p (by omega)); rw [decide_eq_true this]; exact Ev.now _
 | succ d ih =>
  intro i h0 hd he; refine Ev.step (fun _ => rfl) ?_; simp only [laws_eqIntS.l0]; refine ev_pos (by omega) (ev_pos (by omega) (ev_pos (by omega) (ev_ite (fun e => ?_) (fun e => ?_))))
  ·rw [wrap64_id (by omega) (by omega)]; refine ih _ (by omega) (by omega) ?_; intro j p q
   by_cases e' : j = i
   ·subst e'; exact e
   ·exact he j p (by omega)
  ·have : a ≠ b := fun h => e (by rw [h])
   rw [decide_eq_false this]; exact Ev.now _
theorem eqIntS_ev (a b : List Int) (hb : a.length ≤ 9223372036854775800) : Ev (fun k => laws_eqIntS.f k a b) (decide (a = b)) := by
 simp only [laws_eqIntS.f]; refine ev_ite (fun e => ?_) (fun e => ?_)
 ·exact eqIntS_loop a b (by omega) hb a.length 0 (by omega) (by omega) (fun j p q => by omega)
 ·have : a ≠ b := fun h => e (by rw [h])
  rw [decide_eq_false this]; exact Ev.now _
theorem eqIntS_self (a : List Int) (hb : a.length ≤ 9223372036854775800) : Ev (fun k => laws_eqIntS.f k a a) true := by
 have := eqIntS_ev a a hb
 rwa [decide_eq_true rfl] at this

theorem eqGraph_self (n : Int) (st tos dr co : List Int) (h : st.length + tos.length + dr.length + co.length ≤ 9000000000) : Ev (fun k => laws_eqGraph.f k n st tos dr co n st tos dr co) true := by
 simp only [laws_eqGraph.f]; refine ev_pos (by trivial) (Ev.bind (eqIntS_self st (by omega)) (ev_pos (by trivial) (Ev.bind (eqIntS_self tos (by omega)) (ev_pos (by trivial) (Ev.bind (eqIntS_self dr (by omega)) (ev_pos (by trivial) (Ev.bind (eqIntS_self co (by omega)) ?_))))))); exact ev_pos (by trivial) (Ev.now _)

def upfrom (a : Int) (n : Nat) : List Int := (List.range n).map (fun (j : Nat) => a + (j : Int))
theorem upfrom_length (a : Int) (n : Nat) : (upfrom a n).length = n := by simp [upfrom]
theorem upfrom_rd {a : Int} {n : Nat} {i : Int} (h0 : 0 ≤ i) (h1 : i < n) : rd (upfrom a n) i = a + i := by
 rw [rd_get h0 (by rw [upfrom_length]; omega)]; simp only [upfrom, List.getElem_map, List.getElem_range]; omega

theorem markIntS_loop (n : Nat) (a : Int) (ha : 0 ≤ a) (hn : a + n ≤ 9223372036854775807) (d : Nat) : ∀ (x : List Int) (i : Int), 0 ≤ i → x.length = n → (n : Int) - i = d →
  (∀ j : Int, 0 ≤ j → j < i → rd x j = a + j) → Ev (fun k => laws_markIntS.l0 k x (a + i) i) (a + n, upfrom a n) := by
 induction d with
 | zero =>
  intro x i h0 hl hd he; refine Ev.step (fun _ => rfl) ?_; simp only [laws_markIntS.l0]; refine ev_neg (by omega) ?_; have e1 : x = upfrom a n := rd_ext (by rw [hl, upfrom_length]) (fun j p q => by rw [he j p (by omega), upfrom_rd p (by omega)]); have e2 : i = n := by omega
  rw [e1, e2]; exact Ev.now _
 | succ d ih =>
  intro x i h0 hl hd he; refine Ev.step (fun _ => rfl) ?_; simp only [laws_markIntS.l0]; refine ev_pos (by omega) (ev_pos (by omega) ?_); rw [wrap64_id (by omega) (by omega), wrap64_id (by omega) (by omega), show a + i + 1 = a + (i + 1) by omega]; refine ih _ _ (by omega) (by simpa using hl) (by omega) ?_; intro j p q
  by_cases e : j = i
  ·subst e; exact rd_set_eq (by omega) (by omega)
  ·rw [rd_set_ne (by omega) (by omega) (by omega)]; exact he j p (by omega)
theorem markIntS_ev (l : List Int) (a : Int) (ha : 0 ≤ a) (hn : a + l.length ≤ 9223372036854775807) : Ev (fun k => laws_markIntS.f k l a) (a + l.length, upfrom a l.length) := by
 have := markIntS_loop l.length a ha hn l.length l 0 (by omega) rfl (by omega) (fun j p q => by omega)
 simpa only [laws_markIntS.f, Int.add_zero] using this

theorem heldIntS_loop (n : Nat) (a : Int) (ha : 0 ≤ a) (hn : a + n ≤ 9223372036854775807) (d : Nat) : ∀ (i : Int), 0 ≤ i → (n : Int) - i = d →
  Ev (fun k => laws_heldIntS.l0 k (upfrom a n) (a + i) i) (a + n) := by
 induction d with
 | zero =>
  intro i h0 hd; refine Ev.step (fun _ => rfl) ?_; simp only [laws_heldIntS.l0, upfrom_length]; refine ev_neg (by omega) ?_; have e2 : i = n := by omega
  rw [e2]; exact Ev.now _
 | succ d ih =>
  intro i h0 hd; refine Ev.step (fun _ => rfl) ?_; simp only [laws_heldIntS.l0, upfrom_length]; refine ev_pos (by omega) (ev_pos (by omega) (ev_pos (upfrom_rd h0 (by omega)) ?_)); rw [wrap64_id (by omega) (by omega), wrap64_id (by omega) (by omega), show a + i + 1 = a + (i + 1) by omega]; exact ih _ (by omega) (by omega)
theorem heldIntS_ev (n : Nat) (a : Int) (ha : 0 ≤ a) (hn : a + n ≤ 9223372036854775807) : Ev (fun k => laws_heldIntS.f k (upfrom a n) a) (a + n) := by
 have := heldIntS_loop n a ha hn n 0 (by omega) (by omega)
 simpa only [laws_heldIntS.f, Int.add_zero] using this

theorem markGraph_big (n : Int) (a b c d : List Int) (h : a.length + b.length + c.length + d.length ≤ 1048576) :
  Ev (fun k => laws_markGraph.f k n a b c d 1) (1 + a.length + b.length + c.length + d.length, upfrom 1 a.length, upfrom (1 + a.length) b.length, upfrom (1 + a.length + b.length) c.length, upfrom (1 + a.length + b.length + c.length) d.length) := by
 simp only [laws_markGraph.f]; exact Ev.bind (markIntS_ev a 1 (by omega) (by omega)) (Ev.bind (markIntS_ev b (1 + a.length) (by omega) (by omega)) (Ev.bind (markIntS_ev c (1 + a.length + b.length) (by omega) (by omega)) (Ev.bind (markIntS_ev d (1 + a.length + b.length + c.length) (by omega) (by omega)) (Ev.now _))))

structure ValidG (n : Int) (st tos dr co : List Int) : Prop where
 n1 : 1 ≤ n
 n2 : n ≤ 1600
 len : (st.length : Int) = n + 1
 zero : rd st 0 = 0
 mono : ∀ c : Int, 0 ≤ c → c < n → rd st c ≤ rd st (c + 1)
 most : rd st n ≤ 6400
 lto : (tos.length : Int) = rd st n
 ldr : (dr.length : Int) = rd st n
 lco : (co.length : Int) = rd st n
 edge : ∀ e : Int, 0 ≤ e → e < rd st n → (0 ≤ rd tos e ∧ rd tos e < n) ∧ (0 ≤ rd dr e ∧ rd dr e ≤ 3) ∧ (1 ≤ rd co e ∧ rd co e ≤ 9)
open Classical in
noncomputable def vg (n : Int) (st tos dr co : List Int) : Bool := decide (ValidG n st tos dr co)
open Classical in
theorem vg_true {n : Int} {st tos dr co : List Int} (h : ValidG n st tos dr co) : vg n st tos dr co = true := by unfold vg; exact decide_eq_true h
open Classical in
theorem vg_false {n : Int} {st tos dr co : List Int} (h : ¬ ValidG n st tos dr co) : vg n st tos dr co = false := by unfold vg; exact decide_eq_false h

theorem getD_lt {α : Type} {l : List α} {i : Int} {d : α} (h1 : i.toNat < l.length) : l.getD i.toNat d = l[i.toNat] := by
 rw [List.getD_eq_getElem?_getD, List.getElem?_eq_getElem h1]; rfl
theorem getD_set_eq {α : Type} {l : List α} {i : Int} {v d : α} (h0 : 0 ≤ i) (h1 : i < l.length) : (l.set i.toNat v).getD i.toNat d = v := by
 rw [List.getD_eq_getElem?_getD, List.getElem?_set_self (by omega)]; rfl
theorem getD_set_ne {α : Type} {l : List α} {i j : Int} {v d : α} (h0 : 0 ≤ i) (h1 : 0 ≤ j) (h : i ≠ j) : (l.set i.toNat v).getD j.toNat d = l.getD j.toNat d := by
 rw [List.getD_eq_getElem?_getD, List.getElem?_set_ne (by omega), ← List.getD_eq_getElem?_getD]
def upI (m : Nat) : List Int := (List.range m).map (fun (j : Nat) => (j : Int))
theorem upI_succ (m : Nat) : upI (m + 1) = upI m ++ [(m : Int)] := by simp [upI, List.range_succ]
theorem upI_length (m : Nat) : (upI m).length = m := by simp [upI]
theorem upI_mem {m : Nat} {e : Int} (h : e ∈ upI m) : 0 ≤ e ∧ e < m := by
 simp only [upI, List.mem_map, List.mem_range] at h; obtain ⟨j, hj, rfl⟩ := h
 omega
theorem upI_get (m i : Nat) (h : i < (upI m).length) : (upI m)[i] = (i : Int) := by simp [upI]
theorem rdE_lt {es : List S51} {i : Nat} (h : i < es.length) : rd_T51 es (i : Int) = es[i] := by
 unfold rd_T51; rw [getD_lt (by rw [Int.toNat_natCast]; exact h)]; simp only [Int.toNat_natCast]
theorem take_snoc' {α : Type} (l : List α) (i : Nat) (h : i < l.length) : l.take (i + 1) = l.take i ++ [l[i]] := by
 rw [List.take_succ_eq_append_getElem h]
theorem map_snoc {α β : Type} (f : α → β) (l : List α) (x : α) : (l ++ [x]).map f = l.map f ++ [f x] := by rw [List.map_append]; rfl
open Classical in
noncomputable def owner (n : Int) (st : List Int) (e : Int) : Int := if h : ∃ c : Int, 0 ≤ c ∧ c < n ∧ rd st c ≤ e ∧ e < rd st (c + 1) then Classical.choose h else 0
noncomputable def fwdE (n : Int) (st tos dr co : List Int) (e : Int) : S51 := ⟨owner n st e, rd tos e, rd dr e, rd co e⟩
section
variable {n : Int} {st tos dr co : List Int} (v : ValidG n st tos dr co)
include v
theorem st_mono : ∀ (d : Nat) (a : Int), 0 ≤ a → a + d ≤ n → rd st a ≤ rd st (a + d)
 | 0, a, _, _ => by rw [show a + ((0 : Nat) : Int) = a by omega]; exact Int.le_refl _
 | d + 1, a, a0, a1 => by
  have h := st_mono d a a0 (by omega); have g := v.mono (a + d) (by omega) (by omega); rw [show a + ((d + 1 : Nat) : Int) = a + d + 1 by omega]
  omega
theorem st_le {a b : Int} (a0 : 0 ≤ a) (ab : a ≤ b) (bn : b ≤ n) : rd st a ≤ rd st b := by
 have := st_mono v (b - a).toNat a a0 (by omega)
 rwa [show a + ((b - a).toNat : Int) = b by omega] at this
theorem st_nn {a : Int} (a0 : 0 ≤ a) (an : a ≤ n) : 0 ≤ rd st a ∧ rd st a ≤ rd st n := by
 have h := st_le v (a := 0) (b := a) (by omega) a0 an; have g := st_le v a0 an (Int.le_refl _); have := v.zero
 omega
theorem owner_eq {c e : Int} (c0 : 0 ≤ c) (c1 : c < n) (e0 : rd st c ≤ e) (e1 : e < rd st (c + 1)) : owner n st e = c := by
 have h : ∃ c : Int, 0 ≤ c ∧ c < n ∧ rd st c ≤ e ∧ e < rd st (c + 1) := ⟨c, c0, c1, e0, e1⟩; unfold owner; rw [dif_pos h]; obtain ⟨p0, p1, p2, p3⟩ := Classical.choose_spec h; generalize Classical.choose h = b at *
 by_cases q : b < c
 ·have := st_le v (a := b + 1) (b := c) (by omega) (by omega) (by omega); omega
 by_cases q2 : c < b
 ·have := st_le v (a := c + 1) (b := b) (by omega) (by omega) (by omega); omega
 omega
theorem l5e_row (c : Int) (c0 : 0 ≤ c) (c1 : c < n) {R : List S51} (H : Ev (fun k => spec_l5edges.l0 k ((upI (rd st (c + 1)).toNat).map (fwdE n st tos dr co)) (c + 1) n st tos dr co) R) (d : Nat) : ∀ e : Nat, rd st c ≤ e → (e : Int) ≤ rd st (c + 1) → rd st (c + 1) - e = d →
  Ev (fun k => spec_l5edges.l1 k ((upI e).map (fwdE n st tos dr co)) c e n st tos dr co) R := by
 have n2 := v.n2; have len := v.len; have most := v.most; have lto := v.lto; have ldr := v.ldr; have lco := v.lco; have nn := st_nn v (a := c + 1) (by omega) (by omega)
 induction d with
 | zero =>
  intro e e0 e1 hd; refine Ev.step (fun _ => rfl) ?_; simp only [spec_l5edges.l1]; rw [wrap64_id (x := c + 1) (by omega) (by omega)]; refine ev_pos (by omega) (ev_pos (by omega) (ev_neg (by omega) ?_)); rw [show (rd st (c + 1)).toNat = e by omega] at H; exact H
 | succ d ih =>
  intro e e0 e1 hd; have K := ih (e + 1) (by omega) (by omega) (by omega); rw [upI_succ, map_snoc] at K; refine Ev.step (fun _ => rfl) ?_; simp only [spec_l5edges.l1]; rw [wrap64_id (x := c + 1) (by omega) (by omega)]; refine ev_pos (by omega) (ev_pos (by omega) (ev_pos (by omega) (ev_pos (by omega) (ev_pos (by omega) (ev_pos (by omega) (ev_pos (by omega) (ev_pos (by rw [List.length_map, upI_length]; omega) ?_))))))); rw [wrap64_id (x := (e : Int) + 1) (by omega) (by omega)]; rw [show fwdE n st tos dr co (e : Int) = ⟨c, rd tos e, rd dr e, rd co e⟩ by unfold fwdE; rw [owner_eq v c0 c1 e0 (by omega)]] at K; exact K
theorem l5e_all (d : Nat) : ∀ c : Int, 0 ≤ c → c ≤ n → n - c = d → Ev (fun k => spec_l5edges.l0 k ((upI (rd st c).toNat).map (fwdE n st tos dr co)) c n st tos dr co) ((upI (rd st n).toNat).map (fwdE n st tos dr co)) := by
 have n2 := v.n2; have len := v.len
 induction d with
 | zero =>
  intro c c0 c1 hd; obtain rfl : c = n := by omega
  refine Ev.step (fun _ => rfl) ?_; simp only [spec_l5edges.l0]; exact ev_neg (by omega) (Ev.now _)
 | succ d ih =>
  intro c c0 c1 hd; have nn := st_nn v c0 c1; have mo := v.mono c c0 (by omega); refine Ev.step (fun _ => rfl) ?_; simp only [spec_l5edges.l0]; refine ev_pos (by omega) (ev_pos c0 (ev_pos (by omega) ?_)); have K := l5e_row v c c0 (by omega) (ih (c + 1) (by omega) (by omega) (by omega)) (rd st (c + 1) - (rd st c).toNat).toNat (rd st c).toNat (by omega) (by omega) (by omega); rw [Int.toNat_of_nonneg nn.1] at K; exact K
theorem spec_l5edges_ev : Ev (fun k => spec_l5edges.f k n st tos dr co) ((upI (rd st n).toNat).map (fwdE n st tos dr co)) := by
 simp only [spec_l5edges.f]; have := l5e_all v n.toNat 0 (by omega) (by have := v.n1; omega) (by have := v.n1; omega); rw [v.zero] at this; exact this
end

theorem spec_vg_edges {n : Int} {st tos dr co : List Int} (d : Nat) : ∀ (e : Int), 0 ≤ e → (rd st n) - e = d → 1 ≤ n → n ≤ 1600 → (st.length : Int) = n + 1 → rd st 0 = 0 → rd st n ≤ 6400 →
  (tos.length : Int) = rd st n → (dr.length : Int) = rd st n → (co.length : Int) = rd st n → (∀ c : Int, 0 ≤ c → c < n → rd st c ≤ rd st (c + 1)) →
  (∀ f : Int, 0 ≤ f → f < e → (0 ≤ rd tos f ∧ rd tos f < n) ∧ (0 ≤ rd dr f ∧ rd dr f ≤ 3) ∧ (1 ≤ rd co f ∧ rd co f ≤ 9)) →
  Ev (fun k => spec_ValidGraph.l1 k (rd st n) e n st tos dr co) (vg n st tos dr co) := by
 induction d with
 | zero =>
  intro e h0 hd n1 n2 hl hz hm h1 h2 h3 hs he; refine Ev.step (fun _ => rfl) ?_; simp only [spec_ValidGraph.l1]; refine ev_neg (by omega) ?_; rw [vg_true ⟨n1, n2, hl, hz, hs, hm, h1, h2, h3, fun f a b => he f a (by omega)⟩]; exact Ev.now _
 | succ d ih =>
  intro e h0 hd n1 n2 hl hz hm h1 h2 h3 hs he; refine Ev.step (fun _ => rfl) ?_; simp only [spec_ValidGraph.l1]; have bad : ¬ ((0 ≤ rd tos e ∧ rd tos e < n) ∧ (0 ≤ rd dr e ∧ rd dr e ≤ 3) ∧ (1 ≤ rd co e ∧ rd co e ≤ 9)) → Ev (fun _ => some false) (vg n st tos dr co) := by
   intro h; rw [vg_false (fun v => h (v.edge e h0 (by omega)))]; exact Ev.now _
  refine ev_pos (by omega) (ev_pos (by omega) (ev_pos (by omega) ?_)); refine ev_ite (fun c => bad (by omega)) (fun c1 => ev_ite (fun c => bad (by omega)) (fun c2 => ev_pos (by omega) ?_)); refine ev_ite (fun c => bad (by omega)) (fun c3 => ev_ite (fun c => bad (by omega)) (fun c4 => ev_pos (by omega) ?_)); refine ev_ite (fun c => bad (by omega)) (fun c5 => ev_ite (fun c => bad (by omega)) (fun c6 => ?_)); rw [wrap64_id (by omega) (by omega)]; refine ih _ (by omega) (by omega) n1 n2 hl hz hm h1 h2 h3 hs (fun f a b => ?_)
  by_cases q : f = e
  ·subst q; omega
  ·exact he f a (by omega)
theorem spec_vg_sorted {n : Int} {st tos dr co : List Int} (d : Nat) : ∀ (c : Int), 0 ≤ c → n - c = d → 1 ≤ n → n ≤ 1600 → (st.length : Int) = n + 1 → rd st 0 = 0 → rd st n ≤ 6400 →
  (tos.length : Int) = rd st n → (dr.length : Int) = rd st n → (co.length : Int) = rd st n → (∀ f : Int, 0 ≤ f → f < c → rd st f ≤ rd st (f + 1)) →
  Ev (fun k => spec_ValidGraph.l0 k (rd st n) c n st tos dr co) (vg n st tos dr co) := by
 induction d with
 | zero =>
  intro c h0 hd n1 n2 hl hz hm h1 h2 h3 hs; refine Ev.step (fun _ => rfl) ?_; simp only [spec_ValidGraph.l0]; refine ev_neg (by omega) ?_; exact spec_vg_edges (rd st n).toNat 0 (by omega) (by omega) n1 n2 hl hz hm h1 h2 h3 (fun f a b => hs f a (by omega)) (fun f a b => by omega)
 | succ d ih =>
  intro c h0 hd n1 n2 hl hz hm h1 h2 h3 hs; refine Ev.step (fun _ => rfl) ?_; simp only [spec_ValidGraph.l0]; rw [wrap64_id (by omega) (by omega)]; refine ev_pos (by omega) (ev_pos (by omega) (ev_pos (by omega) (ev_pos (by omega) (ev_pos (by omega) ?_)))); refine ev_ite (fun q => ?_) (fun q => ?_)
  ·rw [vg_false (fun v => by have := v.mono c h0 (by omega); omega)]; exact Ev.now _
  ·refine ih _ (by omega) (by omega) n1 n2 hl hz hm h1 h2 h3 (fun f a b => ?_)
   by_cases e : f = c
   ·subst e; omega
   ·exact hs f a (by omega)
theorem spec_ValidGraph_ev (n : Int) (st tos dr co : List Int) : Ev (fun k => spec_ValidGraph.f k n st tos dr co) (vg n st tos dr co) := by
 have bad0 : ¬ ValidG n st tos dr co → Ev (fun k => spec_ValidGraph.j0 k true n st tos dr co) (vg n st tos dr co) := by
  intro h; rw [vg_false h]; refine Ev.step (fun _ => rfl) ?_; simp only [spec_ValidGraph.j0]; exact ev_pos (by trivial) (Ev.now _)
 have bad1 : ∀ m, ¬ ValidG n st tos dr co → Ev (fun k => spec_ValidGraph.j1 k m true n st tos dr co) (vg n st tos dr co) := by
  intro m h; rw [vg_false h]; refine Ev.step (fun _ => rfl) ?_; simp only [spec_ValidGraph.j1]; exact ev_pos (by trivial) (Ev.now _)
 simp only [spec_ValidGraph.f]; refine ev_ite (fun c => bad0 (fun v => by have := v.n1; omega)) (fun c1 => ?_); refine ev_ite (fun c => bad0 (fun v => by have := v.n2; omega)) (fun c2 => ?_); rw [wrap64_id (by omega) (by omega)]; refine ev_ite (fun c3 => ev_pos (by omega) ?_) (fun c => bad0 (fun v => c v.len))
 by_cases c4 : rd st 0 = 0
 ·rw [show (rd st 0 != 0) = false by rw [bne_eq_false_iff_eq]; exact c4]; refine Ev.step (fun _ => rfl) ?_; simp only [spec_ValidGraph.j0]; refine ev_neg (by simp) (ev_pos (by omega) (ev_pos (by omega) ?_)); refine ev_ite (fun c => bad1 _ (fun v => by have := v.most; omega)) (fun c5 => ?_); refine ev_ite (fun c6 => ?_) (fun c => bad1 _ (fun v => c v.lto)); refine ev_ite (fun c7 => ?_) (fun c => bad1 _ (fun v => c v.ldr))
  by_cases c8 : (co.length : Int) = rd st n
  ·rw [show ((co.length : Int) != rd st n) = false by rw [bne_eq_false_iff_eq]; exact c8]; refine Ev.step (fun _ => rfl) ?_; simp only [spec_ValidGraph.j1]; refine ev_neg (by simp) ?_; exact spec_vg_sorted n.toNat 0 (by omega) (by omega) (by omega) (by omega) c3 c4 (by omega) c6 c7 c8 (fun f a b => by omega)
  ·rw [show ((co.length : Int) != rd st n) = true by rw [bne_iff_ne]; exact c8]; exact bad1 _ (fun v => c8 v.lco)
 ·rw [show (rd st 0 != 0) = true by rw [bne_iff_ne]; exact c4]; exact bad0 (fun v => c4 v.zero)

def SortedZ (st : List Int) : Prop := ∀ c : Int, 0 ≤ c → c + 1 < st.length → rd st c ≤ rd st (c + 1)
open Classical in
noncomputable def sortedB (st : List Int) : Bool := decide (SortedZ st)
open Classical in
theorem sortedB_true {st : List Int} (h : SortedZ st) : sortedB st = true := by unfold sortedB; exact decide_eq_true h
open Classical in
theorem sortedB_false {st : List Int} (h : ¬ SortedZ st) : sortedB st = false := by unfold sortedB; exact decide_eq_false h
theorem Less_ev (a b : Int) : cmp_Less_int.f a b = some (decide (a < b)) := by
 simp [cmp_Less_int.f, cmp_isNaN_int.f]
theorem IsSorted_loop (st : List Int) (hb : st.length ≤ 9223372036854775807) (d : Nat) : ∀ (i : Int), i = d → i < st.length → (∀ c : Int, i ≤ c → c + 1 < st.length → rd st c ≤ rd st (c + 1)) →
  Ev (fun k => slices_IsSorted_int_int.l0 k st i) (sortedB st) := by
 induction d with
 | zero =>
  intro i hi hl hs; refine Ev.step (fun _ => rfl) ?_; simp only [slices_IsSorted_int_int.l0]; refine ev_neg (by omega) ?_; rw [sortedB_true (fun c a b => hs c (by omega) b)]; exact Ev.now _
 | succ d ih =>
  intro i hi hl hs; refine Ev.step (fun _ => rfl) ?_; simp only [slices_IsSorted_int_int.l0]; rw [wrap64_id (by omega) (by omega)]; refine ev_pos (by omega) (ev_pos (by omega) (ev_pos (by omega) (ev_pos (by omega) (ev_pos (by omega) ?_)))); simp only [Less_ev]; refine ev_letv (ev_ite (fun e => ?_) (fun e => ?_))
  ·have e := of_decide_eq_true e; rw [sortedB_false (fun h => by have := h (i - 1) (by omega) (by omega); rw [show i - 1 + 1 = i by omega] at this; omega)]; exact Ev.now _
  ·have e := of_decide_eq_false (Bool.eq_false_iff.2 e); refine ih _ (by omega) (by omega) (fun c a b => ?_)
   by_cases q : c = i - 1
   ·subst q; rw [show i - 1 + 1 = i by omega]; omega
   ·exact hs c (by omega) b
theorem IsSorted_ev (st : List Int) (hb : st.length ≤ 9223372036854775807) : Ev (fun k => slices_IsSorted_int_int.f k st) (sortedB st) := by
 simp only [slices_IsSorted_int_int.f]; rw [wrap64_id (by omega) (by omega)]
 by_cases h : st.length = 0
 ·refine Ev.step (fun _ => rfl) ?_; simp only [slices_IsSorted_int_int.l0]; refine ev_neg (by omega) ?_; rw [sortedB_true (fun c a b => by omega)]; exact Ev.now _
 ·exact IsSorted_loop st hb (st.length - 1) _ (by omega) (by omega) (fun c a b => by omega)

theorem impl_vg_edges {n : Int} {st tos dr co : List Int} (d : Nat) : ∀ (e : Int), 0 ≤ e → (rd st n) - e = d → 1 ≤ n → n ≤ 1600 → (st.length : Int) = n + 1 → rd st 0 = 0 → rd st n ≤ 6400 →
  (tos.length : Int) = rd st n → (dr.length : Int) = rd st n → (co.length : Int) = rd st n → (∀ c : Int, 0 ≤ c → c < n → rd st c ≤ rd st (c + 1)) →
  (∀ f : Int, 0 ≤ f → f < e → (0 ≤ rd tos f ∧ rd tos f < n) ∧ (0 ≤ rd dr f ∧ rd dr f ≤ 3) ∧ (1 ≤ rd co f ∧ rd co f ≤ 9)) →
  Ev (fun k => impl_ValidGraph.l0 k (rd st n) e n st tos dr co) (vg n st tos dr co) := by
 induction d with
 | zero =>
  intro e h0 hd n1 n2 hl hz hm h1 h2 h3 hs he; refine Ev.step (fun _ => rfl) ?_; simp only [impl_ValidGraph.l0]; refine ev_neg (by omega) ?_; rw [vg_true ⟨n1, n2, hl, hz, hs, hm, h1, h2, h3, fun f a b => he f a (by omega)⟩]; exact Ev.now _
 | succ d ih =>
  intro e h0 hd n1 n2 hl hz hm h1 h2 h3 hs he; refine Ev.step (fun _ => rfl) ?_; simp only [impl_ValidGraph.l0]; have bad : ¬ ((0 ≤ rd tos e ∧ rd tos e < n) ∧ (0 ≤ rd dr e ∧ rd dr e ≤ 3) ∧ (1 ≤ rd co e ∧ rd co e ≤ 9)) → Ev (fun _ => some false) (vg n st tos dr co) := by
   intro h; rw [vg_false (fun v => h (v.edge e h0 (by omega)))]; exact Ev.now _
  refine ev_pos (by omega) (ev_pos (by omega) (ev_pos (by omega) ?_)); refine ev_ite (fun c => bad (by omega)) (fun c1 => ev_ite (fun c => bad (by omega)) (fun c2 => ev_pos (by omega) ?_)); refine ev_ite (fun c => bad (by omega)) (fun c3 => ev_ite (fun c => bad (by omega)) (fun c4 => ev_pos (by omega) ?_)); refine ev_ite (fun c => bad (by omega)) (fun c5 => ev_ite (fun c => bad (by omega)) (fun c6 => ?_)); rw [wrap64_id (by omega) (by omega)]; refine ih _ (by omega) (by omega) n1 n2 hl hz hm h1 h2 h3 hs (fun f a b => ?_)
  by_cases q : f = e
  ·subst q; omega
  ·exact he f a (by omega)
theorem impl_ValidGraph_ev (n : Int) (st tos dr co : List Int) : Ev (fun k => impl_ValidGraph.f k n st tos dr co) (vg n st tos dr co) := by
 have bad0 : ¬ ValidG n st tos dr co → Ev (fun k => impl_ValidGraph.j0 k true n st tos dr co) (vg n st tos dr co) := by
  intro h; rw [vg_false h]; refine Ev.step (fun _ => rfl) ?_; simp only [impl_ValidGraph.j0]; exact ev_pos (by trivial) (Ev.now _)
 have bad1 : ∀ m, ¬ ValidG n st tos dr co → Ev (fun k => impl_ValidGraph.j1 k m true n st tos dr co) (vg n st tos dr co) := by
  intro m h; rw [vg_false h]; refine Ev.step (fun _ => rfl) ?_; simp only [impl_ValidGraph.j1]; exact ev_pos (by trivial) (Ev.now _)
 simp only [impl_ValidGraph.f]; refine ev_ite (fun c => bad0 (fun v => by have := v.n1; omega)) (fun c1 => ?_); refine ev_ite (fun c => bad0 (fun v => by have := v.n2; omega)) (fun c2 => ?_); rw [wrap64_id (by omega) (by omega)]; refine ev_ite (fun c3 => ev_pos (by omega) ?_) (fun c => bad0 (fun v => c v.len)); refine ev_ite (fun c4 => ?_) (fun c4 => bad0 (fun v => c4 v.zero)); refine Ev.bind (IsSorted_ev st (by omega)) ?_
 by_cases cs : SortedZ st
 ·rw [sortedB_true cs]; simp only [Bool.not_true]; refine Ev.step (fun _ => rfl) ?_; simp only [impl_ValidGraph.j0]; refine ev_neg (by simp) (ev_pos (by omega) (ev_pos (by omega) ?_)); refine ev_ite (fun c => bad1 _ (fun v => by have := v.most; omega)) (fun c5 => ?_); refine ev_ite (fun c6 => ?_) (fun c => bad1 _ (fun v => c v.lto)); refine ev_ite (fun c7 => ?_) (fun c => bad1 _ (fun v => c v.ldr))
  by_cases c8 : (co.length : Int) = rd st n
  ·rw [show ((co.length : Int) != rd st n) = false by rw [bne_eq_false_iff_eq]; exact c8]; refine Ev.step (fun _ => rfl) ?_; simp only [impl_ValidGraph.j1]; refine ev_neg (by simp) ?_; exact impl_vg_edges (rd st n).toNat 0 (by omega) (by omega) (by omega) (by omega) c3 c4 (by omega) c6 c7 c8 (fun f a b => cs f a (by omega)) (fun f a b => by omega)
  ·rw [show ((co.length : Int) != rd st n) = true by rw [bne_iff_ne]; exact c8]; exact bad1 _ (fun v => c8 v.lco)
 ·rw [sortedB_false cs]; simp only [Bool.not_false]; exact bad0 (fun v => cs (fun f a b => v.mono f a (by have := v.len; omega)))

def Way (E : Int → Int → Prop) (fr : List Int) (v : Int) : Prop := ∀ P : Int → Prop, (∀ s ∈ fr, P s) → (∀ a b, P a → E a b → P b) → P v
theorem Way.here {E : Int → Int → Prop} {fr : List Int} {s : Int} (h : s ∈ fr) : Way E fr s := fun _ h0 _ => h0 s h
theorem Way.on {E : Int → Int → Prop} {fr : List Int} {a b : Int} (h : Way E fr a) (e : E a b) : Way E fr b := fun P h0 h1 => h1 a b (h P h0 h1) e
structure Snd (n : Int) (E : Int → Int → Prop) (fr : List Int) (out : List Bool) : Prop where
 len : (out.length : Int) = n
 snd : ∀ v : Int, 0 ≤ v → v < n → rdOf false out v = true → Way E fr v
structure IsReach (n : Int) (E : Int → Int → Prop) (fr : List Int) (out : List Bool) : Prop where
 s : Snd n E fr out
 frm : ∀ s ∈ fr, rdOf false out s = true
 cls : ∀ a b : Int, 0 ≤ a → a < n → rdOf false out a = true → E a b → rdOf false out b = true
theorem rdB_set_eq {o : List Bool} {c : Int} (c0 : 0 ≤ c) (c1 : c < o.length) : rdOf false (o.set c.toNat true) c = true := by unfold rdOf; exact getD_set_eq c0 c1
theorem rdB_set {o : List Bool} {c v : Int} (c0 : 0 ≤ c) (v0 : 0 ≤ v) (h : rdOf false (o.set c.toNat true) v = true) : v = c ∨ rdOf false o v = true := by
 by_cases e : c = v
 ·exact .inl e.symm
 ·unfold rdOf at h ⊢; rw [getD_set_ne c0 v0 e] at h; exact .inr h
theorem rdB_keep {o : List Bool} {c v : Int} (c0 : 0 ≤ c) (c1 : c < o.length) (v0 : 0 ≤ v) (h : rdOf false o v = true) : rdOf false (o.set c.toNat true) v = true := by
 by_cases e : c = v
 ·subst e; exact rdB_set_eq c0 c1
 ·unfold rdOf at h ⊢; rw [getD_set_ne c0 v0 e]; exact h
theorem cnt_set {o : List Bool} {c : Int} (c0 : 0 ≤ c) (c1 : c < o.length) (h : rdOf false o c = false) : (o.set c.toNat true).count true = o.count true + 1 := by
 have hi : c.toNat < o.length := by omega
 unfold rdOf at h; rw [getD_lt hi] at h; rw [List.count_set hi, h]; simp
theorem Snd.set {n : Int} {E : Int → Int → Prop} {fr : List Int} {o : List Bool} {c : Int} (h : Snd n E fr o) (c0 : 0 ≤ c) (hw : Way E fr c) : Snd n E fr (o.set c.toNat true) := by
 refine ⟨by rw [List.length_set]; exact h.len, fun v v0 v1 hv => ?_⟩
 rcases rdB_set c0 v0 hv with rfl | q
 ·exact hw
 ·exact h.snd v v0 v1 q
theorem Snd.zero {n : Int} (n0 : 0 ≤ n) (E : Int → Int → Prop) (fr : List Int) : Snd n E fr (List.replicate n.toNat false) := by
 refine ⟨by rw [List.length_replicate]; omega, fun v v0 v1 hv => ?_⟩; unfold rdOf at hv; rw [getD_lt (by rw [List.length_replicate]; omega)] at hv; simp at hv
structure Edges (n : Int) (E : Int → Int → Prop) (es : List S51) : Prop where
 small : es.length ≤ 1000000
 one : ∀ i : Int, 0 ≤ i → i < es.length → (0 ≤ (rd_T51 es i).f0 ∧ (rd_T51 es i).f0 < n) ∧ (0 ≤ (rd_T51 es i).f1 ∧ (rd_T51 es i).f1 < n) ∧ E (rd_T51 es i).f0 (rd_T51 es i).f1
 all : ∀ a b : Int, E a b → ∃ i : Int, 0 ≤ i ∧ i < es.length ∧ (rd_T51 es i).f0 = a ∧ (rd_T51 es i).f1 = b
section
variable {n : Int} {E : Int → Int → Prop} {fr : List Int} {es : List S51} (he : Edges n E es) (n1 : 1 ≤ n) (n2 : n ≤ 1000000) (hf : ∀ s ∈ fr, 0 ≤ s ∧ s < n)
include he
theorem l5pass (o0 : List Bool) (f0 : ∀ s ∈ fr, rdOf false o0 s = true) (K1 : ∀ o : List Bool, Snd n E fr o → (∀ s ∈ fr, rdOf false o s = true) → o0.count true < o.count true → ∃ R, Ev (fun k => spec_l5reach.l1 k es o) R ∧ IsReach n E fr R) (m : Nat) :
  ∀ (i : Nat) (o : List Bool) (b : Bool), i + m = es.length → Snd n E fr o → (∀ s ∈ fr, 0 ≤ s) → (∀ s ∈ fr, rdOf false o s = true) → (b = true → o0.count true < o.count true) → (b = false → o = o0 ∧ ∀ j : Int, 0 ≤ j → j < i → rdOf false o (rd_T51 es j).f0 = true → rdOf false o (rd_T51 es j).f1 = true) →
  o0.count true ≤ o.count true → ∃ R, Ev (fun k => spec_l5reach.l2 k es o b i) R ∧ IsReach n E fr R := by
 have sm := he.small
 induction m with
 | zero =>
  intro i o b hi hs hf0 hf1 ht hfl hc; cases b with
  | true =>
   obtain ⟨R, e, r⟩ := K1 o hs hf1 (ht rfl); refine ⟨R, Ev.step (fun _ => rfl) ?_, r⟩; simp only [spec_l5reach.l2]; exact ev_neg (by omega) (ev_pos (by trivial) e)
  | false =>
   obtain ⟨rfl, hcl⟩ := hfl rfl; refine ⟨o, Ev.step (fun _ => rfl) ?_, ⟨hs, hf1, fun a c a0 a1 ha e => ?_⟩⟩
   ·simp only [spec_l5reach.l2]; exact ev_neg (by omega) (ev_neg (by simp) (Ev.now _))
   ·obtain ⟨j, j0, j1, rfl, rfl⟩ := he.all a c e; exact hcl j j0 (by omega) ha
 | succ m ih =>
  intro i o b hi hs hf0 hf1 ht hfl hc; have one := he.one i (by omega) (by omega); have len := hs.len; have go : ∀ (o' : List Bool) (b' : Bool), (∃ R, Ev (fun k => spec_l5reach.l2 k es o' b' (wrap64 ((i : Int) + 1))) R ∧ IsReach n E fr R) ↔ (∃ R, Ev (fun k => spec_l5reach.l2 k es o' b' ((i + 1 : Nat) : Int)) R ∧ IsReach n E fr R) := by
   intro o' b'; rw [wrap64_id (by omega) (by omega)]; exact Iff.rfl
  by_cases c0 : rdOf false o (rd_T51 es (i : Int)).f0 = true
  ·by_cases c1 : rdOf false o (rd_T51 es (i : Int)).f1 = true
   ·obtain ⟨R, e, r⟩ := (go o b).2 (ih (i + 1) o b (by omega) hs hf0 hf1 ht (fun hb => ⟨(hfl hb).1, fun j j0 j1 h => by
     by_cases q : j = i
     ·subst q; exact c1
     ·exact (hfl hb).2 j j0 (by omega) h⟩) hc)
    refine ⟨R, Ev.step (fun _ => rfl) ?_, r⟩; simp only [spec_l5reach.l2]; exact ev_pos (by omega) (ev_pos (by omega) (ev_pos one.1.1 (ev_pos (by omega) (ev_pos c0 (ev_pos one.2.1.1 (ev_pos (by omega) (ev_pos c1 e)))))))
   ·have c1' : rdOf false o (rd_T51 es (i : Int)).f1 = false := by simpa using c1
    have cs := cnt_set one.2.1.1 (by omega) c1'; obtain ⟨R, e, r⟩ := (go (o.set (rd_T51 es (i : Int)).f1.toNat true) true).2 (ih (i + 1) _ true (by omega) (hs.set one.2.1.1 ((hs.snd _ one.1.1 one.1.2 c0).on one.2.2)) hf0 (fun s q => rdB_keep one.2.1.1 (by omega) (hf0 s q) (hf1 s q)) (fun _ => by omega) (fun q => by cases q) (by omega)); refine ⟨R, Ev.step (fun _ => rfl) ?_, r⟩; simp only [spec_l5reach.l2]; exact ev_pos (by omega) (ev_pos (by omega) (ev_pos one.1.1 (ev_pos (by omega) (ev_pos c0 (ev_pos one.2.1.1 (ev_pos (by omega) (ev_neg c1 e)))))))
  ·obtain ⟨R, e, r⟩ := (go o b).2 (ih (i + 1) o b (by omega) hs hf0 hf1 ht (fun hb => ⟨(hfl hb).1, fun j j0 j1 h => by
     by_cases q : j = i
     ·subst q; exact absurd h c0
     ·exact (hfl hb).2 j j0 (by omega) h⟩) hc)
   refine ⟨R, Ev.step (fun _ => rfl) ?_, r⟩; simp only [spec_l5reach.l2]; exact ev_pos (by omega) (ev_pos (by omega) (ev_pos one.1.1 (ev_pos (by omega) (ev_neg c0 e))))
theorem l5passes (hf0 : ∀ s ∈ fr, 0 ≤ s) (d : Nat) : ∀ o : List Bool, Snd n E fr o → (∀ s ∈ fr, rdOf false o s = true) → o.length - o.count true ≤ d → ∃ R, Ev (fun k => spec_l5reach.l1 k es o) R ∧ IsReach n E fr R := by
 induction d with
 | zero =>
  intro o hs hf1 hd
  obtain ⟨R, e, r⟩ := l5pass he o hf1 (fun o' hs' _ hc => by
   have a := List.count_le_length (a := true) (l := o'); have b := hs.len; have c := hs'.len
   omega) es.length 0 o false (by omega) hs hf0 hf1 (fun q => by cases q) (fun _ => ⟨rfl, fun j j0 j1 => by omega⟩) (Nat.le_refl _)
  exact ⟨R, Ev.step (fun _ => rfl) (by simp only [spec_l5reach.l1]; exact e), r⟩
 | succ d ih =>
  intro o hs hf1 hd
  obtain ⟨R, e, r⟩ := l5pass he o hf1 (fun o' hs' hf' hc => ih o' hs' hf' (by
   have b := hs.len; have c := hs'.len
   omega)) es.length 0 o false (by omega) hs hf0 hf1 (fun q => by cases q) (fun _ => ⟨rfl, fun j j0 j1 => by omega⟩) (Nat.le_refl _)
  exact ⟨R, Ev.step (fun _ => rfl) (by simp only [spec_l5reach.l1]; exact e), r⟩
include n1 n2 hf
theorem l5from (hfl : fr.length ≤ 10000000) (m : Nat) : ∀ (i : Nat) (o : List Bool), i + m = fr.length → Snd n E fr o → (∀ s ∈ fr.take i, rdOf false o s = true) → ∃ R, Ev (fun k => spec_l5reach.l0 k es fr o i) R ∧ IsReach n E fr R := by
 induction m with
 | zero =>
  intro i o hi hs ht; rw [List.take_of_length_le (by omega)] at ht; obtain ⟨R, e, r⟩ := l5passes he (fun s q => (hf s q).1) o.length o hs ht (by omega); refine ⟨R, Ev.step (fun _ => rfl) ?_, r⟩; simp only [spec_l5reach.l0]; exact ev_neg (by omega) e
 | succ m ih =>
  intro i o hi hs ht; have hmem : rd fr (i : Int) ∈ fr := rd_mem (by omega) (by omega); have r0 := hf _ hmem; have len := hs.len
  obtain ⟨R, e, r⟩ := ih (i + 1) (o.set (rd fr (i : Int)).toNat true) (by omega) (hs.set r0.1 (Way.here hmem)) (fun s q => by
   rw [take_snoc' fr i (by omega), List.mem_append, List.mem_singleton] at q
   rcases q with q | q
   ·exact rdB_keep r0.1 (by omega) (hf s (List.mem_of_mem_take q)).1 (ht s q)
   ·have : rd fr (i : Int) = s := by rw [q, rd_get (by omega) (by omega)]; simp
    rw [this]
    exact rdB_set_eq (this ▸ r0.1) (by omega))
  refine ⟨R, Ev.step (fun _ => rfl) ?_, r⟩; simp only [spec_l5reach.l0]; refine ev_pos (by omega) (ev_pos (by omega) (ev_pos r0.1 (ev_pos (by omega) ?_))); rw [wrap64_id (by omega) (by omega)]; exact e
theorem l5reach_ev (hfl : fr.length ≤ 10000000) : ∃ R, Ev (fun k => spec_l5reach.f k es n fr) R ∧ IsReach n E fr R := by
 obtain ⟨R, e, r⟩ := l5from he n1 n2 hf hfl fr.length 0 (List.replicate n.toNat false) (by omega) (Snd.zero (by omega) E fr) (fun s q => by simp at q); refine ⟨R, ?_, r⟩; simp only [spec_l5reach.f]; exact ev_pos (by omega) (ev_pos (by omega) e)
end

section
variable {n : Int} {st tos dr co : List Int} (v : ValidG n st tos dr co)
include v
theorem owner_ex {e : Int} (e0 : 0 ≤ e) : ∀ m : Nat, (m : Int) ≤ n → e < rd st m → ∃ c : Int, 0 ≤ c ∧ c < n ∧ rd st c ≤ e ∧ e < rd st (c + 1)
 | 0, _, h => by have := v.zero; rw [show ((0 : Nat) : Int) = 0 from rfl] at h; omega
 | m + 1, hm, h => by
  by_cases q : e < rd st (m : Int)
  ·exact owner_ex e0 m (by omega) q
  ·exact ⟨m, by omega, by omega, by omega, by rw [show (m : Int) + 1 = ((m + 1 : Nat) : Int) by omega]; exact h⟩
def Edge (n : Int) (st tos : List Int) (a b : Int) : Prop := 0 ≤ a ∧ a < n ∧ ∃ e : Int, rd st a ≤ e ∧ e < rd st (a + 1) ∧ rd tos e = b
theorem edge_range {a b : Int} (h : Edge n st tos a b) : 0 ≤ b ∧ b < n := by
 obtain ⟨a0, a1, e, e0, e1, rfl⟩ := h; have x := st_nn v (a := a) a0 (by omega); have y := st_le v (a := a + 1) (b := n) (by omega) (by omega) (Int.le_refl _); exact (v.edge e (by omega) (by omega)).1
theorem edges_fwd : Edges n (Edge n st tos) ((upI (rd st n).toNat).map (fwdE n st tos dr co)) := by
 have most := v.most; have nn := st_nn v (a := n) (by have := v.n1; omega) (Int.le_refl _); have at_ : ∀ i : Nat, i < (rd st n).toNat → rd_T51 ((upI (rd st n).toNat).map (fwdE n st tos dr co)) (i : Int) = fwdE n st tos dr co i := by
  intro i hi; rw [rdE_lt (by rw [List.length_map, upI_length]; exact hi), List.getElem_map, upI_get]
 refine ⟨by rw [List.length_map, upI_length]; omega, fun i i0 i1 => ?_, fun a b h => ?_⟩
 ·have n1 := v.n1; rw [List.length_map, upI_length] at i1; obtain ⟨j, rfl⟩ := Int.eq_ofNat_of_zero_le i0; rw [at_ j (by omega)]; obtain ⟨c, c0, c1, x, y⟩ := owner_ex v (e := j) i0 n.toNat (by omega) (by rw [show (n.toNat : Int) = n by have := v.n1; omega]; omega); have o := owner_eq v c0 c1 x y; have ed := v.edge j i0 (by omega); simp only [fwdE]; rw [o]; exact ⟨⟨c0, c1⟩, ed.1, c0, c1, j, x, y, rfl⟩
 ·obtain ⟨a0, a1, e, e0, e1, rfl⟩ := h; have x := st_nn v (a := a) a0 (by omega); have y := st_le v (a := a + 1) (b := n) (by omega) (by omega) (Int.le_refl _); obtain ⟨j, rfl⟩ := Int.eq_ofNat_of_zero_le (show 0 ≤ e by omega); refine ⟨j, by omega, by rw [List.length_map, upI_length]; omega, ?_, ?_⟩
  ·rw [at_ j (by omega)]; exact owner_eq v a0 a1 e0 e1
  ·rw [at_ j (by omega)]; rfl
end
section
variable {n : Int} {E : Int → Int → Prop} {fr : List Int}
structure RInv (n : Int) (E : Int → Int → Prop) (fr : List Int) (s : List Bool × List Int) : Prop where
 sd : Snd n E fr s.1
 q : ∀ c ∈ s.2, (0 ≤ c ∧ c < n) ∧ rdOf false s.1 c = true
 cnt : s.2.length ≤ s.1.count true
end
section
variable {n : Int} {st tos dr co : List Int} (v : ValidG n st tos dr co) {fr : List Int}
include v
theorem row_mem {c x : Int} (c0 : 0 ≤ c) (c1 : c < n) : x ∈ (tos.take (rd st (c + 1)).toNat).drop (rd st c).toNat ↔ Edge n st tos c x := by
 have a := st_nn v (a := c) c0 (by omega); have b := st_le v (a := c) (b := c + 1) c0 (by omega) (by omega); have d := st_le v (a := c + 1) (b := n) (by omega) (by omega) (Int.le_refl _); have lto := v.lto
 constructor
 ·intro h; obtain ⟨j, hj, rfl⟩ := List.getElem_of_mem h; have hj2 := hj; rw [List.length_drop, List.length_take] at hj2; refine ⟨c0, c1, rd st c + j, by omega, by omega, ?_⟩; rw [List.getElem_drop, List.getElem_take, rd_get (i := rd st c + (j : Int)) (by omega) (by omega)]
  congr 1
  omega
 ·rintro ⟨_, _, e, e0, e1, rfl⟩; rw [rd_get (i := e) (by omega) (by omega)]; have hl : e.toNat - (rd st c).toNat < ((tos.take (rd st (c + 1)).toNat).drop (rd st c).toNat).length := by
   rw [List.length_drop, List.length_take]; omega
  have : ((tos.take (rd st (c + 1)).toNat).drop (rd st c).toNat)[e.toNat - (rd st c).toNat] = tos[e.toNat] := by
   rw [List.getElem_drop, List.getElem_take]
   congr 1
   omega
  rw [← this]; exact List.getElem_mem _
end

def seen (d : List Int) : Nat → Int
 | 0 => 0
 | m + 1 => seen d m + (if rd d m = 0 then 0 else 1)
theorem seen_le (d : List Int) (m : Nat) : 0 ≤ seen d m ∧ seen d m ≤ m := by
 induction m with
 | zero => simp [seen]
 | succ m ih => rw [seen]; split <;> omega
theorem seen_set (d : List Int) (b x : Int) (b0 : 0 ≤ b) (b1 : b < d.length) (hb : rd d b = 0) (hx : x ≠ 0) (m : Nat) : seen (d.set b.toNat x) m = seen d m + (if b < m then 1 else 0) := by
 induction m with
 | zero => rw [seen, seen, if_neg (by omega)]; simp
 | succ m ih =>
  rw [seen, seen, ih]
  by_cases e : b = m
  ·subst e; rw [rd_set_eq b0 b1, if_neg (by omega), if_neg hx, if_pos hb, if_pos (by omega)]
  ·rw [rd_set_ne b0 (by omega) e]
   by_cases q : b < m
   ·rw [if_pos q, if_pos (show b < ((m + 1 : Nat) : Int) by omega)]; omega
   ·rw [if_neg q, if_neg (show ¬ b < ((m + 1 : Nat) : Int) by omega)]; omega
theorem Way.trans {E : Int → Int → Prop} {a b c : Int} (h : Way E [a] b) (g : Way E [b] c) : Way E [a] c :=
 g (fun x => Way E [a] x) (fun s hs => by rw [List.mem_singleton] at hs; rw [hs]; exact h) (fun _ _ p e => p.on e)
theorem Way.refl (E : Int → Int → Prop) (a : Int) : Way E [a] a := Way.here (List.mem_singleton.2 rfl)
theorem Way.one {E : Int → Int → Prop} {a b : Int} (e : E a b) : Way E [a] b := (Way.refl E a).on e
structure Good (n : Int) (E : Int → Int → Prop) (v m : Int) : Prop where
 r : 0 ≤ m ∧ m < n
 fwd : Way E [m] v
 bwd : Way E [v] m
 least : ∀ u : Int, 0 ≤ u → u < n → Way E [u] v → Way E [v] u → m ≤ u
structure TInv (n : Int) (E : Int → Int → Prop) (s : impl_Components.TS) : Prop where
 l1 : (s.ix.length : Int) = n
 l2 : (s.lo.length : Int) = n
 l3 : (s.ou.length : Int) = n
 nx1 : 1 ≤ s.nx ∧ (s.sk.length : Int) ≤ s.nx - 1
 cnt : seen s.ix n.toNat = s.nx - 1
 num : ∀ v : Int, 0 ≤ v → v < n → rd s.ix v = 0 ∨ (1 ≤ rd s.ix v ∧ rd s.ix v < s.nx)
 stk : ∀ v ∈ s.sk, (0 ≤ v ∧ v < n) ∧ rd s.ix v ≠ 0 ∧ rd s.ou v = -1
 nd : s.sk.Nodup
 out : ∀ v : Int, 0 ≤ v → v < n → rd s.ou v = -1 ∨ (0 ≤ rd s.ou v ∧ rd s.ix v ≠ 0 ∧ Good n E v (rd s.ou v))
 all : ∀ v : Int, 0 ≤ v → v < n → rd s.ix v ≠ 0 → v ∈ s.sk ∨ 0 ≤ rd s.ou v
 cls : ∀ a b : Int, E a b → 0 ≤ a → a < n → 0 ≤ rd s.ou a → 0 ≤ rd s.ou b
structure TStep (n : Int) (E : Int → Int → Prop) (s r : impl_Components.TS) (T : List Int) : Prop where
 inv : TInv n E r
 sk : r.sk = s.sk ++ T
 old : ∀ v : Int, 0 ≤ v → v < n → rd s.ix v ≠ 0 → rd r.ix v = rd s.ix v ∧ rd r.lo v = rd s.lo v
 new : ∀ v : Int, 0 ≤ v → v < n → rd s.ix v = 0 → rd r.ix v = 0 ∨ s.nx ≤ rd r.ix v
 nxm : s.nx < r.nx
 keep : ∀ v : Int, 0 ≤ v → v < n → 0 ≤ rd s.ou v → 0 ≤ rd r.ou v
 fresh : ∀ w ∈ T, rd s.ix w = 0
structure TPost (n : Int) (E : Int → Int → Prop) (c : Int) (s r : impl_Components.TS) (T : List Int) : Prop where
 st : TStep n E s r T
 vis : rd r.ix c ≠ 0
 low : (T = [] ∧ s.nx ≤ rd r.lo c) ∨ ((∃ y ∈ s.sk, rd r.lo c = rd s.ix y ∧ Way E [c] y) ∧ ∀ w ∈ T, Way E [c] w ∧ Way E [w] c)
 edg : ∀ w ∈ T, ∀ x : Int, E w x → 0 ≤ rd r.ou x ∨ x ∈ T ∨ (x ∈ s.sk ∧ rd r.lo c ≤ rd s.ix x)
structure TLoop (n : Int) (E : Int → Int → Prop) (c : Int) (s r : impl_Components.TS) (T D : List Int) : Prop where
 st : TStep n E s r (c :: T)
 ixc : rd r.ix c = s.nx
 low : rd r.lo c = s.nx ∨ ∃ y ∈ s.sk, rd r.lo c = rd s.ix y ∧ Way E [c] y
 con : ∀ w ∈ T, Way E [c] w ∧ Way E [w] c
 edg : ∀ w ∈ T, ∀ x : Int, E w x → 0 ≤ rd r.ou x ∨ x ∈ c :: T ∨ (x ∈ s.sk ∧ rd r.lo c ≤ rd s.ix x)
 dne : ∀ x ∈ D, (0 ≤ x ∧ x < n) ∧ (0 ≤ rd r.ou x ∨ x ∈ c :: T ∨ (x ∈ s.sk ∧ rd r.lo c ≤ rd s.ix x))
section
variable {n : Int} {E : Int → Int → Prop} (hE : ∀ a b : Int, E a b → (0 ≤ a ∧ a < n) ∧ (0 ≤ b ∧ b < n)) {c : Int} (c0 : 0 ≤ c) (c1 : c < n) {s : impl_Components.TS} (hs : TInv n E s) (hw : rd s.ix c = 0) (pre : ∀ w ∈ s.sk, Way E [w] c)
include hE c0 c1 hs hw pre
theorem TLoop.hi {r : impl_Components.TS} {T D : List Int} (h : TLoop n E c s r T D) {y : Int} (hy : y ∈ c :: T) : s.nx ≤ rd r.ix y := by
 have m : y ∈ r.sk := by rw [h.st.sk]; exact List.mem_append_right _ hy
 have k := h.st.inv.stk y m; have f := h.st.fresh y hy
 rcases h.st.new y k.1.1 k.1.2 f with q | q
 ·exact absurd q k.2.1
 ·exact q
theorem TLoop.old {r : impl_Components.TS} {T D : List Int} (h : TLoop n E c s r T D) {y : Int} (hy : y ∈ s.sk) : rd r.ix y = rd s.ix y := by
 have k := hs.stk y hy; exact (h.st.old y k.1.1 k.1.2 k.2.1).1
theorem TLoop.low_le {r : impl_Components.TS} {T D : List Int} (h : TLoop n E c s r T D) : rd r.lo c ≤ s.nx := by
 rcases h.low with q | ⟨y, hy, q, _⟩
 ·omega
 ·have k := hs.stk y hy; have := hs.num y k.1.1 k.1.2
  omega
theorem TLoop.put {r : impl_Components.TS} {T D : List Int} (h : TLoop n E c s r T D) {t x : Int} (hx : x = rd r.ix t) (ht : t ∈ r.sk) (e : Way E [c] t) :
  TLoop n E c s { r with lo := r.lo.set c.toNat (min (rd r.lo c) x) } T (t :: D) := by
 have ll := TLoop.low_le hE c0 c1 hs hw pre h; have l2 := h.st.inv.l2; have pc : rd (r.lo.set c.toNat (min (rd r.lo c) x)) c = min (rd r.lo c) x := rd_set_eq c0 (by omega); have pn : ∀ v : Int, 0 ≤ v → v ≠ c → rd (r.lo.set c.toNat (min (rd r.lo c) x)) v = rd r.lo v := fun v v0 q => rd_set_ne c0 v0 (fun z => q z.symm)
 have i := h.st.inv; have ht2 := ht; rw [h.st.sk] at ht2; refine ⟨⟨⟨i.l1, by simp only [List.length_set]; exact l2, i.l3, i.nx1, i.cnt, i.num, i.stk, i.nd, i.out, i.all, i.cls⟩, h.st.sk, fun v v0 v1 q => ?_, h.st.new, h.st.nxm, h.st.keep, h.st.fresh⟩, h.ixc, ?_, h.con, fun w hw2 z ez => ?_, fun z hz => ?_⟩
 ·have o := h.st.old v v0 v1 q; exact ⟨o.1, by rw [pn v v0 (fun z => q (by rw [z]; exact hw))]; exact o.2⟩
 ·simp only [pc]
  rcases List.mem_append.1 ht2 with q | q
  ·have o := TLoop.old hE c0 c1 hs hw pre h q
   by_cases l : rd r.lo c ≤ x
   ·rw [Int.min_eq_left l]; exact h.low
   ·rw [Int.min_eq_right (by omega)]; exact .inr ⟨t, q, by omega, e⟩
  ·have o := TLoop.hi hE c0 c1 hs hw pre h q; rw [Int.min_eq_left (by omega)]; exact h.low
 ·simp only [pc]
  rcases h.edg w hw2 z ez with q | q | q
  ·exact .inl q
  ·exact .inr (.inl q)
  ·exact .inr (.inr ⟨q.1, by omega⟩)
 ·simp only [pc]
  rcases List.mem_cons.1 hz with q | q
  ·subst q; refine ⟨(i.stk z ht).1, ?_⟩
   rcases List.mem_append.1 ht2 with q | q
   ·have o := TLoop.old hE c0 c1 hs hw pre h q; exact .inr (.inr ⟨q, by omega⟩)
   ·exact .inr (.inl q)
  ·have d := h.dne z q; refine ⟨d.1, ?_⟩
   rcases d.2 with q | q | q
   ·exact .inl q
   ·exact .inr (.inl q)
   ·exact .inr (.inr ⟨q.1, by omega⟩)
theorem TLoop.call {r r2 : impl_Components.TS} {T T2 D : List Int} (h : TLoop n E c s r T D) {t : Int} (e : E c t) (ht : rd r.ix t = 0) (p : TPost n E t r r2 T2) :
  TLoop n E c s { r2 with lo := r2.lo.set c.toNat (min (rd r2.lo c) (rd r2.lo t)) } (T ++ T2) (t :: D) := by
 have ll := TLoop.low_le hE c0 c1 hs hw pre h; have l2 := p.st.inv.l2; have tr := (hE c t e).2; have nx1 := hs.nx1.1; have oc := p.st.old c c0 c1 (by rw [h.ixc]; omega); have pc : rd (r2.lo.set c.toNat (min (rd r2.lo c) (rd r2.lo t))) c = min (rd r.lo c) (rd r2.lo t) := by rw [rd_set_eq c0 (by omega), oc.2]
 have pn : ∀ v : Int, 0 ≤ v → v ≠ c → rd (r2.lo.set c.toNat (min (rd r2.lo c) (rd r2.lo t))) v = rd r2.lo v := fun v v0 q => rd_set_ne c0 v0 (fun z => q z.symm)
 have i := p.st.inv; have inm : ∀ y, y ∈ r.sk → y ∈ s.sk ∨ y ∈ c :: T := fun y hy => by rw [h.st.sk] at hy; exact List.mem_append.1 hy
 have grow : ∀ y, y ∈ c :: T → y ∈ c :: (T ++ T2) := fun y hy => (List.mem_cons.1 hy).elim (fun q => List.mem_cons.2 (.inl q)) (fun q => List.mem_cons_of_mem _ (List.mem_append_left _ q))
 have grow2 : ∀ y, y ∈ T2 → y ∈ c :: (T ++ T2) := fun y hy => List.mem_cons_of_mem _ (List.mem_append_right _ hy)
 have back : ∀ y, y ∈ c :: T → Way E [y] c := fun y hy => (List.mem_cons.1 hy).elim (fun q => by rw [q]; exact Way.refl E c) (fun q => (h.con y q).2)
 have ov : ∀ v : Int, 0 ≤ v → v < n → 0 ≤ rd r.ou v → 0 ≤ rd r2.ou v := p.st.keep; have rng : ∀ a b : Int, E a b → 0 ≤ b ∧ b < n := fun a b q => (hE a b q).2
 refine ⟨⟨⟨i.l1, by simp only [List.length_set]; exact l2, i.l3, i.nx1, i.cnt, i.num, i.stk, i.nd, i.out, i.all, i.cls⟩, ?_, fun v v0 v1 q => ?_, fun v v0 v1 q => ?_, ?_, fun v v0 v1 q => p.st.keep v v0 v1 (h.st.keep v v0 v1 q), fun w hw2 => ?_⟩, ?_, ?_, fun w hw2 => ?_, fun w hw2 z ez => ?_, fun z hz => ?_⟩
 ·simp only; rw [p.st.sk, h.st.sk, List.append_assoc]; rfl
 ·have o := h.st.old v v0 v1 q; have o2 := p.st.old v v0 v1 (by rw [o.1]; exact q); exact ⟨o2.1.trans o.1, by rw [pn v v0 (fun z => q (by rw [z]; exact hw))]; exact o2.2.trans o.2⟩
 ·rcases h.st.new v v0 v1 q with z | z
  ·rcases p.st.new v v0 v1 z with y | y
   ·exact .inl y
   ·have := h.st.nxm; exact .inr (by simp only; omega)
  ·have o2 := p.st.old v v0 v1 (by omega); exact .inr (by simp only; omega)
 ·have := h.st.nxm; have := p.st.nxm; simp only; omega
 ·rcases List.mem_cons.1 hw2 with q | q
  ·rw [q]; exact hw
  ·rcases List.mem_append.1 q with q | q
   ·exact h.st.fresh w (List.mem_cons_of_mem _ q)
   ·have f := p.st.fresh w q; have k := i.stk w (by rw [p.st.sk]; exact List.mem_append_right _ q)
    by_cases z : rd s.ix w = 0
    ·exact z
    ·have o := h.st.old w k.1.1 k.1.2 z
     omega
 ·simp only; rw [oc.1]; exact h.ixc
 ·simp only [pc]
  rcases p.low with q | ⟨⟨y, hy, q, wy⟩, _⟩
  ·have := h.st.nxm; rw [Int.min_eq_left (by omega)]; exact h.low
  ·rcases inm y hy with z | z
   ·have o := TLoop.old hE c0 c1 hs hw pre h z
    by_cases l : rd r.lo c ≤ rd r2.lo t
    ·rw [Int.min_eq_left l]; exact h.low
    ·rw [Int.min_eq_right (by omega)]; exact .inr ⟨y, z, by omega, (Way.one e).trans wy⟩
   ·have o := TLoop.hi hE c0 c1 hs hw pre h z; rw [Int.min_eq_left (by omega)]; exact h.low
 ·rcases List.mem_append.1 hw2 with q | q
  ·exact h.con w q
  ·rcases p.low with z | ⟨⟨y, hy, _, wy⟩, hh⟩
   ·rw [z.1] at q; exact absurd q (by simp)
   ·refine ⟨(Way.one e).trans (hh w q).1, ((hh w q).2.trans wy).trans ?_⟩
    rcases inm y hy with z | z
    ·exact pre y z
    ·exact back y z
 ·simp only [pc]
  rcases List.mem_append.1 hw2 with q | q
  ·rcases h.edg w q z ez with y | y | y
   ·exact .inl (ov z (rng _ _ ez).1 (rng _ _ ez).2 y)
   ·exact .inr (.inl (grow z y))
   ·exact .inr (.inr ⟨y.1, by omega⟩)
  ·rcases p.edg w q z ez with y | y | y
   ·exact .inl y
   ·exact .inr (.inl (grow2 z y))
   ·rcases inm z y.1 with u | u
    ·have o := TLoop.old hE c0 c1 hs hw pre h u; exact .inr (.inr ⟨u, by omega⟩)
    ·exact .inr (.inl (grow z u))
 ·simp only [pc]
  rcases List.mem_cons.1 hz with q | q
  ·subst q; refine ⟨tr, ?_⟩
   rcases i.all z tr.1 tr.2 p.vis with y | y
   ·rw [p.st.sk] at y
    rcases List.mem_append.1 y with u | u
    ·exact absurd ht (h.st.inv.stk z u).2.1
    ·exact .inr (.inl (grow2 z u))
   ·exact .inl y
  ·have d := h.dne z q; refine ⟨d.1, ?_⟩
   rcases d.2 with y | y | y
   ·exact .inl (ov z d.1.1 d.1.2 y)
   ·exact .inr (.inl (grow z y))
   ·exact .inr (.inr ⟨y.1, by omega⟩)
end
theorem mi_eq : impl_Components.mi = min := by
 funext x y
 unfold impl_Components.mi
 split <;> omega
theorem ixof_app (c : Int) (l T : List Int) (h : c ∉ l) : impl_Components.ixof c (l ++ c :: T) = l.length := by
 induction l with
 | nil => simp [impl_Components.ixof]
 | cons a l ih =>
  rw [List.cons_append, impl_Components.ixof, if_neg (fun q => h (by rw [q]; exact List.mem_cons_self)), ih (fun q => h (List.mem_cons_of_mem _ q)), List.length_cons]
theorem mn_fold (l : List Int) : ∀ a : Int, (l.foldl min a = a ∨ l.foldl min a ∈ l) ∧ l.foldl min a ≤ a ∧ ∀ x ∈ l, l.foldl min a ≤ x := by
 induction l with
 | nil => intro a; exact ⟨.inl rfl, Int.le_refl _, fun x hx => absurd hx (by simp)⟩
 | cons b l ih =>
  intro a; obtain ⟨i1, i2, i3⟩ := ih (min a b); rw [List.foldl_cons]; refine ⟨?_, by omega, fun x hx => ?_⟩
  ·rcases i1 with q | q
   ·by_cases l' : a ≤ b
    ·rw [q, Int.min_eq_left l']; exact .inl rfl
    ·rw [q, Int.min_eq_right (by omega)]; exact .inr List.mem_cons_self
   ·exact .inr (List.mem_cons_of_mem _ q)
  ·rcases List.mem_cons.1 hx with q | q
   ·rw [q]; omega
   ·exact i3 x q
theorem mn_ok (c : Int) (T : List Int) : impl_Components.mn (c :: T) ∈ c :: T ∧ ∀ x ∈ c :: T, impl_Components.mn (c :: T) ≤ x := by
 obtain ⟨i1, i2, i3⟩ := mn_fold T c; have em : impl_Components.mn (c :: T) = T.foldl min c := by unfold impl_Components.mn; rw [mi_eq]; rfl
 rw [em]; refine ⟨?_, fun x hx => ?_⟩
 ·rcases i1 with q | q
  ·rw [q]; exact List.mem_cons_self
  ·exact List.mem_cons_of_mem _ q
 ·rcases List.mem_cons.1 hx with q | q
  ·rw [q]; exact i2
  ·exact i3 x q
theorem fill_len (m : Int) (l : List Int) : ∀ o : List Int, (impl_Components.fill m l o).length = o.length := by
 induction l with
 | nil => intro o; rfl
 | cons a l ih => intro o; show (impl_Components.fill m l (o.set a.toNat m)).length = _; rw [ih, List.length_set]
theorem fill_rd (m : Int) (l : List Int) : ∀ o : List Int, (∀ x ∈ l, 0 ≤ x ∧ x < o.length) → ∀ v : Int, 0 ≤ v → ((v ∈ l → rd (impl_Components.fill m l o) v = m) ∧ (v ∉ l → rd (impl_Components.fill m l o) v = rd o v)) := by
 induction l with
 | nil => intro o _ v v0; exact ⟨fun h => absurd h (by simp), fun _ => rfl⟩
 | cons a l ih =>
  intro o h v v0; have ha := h a List.mem_cons_self; obtain ⟨i1, i2⟩ := ih (o.set a.toNat m) (fun x hx => by rw [List.length_set]; exact h x (List.mem_cons_of_mem _ hx)) v v0; have e : impl_Components.fill m (a :: l) o = impl_Components.fill m l (o.set a.toNat m) := rfl; rw [e]; refine ⟨fun q => ?_, fun q => ?_⟩
  ·by_cases z : v ∈ l
   ·exact i1 z
   ·rw [i2 z]
    rcases List.mem_cons.1 q with y | y
    ·rw [y]; exact rd_set_eq ha.1 ha.2
    ·exact absurd y z
  ·rw [i2 (fun y => q (List.mem_cons_of_mem _ y)), rd_set_ne ha.1 v0 (fun y => q (by rw [y]; exact List.mem_cons_self))]
section
variable {n : Int} {E : Int → Int → Prop} (hE : ∀ a b : Int, E a b → (0 ≤ a ∧ a < n) ∧ (0 ≤ b ∧ b < n))
include hE
theorem eloop_ok {c : Int} (c0 : 0 ≤ c) (c1 : c < n) {s : impl_Components.TS} (hs : TInv n E s) (hw : rd s.ix c = 0) (pre : ∀ w ∈ s.sk, Way E [w] c) (k : Nat) (V : Int → impl_Components.TS → Option impl_Components.TS)
  (hV : ∀ (t : Int) (r : impl_Components.TS), 0 ≤ t → t < n → TInv n E r → rd r.ix t = 0 → (∀ w ∈ r.sk, Way E [w] t) → n + 1 - r.nx < k → ∃ r2 T2, V t r = some r2 ∧ TPost n E t r r2 T2) (hk : n + 1 - s.nx < k + 1) (L : List Int) :
  ∀ (r : impl_Components.TS) (T D : List Int), (∀ t ∈ L, E c t) → TLoop n E c s r T D → ∃ r' T', impl_Components.eloop V c L r = some r' ∧ TLoop n E c s r' T' (L.reverse ++ D) := by
 induction L with
 | nil => intro r T D _ h; exact ⟨r, T, rfl, h⟩
 | cons t L ih =>
  intro r T D hL h; have e := hL t List.mem_cons_self; have tr := (hE c t e).2; have hL2 : ∀ t ∈ L, E c t := fun x hx => hL x (List.mem_cons_of_mem _ hx)
  have nxm := h.st.nxm; rw [impl_Components.eloop, List.reverse_cons, List.append_assoc, mi_eq]
  by_cases q : rd r.ix t = 0
  ·rw [if_pos q]; have pr : ∀ w ∈ r.sk, Way E [w] t := by
    intro w hw2; rw [h.st.sk] at hw2
    rcases List.mem_append.1 hw2 with z | z
    ·exact (pre w z).on e
    ·rcases List.mem_cons.1 z with y | y
     ·rw [y]; exact Way.one e
     ·exact (h.con w y).2.on e
   obtain ⟨r2, T2, e2, p⟩ := hV t r tr.1 tr.2 h.st.inv q pr (by omega); rw [e2, Option.bind_some]; exact ih _ _ _ hL2 (TLoop.call hE c0 c1 hs hw pre h e q p)
  ·rw [if_neg q]
   by_cases q2 : rd r.ou t < 0
   ·rw [if_pos q2]; have m : t ∈ r.sk := (h.st.inv.all t tr.1 tr.2 q).elim id (fun z => by omega); exact ih _ _ _ hL2 (TLoop.put hE c0 c1 hs hw pre h rfl m (Way.one e))
   ·rw [if_neg q2]; refine ih r T (t :: D) hL2 ⟨h.st, h.ixc, h.low, h.con, h.edg, fun x hx => ?_⟩
    rcases List.mem_cons.1 hx with y | y
    ·rw [y]; exact ⟨tr, .inl (by omega)⟩
    ·exact h.dne x y
theorem fin_ok (n2 : n ≤ 100000) {c : Int} (c0 : 0 ≤ c) (c1 : c < n) {s : impl_Components.TS} (hs : TInv n E s) (hw : rd s.ix c = 0) (pre : ∀ w ∈ s.sk, Way E [w] c) {r : impl_Components.TS} {T D : List Int} (h : TLoop n E c s r T D) (hD : ∀ x, E c x → x ∈ D) (hl : rd r.lo c = rd r.ix c) :
  ∃ r', impl_Components.fin c r = some r' ∧ TPost n E c s r' [] := by
 have i := h.st.inv; have cns : c ∉ s.sk := fun q => (hs.stk c q).2.1 hw
 have ix : impl_Components.ixof c r.sk = s.sk.length := by rw [h.st.sk]; exact ixof_app c s.sk T cns
 have dr : r.sk.drop s.sk.length = c :: T := by rw [h.st.sk, List.drop_append_of_le_length (Nat.le_refl _), List.drop_length, List.nil_append]
 have tk : r.sk.take s.sk.length = s.sk := by rw [h.st.sk, List.take_append_of_le_length (Nat.le_refl _), List.take_length]
 have ln : s.sk.length < r.sk.length := by rw [h.st.sk, List.length_append, List.length_cons]; omega
 have inr : ∀ x, x ∈ c :: T → x ∈ r.sk := fun x hx => by rw [h.st.sk]; exact List.mem_append_right _ hx
 have l3 := i.l3; have nxm := h.st.nxm; obtain ⟨mm, ml⟩ := mn_ok c T; have fr := fun v (v0 : 0 ≤ v) => fill_rd (impl_Components.mn (c :: T)) (c :: T) r.ou (fun x hx => by have := (i.stk x (inr x hx)).1; omega) v v0
 have fl := fill_len (impl_Components.mn (c :: T)) (c :: T) r.ou; have tgt : ∀ w, w ∈ c :: T → ∀ x, E w x → 0 ≤ rd r.ou x ∨ x ∈ c :: T := by
  intro w hw2 x ex; have key : 0 ≤ rd r.ou x ∨ x ∈ c :: T ∨ (x ∈ s.sk ∧ rd r.lo c ≤ rd s.ix x) := by
   rcases List.mem_cons.1 hw2 with q | q
   ·rw [q] at ex; exact (h.dne x (hD x ex)).2
   ·exact h.edg w q x ex
  rcases key with q | q | ⟨q, z⟩
  ·exact .inl q
  ·exact .inr q
  ·have k := hs.stk x q; have := hs.num x k.1.1 k.1.2; have := h.ixc
   omega
 have con : ∀ w, w ∈ c :: T → Way E [c] w ∧ Way E [w] c := by
  intro w hw2
  rcases List.mem_cons.1 hw2 with q | q
  ·rw [q]; exact ⟨Way.refl E c, Way.refl E c⟩
  ·exact h.con w q
 have keep : ∀ v : Int, 0 ≤ v → v < n → 0 ≤ rd r.ou v → 0 ≤ rd (impl_Components.fill (impl_Components.mn (c :: T)) (c :: T) r.ou) v := by
  intro v v0 v1 q; have nv : v ∉ c :: T := fun z => by have := (i.stk v (inr v z)).2.2; omega
  rw [(fr v v0).2 nv]; exact q
 have m0 : 0 ≤ impl_Components.mn (c :: T) ∧ impl_Components.mn (c :: T) < n := (i.stk _ (inr _ mm)).1; have good : ∀ v, v ∈ c :: T → Good n E v (impl_Components.mn (c :: T)) := by
  intro v hv; have cv := con v hv; have cm := con _ mm; refine ⟨m0, cm.2.trans cv.1, cv.2.trans cm.1, fun u u0 u1 uv vu => ?_⟩
  have w1 := vu (fun x => (0 ≤ x ∧ x < n) ∧ (0 ≤ rd r.ou x ∨ x ∈ c :: T)) (fun y hy => by
   rw [List.mem_singleton] at hy; rw [hy]; exact ⟨(i.stk v (inr v hv)).1, .inr hv⟩) (fun a b ha eab => ⟨(hE a b eab).2, ha.2.elim (fun q => .inl (i.cls a b eab ha.1.1 ha.1.2 q)) (fun q => tgt a q b eab)⟩)
  rcases w1.2 with q | q
  ·have w2 := uv (fun x => (0 ≤ x ∧ x < n) ∧ 0 ≤ rd r.ou x) (fun y hy => by
    rw [List.mem_singleton] at hy; rw [hy]; exact ⟨⟨u0, u1⟩, q⟩) (fun a b ha eab => ⟨(hE a b eab).2, i.cls a b eab ha.1.1 ha.1.2 ha.2⟩)
   have := (i.stk v (inr v hv)).2.2
   omega
  ·exact ml u q
 refine ⟨{ r with ou := impl_Components.fill (impl_Components.mn (c :: T)) (c :: T) r.ou, sk := s.sk }, by rw [impl_Components.fin, ix, if_pos ⟨ln, by have := i.nx1.2; have := i.cnt; have := (seen_le r.ix n.toNat).2; omega, fun v hv => by have := (i.stk v hv).1; omega⟩, dr, tk], ⟨⟨⟨i.l1, i.l2, by simp only [fl]; exact l3, ⟨i.nx1.1, by have := hs.nx1.2; simp only; omega⟩, i.cnt, i.num, fun v hv => ?_, hs.nd, fun v v0 v1 => ?_, fun v v0 v1 q => ?_, fun a b eab a0 a1 q => ?_⟩, by simp, h.st.old, h.st.new, nxm, fun v v0 v1 q => keep v v0 v1 (h.st.keep v v0 v1 q), fun w hw2 => absurd hw2 (by simp)⟩, by have := h.ixc; have := hs.nx1.1; show rd r.ix c ≠ 0; omega, .inl ⟨rfl, by have := h.ixc; show _ ≤ rd r.lo c; omega⟩, fun w hw2 => absurd hw2 (by simp)⟩⟩
 ·have vr : v ∈ r.sk := by rw [h.st.sk]; exact List.mem_append_left _ hv
  have k := i.stk v vr; have nv : v ∉ c :: T := fun z => by
   have nd := i.nd; rw [h.st.sk] at nd; exact (List.nodup_append.1 nd).2.2 v hv v z rfl
  exact ⟨k.1, k.2.1, by simp only; rw [(fr v k.1.1).2 nv]; exact k.2.2⟩
 ·simp only
  by_cases q : v ∈ c :: T
  ·rw [(fr v v0).1 q]; exact .inr ⟨m0.1, (i.stk v (inr v q)).2.1, good v q⟩
  ·rw [(fr v v0).2 q]; exact i.out v v0 v1
 ·simp only
  rcases i.all v v0 v1 q with z | z
  ·rw [h.st.sk] at z
   rcases List.mem_append.1 z with y | y
   ·exact .inl y
   ·right; rw [(fr v v0).1 y]; exact m0.1
  ·exact .inr (keep v v0 v1 z)
 ·simp only at q ⊢; have br := (hE a b eab).2
  by_cases z : a ∈ c :: T
  ·rcases tgt a z b eab with y | y
   ·exact keep b br.1 br.2 y
   ·rw [(fr b br.1).1 y]; exact m0.1
  ·rw [(fr a a0).2 z] at q; exact keep b br.1 br.2 (i.cls a b eab a0 a1 q)
theorem visit_ok (n2 : n ≤ 100000) {st tos : List Int} (hrow : ∀ c x : Int, 0 ≤ c → c < n → (x ∈ impl_Components.row st tos c ↔ E c x)) (k : Nat) : ∀ (c : Int) (s : impl_Components.TS), 0 ≤ c → c < n → TInv n E s → rd s.ix c = 0 → (∀ w ∈ s.sk, Way E [w] c) → n + 1 - s.nx < k →
  ∃ r T, impl_Components.visit st tos k c s = some r ∧ TPost n E c s r T := by
 induction k with
 | zero =>
  intro c s c0 c1 hs hw _ hk; have l1 := hs.l1; have := hs.cnt; have := seen_le s.ix n.toNat
  omega
 | succ k ih =>
  intro c s c0 c1 hs hw pre hk; have l1 := hs.l1; have l2 := hs.l2; have nx1 := hs.nx1.1; have sl := seen_le (s.ix.set c.toNat s.nx) n.toNat; have sc := seen_set s.ix c s.nx c0 (by omega) hw (by omega) n.toNat; rw [if_pos (by omega)] at sc; have cn := hs.cnt; have skl : s.sk.length < 1000000 := by
   have := hs.nx1.2; have := (seen_le s.ix n.toNat).2
   omega
  have cns : c ∉ s.sk := fun q => (hs.stk c q).2.1 hw
  have ixc : rd (s.ix.set c.toNat s.nx) c = s.nx := rd_set_eq c0 (by omega); have ixn : ∀ v : Int, 0 ≤ v → v ≠ c → rd (s.ix.set c.toNat s.nx) v = rd s.ix v := fun v v0 q => rd_set_ne c0 v0 (fun z => q z.symm)
  have loc : rd (s.lo.set c.toNat s.nx) c = s.nx := rd_set_eq c0 (by omega); have lon : ∀ v : Int, 0 ≤ v → v ≠ c → rd (s.lo.set c.toNat s.nx) v = rd s.lo v := fun v v0 q => rd_set_ne c0 v0 (fun z => q z.symm)
  have ouc : rd s.ou c = -1 := (hs.out c c0 c1).elim id (fun q => absurd hw q.2.1); have l0 : TLoop n E c s ⟨s.ix.set c.toNat s.nx, s.lo.set c.toNat s.nx, s.ou, s.sk ++ [c], s.nx + 1⟩ [] [] := by
   refine ⟨⟨⟨by simp only [List.length_set]; exact l1, by simp only [List.length_set]; exact l2, hs.l3, by have := hs.nx1.2; simp only [List.length_append, List.length_singleton]; omega, by simp only; omega, fun v v0 v1 => ?_, fun v hv => ?_, ?_, fun v v0 v1 => ?_, fun v v0 v1 q => ?_, hs.cls⟩, rfl, fun v v0 v1 q => ?_, fun v v0 v1 q => ?_, by simp only; omega, fun _ _ _ q => q, fun w hw2 => ?_⟩, ixc, .inl loc, fun w hw2 => absurd hw2 (by simp), fun w hw2 => absurd hw2 (by simp), fun w hw2 => absurd hw2 (by simp)⟩
   ·simp only
    by_cases q : v = c
    ·rw [q, ixc]; exact .inr ⟨nx1, by omega⟩
    ·rw [ixn v v0 q]; exact (hs.num v v0 v1).imp id (fun z => ⟨z.1, by omega⟩)
   ·simp only at hv ⊢
    rcases List.mem_append.1 hv with q | q
    ·have k := hs.stk v q; rw [ixn v k.1.1 (fun z => cns (by rw [← z]; exact q))]; exact k
    ·rw [List.mem_singleton] at q; rw [q, ixc]; exact ⟨⟨c0, c1⟩, by omega, ouc⟩
   ·simp only; refine List.nodup_append.2 ⟨hs.nd, by simp, fun a ha b hb e => ?_⟩; rw [List.mem_singleton] at hb; exact cns (by rw [← hb, ← e]; exact ha)
   ·simp only; refine (hs.out v v0 v1).imp id (fun z => ⟨z.1, ?_, z.2.2⟩); rw [ixn v v0 (fun y => by rw [y, ouc] at z; omega)]; exact z.2.1
   ·simp only at q ⊢
    by_cases z : v = c
    ·exact .inl (List.mem_append_right _ (by rw [z]; simp))
    ·rw [ixn v v0 z] at q; exact (hs.all v v0 v1 q).imp (fun y => List.mem_append_left _ y) id
   ·have z : v ≠ c := fun y => q (by rw [y]; exact hw)
    simp only; exact ⟨ixn v v0 z, lon v v0 z⟩
   ·simp only
    by_cases z : v = c
    ·rw [z, ixc]; exact .inr (Int.le_refl _)
    ·rw [ixn v v0 z]; exact .inl q
   ·rw [List.mem_singleton] at hw2; rw [hw2]; exact hw
  obtain ⟨r, T, e, l⟩ := eloop_ok hE c0 c1 hs hw pre k (impl_Components.visit st tos k) ih (by omega) (impl_Components.row st tos c) _ _ _ (fun t ht => (hrow c t c0 c1).1 ht) l0; have hD : ∀ x, E c x → x ∈ (impl_Components.row st tos c).reverse ++ [] := fun x ex => by rw [List.append_nil, List.mem_reverse]; exact (hrow c x c0 c1).2 ex
  rw [impl_Components.visit, if_pos skl, wrap64_id (by omega) (by omega), e, Option.bind_some]
  by_cases q : rd r.lo c = rd r.ix c
  ·rw [if_pos q]; obtain ⟨r', e', p⟩ := fin_ok hE n2 c0 c1 hs hw pre l hD q; exact ⟨r', [], e', p⟩
  ·rw [if_neg q]; refine ⟨r, c :: T, rfl, l.st, by rw [l.ixc]; omega, .inr ⟨?_, fun w hw2 => ?_⟩, fun w hw2 x ex => ?_⟩
   ·rcases l.low with z | z
    ·rw [l.ixc] at q; exact absurd z q
    ·exact z
   ·rcases List.mem_cons.1 hw2 with z | z
    ·rw [z]; exact ⟨Way.refl E c, Way.refl E c⟩
    ·exact l.con w z
   ·rcases List.mem_cons.1 hw2 with z | z
    ·rw [z] at ex; exact (l.dne x (hD x ex)).2
    ·exact l.edg w z x ex
theorem tops_ok (n2 : n ≤ 100000) {st tos : List Int} (hrow : ∀ c x : Int, 0 ≤ c → c < n → (x ∈ impl_Components.row st tos c ↔ E c x)) (m : Nat) : ∀ (k : Nat) (c : Int) (s : impl_Components.TS), m < k → 0 ≤ c → c + m = n → TInv n E s → s.sk = [] → (∀ v : Int, 0 ≤ v → v < c → rd s.ix v ≠ 0) →
  ∃ r, impl_Components.tops st tos n k c s = some r ∧ (r.ou.length : Int) = n ∧ ∀ v : Int, 0 ≤ v → v < n → Good n E v (rd r.ou v) := by
 induction m with
 | zero =>
  intro k c s mk c0 cm hs sk vis; cases k with
  | zero => omega
  | succ k =>
   refine ⟨s, by rw [impl_Components.tops, if_neg (by omega)], hs.l3, fun v v0 v1 => ?_⟩
   rcases hs.all v v0 v1 (vis v v0 (by omega)) with q | q
   ·rw [sk] at q; exact absurd q (by simp)
   ·rcases hs.out v v0 v1 with z | z
    ·omega
    ·exact z.2.2
 | succ m ih =>
  intro k c s mk c0 cm hs sk vis; cases k with
  | zero => omega
  | succ k =>
   rw [impl_Components.tops, if_pos (by omega)]
   by_cases q : rd s.ix c = 0
   ·rw [if_pos q]; have nx1 := hs.nx1.1; obtain ⟨r, T, e, p⟩ := visit_ok hE n2 hrow (n.toNat + 1) c s c0 (by omega) hs q (fun w hw => by rw [sk] at hw; exact absurd hw (by simp)) (by omega); rw [e, Option.bind_some]; have t0 : T = [] := by
     rcases p.low with z | ⟨⟨y, hy, _⟩, _⟩
     ·exact z.1
     ·rw [sk] at hy; exact absurd hy (by simp)
    refine ih k (c + 1) r (by omega) (by omega) (by omega) p.st.inv (by rw [p.st.sk, sk, t0]; rfl) (fun v v0 v1 => ?_)
    by_cases z : v = c
    ·rw [z]; exact p.vis
    ·have o := vis v v0 (by omega); rw [(p.st.old v v0 (by omega) o).1]; exact o
   ·rw [if_neg q]; refine ih k (c + 1) s (by omega) (by omega) (by omega) hs sk (fun v v0 v1 => ?_)
    by_cases z : v = c
    ·rw [z]; exact q
    ·exact vis v v0 (by omega)
end

section Buckets
variable {α : Type}
def bk (key : α → Int) (es : List α) (c : Int) : List α := es.filter fun e => decide (key e = c)
def rowsOf (key : α → Int) (n : Nat) (es : List α) : List (List α) := (List.range n).map fun (c : Nat) => bk key es (c : Int)
theorem rowsOf_length (key : α → Int) (n : Nat) (es : List α) : (rowsOf key n es).length = n := by simp [rowsOf]
theorem rowsOf_get (key : α → Int) (n : Nat) (es : List α) {c : Nat} (h : c < n) : (rowsOf key n es)[c]'(by rw [rowsOf_length]; exact h) = bk key es (c : Int) := by simp [rowsOf]
theorem rowsOf_getD (key : α → Int) (n : Nat) (es : List α) {c : Int} (h0 : 0 ≤ c) (h : c < n) : (rowsOf key n es).getD c.toNat [] = bk key es c := by
 rw [List.getD_eq_getElem?_getD, List.getElem?_eq_getElem (by rw [rowsOf_length]; omega)]; simp only [Option.getD_some]; rw [rowsOf_get key n es (by omega), Int.toNat_of_nonneg h0]
theorem bk_snoc (key : α → Int) (es : List α) (e : α) (c : Int) : bk key (es ++ [e]) c = if key e = c then bk key es c ++ [e] else bk key es c := by
 unfold bk; rw [List.filter_append]
 by_cases h : key e = c
 ·rw [if_pos h, List.filter_cons_of_pos (by simpa using h)]; rfl
 ·rw [if_neg h, List.filter_cons_of_neg (by simpa using h)]; simp
theorem bk_length_le (key : α → Int) (es : List α) (c : Int) : (bk key es c).length ≤ es.length := List.length_filter_le _ _
theorem rowsOf_set (key : α → Int) (n : Nat) (es : List α) (e : α) (h0 : 0 ≤ key e) (h1 : key e < n) : (rowsOf key n es).set (key e).toNat (bk key es (key e) ++ [e]) = rowsOf key n (es ++ [e]) := by
 apply List.ext_getElem
 ·rw [List.length_set, rowsOf_length, rowsOf_length]
 ·intro i a b; rw [rowsOf_length] at b; rw [rowsOf_get key n _ b, bk_snoc]
  by_cases q : (key e).toNat = i
  ·subst q; rw [List.getElem_set_self, if_pos (by omega), Int.toNat_of_nonneg h0]
  ·rw [List.getElem_set_ne q, rowsOf_get key n _ b, if_neg (by omega)]
theorem rowsOf_nil (key : α → Int) (n : Nat) : rowsOf key n [] = List.replicate n [] := by
 apply List.ext_getElem
 ·rw [rowsOf_length, List.length_replicate]
 ·intro i a b; rw [rowsOf_length] at a; rw [rowsOf_get key n _ a]; simp [bk]
def flatTo (f : Nat → List α) : Nat → List α
 | 0 => []
 | n + 1 => flatTo f n ++ f n
theorem mem_flatTo {f : Nat → List α} {n : Nat} {e : α} : e ∈ flatTo f n ↔ ∃ c, c < n ∧ e ∈ f c := by
 induction n with
 | zero => simp [flatTo]
 | succ n ih =>
  simp only [flatTo, List.mem_append, ih]
  constructor
  ·rintro (⟨c, hc, h⟩ | h)
   ·exact ⟨c, by omega, h⟩
   ·exact ⟨n, by omega, h⟩
  ·rintro ⟨c, hc, h⟩
   by_cases q : c = n
   ·subst q; exact .inr h
   ·exact .inl ⟨c, by omega, h⟩
theorem flatTo_congr {f g : Nat → List α} {n : Nat} (h : ∀ c, c < n → f c = g c) : flatTo f n = flatTo g n := by
 induction n with
 | zero => rfl
 | succ n ih => rw [flatTo, flatTo, ih (fun c hc => h c (by omega)), h n (by omega)]
theorem bk_total (key : α → Int) (n : Nat) : ∀ es : List α, (flatTo (fun c => bk key es (c : Int)) n).length ≤ es.length := by
 intro es
 induction n generalizing es with
 | zero => simp [flatTo]
 | succ n ih =>
  rw [flatTo, List.length_append]; have e : ∀ c : Nat, c < n → bk key es (c : Int) = bk key (es.filter fun e => !decide (key e = (n : Int))) (c : Int) := by
   intro c hc; unfold bk; rw [List.filter_filter]; apply List.filter_congr; intro x _
   by_cases q : key x = (c : Int)
   ·simp [q]; omega
   ·simp [q]
  rw [flatTo_congr e]; have a := ih (es.filter fun e => !decide (key e = (n : Int))); have b : (bk key es (n : Int)).length + (es.filter fun e => !decide (key e = (n : Int))).length = es.length := by
   unfold bk; clear a e ih
   induction es with
   | nil => rfl
   | cons x xs ih =>
    by_cases q : key x = (n : Int)
    ·rw [List.filter_cons_of_pos (by simpa using q), List.filter_cons_of_neg (by simpa using q), List.length_cons, List.length_cons]; omega
    ·rw [List.filter_cons_of_neg (by simpa using q), List.filter_cons_of_pos (by simpa using q), List.length_cons, List.length_cons]; omega
  omega
def startsTo (f : Nat → List α) : Nat → List Int
 | 0 => []
 | n + 1 => startsTo f n ++ [((flatTo f n).length : Int)]
theorem startsTo_length (f : Nat → List α) (n : Nat) : (startsTo f n).length = n := by
 induction n with
 | zero => rfl
 | succ n ih => rw [startsTo, List.length_append, ih]; rfl
theorem startsTo_congr {f g : Nat → List α} {n : Nat} (h : ∀ c, c < n → f c = g c) : startsTo f n = startsTo g n := by
 induction n with
 | zero => rfl
 | succ n ih => rw [startsTo, startsTo, ih (fun c hc => h c (by omega)), flatTo_congr (fun c hc => h c (by omega))]
end Buckets

def eT (e : S51) : Int := e.f1
def eD (e : S51) : Int := e.f2
def eC (e : S51) : Int := e.f3
def eF (e : S51) : Int := e.f0
def gres (n : Nat) (f : Nat → List S51) : Int × List Int × List Int × List Int × List Int :=
 ((n : Int), startsTo f n ++ [((flatTo f n).length : Int)], (flatTo f n).map eT, (flatTo f n).map eD, (flatTo f n).map eC)
theorem gres_congr {f g : Nat → List S51} {n : Nat} (h : ∀ c, c < n → f c = g c) : gres n f = gres n g := by
 unfold gres; rw [startsTo_congr h, flatTo_congr h]

theorem bk_map {α β : Type} (key : β → Int) (h : α → β) (l : List α) (c : Int) : bk key (l.map h) c = (bk (fun x => key (h x)) l c).map h := by
 unfold bk; rw [List.filter_map]; rfl
theorem flatTo_map {α β : Type} (h : α → β) (f : Nat → List α) (n : Nat) : flatTo (fun c => (f c).map h) n = (flatTo f n).map h := by
 induction n with
 | zero => rfl
 | succ n ih => rw [flatTo, flatTo, ih, List.map_append]
noncomputable def revE (n : Int) (st tos dr co : List Int) (e : Int) : S51 := ⟨rd tos e, owner n st e, rd dr e, rd co e⟩
noncomputable def inRow (n : Int) (st tos dr co : List Int) (c : Nat) : List S51 := (bk (fun e => rd tos e) (upI (rd st n).toNat) (c : Int)).map (revE n st tos dr co)

theorem flat_mono {α : Type} (f : Nat → List α) (a d : Nat) : (flatTo f a).length ≤ (flatTo f (a + d)).length := by
 induction d with
 | zero => exact Nat.le_refl _
 | succ d ih => rw [← Nat.add_assoc, flatTo, List.length_append]; omega
theorem flat_get {α : Type} (f : Nat → List α) (b j : Nat) (hj : j < (f b).length) (d : Nat) : (flatTo f (b + 1 + d))[(flatTo f b).length + j]? = (f b)[j]? := by
 induction d with
 | zero => rw [Nat.add_zero, flatTo, List.getElem?_append_right (by omega), Nat.add_sub_cancel_left]
 | succ d ih =>
  have m := flat_mono f (b + 1) d; rw [flatTo, List.length_append] at m; rw [← Nat.add_assoc, flatTo, List.getElem?_append_left (by omega)]; exact ih
theorem starts_get {α : Type} (f : Nat → List α) (b d : Nat) : (startsTo f (b + 1 + d))[b]? = some ((flatTo f b).length : Int) := by
 induction d with
 | zero => rw [Nat.add_zero, startsTo, List.getElem?_append_right (by rw [startsTo_length]; exact Nat.le_refl _), startsTo_length, Nat.sub_self]; rfl
 | succ d ih => rw [← Nat.add_assoc, startsTo, List.getElem?_append_left (by rw [startsTo_length]; omega)]; exact ih
theorem starts_rd {α : Type} (f : Nat → List α) (n b : Nat) (hb : b ≤ n) : rd (startsTo f n ++ [((flatTo f n).length : Int)]) (b : Int) = (flatTo f b).length := by
 unfold rd; rw [Int.toNat_natCast, List.getD_eq_getElem?_getD]
 by_cases e : b = n
 ·subst e; rw [List.getElem?_append_right (by rw [startsTo_length]; exact Nat.le_refl _), startsTo_length, Nat.sub_self]; rfl
 ·rw [List.getElem?_append_left (by rw [startsTo_length]; omega)]; have q := starts_get f b (n - b - 1); rw [show b + 1 + (n - b - 1) = n by omega] at q; rw [q]; rfl
theorem rd_map {α : Type} (h : α → Int) (l : List α) (i : Nat) {x : α} (e : l[i]? = some x) : rd (l.map h) (i : Int) = h x := by
 unfold rd; rw [Int.toNat_natCast, List.getD_eq_getElem?_getD, List.getElem?_map, e]; rfl

section
variable {n : Int} {st tos dr co : List Int} (v : ValidG n st tos dr co)
include v
theorem owner_at {e : Int} (e0 : 0 ≤ e) (e1 : e < rd st n) : 0 ≤ owner n st e ∧ owner n st e < n ∧ rd st (owner n st e) ≤ e ∧ e < rd st (owner n st e + 1) := by
 have n1 := v.n1; obtain ⟨c, a, b, x, y⟩ := owner_ex v e0 n.toNat (by omega) (by rw [Int.toNat_of_nonneg (by omega)]; exact e1); rw [owner_eq v a b x y]; exact ⟨a, b, x, y⟩
theorem in_len : (flatTo (inRow n st tos dr co) n.toNat).length ≤ 6400 := by
 have most := v.most; have n1 := v.n1; have nn := st_nn v (a := n) (by omega) (Int.le_refl _); have fm : flatTo (inRow n st tos dr co) n.toNat = (flatTo (fun c => bk (fun e => rd tos e) (upI (rd st n).toNat) (c : Int)) n.toNat).map (revE n st tos dr co) := flatTo_map _ _ _; have t := bk_total (fun e => rd tos e) n.toNat (upI (rd st n).toNat); rw [upI_length] at t; rw [fm, List.length_map]; omega
theorem in_rd (b : Int) (b0 : 0 ≤ b) (b1 : b ≤ n) : rd (gres n.toNat (inRow n st tos dr co)).2.1 b = (flatTo (inRow n st tos dr co) b.toNat).length := by
 have q := starts_rd (inRow n st tos dr co) n.toNat b.toNat (by omega); rw [Int.toNat_of_nonneg b0] at q; exact q
theorem in_step (b : Int) (b0 : 0 ≤ b) (b1 : b < n) : (flatTo (inRow n st tos dr co) (b + 1).toNat).length = (flatTo (inRow n st tos dr co) b.toNat).length + (inRow n st tos dr co b.toNat).length := by
 rw [show (b + 1).toNat = b.toNat + 1 by omega, flatTo, List.length_append]
theorem in_at (b : Int) (b0 : 0 ≤ b) (b1 : b < n) (j : Nat) (hj : j < (inRow n st tos dr co b.toNat).length) : (flatTo (inRow n st tos dr co) n.toNat)[(flatTo (inRow n st tos dr co) b.toNat).length + j]? = some (inRow n st tos dr co b.toNat)[j] := by
 have q := flat_get (inRow n st tos dr co) b.toNat j hj (n.toNat - b.toNat - 1); rw [show b.toNat + 1 + (n.toNat - b.toNat - 1) = n.toNat by omega] at q; rw [q, List.getElem?_eq_getElem hj]
theorem in_mem (b : Int) (b0 : 0 ≤ b) (x : S51) (hx : x ∈ inRow n st tos dr co b.toNat) : ∃ e : Int, (0 ≤ e ∧ e < rd st n) ∧ rd tos e = b ∧ x = revE n st tos dr co e := by
 unfold inRow at hx; obtain ⟨e, he, rfl⟩ := List.mem_map.1 hx; obtain ⟨hu, hk⟩ := List.mem_filter.1 he; have u := upI_mem hu; rw [Int.toNat_of_nonneg b0] at hk; exact ⟨e, ⟨u.1, by omega⟩, of_decide_eq_true hk, rfl⟩
theorem in_has (x : Int) (x0 : 0 ≤ x) (x1 : x < rd st n) (b : Int) (b0 : 0 ≤ b) (xb : rd tos x = b) : revE n st tos dr co x ∈ inRow n st tos dr co b.toNat := by
 unfold inRow; refine List.mem_map.2 ⟨x, List.mem_filter.2 ⟨?_, ?_⟩, rfl⟩
 ·simp only [upI, List.mem_map, List.mem_range]; exact ⟨x.toNat, by omega, by omega⟩
 ·rw [Int.toNat_of_nonneg b0]; exact decide_eq_true xb
theorem vback : ValidG n (gres n.toNat (inRow n st tos dr co)).2.1 (gres n.toNat (inRow n st tos dr co)).2.2.1 (gres n.toNat (inRow n st tos dr co)).2.2.2.1 (gres n.toNat (inRow n st tos dr co)).2.2.2.2 := by
 have n1 := v.n1; have n2 := v.n2; have sl := startsTo_length (inRow n st tos dr co) n.toNat; have il := in_len (dr := dr) v; have rn := in_rd (dr := dr) v n (by omega) (Int.le_refl _); refine ⟨n1, n2, by simp only [gres, List.length_append, List.length_singleton]; omega, ?_, fun c c0 c1 => ?_, by omega, by rw [rn]; simp only [gres, List.length_map], by rw [rn]; simp only [gres, List.length_map], by rw [rn]; simp only [gres, List.length_map], fun e e0 e1 => ?_⟩
 ·rw [in_rd v 0 (Int.le_refl _) (by omega)]; rfl
 ·rw [in_rd v c c0 (by omega), in_rd v (c + 1) (by omega) (by omega), in_step v c c0 c1]; omega
 ·rw [rn] at e1; have el : e.toNat < (flatTo (inRow n st tos dr co) n.toNat).length := by omega
  have q := List.getElem?_eq_getElem el; obtain ⟨c, hc, hm⟩ := mem_flatTo.1 (List.getElem_mem el); obtain ⟨x, xr, xt, ex⟩ := in_mem v (c : Int) (by omega) _ hm; rw [ex] at q; have r1 := rd_map eT _ _ q; have r2 := rd_map eC _ _ q; have r3 := rd_map eD _ _ q; rw [Int.toNat_of_nonneg e0] at r1 r2 r3; have ow := owner_at v xr.1 xr.2; have ed := v.edge x xr.1 xr.2; simp only [gres]; rw [r1, r2, r3]; exact ⟨⟨ow.1, ow.2.1⟩, ed.2.1, ed.2.2⟩
theorem edge_back (a b : Int) : Edge n (gres n.toNat (inRow n st tos dr co)).2.1 (gres n.toNat (inRow n st tos dr co)).2.2.1 a b ↔ Edge n st tos b a := by
 have n1 := v.n1
 constructor
 ·rintro ⟨a0, a1, e, e0, e1, eb⟩; rw [in_rd v a a0 (by omega)] at e0; rw [in_rd v (a + 1) (by omega) (by omega), in_step v a a0 a1] at e1; obtain ⟨j, hj⟩ : ∃ j : Nat, e = (((flatTo (inRow n st tos dr co) a.toNat).length + j : Nat) : Int) := ⟨(e - (flatTo (inRow n st tos dr co) a.toNat).length).toNat, by omega⟩; have jl : j < (inRow n st tos dr co a.toNat).length := by omega
  have q := in_at v a a0 a1 j jl; obtain ⟨x, xr, xt, ex⟩ := in_mem v a a0 _ (List.getElem_mem jl); rw [ex] at q; have r1 := rd_map eT _ _ q; rw [← hj] at r1; have ow := owner_at v xr.1 xr.2; have hb : owner n st x = b := by rw [← eb]; exact r1.symm
  rw [hb] at ow; exact ⟨ow.1, ow.2.1, x, ow.2.2.1, ow.2.2.2, xt⟩
 ·rintro ⟨b0, b1, x, x0, x1, xa⟩; have p := st_nn v (a := b) b0 (by omega); have p2 := st_le v (a := b + 1) (b := n) (by omega) (by omega) (Int.le_refl _); have ed := (v.edge x (by omega) (by omega)).1; rw [xa] at ed; have hm := in_has (dr := dr) (co := co) v x (by omega) (by omega) a ed.1 xa; obtain ⟨j, jl, ej⟩ := List.getElem_of_mem hm; have q := in_at v a ed.1 ed.2 j jl; rw [ej] at q; have r1 := rd_map eT _ _ q; refine ⟨ed.1, ed.2, (((flatTo (inRow n st tos dr co) a.toNat).length + j : Nat) : Int), ?_, ?_, ?_⟩
  ·rw [in_rd v a ed.1 (by omega)]; omega
  ·rw [in_rd v (a + 1) (by omega) (by omega), in_step v a ed.1 ed.2]; omega
  ·simp only [gres]; rw [r1]; exact owner_eq v b0 b1 x0 x1
end

theorem l5row (n : Nat) (rows : List (List S51)) (c : Nat) (hc : c < rows.length) (L : List S51) (hL : rd_L2 rows (c : Int) = L) (st : List Int) (p : List S51) (R : Int × List Int × List Int × List Int × List Int)
  (hb : p.length + L.length ≤ 1000000) (H : Ev (fun k => spec_l5graph.l1 k n rows ((c : Int) + 1) n st ((p ++ L).map eT) ((p ++ L).map eD) ((p ++ L).map eC)) R) (hcn : c < 1000000) (m : Nat) : ∀ j : Nat, j + m = L.length →
  Ev (fun k => spec_l5graph.l2 k n rows c j n st ((p ++ L.take j).map eT) ((p ++ L.take j).map eD) ((p ++ L.take j).map eC)) R := by
 induction m with
 | zero =>
  intro j hj; refine Ev.step (fun _ => rfl) ?_; simp only [spec_l5graph.l2]; refine ev_pos (by omega) (ev_pos (by omega) ?_); rw [hL]; refine ev_neg (by omega) ?_; rw [wrap64_id (by omega) (by omega), List.take_of_length_le (by omega)]; exact H
 | succ m ih =>
  intro j hj; have hjl : j < L.length := by omega
  have hlen : (p ++ L.take j).length ≤ 1000000 := by rw [List.length_append, List.length_take]; omega
  refine Ev.step (fun _ => rfl) ?_; simp only [spec_l5graph.l2]; refine ev_pos (by omega) (ev_pos (by omega) ?_); rw [hL]; refine ev_pos (by omega) (ev_pos (by omega) (ev_pos (by rw [List.length_map]; omega) (ev_pos (by rw [List.length_map]; omega) (ev_pos (by rw [List.length_map]; omega) ?_)))); have K := ih (j + 1) (by omega); rw [take_snoc' L j hjl, ← List.append_assoc, map_snoc, map_snoc, map_snoc] at K; rw [rdE_lt hjl, wrap64_id (by omega) (by omega)]; exact K
theorem l5rows (n : Nat) (hn : n ≤ 100000) (es : List S51) (he : es.length ≤ 500000) (m : Nat) : ∀ c : Nat, c + m = n →
  Ev (fun k => spec_l5graph.l1 k n (rowsOf eF n es) c n (startsTo (fun c => bk eF es (c : Int)) c) ((flatTo (fun c => bk eF es (c : Int)) c).map eT) ((flatTo (fun c => bk eF es (c : Int)) c).map eD) ((flatTo (fun c => bk eF es (c : Int)) c).map eC)) (gres n (fun c => bk eF es (c : Int))) := by
 induction m with
 | zero =>
  intro c hc; obtain rfl : c = n := by omega
  refine Ev.step (fun _ => rfl) ?_; simp only [spec_l5graph.l1]; refine ev_neg (by omega) (ev_pos (by rw [startsTo_length]; omega) ?_); unfold gres; rw [List.length_map]; exact Ev.now _
 | succ m ih =>
  intro c hc; refine Ev.step (fun _ => rfl) ?_; simp only [spec_l5graph.l1]; refine ev_pos (by omega) (ev_pos (by rw [startsTo_length]; omega) ?_); have K := ih (c + 1) (by omega); have t := bk_total eF (c + 1) es; have hr : rd_L2 (rowsOf eF n es) (c : Int) = bk eF es (c : Int) := by
   unfold rd_L2; exact rowsOf_getD eF n es (by omega) (by omega)
  rw [flatTo, List.length_append] at t; have := l5row n (rowsOf eF n es) c (by rw [rowsOf_length]; omega) _ hr (startsTo (fun c => bk eF es (c : Int)) (c + 1)) (flatTo (fun c => bk eF es (c : Int)) c) _ (by omega) K (by omega) (bk eF es (c : Int)).length 0 (by omega); rw [List.take_zero, List.append_nil] at this; rw [List.length_map]; exact this
theorem l5fill (n : Nat) (hn : n ≤ 100000) (es : List S51) (he : es.length ≤ 500000) (hk : ∀ e ∈ es, 0 ≤ e.f0 ∧ e.f0 < n) (m : Nat) : ∀ i : Nat, i + m = es.length →
  Ev (fun k => spec_l5graph.l0 k n es (rowsOf eF n (es.take i)) i n) (gres n (fun c => bk eF es (c : Int))) := by
 induction m with
 | zero =>
  intro i hi; refine Ev.step (fun _ => rfl) ?_; simp only [spec_l5graph.l0]; refine ev_neg (by omega) ?_; rw [List.take_of_length_le (by omega)]; exact l5rows n hn es he n 0 (by omega)
 | succ m ih =>
  intro i hi; have hil : i < es.length := by omega
  have b := hk _ (List.getElem_mem hil); refine Ev.step (fun _ => rfl) ?_; simp only [spec_l5graph.l0]; have hr : rd_L2 (rowsOf eF n (es.take i)) es[i].f0 = bk eF (es.take i) es[i].f0 := by
   unfold rd_L2; exact rowsOf_getD eF n _ b.1 b.2
  have hl := bk_length_le eF (es.take i) es[i].f0; rw [List.length_take] at hl; rw [rdE_lt hil, hr]; refine ev_pos (by omega) (ev_pos (by omega) (ev_pos b.1 (ev_pos (by rw [rowsOf_length]; omega) (ev_pos (by omega) ?_)))); rw [wrap64_id (by omega) (by omega)]; have K := ih (i + 1) (by omega); rw [take_snoc' es i hil, ← rowsOf_set eF n (es.take i) es[i] b.1 b.2] at K; exact K
theorem spec_l5graph_ev (n : Nat) (hn : n ≤ 100000) (es : List S51) (he : es.length ≤ 500000) (hk : ∀ e ∈ es, 0 ≤ e.f0 ∧ e.f0 < n) : Ev (fun k => spec_l5graph.f k n es) (gres n (fun c => bk eF es (c : Int))) := by
 simp only [spec_l5graph.f]; refine ev_pos (by omega) (ev_pos (by omega) ?_); have := l5fill n hn es he hk es.length 0 (by omega); rw [List.take_zero, rowsOf_nil] at this; exact this

section
variable {n : Int} {st tos dr co : List Int} (v : ValidG n st tos dr co)
include v
theorem spec_back (m : Nat) (hm : m ≤ 6400) {R : Int × List Int × List Int × List Int × List Int × Int} (H : Ev (fun k => (spec_l5graph.f k n ((upI m).map (revE n st tos dr co))).bind fun bt => some (bt.1, bt.2.1, bt.2.2.1, bt.2.2.2.1, bt.2.2.2.2, 0)) R) (d : Nat) : ∀ i : Nat, i + d = m →
  Ev (fun k => spec_Reverse.l0 k ((upI m).map (fwdE n st tos dr co)) ((upI i).map (revE n st tos dr co)) i n st tos dr co) R := by
 induction d with
 | zero =>
  intro i hi; obtain rfl : i = m := by omega
  refine Ev.step (fun _ => rfl) ?_; simp only [spec_Reverse.l0]; exact ev_neg (by rw [List.length_map, upI_length]; omega) H
 | succ d ih =>
  intro i hi; have K := ih (i + 1) (by omega); rw [upI_succ, map_snoc] at K; have hl : i < ((upI m).map (fwdE n st tos dr co)).length := by rw [List.length_map, upI_length]; omega
  refine Ev.step (fun _ => rfl) ?_; simp only [spec_Reverse.l0]; refine ev_pos (by omega) (ev_pos (by omega) (ev_pos (by rw [List.length_map, upI_length]; omega) ?_)); rw [wrap64_id (by omega) (by omega), rdE_lt hl, List.getElem_map, upI_get]; exact K
theorem spec_rev_ev : Ev (fun k => spec_Reverse.f k n st tos dr co) ((gres n.toNat (inRow n st tos dr co)).1, (gres n.toNat (inRow n st tos dr co)).2.1, (gres n.toNat (inRow n st tos dr co)).2.2.1, (gres n.toNat (inRow n st tos dr co)).2.2.2.1, (gres n.toNat (inRow n st tos dr co)).2.2.2.2, 0) := by
 have n1 := v.n1; have n2 := v.n2; have most := v.most; have nn := st_nn v (a := n) (by omega) (Int.le_refl _); simp only [spec_Reverse.f]; have es := spec_ValidGraph_ev n st tos dr co; rw [vg_true v] at es; refine Ev.bind es (ev_pos (by trivial) (Ev.bind (spec_l5edges_ev v) ?_)); refine spec_back v (rd st n).toNat (by omega) ?_ (rd st n).toNat 0 (by omega)
 have g := spec_l5graph_ev n.toNat (by omega) ((upI (rd st n).toNat).map (revE n st tos dr co)) (by rw [List.length_map, upI_length]; omega) (fun e he => by
  rw [List.mem_map] at he; obtain ⟨j, hj, rfl⟩ := he; have b := upI_mem hj; have := (v.edge j b.1 (by omega)).1
  exact ⟨this.1, by show rd tos j < _; omega⟩)
 rw [Int.toNat_of_nonneg (by omega), gres_congr (g := inRow n st tos dr co) (fun c _ => bk_map eF (revE n st tos dr co) _ _)] at g; exact Ev.bind g (Ev.now _)
end

theorem u64_mask {x : Int} (h0 : 0 ≤ x) (h1 : x < 4294967296) : Go.bits .and .u64 x 4294967295 = x := by
 have := bits_mask .u64 64 (by decide) (fun n a b => by rw [IntKind.wrap_u64]; omega) 32 (by decide) x h0 (by omega); simp at this; rw [this]
 omega
theorem mul1_ok {n : Int} (h0 : 0 ≤ n) (h1 : n ≤ 1000000) : bits_Mul.f 1 n = some (0, n) := by
 unfold bits_Mul.f bits_Mul64.f; rw [Option.bind_some, show (1 : Int) / 4294967296 = 0 by decide, show n / 4294967296 = 0 by omega, u64_mask h0 (by omega), u64_mask (x := 1) (by decide) (by decide), Int.zero_mul, Int.one_mul, Int.mul_zero, Int.zero_mul]; have w0 : IntKind.u64.wrap 0 = 0 := by rw [IntKind.wrap_u64]; decide
 have wn : IntKind.u64.wrap n = n := by rw [IntKind.wrap_u64]; omega
 have m0 : Go.bits .and .u64 0 4294967295 = 0 := u64_mask (by decide) (by decide); simp only [w0, wn, show n / 4294967296 = 0 by omega, Int.add_zero, m0, show (0 : Int) / 4294967296 = 0 by decide]

theorem Way.turn {E E' : Int → Int → Prop} (h : ∀ a b, E' a b → E b a) {c v : Int} (w : Way E' [c] v) : Way E [v] c :=
 w (fun x => Way E [x] c) (fun s hs => by rw [List.mem_singleton] at hs; rw [hs]; exact Way.refl E c) (fun a b p e => (Way.one (h a b e)).trans p)
theorem reach_iff {n : Int} {E : Int → Int → Prop} (hE : ∀ a b : Int, E a b → (0 ≤ a ∧ a < n) ∧ (0 ≤ b ∧ b < n)) {c : Int} (c0 : 0 ≤ c) (c1 : c < n) {o : List Bool} (h : IsReach n E [c] o) (v : Int) (v0 : 0 ≤ v) (v1 : v < n) : rdOf false o v = true ↔ Way E [c] v :=
 ⟨h.s.snd v v0 v1, fun w => (w (fun x => (0 ≤ x ∧ x < n) ∧ rdOf false o x = true) (fun s hs => by rw [List.mem_singleton] at hs; rw [hs]; exact ⟨⟨c0, c1⟩, h.frm c (List.mem_singleton.2 rfl)⟩) (fun a b p e => ⟨(hE a b e).2, h.cls a b p.1.1 p.1.2 p.2 e⟩)).2⟩
def SAll (n : Int) (E : Int → Int → Prop) (c : Int) (o : List Int) : Prop := ∀ v : Int, 0 ≤ v → v < n → (rd o v = -1 ∧ ∀ m : Int, 0 ≤ m → m < c → ¬ (Way E [m] v ∧ Way E [v] m)) ∨ ((0 ≤ rd o v ∧ rd o v < c) ∧ Good n E v (rd o v))
section
variable {n : Int} {E E' : Int → Int → Prop} {es es' : List S51} (st tos dr co : List Int) (n1 : 1 ≤ n) (n2 : n ≤ 1000000) (hE : ∀ a b : Int, E a b → (0 ≤ a ∧ a < n) ∧ (0 ≤ b ∧ b < n)) (he : Edges n E es) (he' : Edges n E' es') (hE' : ∀ a b : Int, E' a b ↔ E b a)
include n1 n2 hE he he' hE'
theorem spec_put (c : Int) (c0 : 0 ≤ c) (c1 : c < n) (o : List Int) (ol : (o.length : Int) = n) (B1 B2 : List Bool) (h1 : IsReach n E [c] B1) (h2 : IsReach n E' [c] B2) {R : List Int × Int}
  (H : ∀ o' : List Int, (o'.length : Int) = n → (∀ v : Int, 0 ≤ v → v < n → (Way E [c] v ∧ Way E [v] c → rd o' v = c) ∧ (¬ (Way E [c] v ∧ Way E [v] c) → rd o' v = rd o v)) → Ev (fun k => spec_Components.l1 k es es' o' (c + 1) n st tos dr co) R) (m : Nat) :
  ∀ (i : Int) (o' : List Int), 0 ≤ i → i + m = n → (o'.length : Int) = n → (∀ v : Int, 0 ≤ v → v < n → (v < i → (Way E [c] v ∧ Way E [v] c → rd o' v = c) ∧ (¬ (Way E [c] v ∧ Way E [v] c) → rd o' v = rd o v)) ∧ (i ≤ v → rd o' v = rd o v)) →
   Ev (fun k => spec_Components.l2 k es es' o' c B1 B2 i n st tos dr co) R := by
 have b1 := h1.s.len; have b2 := h2.s.len; have t2 : ∀ v : Int, 0 ≤ v → v < n → (rdOf false B2 v = true ↔ Way E [v] c) := by
  intro v v0 v1; rw [reach_iff (fun a b e => by have := hE b a ((hE' a b).1 e); exact ⟨this.2, this.1⟩) c0 c1 h2 v v0 v1]; exact ⟨fun w => w.turn (fun a b e => (hE' a b).1 e), fun w => w.turn (fun a b e => (hE' b a).2 e)⟩
 have t1 := reach_iff hE c0 c1 h1
 induction m with
 | zero =>
  intro i o' i0 im l' hv; refine Ev.step (fun _ => rfl) ?_; simp only [spec_Components.l2]; rw [wrap64_id (x := c + 1) (by omega) (by omega)]; exact ev_neg (by omega) (H o' l' (fun v v0 v1 => (hv v v0 v1).1 (by omega)))
 | succ m ih =>
  intro i o' i0 im l' hv; have skip : ¬ (Way E [c] i ∧ Way E [i] c) → Ev (fun k => spec_Components.l2 k es es' o' c B1 B2 (i + 1) n st tos dr co) R := by
   intro q; refine ih (i + 1) o' (by omega) (by omega) l' (fun v v0 v1 => ⟨fun vi => ?_, fun vi => (hv v v0 v1).2 (by omega)⟩)
   by_cases e : v = i
   ·subst e; exact ⟨fun z => absurd z q, fun _ => (hv v v0 v1).2 (Int.le_refl _)⟩
   ·exact (hv v v0 v1).1 (by omega)
  refine Ev.step (fun _ => rfl) ?_; simp only [spec_Components.l2]; rw [wrap64_id (x := i + 1) (by omega) (by omega)]; refine ev_pos (by omega) (ev_pos i0 (ev_pos (by omega) ?_))
  by_cases q1 : rdOf false B1 i = true
  ·refine ev_pos q1 (ev_pos (by omega) ?_)
   by_cases q2 : rdOf false B2 i = true
   ·refine ev_pos q2 (ev_pos (by omega) ?_); have mu : Way E [c] i ∧ Way E [i] c := ⟨(t1 i i0 (by omega)).1 q1, (t2 i i0 (by omega)).1 q2⟩; refine ih (i + 1) _ (by omega) (by omega) (by rw [List.length_set]; exact l') (fun v v0 v1 => ?_)
    by_cases e : v = i
    ·subst e; rw [rd_set_eq v0 (by omega)]; exact ⟨fun _ => ⟨fun _ => rfl, fun z => absurd mu z⟩, fun z => by omega⟩
    ·rw [rd_set_ne i0 v0 (fun z => e z.symm)]; exact ⟨fun vi => (hv v v0 v1).1 (by omega), fun vi => (hv v v0 v1).2 (by omega)⟩
   ·exact ev_neg q2 (skip (fun z => q2 ((t2 i i0 (by omega)).2 z.2)))
  ·exact ev_neg q1 (skip (fun z => q1 ((t1 i i0 (by omega)).2 z.1)))
theorem spec_comps (m : Nat) : ∀ (c : Int) (o : List Int), 0 ≤ c → c + m = n → (o.length : Int) = n → SAll n E c o → ∃ r : List Int, (r.length : Int) = n ∧ (∀ v : Int, 0 ≤ v → v < n → Good n E v (rd r v)) ∧ Ev (fun k => spec_Components.l1 k es es' o c n st tos dr co) (r, 0) := by
 induction m with
 | zero =>
  intro c o c0 cm ol h; refine ⟨o, ol, fun v v0 v1 => ?_, Ev.step (fun _ => rfl) ?_⟩
  ·rcases h v v0 v1 with q | q
   ·exact absurd ⟨Way.refl E v, Way.refl E v⟩ (q.2 v v0 (by omega))
   ·exact q.2
  ·simp only [spec_Components.l1]; exact ev_neg (by omega) (Ev.now _)
 | succ m ih =>
  intro c o c0 cm ol h; have c1 : c < n := by omega
  by_cases q : rd o c ≥ 0
  ·have gc : Good n E c (rd o c) ∧ rd o c < c := by
    rcases h c c0 c1 with z | z
    ·omega
    ·exact ⟨z.2, z.1.2⟩
   obtain ⟨r, rl, rg, e⟩ := ih (c + 1) o (by omega) (by omega) ol (fun v v0 v1 => by
    rcases h v v0 v1 with z | z
    ·refine .inl ⟨z.1, fun u u0 u1 w => ?_⟩
     by_cases uc : u = c
     ·subst uc; exact z.2 (rd o u) gc.1.r.1 gc.2 ⟨gc.1.fwd.trans w.1, w.2.trans gc.1.bwd⟩
     ·exact z.2 u u0 (by omega) w
    ·exact .inr ⟨⟨z.1.1, by omega⟩, z.2⟩)
   refine ⟨r, rl, rg, Ev.step (fun _ => rfl) ?_⟩; simp only [spec_Components.l1]; rw [wrap64_id (x := c + 1) (by omega) (by omega)]; exact ev_pos c1 (ev_pos c0 (ev_pos (by omega) (ev_pos q e)))
  ·have nc : rd o c = -1 ∧ ∀ u : Int, 0 ≤ u → u < c → ¬ (Way E [u] c ∧ Way E [c] u) := by
    rcases h c c0 c1 with z | z
    ·exact z
    ·omega
   have hf : ∀ s ∈ [c], 0 ≤ s ∧ s < n := fun s hs => by rw [List.mem_singleton] at hs; rw [hs]; exact ⟨c0, c1⟩
   obtain ⟨B1, e1, h1⟩ := l5reach_ev he n1 n2 hf (by simp); obtain ⟨B2, e2, h2⟩ := l5reach_ev he' n1 n2 hf (by simp)
   -- the list behind
   have mk : ∃ o' : List Int, (o'.length : Int) = n ∧ ∀ v : Int, 0 ≤ v → v < n → (Way E [c] v ∧ Way E [v] c → rd o' v = c) ∧ (¬ (Way E [c] v ∧ Way E [v] c) → rd o' v = rd o v) := by
    refine ⟨open Classical in (upI n.toNat).map (fun v => if Way E [c] v ∧ Way E [v] c then c else rd o v), by rw [List.length_map, upI_length]; omega, fun v v0 v1 => ?_⟩; have ev : rd ((open Classical in (upI n.toNat).map (fun v => if Way E [c] v ∧ Way E [v] c then c else rd o v)) : List Int) v = open Classical in (if Way E [c] v ∧ Way E [v] c then c else rd o v) := by
     rw [rd_get v0 (by rw [List.length_map, upI_length]; omega), List.getElem_map, upI_get, Int.toNat_of_nonneg v0]
    rw [ev]; exact ⟨fun z => if_pos z, fun z => if_neg z⟩
   obtain ⟨o', l', hv⟩ := mk
   obtain ⟨r, rl, rg, e⟩ := ih (c + 1) o' (by omega) (by omega) l' (fun v v0 v1 => by
    by_cases w : Way E [c] v ∧ Way E [v] c
    ·rw [(hv v v0 v1).1 w]; refine .inr ⟨⟨c0, by omega⟩, ⟨⟨c0, c1⟩, w.1, w.2, fun u u0 u1 uv vu => ?_⟩⟩
     by_cases uc : u < c
     ·exact absurd ⟨uv.trans w.2, w.1.trans vu⟩ (nc.2 u u0 uc)
     ·omega
    ·rw [(hv v v0 v1).2 w]
     rcases h v v0 v1 with z | z
     ·refine .inl ⟨z.1, fun u u0 u1 x => ?_⟩
      by_cases uc : u = c
      ·rw [uc] at x; exact w x
      ·exact z.2 u u0 (by omega) x
     ·exact .inr ⟨⟨z.1.1, by omega⟩, z.2⟩)
   refine ⟨r, rl, rg, Ev.step (fun _ => rfl) ?_⟩; simp only [spec_Components.l1]; refine ev_pos c1 (ev_pos c0 (ev_pos (by omega) (ev_neg q (Ev.bind e1 (Ev.bind e2 ?_))))); refine spec_put st tos dr co n1 n2 hE he he' hE' c c0 c1 o ol B1 B2 h1 h2 (fun o2 l2 hv2 => ?_) n.toNat 0 o (Int.le_refl _) (by omega) ol (fun v v0 v1 => ⟨fun z => by omega, fun _ => rfl⟩)
   have eo : o2 = o' := rd_ext (by omega) (fun v v0 v1 => by
    by_cases w : Way E [c] v ∧ Way E [v] c
    ·rw [(hv v v0 (by omega)).1 w, (hv2 v v0 (by omega)).1 w]
    ·rw [(hv v v0 (by omega)).2 w, (hv2 v v0 (by omega)).2 w])
   rw [eo]; exact e
theorem spec_neg {R : List Int × Int} (m : Nat) (H : Ev (fun k => spec_Components.l1 k es es' (List.replicate n.toNat (-1)) 0 n st tos dr co) R) : ∀ (i : Int) (o : List Int), 0 ≤ i → i + m = n → (o.length : Int) = n → (∀ v : Int, 0 ≤ v → v < i → rd o v = -1) →
  Ev (fun k => spec_Components.l0 k es es' o i n st tos dr co) R := by
 induction m with
 | zero =>
  intro i o i0 im ol h; have eo : o = List.replicate n.toNat (-1) := rd_ext (by rw [List.length_replicate]; omega) (fun v v0 v1 => by rw [h v v0 (by omega), rd_get v0 (by rw [List.length_replicate]; omega), List.getElem_replicate]); rw [eo]; refine Ev.step (fun _ => rfl) ?_; simp only [spec_Components.l0]; exact ev_neg (by omega) H
 | succ m ih =>
  intro i o i0 im ol h; refine Ev.step (fun _ => rfl) ?_; simp only [spec_Components.l0]; rw [wrap64_id (x := i + 1) (by omega) (by omega)]; refine ev_pos (by omega) (ev_pos i0 (ev_pos (by omega) (ih (i + 1) _ (by omega) (by omega) (by rw [List.length_set]; exact ol) (fun v v0 v1 => ?_))))
  by_cases e : v = i
  ·subst e; exact rd_set_eq v0 (by omega)
  ·rw [rd_set_ne i0 v0 (fun z => e z.symm)]; exact h v v0 (by omega)
end
theorem good_unique {n : Int} {E : Int → Int → Prop} {a b : List Int} (la : (a.length : Int) = n) (lb : (b.length : Int) = n) (ha : ∀ v : Int, 0 ≤ v → v < n → Good n E v (rd a v)) (hb : ∀ v : Int, 0 ≤ v → v < n → Good n E v (rd b v)) : a = b :=
 rd_ext (by omega) (fun v v0 v1 => by
  have x := ha v v0 (by omega); have y := hb v v0 (by omega); have p := x.least (rd b v) y.r.1 y.r.2 y.fwd y.bwd; have q := y.least (rd a v) x.r.1 x.r.2 x.fwd x.bwd
  omega)
section
variable {n : Int} {st tos dr co : List Int} (v : ValidG n st tos dr co)
include v
theorem edge_rng (a b : Int) (e : Edge n st tos a b) : (0 ≤ a ∧ a < n) ∧ (0 ≤ b ∧ b < n) := ⟨⟨e.1, e.2.1⟩, edge_range v e⟩
theorem spec_comp_ev : ∃ r : List Int, (r.length : Int) = n ∧ (∀ c : Int, 0 ≤ c → c < n → Good n (Edge n st tos) c (rd r c)) ∧ Ev (fun k => spec_Components.f k n st tos dr co) (r, 0) := by
 have n1 := v.n1; have n2 := v.n2; have vb := vback (dr := dr) v; have lz : ((List.replicate n.toNat (0 : Int)).length : Int) = n := by rw [List.length_replicate]; omega
 obtain ⟨r, rl, rg, e⟩ := spec_comps st tos dr co n1 (by omega) (edge_rng v) (edges_fwd (dr := dr) (co := co) v) (edges_fwd vb) (edge_back v) n.toNat 0 (List.replicate n.toNat (-1)) (Int.le_refl _) (by omega) (by rw [List.length_replicate]; omega) (fun w w0 w1 => .inl ⟨by rw [rd_get w0 (by rw [List.length_replicate]; omega), List.getElem_replicate], fun m m0 m1 => by omega⟩); refine ⟨r, rl, rg, ?_⟩; have es := spec_ValidGraph_ev n st tos dr co; rw [vg_true v] at es; have l0 := spec_neg st tos dr co n1 (by omega) (edge_rng v) (edges_fwd (dr := dr) (co := co) v) (edges_fwd vb) (edge_back v) n.toNat e 0 (List.replicate n.toNat 0) (Int.le_refl _) (by omega) lz (fun w w0 w1 => by omega); have eb := spec_l5edges_ev vb; have en : (gres n.toNat (inRow n st tos dr co)).1 = n := Int.toNat_of_nonneg (by omega); simp only [spec_Components.f]; refine Ev.bind es (ev_pos (by trivial) (Ev.bind (spec_l5edges_ev v) (Ev.bind (spec_rev_ev v) ?_))); rw [← en] at eb; simp only; refine Ev.bind (by simpa only [en] using eb) (ev_pos (by omega) (ev_pos (by omega) ?_))
 simpa only [en] using l0
theorem impl_comp_ev : ∃ r : List Int, (r.length : Int) = n ∧ (∀ c : Int, 0 ≤ c → c < n → Good n (Edge n st tos) c (rd r c)) ∧ Ev (fun k => impl_Components.f k n st tos dr co) (r, 0) := by
 have n1 := v.n1; have n2 := v.n2; have len := v.len; have lto := v.lto; have most := v.most; have es := impl_ValidGraph_ev n st tos dr co; rw [vg_true v] at es; have z0 : ∀ w : Int, 0 ≤ w → w < n → rd (List.replicate n.toNat (0 : Int)) w = 0 := fun w w0 w1 => by rw [rd_get w0 (by rw [List.length_replicate]; omega), List.getElem_replicate]
 have zm : ∀ w : Int, 0 ≤ w → w < n → rd (List.replicate n.toNat (-1 : Int)) w = -1 := fun w w0 w1 => by rw [rd_get w0 (by rw [List.length_replicate]; omega), List.getElem_replicate]
 have sz : ∀ m : Nat, (m : Int) ≤ n → seen (List.replicate n.toNat 0) m = 0 := by
  intro m hm
  induction m with
  | zero => rfl
  | succ m ih => rw [seen, ih (by omega), if_pos (z0 m (by omega) (by omega))]; rfl
 obtain ⟨s, e, sl, sg⟩ := tops_ok (edge_rng v) (by omega) (st := st) (tos := tos) (fun c x c0 c1 => row_mem v c0 c1) n.toNat (n.toNat + 1) 0 ⟨List.replicate n.toNat 0, List.replicate n.toNat 0, List.replicate n.toNat (-1), [], 1⟩ (Nat.lt_succ_self _) (Int.le_refl _) (by omega)
  ⟨by simp only [List.length_replicate]; omega, by simp only [List.length_replicate]; omega, by simp only [List.length_replicate]; omega, ⟨Int.le_refl _, by simp⟩, sz n.toNat (by omega), fun w w0 w1 => .inl (z0 w w0 w1), fun w hw => absurd hw (by simp), List.nodup_nil, fun w w0 w1 => .inl (zm w w0 w1), fun w w0 w1 q => absurd (z0 w w0 w1) q, fun a b _ a0 a1 q => by rw [zm a a0 a1] at q; omega⟩ rfl (fun w w0 w1 => by omega)
 refine ⟨s.ou, sl, sg, ?_⟩; have ok : impl_Components.okg n st tos = true := by
  unfold impl_Components.okg; rw [Bool.and_eq_true, Bool.and_eq_true]; refine ⟨⟨decide_eq_true ⟨n1, by omega, len, by omega⟩, List.all_eq_true.2 (fun c hc => decide_eq_true ?_)⟩, List.all_eq_true.2 (fun t ht => decide_eq_true ?_)⟩
  ·have c1 := List.mem_range.1 hc; have a := st_nn v (a := (c : Int)) (by omega) (by omega); have b := v.mono (c : Int) (by omega) (by omega); have d := st_nn v (a := (c : Int) + 1) (by omega) (by omega)
   omega
  ·obtain ⟨j, hj, rfl⟩ := List.getElem_of_mem ht; have ed := (v.edge (j : Int) (by omega) (by omega)).1; have rj : rd tos (j : Int) = tos[j] := by rw [rd_get (by omega) (by omega)]; simp
   rw [rj] at ed; exact ed
 simp only [impl_Components.f]; refine Ev.bind es (ev_pos rfl (ev_pos ⟨ok, mul1_ok (by omega) (by omega)⟩ ?_)); rw [e, Option.bind_some]; exact Ev.now _
end
theorem comps_both (n : Int) (st tos dr co : List Int) :
  ∃ r, Ev (fun k => spec_Components.f k n st tos dr co) r ∧ Ev (fun k => impl_Components.f k n st tos dr co) r ∧ r.1.length ≤ 1600 := by
 cases hv : vg n st tos dr co with
 | false =>
  have es := spec_ValidGraph_ev n st tos dr co; have ei := impl_ValidGraph_ev n st tos dr co; rw [hv] at es ei; simp only [spec_Components.f, impl_Components.f]; exact ⟨([], 1), Ev.bind es (ev_neg (by simp) (Ev.now _)), Ev.bind ei (ev_neg (by simp) (Ev.now _)), by simp⟩
 | true =>
  have v : ValidG n st tos dr co := by
   refine Classical.byContradiction fun q => ?_
   rw [vg_false q] at hv; cases hv
  have n2 := v.n2; obtain ⟨r, rl, rg, e⟩ := spec_comp_ev v; obtain ⟨r', rl', rg', e'⟩ := impl_comp_ev v; obtain rfl := good_unique rl rl' rg rg'; exact ⟨_, e, e', by dsimp only; omega⟩

theorem FnExactComponents : laws_FnExactComponents.Pure := by
 intro n st tos dr co wn w1 w2 w3 w4; have m1 : st.length ≤ 9223372036854775807 := w1.1; have m2 : tos.length ≤ 9223372036854775807 := w2.1; have m3 : dr.length ≤ 9223372036854775807 := w3.1; have m4 : co.length ≤ 9223372036854775807 := w4.1; refine Ev.rounds (g := fun k => laws_FnExactComponents.f k n st tos dr co) ?_; simp only [laws_FnExactComponents.f]; obtain ⟨r, e, q⟩ := szGraph_or (n := n) m1 m2 m3 m4; rw [e]; refine ev_letv ?_
 rcases q with rfl | ⟨q, q0⟩
 ·exact ev_pos (by omega) (Ev.now _)
 have t := toGraph_ev n st tos dr co q; obtain ⟨⟨gd, gx⟩, s, i, l1⟩ := comps_both n st tos dr co; dsimp only at l1; have eq1 := eqIntS_self gd (by omega); have ea := eqGraph_self n st tos dr co (by omega); have ek := markGraph_big n st tos dr co (by omega); have em1 := markIntS_ev gd 1 (by omega) (by omega); have eh1 := heldIntS_ev gd.length 1 (by omega) (by omega); refine ev_neg (by omega) (Ev.bind t (Ev.bind s (Ev.bind t (Ev.bind i (Ev.bind eq1 (ev_pos (by trivial) ?_)))))); refine Ev.step (fun _ => rfl) ?_; simp only [laws_FnExactComponents.j0]; refine ev_neg (by simp) (Ev.bind t (Ev.bind ea (ev_pos (by trivial) (Ev.bind ek (ev_neg (by dsimp only; omega) (Ev.bind eq1 (ev_pos (by trivial) ?_))))))); refine Ev.step (fun _ => rfl) ?_; simp only [laws_FnExactComponents.j1]; refine ev_neg (by simp) (Ev.bind em1 (Ev.bind eh1 (ev_neg (by omega) (ev_pos (by trivial) (Ev.bind t (Ev.bind i (Ev.bind eq1 (ev_pos (by trivial) ?_)))))))); refine Ev.step (fun _ => rfl) ?_; simp only [laws_FnExactComponents.j2]; exact ev_neg (by simp) (Ev.bind eh1 (ev_neg (by omega) (ev_pos (by trivial) (Ev.now _))))

end Go.Proofs.Ytiboccbaaphbhaa.Pure
