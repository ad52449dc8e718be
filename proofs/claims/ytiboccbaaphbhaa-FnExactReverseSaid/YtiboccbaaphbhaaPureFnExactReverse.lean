/- The program's Reverse returns what the reference's returns, for all arguments: no condition. -/
import Derived.Test.YtiboccbaaphbhaaQFnExactReverse
namespace Go.Proofs.Ytiboccbaaphbhaa.Pure
set_option linter.unusedVariables false
set_option linter.unusedSimpArgs false
set_option linter.unusedSectionVars false
open Go.RowKit Go.Proofs.Ytiboccbaaphbhaa.PFnExactReverse Go.Proofs.YtiboccbaaphbhaaW.PrintWords Go.Proofs.YtiboccbaaphbhaaW.PrintLast Go.Proofs.YtiboccbaaphbhaaW.PrintMore
section EvLib
variable {α β : Type}
theorem ev_pos {c : Prop} [Decidable c] {A B : Nat → Option α} {r : α} (h : c) (k : Ev A r) : Ev (fun n => if c then A n else B n) r :=
 Ev.congr (fun _ => if_pos h) k
theorem ev_neg {c : Prop} [Decidable c] {A B : Nat → Option α} {r : α} (h : ¬ c) (k : Ev B r) : Ev (fun n => if c then A n else B n) r :=
 Ev.congr (fun _ => if_neg h) k
theorem ev_ite {c : Prop} [Decidable c] {A B : Nat → Option α} {r : α} (h1 : c → Ev A r) (h2 : ¬ c → Ev B r) : Ev (fun n => if c then A n else B n) r := by
 by_cases h : c
 ·exact ev_pos h (h1 h)
 ·exact ev_neg h (h2 h)
theorem ev_letv {a : α} {f : Nat → α → Option β} {r : β} (k : Ev (fun n => f n a) r) : Ev (fun n => (some a).bind (f n)) r := Ev.bind (Ev.now a) k
end EvLib
theorem wrap64_id {x : Int} (h0 : -9223372036854775808 ≤ x) (h1 : x ≤ 9223372036854775807) : wrap64 x = x := by unfold wrap64; omega
theorem rd_get {l : List Int} {i : Int} (h0 : 0 ≤ i) (h1 : i.toNat < l.length) : rd l i = l[i.toNat] := by
 unfold rd; rw [List.getD_eq_getElem?_getD, List.getElem?_eq_getElem h1]; rfl
theorem rd_set_eq {l : List Int} {i : Int} {v : Int} (h0 : 0 ≤ i) (h1 : i < l.length) : rd (l.set i.toNat v) i = v := by
 have h : i.toNat < l.length := by omega
 unfold rd; rw [List.getD_eq_getElem?_getD, List.getElem?_set_self h]; rfl
theorem rd_set_ne {l : List Int} {i j : Int} {v : Int} (h0 : 0 ≤ i) (h1 : 0 ≤ j) (h : i ≠ j) : rd (l.set i.toNat v) j = rd l j := by
 unfold rd; rw [List.getD_eq_getElem?_getD, List.getElem?_set_ne (by omega), ← List.getD_eq_getElem?_getD]
theorem rd_ext {l m : List Int} (h : l.length = m.length) (e : ∀ i : Int, 0 ≤ i → i < l.length → rd l i = rd m i) : l = m := by
 apply List.ext_getElem h
 intro i h1 h2
 have := e i (by omega) (by omega)
 rw [rd_get (by omega) (by simpa using h1), rd_get (by omega) (by simpa using h2)] at this
 simpa using this

theorem szIntS_or {l : List Int} {left : Int} (h0 : 0 ≤ left) (h1 : left ≤ 1048576) (hm : l.length ≤ 9223372036854775807) :
  ∃ r, laws_szIntS.f l left = some r ∧ (r = -1 ∨ ((l.length : Int) ≤ left ∧ r = left - l.length)) := by
 simp only [laws_szIntS.f]
 rw [wrap64_id (by omega) (by omega)]
 by_cases h : left - (l.length : Int) < 0
 ·exact ⟨-1, if_pos h, .inl rfl⟩
 ·exact ⟨_, if_neg h, .inr ⟨by omega, rfl⟩⟩

theorem szGraph_or {n : Int} {st tos dr co : List Int} (h1 : st.length ≤ 9223372036854775807) (h2 : tos.length ≤ 9223372036854775807) (h3 : dr.length ≤ 9223372036854775807) (h4 : co.length ≤ 9223372036854775807) :
  ∃ r, laws_szGraph.f n st tos dr co 1048576 = some r ∧ (r = -1 ∨ (st.length + tos.length + dr.length + co.length ≤ 1048576 ∧ 0 ≤ r)) := by
 simp only [laws_szGraph.f]
 obtain ⟨r1, e1, q1⟩ := szIntS_or (l := st) (left := 1048576) (by omega) (by omega) h1
 rw [e1]; simp only [Option.bind_some]
 rcases q1 with rfl | ⟨a1, rfl⟩
 ·exact ⟨-1, if_pos (by omega), .inl rfl⟩
 rw [if_neg (by omega)]
 obtain ⟨r2, e2, q2⟩ := szIntS_or (l := tos) (left := 1048576 - (st.length : Int)) (by omega) (by omega) h2
 rw [e2]; simp only [Option.bind_some]
 rcases q2 with rfl | ⟨a2, rfl⟩
 ·exact ⟨-1, if_pos (by omega), .inl rfl⟩
 rw [if_neg (by omega)]
 obtain ⟨r3, e3, q3⟩ := szIntS_or (l := dr) (left := 1048576 - (st.length : Int) - tos.length) (by omega) (by omega) h3
 rw [e3]; simp only [Option.bind_some]
 rcases q3 with rfl | ⟨a3, rfl⟩
 ·exact ⟨-1, if_pos (by omega), .inl rfl⟩
 rw [if_neg (by omega)]
 obtain ⟨r4, e4, q4⟩ := szIntS_or (l := co) (left := 1048576 - (st.length : Int) - tos.length - dr.length) (by omega) (by omega) h4
 rw [e4]; simp only [Option.bind_some]
 rcases q4 with rfl | ⟨a4, rfl⟩
 ·exact ⟨-1, if_pos (by omega), .inl rfl⟩
 rw [if_neg (by omega)]
 exact ⟨_, rfl, .inr ⟨by omega, by omega⟩⟩

theorem toIntS_loop (x0 : List Int) (hb : x0.length ≤ 35184372088832) (d : Nat) : ∀ (x3 : List Int) (i : Int), 0 ≤ i → x3.length = x0.length → (x0.length : Int) - i = d →
  (∀ j : Int, 0 ≤ j → j < i → rd x3 j = rd x0 j) → Ev (fun k => laws_toIntS.l0 k x0 x3 i) x0 := by
 induction d with
 | zero =>
  intro x3 i h0 hl hd he
  refine Ev.step (fun _ => rfl) ?_
  simp only [laws_toIntS.l0]
  refine ev_neg (by omega) ?_
  have : x3 = x0 := rd_ext hl (fun j a b => he j a (by omega))
  rw [this]; exact Ev.now _
 | succ d ih =>
  intro x3 i h0 hl hd he
  refine Ev.step (fun _ => rfl) ?_
  simp only [laws_toIntS.l0]
  refine ev_pos (by omega) (ev_pos (by omega) (ev_pos (by omega) ?_))
  rw [wrap64_id (by omega) (by omega)]
  refine ih _ _ (by omega) (by simpa using hl) (by omega) ?_
  intro j a b
  by_cases e : j = i
  ·subst e; exact rd_set_eq (by omega) (by omega)
  ·rw [rd_set_ne (by omega) (by omega) (by omega)]; exact he j a (by omega)
theorem toIntS_ev (l : List Int) (hb : l.length ≤ 35184372088832) : Ev (fun k => laws_toIntS.f k l) l := by
 simp only [laws_toIntS.f]
 refine ev_pos (by omega) (ev_pos (by omega) ?_)
 exact toIntS_loop l hb l.length _ 0 (by omega) (by simp) (by omega) (fun j a b => by omega)

theorem toGraph_ev (n : Int) (st tos dr co : List Int) (h : st.length + tos.length + dr.length + co.length ≤ 1048576) : Ev (fun k => laws_toGraph.f k n st tos dr co) (n, st, tos, dr, co) := by
 simp only [laws_toGraph.f]
 exact Ev.bind (toIntS_ev st (by omega)) (Ev.bind (toIntS_ev tos (by omega)) (Ev.bind (toIntS_ev dr (by omega)) (Ev.bind (toIntS_ev co (by omega)) (Ev.now _))))

theorem eqIntS_loop (a b : List Int) (hl : a.length = b.length) (hb : a.length ≤ 9223372036854775800) (d : Nat) : ∀ (i : Int), 0 ≤ i → (a.length : Int) - i = d →
  (∀ j : Int, 0 ≤ j → j < i → rd a j = rd b j) → Ev (fun k => laws_eqIntS.l0 k a b i) (decide (a = b)) := by
 induction d with
 | zero =>
  intro i h0 hd he
  refine Ev.step (fun _ => rfl) ?_
  simp only [laws_eqIntS.l0]
  refine ev_neg (by omega) ?_
  have : a = b := rd_ext hl (fun j p q => he j p (by omega))
  rw [decide_eq_true this]; exact Ev.now _
 | succ d ih =>
  intro i h0 hd he
  refine Ev.step (fun _ => rfl) ?_
  simp only [laws_eqIntS.l0]
  refine ev_pos (by omega) (ev_pos (by omega) (ev_pos (by omega) (ev_ite (fun e => ?_) (fun e => ?_))))
  ·rw [wrap64_id (by omega) (by omega)]
   refine ih _ (by omega) (by omega) ?_
   intro j p q
   by_cases e' : j = i
   ·subst e'; exact e
   ·exact he j p (by omega)
  ·have : a ≠ b := fun h => e (by rw [h])
   rw [decide_eq_false this]; exact Ev.now _
theorem eqIntS_ev (a b : List Int) (hb : a.length ≤ 9223372036854775800) : Ev (fun k => laws_eqIntS.f k a b) (decide (a = b)) := by
 simp only [laws_eqIntS.f]
 refine ev_ite (fun e => ?_) (fun e => ?_)
 ·exact eqIntS_loop a b (by omega) hb a.length 0 (by omega) (by omega) (fun j p q => by omega)
 ·have : a ≠ b := fun h => e (by rw [h])
  rw [decide_eq_false this]; exact Ev.now _
theorem eqIntS_self (a : List Int) (hb : a.length ≤ 9223372036854775800) : Ev (fun k => laws_eqIntS.f k a a) true := by
 have := eqIntS_ev a a hb
 rwa [decide_eq_true rfl] at this

theorem eqGraph_self (n : Int) (st tos dr co : List Int) (h : st.length + tos.length + dr.length + co.length ≤ 9000000000) : Ev (fun k => laws_eqGraph.f k n st tos dr co n st tos dr co) true := by
 simp only [laws_eqGraph.f]
 refine ev_pos (by trivial) (Ev.bind (eqIntS_self st (by omega)) (ev_pos (by trivial) (Ev.bind (eqIntS_self tos (by omega)) (ev_pos (by trivial) (Ev.bind (eqIntS_self dr (by omega)) (ev_pos (by trivial) (Ev.bind (eqIntS_self co (by omega)) ?_)))))))
 exact ev_pos (by trivial) (Ev.now _)

section Buckets
variable {α : Type}
def bk (key : α → Int) (es : List α) (c : Int) : List α := es.filter fun e => decide (key e = c)
def rowsOf (key : α → Int) (n : Nat) (es : List α) : List (List α) := (List.range n).map fun (c : Nat) => bk key es (c : Int)
theorem rowsOf_length (key : α → Int) (n : Nat) (es : List α) : (rowsOf key n es).length = n := by simp [rowsOf]
theorem rowsOf_get (key : α → Int) (n : Nat) (es : List α) {c : Nat} (h : c < n) : (rowsOf key n es)[c]'(by rw [rowsOf_length]; exact h) = bk key es (c : Int) := by simp [rowsOf]
theorem rowsOf_getD (key : α → Int) (n : Nat) (es : List α) {c : Int} (h0 : 0 ≤ c) (h : c < n) : (rowsOf key n es).getD c.toNat [] = bk key es c := by
 rw [List.getD_eq_getElem?_getD, List.getElem?_eq_getElem (by rw [rowsOf_length]; omega)]
 simp only [Option.getD_some]
 rw [rowsOf_get key n es (by omega), Int.toNat_of_nonneg h0]
theorem bk_snoc (key : α → Int) (es : List α) (e : α) (c : Int) : bk key (es ++ [e]) c = if key e = c then bk key es c ++ [e] else bk key es c := by
 unfold bk
 rw [List.filter_append]
 by_cases h : key e = c
 ·rw [if_pos h, List.filter_cons_of_pos (by simpa using h)]; rfl
 ·rw [if_neg h, List.filter_cons_of_neg (by simpa using h)]; simp
theorem bk_length_le (key : α → Int) (es : List α) (c : Int) : (bk key es c).length ≤ es.length := List.length_filter_le _ _
theorem rowsOf_set (key : α → Int) (n : Nat) (es : List α) (e : α) (h0 : 0 ≤ key e) (h1 : key e < n) : (rowsOf key n es).set (key e).toNat (bk key es (key e) ++ [e]) = rowsOf key n (es ++ [e]) := by
 apply List.ext_getElem
 ·rw [List.length_set, rowsOf_length, rowsOf_length]
 ·intro i a b
  rw [rowsOf_length] at b
  rw [rowsOf_get key n _ b, bk_snoc]
  by_cases q : (key e).toNat = i
  ·subst q
   rw [List.getElem_set_self, if_pos (by omega), Int.toNat_of_nonneg h0]
  ·rw [List.getElem_set_ne q, rowsOf_get key n _ b, if_neg (by omega)]
theorem rowsOf_nil (key : α → Int) (n : Nat) : rowsOf key n [] = List.replicate n [] := by
 apply List.ext_getElem
 ·rw [rowsOf_length, List.length_replicate]
 ·intro i a b
  rw [rowsOf_length] at a
  rw [rowsOf_get key n _ a]; simp [bk]
def flatTo (f : Nat → List α) : Nat → List α
 | 0 => []
 | n + 1 => flatTo f n ++ f n
theorem flatTo_congr {f g : Nat → List α} {n : Nat} (h : ∀ c, c < n → f c = g c) : flatTo f n = flatTo g n := by
 induction n with
 | zero => rfl
 | succ n ih => rw [flatTo, flatTo, ih (fun c hc => h c (by omega)), h n (by omega)]
theorem bk_total (key : α → Int) (n : Nat) : ∀ es : List α, (flatTo (fun c => bk key es (c : Int)) n).length ≤ es.length := by
 intro es
 induction n generalizing es with
 | zero => simp [flatTo]
 | succ n ih =>
  rw [flatTo, List.length_append]
  have e : ∀ c : Nat, c < n → bk key es (c : Int) = bk key (es.filter fun e => !decide (key e = (n : Int))) (c : Int) := by
   intro c hc
   unfold bk
   rw [List.filter_filter]
   apply List.filter_congr
   intro x _
   by_cases q : key x = (c : Int)
   ·simp [q]; omega
   ·simp [q]
  rw [flatTo_congr e]
  have a := ih (es.filter fun e => !decide (key e = (n : Int)))
  have b : (bk key es (n : Int)).length + (es.filter fun e => !decide (key e = (n : Int))).length = es.length := by
   unfold bk
   clear a e ih
   induction es with
   | nil => rfl
   | cons x xs ih =>
    by_cases q : key x = (n : Int)
    ·rw [List.filter_cons_of_pos (by simpa using q), List.filter_cons_of_neg (by simpa using q), List.length_cons, List.length_cons]; omega
    ·rw [List.filter_cons_of_neg (by simpa using q), List.filter_cons_of_pos (by simpa using q), List.length_cons, List.length_cons]; omega
  omega
def startsTo (f : Nat → List α) : Nat → List Int
 | 0 => []
 | n + 1 => startsTo f n ++ [((flatTo f n).length : Int)]
theorem startsTo_length (f : Nat → List α) (n : Nat) : (startsTo f n).length = n := by
 induction n with
 | zero => rfl
 | succ n ih => rw [startsTo, List.length_append, ih]; rfl
theorem startsTo_congr {f g : Nat → List α} {n : Nat} (h : ∀ c, c < n → f c = g c) : startsTo f n = startsTo g n := by
 induction n with
 | zero => rfl
 | succ n ih => rw [startsTo, startsTo, ih (fun c hc => h c (by omega)), flatTo_congr (fun c hc => h c (by omega))]
end Buckets

theorem getD_lt {α : Type} {l : List α} {i : Int} {d : α} (h1 : i.toNat < l.length) : l.getD i.toNat d = l[i.toNat] := by
 rw [List.getD_eq_getElem?_getD, List.getElem?_eq_getElem h1]; rfl
def eT (e : S51) : Int := e.f1
def eD (e : S51) : Int := e.f2
def eC (e : S51) : Int := e.f3
def eF (e : S51) : Int := e.f0
def gres (n : Nat) (f : Nat → List S51) : Int × List Int × List Int × List Int × List Int :=
 ((n : Int), startsTo f n ++ [((flatTo f n).length : Int)], (flatTo f n).map eT, (flatTo f n).map eD, (flatTo f n).map eC)
theorem gres_congr {f g : Nat → List S51} {n : Nat} (h : ∀ c, c < n → f c = g c) : gres n f = gres n g := by
 unfold gres; rw [startsTo_congr h, flatTo_congr h]
theorem rdE_lt {es : List S51} {i : Nat} (h : i < es.length) : rd_T51 es (i : Int) = es[i] := by
 unfold rd_T51
 rw [getD_lt (by rw [Int.toNat_natCast]; exact h)]
 simp only [Int.toNat_natCast]
theorem take_snoc' {α : Type} (l : List α) (i : Nat) (h : i < l.length) : l.take (i + 1) = l.take i ++ [l[i]] := by
 rw [List.take_succ_eq_append_getElem h]
theorem map_snoc {α β : Type} (f : α → β) (l : List α) (x : α) : (l ++ [x]).map f = l.map f ++ [f x] := by rw [List.map_append]; rfl
theorem l5row (n : Nat) (rows : List (List S51)) (c : Nat) (hc : c < rows.length) (L : List S51) (hL : rd_L2 rows (c : Int) = L) (st : List Int) (p : List S51) (R : Int × List Int × List Int × List Int × List Int)
  (hb : p.length + L.length ≤ 1000000) (H : Ev (fun k => spec_l5graph.l1 k n rows ((c : Int) + 1) n st ((p ++ L).map eT) ((p ++ L).map eD) ((p ++ L).map eC)) R) (hcn : c < 1000000) (m : Nat) : ∀ j : Nat, j + m = L.length →
  Ev (fun k => spec_l5graph.l2 k n rows c j n st ((p ++ L.take j).map eT) ((p ++ L.take j).map eD) ((p ++ L.take j).map eC)) R := by
 induction m with
 | zero =>
  intro j hj
  refine Ev.step (fun _ => rfl) ?_
  simp only [spec_l5graph.l2]
  refine ev_pos (by omega) (ev_pos (by omega) ?_)
  rw [hL]
  refine ev_neg (by omega) ?_
  rw [wrap64_id (by omega) (by omega), List.take_of_length_le (by omega)]
  exact H
 | succ m ih =>
  intro j hj
  have hjl : j < L.length := by omega
  have hlen : (p ++ L.take j).length ≤ 1000000 := by rw [List.length_append, List.length_take]; omega
  refine Ev.step (fun _ => rfl) ?_
  simp only [spec_l5graph.l2]
  refine ev_pos (by omega) (ev_pos (by omega) ?_)
  rw [hL]
  refine ev_pos (by omega) (ev_pos (by omega) (ev_pos (by rw [List.length_map]; omega) (ev_pos (by rw [List.length_map]; omega) (ev_pos (by rw [List.length_map]; omega) ?_))))
  have K := ih (j + 1) (by omega)
  rw [take_snoc' L j hjl, ← List.append_assoc, map_snoc, map_snoc, map_snoc] at K
  rw [rdE_lt hjl, wrap64_id (by omega) (by omega)]
  exact K
theorem l5rows (n : Nat) (hn : n ≤ 100000) (es : List S51) (he : es.length ≤ 500000) (m : Nat) : ∀ c : Nat, c + m = n →
  Ev (fun k => spec_l5graph.l1 k n (rowsOf eF n es) c n (startsTo (fun c => bk eF es (c : Int)) c) ((flatTo (fun c => bk eF es (c : Int)) c).map eT) ((flatTo (fun c => bk eF es (c : Int)) c).map eD) ((flatTo (fun c => bk eF es (c : Int)) c).map eC)) (gres n (fun c => bk eF es (c : Int))) := by
 induction m with
 | zero =>
  intro c hc
  obtain rfl : c = n := by omega
  refine Ev.step (fun _ => rfl) ?_
  simp only [spec_l5graph.l1]
  refine ev_neg (by omega) (ev_pos (by rw [startsTo_length]; omega) ?_)
  unfold gres
  rw [List.length_map]
  exact Ev.now _
 | succ m ih =>
  intro c hc
  refine Ev.step (fun _ => rfl) ?_
  simp only [spec_l5graph.l1]
  refine ev_pos (by omega) (ev_pos (by rw [startsTo_length]; omega) ?_)
  have K := ih (c + 1) (by omega)
  have t := bk_total eF (c + 1) es
  have hr : rd_L2 (rowsOf eF n es) (c : Int) = bk eF es (c : Int) := by
   unfold rd_L2
   exact rowsOf_getD eF n es (by omega) (by omega)
  rw [flatTo, List.length_append] at t
  have := l5row n (rowsOf eF n es) c (by rw [rowsOf_length]; omega) _ hr (startsTo (fun c => bk eF es (c : Int)) (c + 1)) (flatTo (fun c => bk eF es (c : Int)) c) _ (by omega) K (by omega) (bk eF es (c : Int)).length 0 (by omega)
  rw [List.take_zero, List.append_nil] at this
  rw [List.length_map]
  exact this
theorem l5fill (n : Nat) (hn : n ≤ 100000) (es : List S51) (he : es.length ≤ 500000) (hk : ∀ e ∈ es, 0 ≤ e.f0 ∧ e.f0 < n) (m : Nat) : ∀ i : Nat, i + m = es.length →
  Ev (fun k => spec_l5graph.l0 k n es (rowsOf eF n (es.take i)) i n) (gres n (fun c => bk eF es (c : Int))) := by
 induction m with
 | zero =>
  intro i hi
  refine Ev.step (fun _ => rfl) ?_
  simp only [spec_l5graph.l0]
  refine ev_neg (by omega) ?_
  rw [List.take_of_length_le (by omega)]
  exact l5rows n hn es he n 0 (by omega)
 | succ m ih =>
  intro i hi
  have hil : i < es.length := by omega
  have b := hk _ (List.getElem_mem hil)
  refine Ev.step (fun _ => rfl) ?_
  simp only [spec_l5graph.l0]
  have hr : rd_L2 (rowsOf eF n (es.take i)) es[i].f0 = bk eF (es.take i) es[i].f0 := by
   unfold rd_L2
   exact rowsOf_getD eF n _ b.1 b.2
  have hl := bk_length_le eF (es.take i) es[i].f0
  rw [List.length_take] at hl
  rw [rdE_lt hil, hr]
  refine ev_pos (by omega) (ev_pos (by omega) (ev_pos b.1 (ev_pos (by rw [rowsOf_length]; omega) (ev_pos (by omega) ?_))))
  rw [wrap64_id (by omega) (by omega)]
  have K := ih (i + 1) (by omega)
  rw [take_snoc' es i hil, ← rowsOf_set eF n (es.take i) es[i] b.1 b.2] at K
  exact K
theorem spec_l5graph_ev (n : Nat) (hn : n ≤ 100000) (es : List S51) (he : es.length ≤ 500000) (hk : ∀ e ∈ es, 0 ≤ e.f0 ∧ e.f0 < n) : Ev (fun k => spec_l5graph.f k n es) (gres n (fun c => bk eF es (c : Int))) := by
 simp only [spec_l5graph.f]
 refine ev_pos (by omega) (ev_pos (by omega) ?_)
 have := l5fill n hn es he hk es.length 0 (by omega)
 rw [List.take_zero, rowsOf_nil] at this
 exact this

structure ValidG (n : Int) (st tos dr co : List Int) : Prop where
 n1 : 1 ≤ n
 n2 : n ≤ 1600
 len : (st.length : Int) = n + 1
 zero : rd st 0 = 0
 mono : ∀ c : Int, 0 ≤ c → c < n → rd st c ≤ rd st (c + 1)
 most : rd st n ≤ 6400
 lto : (tos.length : Int) = rd st n
 ldr : (dr.length : Int) = rd st n
 lco : (co.length : Int) = rd st n
 edge : ∀ e : Int, 0 ≤ e → e < rd st n → (0 ≤ rd tos e ∧ rd tos e < n) ∧ (0 ≤ rd dr e ∧ rd dr e ≤ 3) ∧ (1 ≤ rd co e ∧ rd co e ≤ 9)
open Classical in
noncomputable def vg (n : Int) (st tos dr co : List Int) : Bool := decide (ValidG n st tos dr co)
open Classical in
theorem vg_true {n : Int} {st tos dr co : List Int} (h : ValidG n st tos dr co) : vg n st tos dr co = true := by unfold vg; exact decide_eq_true h
open Classical in
theorem vg_false {n : Int} {st tos dr co : List Int} (h : ¬ ValidG n st tos dr co) : vg n st tos dr co = false := by unfold vg; exact decide_eq_false h

theorem spec_vg_edges {n : Int} {st tos dr co : List Int} (d : Nat) : ∀ (e : Int), 0 ≤ e → (rd st n) - e = d → 1 ≤ n → n ≤ 1600 → (st.length : Int) = n + 1 → rd st 0 = 0 → rd st n ≤ 6400 →
  (tos.length : Int) = rd st n → (dr.length : Int) = rd st n → (co.length : Int) = rd st n → (∀ c : Int, 0 ≤ c → c < n → rd st c ≤ rd st (c + 1)) →
  (∀ f : Int, 0 ≤ f → f < e → (0 ≤ rd tos f ∧ rd tos f < n) ∧ (0 ≤ rd dr f ∧ rd dr f ≤ 3) ∧ (1 ≤ rd co f ∧ rd co f ≤ 9)) →
  Ev (fun k => spec_ValidGraph.l1 k (rd st n) e n st tos dr co) (vg n st tos dr co) := by
 induction d with
 | zero =>
  intro e h0 hd n1 n2 hl hz hm h1 h2 h3 hs he
  refine Ev.step (fun _ => rfl) ?_
  simp only [spec_ValidGraph.l1]
  refine ev_neg (by omega) ?_
  rw [vg_true ⟨n1, n2, hl, hz, hs, hm, h1, h2, h3, fun f a b => he f a (by omega)⟩]
  exact Ev.now _
 | succ d ih =>
  intro e h0 hd n1 n2 hl hz hm h1 h2 h3 hs he
  refine Ev.step (fun _ => rfl) ?_
  simp only [spec_ValidGraph.l1]
  have bad : ¬ ((0 ≤ rd tos e ∧ rd tos e < n) ∧ (0 ≤ rd dr e ∧ rd dr e ≤ 3) ∧ (1 ≤ rd co e ∧ rd co e ≤ 9)) → Ev (fun _ => some false) (vg n st tos dr co) := by
   intro h; rw [vg_false (fun v => h (v.edge e h0 (by omega)))]; exact Ev.now _
  refine ev_pos (by omega) (ev_pos (by omega) (ev_pos (by omega) ?_))
  refine ev_ite (fun c => bad (by omega)) (fun c1 => ev_ite (fun c => bad (by omega)) (fun c2 => ev_pos (by omega) ?_))
  refine ev_ite (fun c => bad (by omega)) (fun c3 => ev_ite (fun c => bad (by omega)) (fun c4 => ev_pos (by omega) ?_))
  refine ev_ite (fun c => bad (by omega)) (fun c5 => ev_ite (fun c => bad (by omega)) (fun c6 => ?_))
  rw [wrap64_id (by omega) (by omega)]
  refine ih _ (by omega) (by omega) n1 n2 hl hz hm h1 h2 h3 hs (fun f a b => ?_)
  by_cases q : f = e
  ·subst q; omega
  ·exact he f a (by omega)
theorem spec_vg_sorted {n : Int} {st tos dr co : List Int} (d : Nat) : ∀ (c : Int), 0 ≤ c → n - c = d → 1 ≤ n → n ≤ 1600 → (st.length : Int) = n + 1 → rd st 0 = 0 → rd st n ≤ 6400 →
  (tos.length : Int) = rd st n → (dr.length : Int) = rd st n → (co.length : Int) = rd st n → (∀ f : Int, 0 ≤ f → f < c → rd st f ≤ rd st (f + 1)) →
  Ev (fun k => spec_ValidGraph.l0 k (rd st n) c n st tos dr co) (vg n st tos dr co) := by
 induction d with
 | zero =>
  intro c h0 hd n1 n2 hl hz hm h1 h2 h3 hs
  refine Ev.step (fun _ => rfl) ?_
  simp only [spec_ValidGraph.l0]
  refine ev_neg (by omega) ?_
  exact spec_vg_edges (rd st n).toNat 0 (by omega) (by omega) n1 n2 hl hz hm h1 h2 h3 (fun f a b => hs f a (by omega)) (fun f a b => by omega)
 | succ d ih =>
  intro c h0 hd n1 n2 hl hz hm h1 h2 h3 hs
  refine Ev.step (fun _ => rfl) ?_
  simp only [spec_ValidGraph.l0]
  rw [wrap64_id (by omega) (by omega)]
  refine ev_pos (by omega) (ev_pos (by omega) (ev_pos (by omega) (ev_pos (by omega) (ev_pos (by omega) ?_))))
  refine ev_ite (fun q => ?_) (fun q => ?_)
  ·rw [vg_false (fun v => by have := v.mono c h0 (by omega); omega)]; exact Ev.now _
  ·refine ih _ (by omega) (by omega) n1 n2 hl hz hm h1 h2 h3 (fun f a b => ?_)
   by_cases e : f = c
   ·subst e; omega
   ·exact hs f a (by omega)
theorem spec_ValidGraph_ev (n : Int) (st tos dr co : List Int) : Ev (fun k => spec_ValidGraph.f k n st tos dr co) (vg n st tos dr co) := by
 have bad0 : ¬ ValidG n st tos dr co → Ev (fun k => spec_ValidGraph.j0 k true n st tos dr co) (vg n st tos dr co) := by
  intro h; rw [vg_false h]
  refine Ev.step (fun _ => rfl) ?_
  simp only [spec_ValidGraph.j0]
  exact ev_pos (by trivial) (Ev.now _)
 have bad1 : ∀ m, ¬ ValidG n st tos dr co → Ev (fun k => spec_ValidGraph.j1 k m true n st tos dr co) (vg n st tos dr co) := by
  intro m h; rw [vg_false h]
  refine Ev.step (fun _ => rfl) ?_
  simp only [spec_ValidGraph.j1]
  exact ev_pos (by trivial) (Ev.now _)
 simp only [spec_ValidGraph.f]
 refine ev_ite (fun c => bad0 (fun v => by have := v.n1; omega)) (fun c1 => ?_)
 refine ev_ite (fun c => bad0 (fun v => by have := v.n2; omega)) (fun c2 => ?_)
 rw [wrap64_id (by omega) (by omega)]
 refine ev_ite (fun c3 => ev_pos (by omega) ?_) (fun c => bad0 (fun v => c v.len))
 by_cases c4 : rd st 0 = 0
 ·rw [show (rd st 0 != 0) = false by rw [bne_eq_false_iff_eq]; exact c4]
  refine Ev.step (fun _ => rfl) ?_
  simp only [spec_ValidGraph.j0]
  refine ev_neg (by simp) (ev_pos (by omega) (ev_pos (by omega) ?_))
  refine ev_ite (fun c => bad1 _ (fun v => by have := v.most; omega)) (fun c5 => ?_)
  refine ev_ite (fun c6 => ?_) (fun c => bad1 _ (fun v => c v.lto))
  refine ev_ite (fun c7 => ?_) (fun c => bad1 _ (fun v => c v.ldr))
  by_cases c8 : (co.length : Int) = rd st n
  ·rw [show ((co.length : Int) != rd st n) = false by rw [bne_eq_false_iff_eq]; exact c8]
   refine Ev.step (fun _ => rfl) ?_
   simp only [spec_ValidGraph.j1]
   refine ev_neg (by simp) ?_
   exact spec_vg_sorted n.toNat 0 (by omega) (by omega) (by omega) (by omega) c3 c4 (by omega) c6 c7 c8 (fun f a b => by omega)
  ·rw [show ((co.length : Int) != rd st n) = true by rw [bne_iff_ne]; exact c8]
   exact bad1 _ (fun v => c8 v.lco)
 ·rw [show (rd st 0 != 0) = true by rw [bne_iff_ne]; exact c4]
  exact bad0 (fun v => c4 v.zero)

def SortedZ (st : List Int) : Prop := ∀ c : Int, 0 ≤ c → c + 1 < st.length → rd st c ≤ rd st (c + 1)
open Classical in
noncomputable def sortedB (st : List Int) : Bool := decide (SortedZ st)
open Classical in
theorem sortedB_true {st : List Int} (h : SortedZ st) : sortedB st = true := by unfold sortedB; exact decide_eq_true h
open Classical in
theorem sortedB_false {st : List Int} (h : ¬ SortedZ st) : sortedB st = false := by unfold sortedB; exact decide_eq_false h
theorem Less_ev (a b : Int) : cmp_Less_int.f a b = some (decide (a < b)) := by
 simp [cmp_Less_int.f, cmp_isNaN_int.f]
theorem IsSorted_loop (st : List Int) (hb : st.length ≤ 9223372036854775807) (d : Nat) : ∀ (i : Int), i = d → i < st.length → (∀ c : Int, i ≤ c → c + 1 < st.length → rd st c ≤ rd st (c + 1)) →
  Ev (fun k => slices_IsSorted_int_int.l0 k st i) (sortedB st) := by
 induction d with
 | zero =>
  intro i hi hl hs
  refine Ev.step (fun _ => rfl) ?_
  simp only [slices_IsSorted_int_int.l0]
  refine ev_neg (by omega) ?_
  rw [sortedB_true (fun c a b => hs c (by omega) b)]; exact Ev.now _
 | succ d ih =>
  intro i hi hl hs
  refine Ev.step (fun _ => rfl) ?_
  simp only [slices_IsSorted_int_int.l0]
  rw [wrap64_id (by omega) (by omega)]
  refine ev_pos (by omega) (ev_pos (by omega) (ev_pos (by omega) (ev_pos (by omega) (ev_pos (by omega) ?_))))
  simp only [Less_ev]
  refine ev_letv (ev_ite (fun e => ?_) (fun e => ?_))
  ·have e := of_decide_eq_true e
   rw [sortedB_false (fun h => by have := h (i - 1) (by omega) (by omega); rw [show i - 1 + 1 = i by omega] at this; omega)]; exact Ev.now _
  ·have e := of_decide_eq_false (Bool.eq_false_iff.2 e)
   refine ih _ (by omega) (by omega) (fun c a b => ?_)
   by_cases q : c = i - 1
   ·subst q; rw [show i - 1 + 1 = i by omega]; omega
   ·exact hs c (by omega) b
theorem IsSorted_ev (st : List Int) (hb : st.length ≤ 9223372036854775807) : Ev (fun k => slices_IsSorted_int_int.f k st) (sortedB st) := by
 simp only [slices_IsSorted_int_int.f]
 rw [wrap64_id (by omega) (by omega)]
 by_cases h : st.length = 0
 ·refine Ev.step (fun _ => rfl) ?_
  simp only [slices_IsSorted_int_int.l0]
  refine ev_neg (by omega) ?_
  rw [sortedB_true (fun c a b => by omega)]; exact Ev.now _
 ·exact IsSorted_loop st hb (st.length - 1) _ (by omega) (by omega) (fun c a b => by omega)

theorem impl_vg_edges {n : Int} {st tos dr co : List Int} (d : Nat) : ∀ (e : Int), 0 ≤ e → (rd st n) - e = d → 1 ≤ n → n ≤ 1600 → (st.length : Int) = n + 1 → rd st 0 = 0 → rd st n ≤ 6400 →
  (tos.length : Int) = rd st n → (dr.length : Int) = rd st n → (co.length : Int) = rd st n → (∀ c : Int, 0 ≤ c → c < n → rd st c ≤ rd st (c + 1)) →
  (∀ f : Int, 0 ≤ f → f < e → (0 ≤ rd tos f ∧ rd tos f < n) ∧ (0 ≤ rd dr f ∧ rd dr f ≤ 3) ∧ (1 ≤ rd co f ∧ rd co f ≤ 9)) →
  Ev (fun k => impl_ValidGraph.l0 k (rd st n) e n st tos dr co) (vg n st tos dr co) := by
 induction d with
 | zero =>
  intro e h0 hd n1 n2 hl hz hm h1 h2 h3 hs he
  refine Ev.step (fun _ => rfl) ?_
  simp only [impl_ValidGraph.l0]
  refine ev_neg (by omega) ?_
  rw [vg_true ⟨n1, n2, hl, hz, hs, hm, h1, h2, h3, fun f a b => he f a (by omega)⟩]
  exact Ev.now _
 | succ d ih =>
  intro e h0 hd n1 n2 hl hz hm h1 h2 h3 hs he
  refine Ev.step (fun _ => rfl) ?_
  simp only [impl_ValidGraph.l0]
  have bad : ¬ ((0 ≤ rd tos e ∧ rd tos e < n) ∧ (0 ≤ rd dr e ∧ rd dr e ≤ 3) ∧ (1 ≤ rd co e ∧ rd co e ≤ 9)) → Ev (fun _ => some false) (vg n st tos dr co) := by
   intro h; rw [vg_false (fun v => h (v.edge e h0 (by omega)))]; exact Ev.now _
  refine ev_pos (by omega) (ev_pos (by omega) (ev_pos (by omega) ?_))
  refine ev_ite (fun c => bad (by omega)) (fun c1 => ev_ite (fun c => bad (by omega)) (fun c2 => ev_pos (by omega) ?_))
  refine ev_ite (fun c => bad (by omega)) (fun c3 => ev_ite (fun c => bad (by omega)) (fun c4 => ev_pos (by omega) ?_))
  refine ev_ite (fun c => bad (by omega)) (fun c5 => ev_ite (fun c => bad (by omega)) (fun c6 => ?_))
  rw [wrap64_id (by omega) (by omega)]
  refine ih _ (by omega) (by omega) n1 n2 hl hz hm h1 h2 h3 hs (fun f a b => ?_)
  by_cases q : f = e
  ·subst q; omega
  ·exact he f a (by omega)
theorem impl_ValidGraph_ev (n : Int) (st tos dr co : List Int) : Ev (fun k => impl_ValidGraph.f k n st tos dr co) (vg n st tos dr co) := by
 have bad0 : ¬ ValidG n st tos dr co → Ev (fun k => impl_ValidGraph.j0 k true n st tos dr co) (vg n st tos dr co) := by
  intro h; rw [vg_false h]
  refine Ev.step (fun _ => rfl) ?_
  simp only [impl_ValidGraph.j0]
  exact ev_pos (by trivial) (Ev.now _)
 have bad1 : ∀ m, ¬ ValidG n st tos dr co → Ev (fun k => impl_ValidGraph.j1 k m true n st tos dr co) (vg n st tos dr co) := by
  intro m h; rw [vg_false h]
  refine Ev.step (fun _ => rfl) ?_
  simp only [impl_ValidGraph.j1]
  exact ev_pos (by trivial) (Ev.now _)
 simp only [impl_ValidGraph.f]
 refine ev_ite (fun c => bad0 (fun v => by have := v.n1; omega)) (fun c1 => ?_)
 refine ev_ite (fun c => bad0 (fun v => by have := v.n2; omega)) (fun c2 => ?_)
 rw [wrap64_id (by omega) (by omega)]
 refine ev_ite (fun c3 => ev_pos (by omega) ?_) (fun c => bad0 (fun v => c v.len))
 refine ev_ite (fun c4 => ?_) (fun c4 => bad0 (fun v => c4 v.zero))
 refine Ev.bind (IsSorted_ev st (by omega)) ?_
 by_cases cs : SortedZ st
 ·rw [sortedB_true cs]
  simp only [Bool.not_true]
  refine Ev.step (fun _ => rfl) ?_
  simp only [impl_ValidGraph.j0]
  refine ev_neg (by simp) (ev_pos (by omega) (ev_pos (by omega) ?_))
  refine ev_ite (fun c => bad1 _ (fun v => by have := v.most; omega)) (fun c5 => ?_)
  refine ev_ite (fun c6 => ?_) (fun c => bad1 _ (fun v => c v.lto))
  refine ev_ite (fun c7 => ?_) (fun c => bad1 _ (fun v => c v.ldr))
  by_cases c8 : (co.length : Int) = rd st n
  ·rw [show ((co.length : Int) != rd st n) = false by rw [bne_eq_false_iff_eq]; exact c8]
   refine Ev.step (fun _ => rfl) ?_
   simp only [impl_ValidGraph.j1]
   refine ev_neg (by simp) ?_
   exact impl_vg_edges (rd st n).toNat 0 (by omega) (by omega) (by omega) (by omega) c3 c4 (by omega) c6 c7 c8 (fun f a b => cs f a (by omega)) (fun f a b => by omega)
  ·rw [show ((co.length : Int) != rd st n) = true by rw [bne_iff_ne]; exact c8]
   exact bad1 _ (fun v => c8 v.lco)
 ·rw [sortedB_false cs]
  simp only [Bool.not_false]
  exact bad0 (fun v => cs (fun f a b => v.mono f a (by have := v.len; omega)))

def upI (m : Nat) : List Int := (List.range m).map (fun (j : Nat) => (j : Int))
theorem upI_succ (m : Nat) : upI (m + 1) = upI m ++ [(m : Int)] := by simp [upI, List.range_succ]
theorem upI_length (m : Nat) : (upI m).length = m := by simp [upI]
theorem upI_mem {m : Nat} {e : Int} (h : e ∈ upI m) : 0 ≤ e ∧ e < m := by
 simp only [upI, List.mem_map, List.mem_range] at h
 obtain ⟨j, hj, rfl⟩ := h
 omega
theorem upI_get (m i : Nat) (h : i < (upI m).length) : (upI m)[i] = (i : Int) := by simp [upI]
theorem bk_map {α β : Type} (key : β → Int) (h : α → β) (l : List α) (c : Int) : bk key (l.map h) c = (bk (fun x => key (h x)) l c).map h := by
 unfold bk; rw [List.filter_map]; rfl
theorem flatTo_map {α β : Type} (h : α → β) (f : Nat → List α) (n : Nat) : flatTo (fun c => (f c).map h) n = (flatTo f n).map h := by
 induction n with
 | zero => rfl
 | succ n ih => rw [flatTo, flatTo, ih, List.map_append]
open Classical in
noncomputable def owner (n : Int) (st : List Int) (e : Int) : Int := if h : ∃ c : Int, 0 ≤ c ∧ c < n ∧ rd st c ≤ e ∧ e < rd st (c + 1) then Classical.choose h else 0
noncomputable def fwdE (n : Int) (st tos dr co : List Int) (e : Int) : S51 := ⟨owner n st e, rd tos e, rd dr e, rd co e⟩
noncomputable def revE (n : Int) (st tos dr co : List Int) (e : Int) : S51 := ⟨rd tos e, owner n st e, rd dr e, rd co e⟩
section
variable {n : Int} {st tos dr co : List Int} (v : ValidG n st tos dr co)
include v
theorem st_mono : ∀ (d : Nat) (a : Int), 0 ≤ a → a + d ≤ n → rd st a ≤ rd st (a + d)
 | 0, a, _, _ => by rw [show a + ((0 : Nat) : Int) = a by omega]; exact Int.le_refl _
 | d + 1, a, a0, a1 => by
  have h := st_mono d a a0 (by omega)
  have g := v.mono (a + d) (by omega) (by omega)
  rw [show a + ((d + 1 : Nat) : Int) = a + d + 1 by omega]
  omega
theorem st_le {a b : Int} (a0 : 0 ≤ a) (ab : a ≤ b) (bn : b ≤ n) : rd st a ≤ rd st b := by
 have := st_mono v (b - a).toNat a a0 (by omega)
 rwa [show a + ((b - a).toNat : Int) = b by omega] at this
theorem st_nn {a : Int} (a0 : 0 ≤ a) (an : a ≤ n) : 0 ≤ rd st a ∧ rd st a ≤ rd st n := by
 have h := st_le v (a := 0) (b := a) (by omega) a0 an
 have g := st_le v a0 an (Int.le_refl _)
 have := v.zero
 omega
theorem owner_eq {c e : Int} (c0 : 0 ≤ c) (c1 : c < n) (e0 : rd st c ≤ e) (e1 : e < rd st (c + 1)) : owner n st e = c := by
 have h : ∃ c : Int, 0 ≤ c ∧ c < n ∧ rd st c ≤ e ∧ e < rd st (c + 1) := ⟨c, c0, c1, e0, e1⟩
 unfold owner
 rw [dif_pos h]
 obtain ⟨p0, p1, p2, p3⟩ := Classical.choose_spec h
 generalize Classical.choose h = b at *
 by_cases q : b < c
 ·have := st_le v (a := b + 1) (b := c) (by omega) (by omega) (by omega); omega
 by_cases q2 : c < b
 ·have := st_le v (a := c + 1) (b := b) (by omega) (by omega) (by omega); omega
 omega
theorem l5e_row (c : Int) (c0 : 0 ≤ c) (c1 : c < n) {R : List S51} (H : Ev (fun k => spec_l5edges.l0 k ((upI (rd st (c + 1)).toNat).map (fwdE n st tos dr co)) (c + 1) n st tos dr co) R) (d : Nat) : ∀ e : Nat, rd st c ≤ e → (e : Int) ≤ rd st (c + 1) → rd st (c + 1) - e = d →
  Ev (fun k => spec_l5edges.l1 k ((upI e).map (fwdE n st tos dr co)) c e n st tos dr co) R := by
 have n2 := v.n2
 have len := v.len
 have most := v.most
 have lto := v.lto
 have ldr := v.ldr
 have lco := v.lco
 have nn := st_nn v (a := c + 1) (by omega) (by omega)
 induction d with
 | zero =>
  intro e e0 e1 hd
  refine Ev.step (fun _ => rfl) ?_
  simp only [spec_l5edges.l1]
  rw [wrap64_id (x := c + 1) (by omega) (by omega)]
  refine ev_pos (by omega) (ev_pos (by omega) (ev_neg (by omega) ?_))
  rw [show (rd st (c + 1)).toNat = e by omega] at H
  exact H
 | succ d ih =>
  intro e e0 e1 hd
  have K := ih (e + 1) (by omega) (by omega) (by omega)
  rw [upI_succ, map_snoc] at K
  refine Ev.step (fun _ => rfl) ?_
  simp only [spec_l5edges.l1]
  rw [wrap64_id (x := c + 1) (by omega) (by omega)]
  refine ev_pos (by omega) (ev_pos (by omega) (ev_pos (by omega) (ev_pos (by omega) (ev_pos (by omega) (ev_pos (by omega) (ev_pos (by omega) (ev_pos (by rw [List.length_map, upI_length]; omega) ?_)))))))
  rw [wrap64_id (x := (e : Int) + 1) (by omega) (by omega)]
  rw [show fwdE n st tos dr co (e : Int) = ⟨c, rd tos e, rd dr e, rd co e⟩ by unfold fwdE; rw [owner_eq v c0 c1 e0 (by omega)]] at K
  exact K
theorem l5e_all (d : Nat) : ∀ c : Int, 0 ≤ c → c ≤ n → n - c = d → Ev (fun k => spec_l5edges.l0 k ((upI (rd st c).toNat).map (fwdE n st tos dr co)) c n st tos dr co) ((upI (rd st n).toNat).map (fwdE n st tos dr co)) := by
 have n2 := v.n2
 have len := v.len
 induction d with
 | zero =>
  intro c c0 c1 hd
  obtain rfl : c = n := by omega
  refine Ev.step (fun _ => rfl) ?_
  simp only [spec_l5edges.l0]
  exact ev_neg (by omega) (Ev.now _)
 | succ d ih =>
  intro c c0 c1 hd
  have nn := st_nn v c0 c1
  have mo := v.mono c c0 (by omega)
  refine Ev.step (fun _ => rfl) ?_
  simp only [spec_l5edges.l0]
  refine ev_pos (by omega) (ev_pos c0 (ev_pos (by omega) ?_))
  have K := l5e_row v c c0 (by omega) (ih (c + 1) (by omega) (by omega) (by omega)) (rd st (c + 1) - (rd st c).toNat).toNat (rd st c).toNat (by omega) (by omega) (by omega)
  rw [Int.toNat_of_nonneg nn.1] at K
  exact K
theorem spec_l5edges_ev : Ev (fun k => spec_l5edges.f k n st tos dr co) ((upI (rd st n).toNat).map (fwdE n st tos dr co)) := by
 simp only [spec_l5edges.f]
 have := l5e_all v n.toNat 0 (by omega) (by have := v.n1; omega) (by have := v.n1; omega)
 rw [v.zero] at this
 exact this
theorem spec_back (m : Nat) (hm : m ≤ 6400) {R : Int × List Int × List Int × List Int × List Int × Int} (H : Ev (fun k => (spec_l5graph.f k n ((upI m).map (revE n st tos dr co))).bind fun bt => some (bt.1, bt.2.1, bt.2.2.1, bt.2.2.2.1, bt.2.2.2.2, 0)) R) (d : Nat) : ∀ i : Nat, i + d = m →
  Ev (fun k => spec_Reverse.l0 k ((upI m).map (fwdE n st tos dr co)) ((upI i).map (revE n st tos dr co)) i n st tos dr co) R := by
 induction d with
 | zero =>
  intro i hi
  obtain rfl : i = m := by omega
  refine Ev.step (fun _ => rfl) ?_
  simp only [spec_Reverse.l0]
  exact ev_neg (by rw [List.length_map, upI_length]; omega) H
 | succ d ih =>
  intro i hi
  have K := ih (i + 1) (by omega)
  rw [upI_succ, map_snoc] at K
  have hl : i < ((upI m).map (fwdE n st tos dr co)).length := by rw [List.length_map, upI_length]; omega
  refine Ev.step (fun _ => rfl) ?_
  simp only [spec_Reverse.l0]
  refine ev_pos (by omega) (ev_pos (by omega) (ev_pos (by rw [List.length_map, upI_length]; omega) ?_))
  rw [wrap64_id (by omega) (by omega), rdE_lt hl, List.getElem_map, upI_get]
  exact K
noncomputable def inRow (n : Int) (st tos dr co : List Int) (c : Nat) : List S51 := (bk (fun e => rd tos e) (upI (rd st n).toNat) (c : Int)).map (revE n st tos dr co)
theorem spec_rev_ev : Ev (fun k => spec_Reverse.f k n st tos dr co) ((gres n.toNat (inRow n st tos dr co)).1, (gres n.toNat (inRow n st tos dr co)).2.1, (gres n.toNat (inRow n st tos dr co)).2.2.1, (gres n.toNat (inRow n st tos dr co)).2.2.2.1, (gres n.toNat (inRow n st tos dr co)).2.2.2.2, 0) := by
 have n1 := v.n1
 have n2 := v.n2
 have most := v.most
 have nn := st_nn v (a := n) (by omega) (Int.le_refl _)
 simp only [spec_Reverse.f]
 have es := spec_ValidGraph_ev n st tos dr co
 rw [vg_true v] at es
 refine Ev.bind es (ev_pos (by trivial) (Ev.bind (spec_l5edges_ev v) ?_))
 refine spec_back v (rd st n).toNat (by omega) ?_ (rd st n).toNat 0 (by omega)
 have g := spec_l5graph_ev n.toNat (by omega) ((upI (rd st n).toNat).map (revE n st tos dr co)) (by rw [List.length_map, upI_length]; omega) (fun e he => by
  rw [List.mem_map] at he
  obtain ⟨j, hj, rfl⟩ := he
  have b := upI_mem hj
  have := (v.edge j b.1 (by omega)).1
  exact ⟨this.1, by show rd tos j < _; omega⟩)
 rw [Int.toNat_of_nonneg (by omega), gres_congr (g := inRow n st tos dr co) (fun c _ => bk_map eF (revE n st tos dr co) _ _)] at g
 exact Ev.bind g (Ev.now _)
noncomputable def fromL (n : Int) (st : List Int) (m : Nat) (e : Int) : List Int := (upI m).map fun j => if j < e then owner n st j else 0
theorem fromL_length (m : Nat) (e : Int) : (fromL n st m e).length = m := by simp [fromL, upI_length]
theorem fromL_rd (m : Nat) (e : Int) {j : Int} (j0 : 0 ≤ j) (j1 : j < m) : rd (fromL n st m e) j = if j < e then owner n st j else 0 := by
 rw [rd_get j0 (by rw [fromL_length v]; omega)]
 simp only [fromL, List.getElem_map, upI_get, Int.toNat_of_nonneg j0]
theorem fromL_zero (m : Nat) : fromL n st m 0 = List.replicate m 0 := by
 apply rd_ext (by rw [fromL_length v, List.length_replicate])
 intro j j0 j1
 rw [fromL_length v] at j1
 rw [fromL_rd v m 0 j0 (by omega), if_neg (by omega), rd_get j0 (by rw [List.length_replicate]; omega), List.getElem_replicate]
theorem fromL_set (m : Nat) (e : Int) (e0 : 0 ≤ e) (e1 : e < m) : (fromL n st m e).set e.toNat (owner n st e) = fromL n st m (e + 1) := by
 apply rd_ext (by rw [List.length_set, fromL_length v, fromL_length v])
 intro j j0 j1
 rw [List.length_set, fromL_length v] at j1
 rw [fromL_rd v m (e + 1) j0 (by omega)]
 by_cases q : j = e
 ·subst q
  rw [rd_set_eq j0 (by rw [fromL_length v]; omega), if_pos (by omega)]
 ·rw [rd_set_ne e0 j0 (fun h => q h.symm), fromL_rd v m e j0 (by omega)]
  by_cases r : j < e
  ·rw [if_pos r, if_pos (by omega)]
  ·rw [if_neg r, if_neg (by omega)]
theorem rev_in (M : Nat) (hM : (M : Int) = rd st n) (c : Int) (c0 : 0 ≤ c) (c1 : c < n) {R : Int × List Int × List Int × List Int × List Int × Int}
  (H : Ev (fun k => impl_Reverse.l0 k (rowsOf (fun e => rd tos e) n.toNat (upI (rd st (c + 1)).toNat)) (fromL n st M (rd st (c + 1))) n (c + 1) n st tos dr co) R) (d : Nat) : ∀ e : Nat, rd st c ≤ e → (e : Int) ≤ rd st (c + 1) → rd st (c + 1) - e = d →
  Ev (fun k => impl_Reverse.l1 k (rowsOf (fun e => rd tos e) n.toNat (upI e)) (fromL n st M e) c e n c n st tos dr co) R := by
 have n2 := v.n2
 have len := v.len
 have most := v.most
 have lto := v.lto
 have nn := st_nn v (a := c + 1) (by omega) (by omega)
 induction d with
 | zero =>
  intro e e0 e1 hd
  refine Ev.step (fun _ => rfl) ?_
  simp only [impl_Reverse.l1]
  rw [wrap64_id (x := c + 1) (by omega) (by omega)]
  refine ev_pos (by omega) (ev_pos (by omega) (ev_neg (by omega) ?_))
  rw [show (rd st (c + 1)).toNat = e by omega, show rd st (c + 1) = (e : Int) by omega] at H
  exact H
 | succ d ih =>
  intro e e0 e1 hd
  have K := ih (e + 1) (by omega) (by omega) (by omega)
  have b := (v.edge e (by omega) (by omega)).1
  have bl := bk_length_le (fun e => rd tos e) (upI e) (rd tos e)
  rw [upI_length] at bl
  rw [upI_succ, ← rowsOf_set (fun e => rd tos e) n.toNat (upI e) (e : Int) b.1 (by omega), show ((e + 1 : Nat) : Int) = (e : Int) + 1 by omega, ← fromL_set v M e (by omega) (by omega), owner_eq v c0 c1 e0 (by omega)] at K
  have hr : rd_L3 (rowsOf (fun e => rd tos e) n.toNat (upI e)) (rd tos e) = bk (fun e => rd tos e) (upI e) (rd tos e) := by
   unfold rd_L3
   exact rowsOf_getD _ n.toNat _ b.1 (by omega)
  refine Ev.step (fun _ => rfl) ?_
  simp only [impl_Reverse.l1]
  rw [wrap64_id (x := c + 1) (by omega) (by omega), hr]
  refine ev_pos (by omega) (ev_pos (by omega) (ev_pos (by omega) (ev_pos (by omega) (ev_pos (by omega) (ev_pos b.1 (ev_pos (by rw [rowsOf_length]; omega) (ev_pos (by omega) (ev_pos (by rw [fromL_length v]; omega) ?_))))))))
  rw [wrap64_id (x := (e : Int) + 1) (by omega) (by omega)]
  exact K
theorem rev_ins (M : Nat) (hM : (M : Int) = rd st n) {R : Int × List Int × List Int × List Int × List Int × Int}
  (H : Ev (fun k => impl_Reverse.l2 k (fromL n st M M) (rowsOf (fun e => rd tos e) n.toNat (upI M)) ((rowsOf (fun e => rd tos e) n.toNat (upI M)).length : Int) 0 n st tos dr co n [] [] [] []) R) (d : Nat) : ∀ c : Int, 0 ≤ c → c ≤ n → n - c = d →
  Ev (fun k => impl_Reverse.l0 k (rowsOf (fun e => rd tos e) n.toNat (upI (rd st c).toNat)) (fromL n st M (rd st c)) n c n st tos dr co) R := by
 have n2 := v.n2
 have len := v.len
 induction d with
 | zero =>
  intro c c0 c1 hd
  obtain rfl : c = n := by omega
  refine Ev.step (fun _ => rfl) ?_
  simp only [impl_Reverse.l0]
  rw [← hM, Int.toNat_natCast]
  exact ev_neg (by omega) H
 | succ d ih =>
  intro c c0 c1 hd
  have nn := st_nn v c0 c1
  have mo := v.mono c c0 (by omega)
  refine Ev.step (fun _ => rfl) ?_
  simp only [impl_Reverse.l0]
  refine ev_pos (by omega) (ev_pos c0 (ev_pos (by omega) ?_))
  have K := rev_in v M hM c c0 (by omega) (ih (c + 1) (by omega) (by omega) (by omega)) (rd st (c + 1) - (rd st c).toNat).toNat (rd st c).toNat (by omega) (by omega) (by omega)
  rw [Int.toNat_of_nonneg nn.1] at K
  exact K
theorem rev_row (M : Nat) (hM : (M : Int) = rd st n) (rows : List (List Int)) (c : Nat) (hc : c < 100000) (L : List Int) (hL : ∀ e ∈ L, 0 ≤ e ∧ e < M) (s1 : List Int) (p : List S51) {R : Int × List Int × List Int × List Int × List Int × Int} (hb : p.length + L.length ≤ 1000000)
  (H : Ev (fun k => impl_Reverse.l2 k (fromL n st M M) rows (rows.length : Int) ((c : Int) + 1) n st tos dr co n s1 ((p ++ L.map (revE n st tos dr co)).map eT) ((p ++ L.map (revE n st tos dr co)).map eD) ((p ++ L.map (revE n st tos dr co)).map eC)) R) (d : Nat) : ∀ j : Nat, j + d = L.length →
  Ev (fun k => impl_Reverse.l3 k (fromL n st M M) rows (rows.length : Int) c L (L.length : Int) j n st tos dr co n s1 ((p ++ (L.take j).map (revE n st tos dr co)).map eT) ((p ++ (L.take j).map (revE n st tos dr co)).map eD) ((p ++ (L.take j).map (revE n st tos dr co)).map eC)) R := by
 have ldr := v.ldr
 have lco := v.lco
 induction d with
 | zero =>
  intro j hj
  refine Ev.step (fun _ => rfl) ?_
  simp only [impl_Reverse.l3]
  refine ev_neg (by omega) ?_
  rw [wrap64_id (by omega) (by omega), List.take_of_length_le (by omega)]
  exact H
 | succ d ih =>
  intro j hj
  have hjl : j < L.length := by omega
  have K := ih (j + 1) (by omega)
  have b := hL _ (List.getElem_mem hjl)
  have rj : rd L (j : Int) = L[j] := by rw [rd_get (by omega) (by simpa using hjl)]; simp
  have ln : (p ++ (L.take j).map (revE n st tos dr co)).length ≤ 1000000 := by rw [List.length_append, List.length_map, List.length_take]; omega
  rw [take_snoc' L j hjl, map_snoc, ← List.append_assoc, map_snoc, map_snoc, map_snoc] at K
  have fr : rd (fromL n st M M) L[j] = owner n st L[j] := by rw [fromL_rd v M M b.1 b.2, if_pos b.2]
  refine Ev.step (fun _ => rfl) ?_
  simp only [impl_Reverse.l3]
  rw [rj, fr]
  refine ev_pos (by omega) (ev_pos (by omega) (ev_pos (by omega) (ev_pos b.1 (ev_pos (by rw [fromL_length v]; exact b.2) (ev_pos (by omega) (ev_pos (by omega) (ev_pos (by rw [List.length_map]; omega) (ev_pos (by rw [List.length_map]; omega) (ev_pos (by rw [List.length_map]; omega) ?_)))))))))
  rw [wrap64_id (by omega) (by omega)]
  exact K
theorem rev_rows (M : Nat) (hM : (M : Int) = rd st n) (N : Nat) (hN : (N : Int) = n) (d : Nat) : ∀ c : Nat, c + d = N →
  Ev (fun k => impl_Reverse.l2 k (fromL n st M M) (rowsOf (fun e => rd tos e) N (upI M)) ((rowsOf (fun e => rd tos e) N (upI M)).length : Int) c n st tos dr co n (startsTo (inRow n st tos dr co) c) ((flatTo (inRow n st tos dr co) c).map eT) ((flatTo (inRow n st tos dr co) c).map eD) ((flatTo (inRow n st tos dr co) c).map eC))
   ((gres N (inRow n st tos dr co)).1, (gres N (inRow n st tos dr co)).2.1, (gres N (inRow n st tos dr co)).2.2.1, (gres N (inRow n st tos dr co)).2.2.2.1, (gres N (inRow n st tos dr co)).2.2.2.2, 0) := by
 have n2 := v.n2
 have most := v.most
 induction d with
 | zero =>
  intro c hc
  obtain rfl : c = N := by omega
  refine Ev.step (fun _ => rfl) ?_
  simp only [impl_Reverse.l2]
  refine ev_neg (by rw [rowsOf_length]; omega) (ev_pos (by rw [startsTo_length]; omega) ?_)
  unfold gres
  rw [List.length_map, hN]
  exact Ev.now _
 | succ d ih =>
  intro c hc
  have hr : rd_L3 (rowsOf (fun e => rd tos e) N (upI M)) (c : Int) = bk (fun e => rd tos e) (upI M) (c : Int) := by
   unfold rd_L3
   exact rowsOf_getD _ N _ (by omega) (by omega)
  have hM' : (rd st n).toNat = M := by omega
  have t := bk_total (fun e => rd tos e) (c + 1) (upI M)
  rw [upI_length, flatTo, List.length_append] at t
  have fm : flatTo (inRow n st tos dr co) c = (flatTo (fun c => bk (fun e => rd tos e) (upI M) (c : Int)) c).map (revE n st tos dr co) := by
   rw [← flatTo_map]; unfold inRow; rw [hM']
  refine Ev.step (fun _ => rfl) ?_
  simp only [impl_Reverse.l2]
  refine ev_pos (by rw [rowsOf_length]; omega) (ev_pos (by omega) (ev_pos (by rw [rowsOf_length]; omega) (ev_pos (by rw [startsTo_length]; omega) ?_)))
  rw [hr]
  have K := rev_row v M hM (rowsOf (fun e => rd tos e) N (upI M)) c (by omega) (bk (fun e => rd tos e) (upI M) (c : Int)) (fun e he => upI_mem (List.mem_filter.1 he).1) (startsTo (inRow n st tos dr co) (c + 1)) (flatTo (inRow n st tos dr co) c) (by rw [fm, List.length_map]; omega) (by
   have q : flatTo (inRow n st tos dr co) c ++ (bk (fun e => rd tos e) (upI M) (c : Int)).map (revE n st tos dr co) = flatTo (inRow n st tos dr co) (c + 1) := by
    rw [flatTo]; unfold inRow; rw [hM']
   rw [q]
   exact ih (c + 1) (by omega)) _ 0 (by rw [Nat.zero_add])
  rw [List.take_zero, List.map_nil, List.append_nil] at K
  rw [List.length_map]
  exact K
theorem impl_rev_ev : Ev (fun k => impl_Reverse.f k n st tos dr co) ((gres n.toNat (inRow n st tos dr co)).1, (gres n.toNat (inRow n st tos dr co)).2.1, (gres n.toNat (inRow n st tos dr co)).2.2.1, (gres n.toNat (inRow n st tos dr co)).2.2.2.1, (gres n.toNat (inRow n st tos dr co)).2.2.2.2, 0) := by
 have n1 := v.n1
 have n2 := v.n2
 have most := v.most
 have lto := v.lto
 have nn := st_nn v (a := n) (by omega) (Int.le_refl _)
 simp only [impl_Reverse.f]
 have es := impl_ValidGraph_ev n st tos dr co
 rw [vg_true v] at es
 refine Ev.bind es (ev_pos (by trivial) (ev_pos (by omega) (ev_pos (by omega) (ev_pos (by omega) (ev_pos (by omega) ?_)))))
 have K := rev_ins v tos.length lto (by
  have := rev_rows v tos.length lto n.toNat (by omega) n.toNat 0 (by omega)
  exact this) n.toNat 0 (by omega) (by omega) (by omega)
 rw [v.zero, show upI ((0 : Int)).toNat = [] from rfl, rowsOf_nil, fromL_zero v] at K
 rw [Int.toNat_natCast]
 exact K
end
theorem reverse_both (n : Int) (st tos dr co : List Int) :
  ∃ r, Ev (fun k => spec_Reverse.f k n st tos dr co) r ∧ Ev (fun k => impl_Reverse.f k n st tos dr co) r ∧ r.2.1.length ≤ 10000 ∧ r.2.2.1.length ≤ 10000 ∧ r.2.2.2.1.length ≤ 10000 ∧ r.2.2.2.2.1.length ≤ 10000 := by
 cases hv : vg n st tos dr co with
 | false =>
  have es := spec_ValidGraph_ev n st tos dr co
  have ei := impl_ValidGraph_ev n st tos dr co
  rw [hv] at es ei
  simp only [spec_Reverse.f, impl_Reverse.f]
  exact ⟨(0, [], [], [], [], 1), Ev.bind es (ev_neg (by simp) (Ev.now _)), Ev.bind ei (ev_neg (by simp) (Ev.now _)), by simp, by simp, by simp, by simp⟩
 | true =>
  have v : ValidG n st tos dr co := by
   refine Classical.byContradiction fun q => ?_
   rw [vg_false q] at hv; cases hv
  have n1 := v.n1
  have n2 := v.n2
  have most := v.most
  have nn := st_nn v (a := n) (by omega) (Int.le_refl _)
  have fl : (flatTo (inRow n st tos dr co) n.toNat).length ≤ 6400 := by
   have fm : flatTo (inRow n st tos dr co) n.toNat = (flatTo (fun c => bk (fun e => rd tos e) (upI (rd st n).toNat) (c : Int)) n.toNat).map (revE n st tos dr co) := flatTo_map _ _ _
   have t := bk_total (fun e => rd tos e) n.toNat (upI (rd st n).toNat)
   rw [upI_length] at t
   rw [fm, List.length_map]; omega
  have s0 := startsTo_length (inRow n st tos dr co) n.toNat
  refine ⟨_, spec_rev_ev v, impl_rev_ev v, ?_, ?_, ?_, ?_⟩
  ·simp only [gres, List.length_append, List.length_singleton]; omega
  ·simp only [gres, List.length_map]; omega
  ·simp only [gres, List.length_map]; omega
  ·simp only [gres, List.length_map]; omega

def upfrom (a : Int) (n : Nat) : List Int := (List.range n).map (fun (j : Nat) => a + (j : Int))
theorem upfrom_length (a : Int) (n : Nat) : (upfrom a n).length = n := by simp [upfrom]
theorem upfrom_rd {a : Int} {n : Nat} {i : Int} (h0 : 0 ≤ i) (h1 : i < n) : rd (upfrom a n) i = a + i := by
 rw [rd_get h0 (by rw [upfrom_length]; omega)]
 simp only [upfrom, List.getElem_map, List.getElem_range]; omega

theorem markIntS_loop (n : Nat) (a : Int) (ha : 0 ≤ a) (hn : a + n ≤ 9223372036854775807) (d : Nat) : ∀ (x : List Int) (i : Int), 0 ≤ i → x.length = n → (n : Int) - i = d →
  (∀ j : Int, 0 ≤ j → j < i → rd x j = a + j) → Ev (fun k => laws_markIntS.l0 k x (a + i) i) (a + n, upfrom a n) := by
 induction d with
 | zero =>
  intro x i h0 hl hd he
  refine Ev.step (fun _ => rfl) ?_
  simp only [laws_markIntS.l0]
  refine ev_neg (by omega) ?_
  have e1 : x = upfrom a n := rd_ext (by rw [hl, upfrom_length]) (fun j p q => by rw [he j p (by omega), upfrom_rd p (by omega)])
  have e2 : i = n := by omega
  rw [e1, e2]; exact Ev.now _
 | succ d ih =>
  intro x i h0 hl hd he
  refine Ev.step (fun _ => rfl) ?_
  simp only [laws_markIntS.l0]
  refine ev_pos (by omega) (ev_pos (by omega) ?_)
  rw [wrap64_id (by omega) (by omega), wrap64_id (by omega) (by omega), show a + i + 1 = a + (i + 1) by omega]
  refine ih _ _ (by omega) (by simpa using hl) (by omega) ?_
  intro j p q
  by_cases e : j = i
  ·subst e; exact rd_set_eq (by omega) (by omega)
  ·rw [rd_set_ne (by omega) (by omega) (by omega)]; exact he j p (by omega)
theorem markIntS_ev (l : List Int) (a : Int) (ha : 0 ≤ a) (hn : a + l.length ≤ 9223372036854775807) : Ev (fun k => laws_markIntS.f k l a) (a + l.length, upfrom a l.length) := by
 have := markIntS_loop l.length a ha hn l.length l 0 (by omega) rfl (by omega) (fun j p q => by omega)
 simpa only [laws_markIntS.f, Int.add_zero] using this

theorem heldIntS_loop (n : Nat) (a : Int) (ha : 0 ≤ a) (hn : a + n ≤ 9223372036854775807) (d : Nat) : ∀ (i : Int), 0 ≤ i → (n : Int) - i = d →
  Ev (fun k => laws_heldIntS.l0 k (upfrom a n) (a + i) i) (a + n) := by
 induction d with
 | zero =>
  intro i h0 hd
  refine Ev.step (fun _ => rfl) ?_
  simp only [laws_heldIntS.l0, upfrom_length]
  refine ev_neg (by omega) ?_
  have e2 : i = n := by omega
  rw [e2]; exact Ev.now _
 | succ d ih =>
  intro i h0 hd
  refine Ev.step (fun _ => rfl) ?_
  simp only [laws_heldIntS.l0, upfrom_length]
  refine ev_pos (by omega) (ev_pos (by omega) (ev_pos (upfrom_rd h0 (by omega)) ?_))
  rw [wrap64_id (by omega) (by omega), wrap64_id (by omega) (by omega), show a + i + 1 = a + (i + 1) by omega]
  exact ih _ (by omega) (by omega)
theorem heldIntS_ev (n : Nat) (a : Int) (ha : 0 ≤ a) (hn : a + n ≤ 9223372036854775807) : Ev (fun k => laws_heldIntS.f k (upfrom a n) a) (a + n) := by
 have := heldIntS_loop n a ha hn n 0 (by omega) (by omega)
 simpa only [laws_heldIntS.f, Int.add_zero] using this

theorem markGraph_ev (n : Int) (a b c d : List Int) (ha : a.length ≤ 100000) (hb : b.length ≤ 100000) (hc : c.length ≤ 100000) (hd : d.length ≤ 100000) :
  Ev (fun k => laws_markGraph.f k n a b c d 1) (1 + a.length + b.length + c.length + d.length, upfrom 1 a.length, upfrom (1 + a.length) b.length, upfrom (1 + a.length + b.length) c.length, upfrom (1 + a.length + b.length + c.length) d.length) := by
 simp only [laws_markGraph.f]
 exact Ev.bind (markIntS_ev a 1 (by omega) (by omega)) (Ev.bind (markIntS_ev b (1 + a.length) (by omega) (by omega)) (Ev.bind (markIntS_ev c (1 + a.length + b.length) (by omega) (by omega)) (Ev.bind (markIntS_ev d (1 + a.length + b.length + c.length) (by omega) (by omega)) (Ev.now _))))
theorem heldGraph_ev (n : Int) (a b c d : Nat) (ha : a ≤ 100000) (hb : b ≤ 100000) (hc : c ≤ 100000) (hd : d ≤ 100000) :
  Ev (fun k => laws_heldGraph.f k n (upfrom 1 a) (upfrom (1 + a) b) (upfrom (1 + a + b) c) (upfrom (1 + a + b + c) d) 1) (1 + a + b + c + d) := by
 simp only [laws_heldGraph.f]
 exact Ev.bind (heldIntS_ev a 1 (by omega) (by omega)) (ev_neg (by omega) (Ev.bind (heldIntS_ev b (1 + a) (by omega) (by omega)) (ev_neg (by omega) (Ev.bind (heldIntS_ev c (1 + a + b) (by omega) (by omega)) (ev_neg (by omega) (Ev.bind (heldIntS_ev d (1 + a + b + c) (by omega) (by omega)) (ev_neg (by omega) (Ev.now _))))))))
theorem markGraph_big (n : Int) (a b c d : List Int) (h : a.length + b.length + c.length + d.length ≤ 1048576) :
  Ev (fun k => laws_markGraph.f k n a b c d 1) (1 + a.length + b.length + c.length + d.length, upfrom 1 a.length, upfrom (1 + a.length) b.length, upfrom (1 + a.length + b.length) c.length, upfrom (1 + a.length + b.length + c.length) d.length) := by
 simp only [laws_markGraph.f]
 exact Ev.bind (markIntS_ev a 1 (by omega) (by omega)) (Ev.bind (markIntS_ev b (1 + a.length) (by omega) (by omega)) (Ev.bind (markIntS_ev c (1 + a.length + b.length) (by omega) (by omega)) (Ev.bind (markIntS_ev d (1 + a.length + b.length + c.length) (by omega) (by omega)) (Ev.now _))))

theorem FnExactReverse : laws_FnExactReverse.Pure := by
 intro n st tos dr co wn w1 w2 w3 w4
 have m1 : st.length ≤ 9223372036854775807 := w1.1
 have m2 : tos.length ≤ 9223372036854775807 := w2.1
 have m3 : dr.length ≤ 9223372036854775807 := w3.1
 have m4 : co.length ≤ 9223372036854775807 := w4.1
 refine Ev.rounds (g := fun k => laws_FnExactReverse.f k n st tos dr co) ?_
 simp only [laws_FnExactReverse.f]
 obtain ⟨r, e, q⟩ := szGraph_or (n := n) m1 m2 m3 m4
 rw [e]
 refine ev_letv ?_
 rcases q with rfl | ⟨q, q0⟩
 ·exact ev_pos (by omega) (Ev.now _)
 have t := toGraph_ev n st tos dr co q
 obtain ⟨⟨gn, ga, gb, gc, gd, gx⟩, s, i, l1, l2, l3, l4⟩ := reverse_both n st tos dr co
 dsimp only at l1 l2 l3 l4
 have eq := eqGraph_self gn ga gb gc gd (by omega)
 have ea := eqGraph_self n st tos dr co (by omega)
 have ek := markGraph_big n st tos dr co (by omega)
 have em := markGraph_ev gn ga gb gc gd (by omega) (by omega) (by omega) (by omega)
 have eh := heldGraph_ev gn ga.length gb.length gc.length gd.length (by omega) (by omega) (by omega) (by omega)
 refine ev_neg (by omega) (Ev.bind t (Ev.bind s (Ev.bind t (Ev.bind i (Ev.bind eq (ev_pos (by trivial) ?_))))))
 refine Ev.step (fun _ => rfl) ?_
 simp only [laws_FnExactReverse.j0]
 refine ev_neg (by simp) (Ev.bind t (Ev.bind ea (ev_pos (by trivial) (Ev.bind ek (ev_neg (by dsimp only; omega) (Ev.bind eq (ev_pos (by trivial) ?_)))))))
 refine Ev.step (fun _ => rfl) ?_
 simp only [laws_FnExactReverse.j1]
 refine ev_neg (by simp) (Ev.bind em (Ev.bind eh (ev_neg (by omega) (ev_pos (by trivial) (Ev.bind t (Ev.bind i (Ev.bind eq (ev_pos (by trivial) ?_))))))))
 refine Ev.step (fun _ => rfl) ?_
 simp only [laws_FnExactReverse.j2]
 exact ev_neg (by simp) (Ev.bind eh (ev_neg (by omega) (ev_pos (by trivial) (Ev.now _))))

end Go.Proofs.Ytiboccbaaphbhaa.Pure
