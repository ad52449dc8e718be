/- The program's Route returns what the reference's returns, for all arguments: no condition. -/
import Derived.Test.YtiboccbaaphbhaaQFnExactRoute
namespace Go.Proofs.Ytiboccbaaphbhaa.Pure
set_option linter.unusedVariables false
set_option linter.unusedSimpArgs false
set_option linter.unusedSectionVars false
open Go.RowKit Go.Proofs.Ytiboccbaaphbhaa.PFnExactRoute Go.Proofs.YtiboccbaaphbhaaW.PrintWords Go.Proofs.YtiboccbaaphbhaaW.PrintLast Go.Proofs.YtiboccbaaphbhaaW.PrintMore
section EvLib
variable {α β : Type}
theorem ev_pos {c : Prop} [Decidable c] {A B : Nat → Option α} {r : α} (h : c) (k : Ev A r) : Ev (fun n => if c then A n else B n) r :=
 Ev.congr (fun _ => if_pos h) k
theorem ev_neg {c : Prop} [Decidable c] {A B : Nat → Option α} {r : α} (h : ¬ c) (k : Ev B r) : Ev (fun n => if c then A n else B n) r :=
 Ev.congr (fun _ => if_neg h) k
theorem ev_ite {c : Prop} [Decidable c] {A B : Nat → Option α} {r : α} (h1 : c → Ev A r) (h2 : ¬ c → Ev B r) : Ev (fun n => if c then A n else B n) r := by
 by_cases h : c
 ·exact ev_pos h (h1 h)
 ·exact ev_neg h (h2 h)
theorem ev_letv {a : α} {f : Nat → α → Option β} {r : β} (k : Ev (fun n => f n a) r) : Ev (fun n => (some a).bind (f n)) r := Ev.bind (Ev.now a) k
end EvLib
theorem wrap64_id {x : Int} (h0 : -9223372036854775808 ≤ x) (h1 : x ≤ 9223372036854775807) : wrap64 x = x := by unfold wrap64; omega
theorem rd_get {l : List Int} {i : Int} (h0 : 0 ≤ i) (h1 : i.toNat < l.length) : rd l i = l[i.toNat] := by
 unfold rd; rw [List.getD_eq_getElem?_getD, List.getElem?_eq_getElem h1]; rfl
theorem rd_set_eq {l : List Int} {i : Int} {v : Int} (h0 : 0 ≤ i) (h1 : i < l.length) : rd (l.set i.toNat v) i = v := by
 have h : i.toNat < l.length := by omega
 unfold rd; rw [List.getD_eq_getElem?_getD, List.getElem?_set_self h]; rfl
theorem rd_set_ne {l : List Int} {i j : Int} {v : Int} (h0 : 0 ≤ i) (h1 : 0 ≤ j) (h : i ≠ j) : rd (l.set i.toNat v) j = rd l j := by
 unfold rd; rw [List.getD_eq_getElem?_getD, List.getElem?_set_ne (by omega), ← List.getD_eq_getElem?_getD]
theorem rd_ext {l m : List Int} (h : l.length = m.length) (e : ∀ i : Int, 0 ≤ i → i < l.length → rd l i = rd m i) : l = m := by
 apply List.ext_getElem h; intro i h1 h2; have := e i (by omega) (by omega); rw [rd_get (by omega) (by simpa using h1), rd_get (by omega) (by simpa using h2)] at this
 simpa using this

theorem szIntS_or {l : List Int} {left : Int} (h0 : 0 ≤ left) (h1 : left ≤ 1048576) (hm : l.length ≤ 9223372036854775807) :
  ∃ r, laws_szIntS.f l left = some r ∧ (r = -1 ∨ ((l.length : Int) ≤ left ∧ r = left - l.length)) := by
 simp only [laws_szIntS.f]; rw [wrap64_id (by omega) (by omega)]
 by_cases h : left - (l.length : Int) < 0
 ·exact ⟨-1, if_pos h, .inl rfl⟩
 ·exact ⟨_, if_neg h, .inr ⟨by omega, rfl⟩⟩

theorem szGraph_or {n : Int} {st tos dr co : List Int} (h1 : st.length ≤ 9223372036854775807) (h2 : tos.length ≤ 9223372036854775807) (h3 : dr.length ≤ 9223372036854775807) (h4 : co.length ≤ 9223372036854775807) :
  ∃ r, laws_szGraph.f n st tos dr co 1048576 = some r ∧ (r = -1 ∨ (st.length + tos.length + dr.length + co.length ≤ 1048576 ∧ 0 ≤ r)) := by
 simp only [laws_szGraph.f]; obtain ⟨r1, e1, q1⟩ := szIntS_or (l := st) (left := 1048576) (by omega) (by omega) h1; rw [e1]; simp only [Option.bind_some]
 rcases q1 with rfl | ⟨a1, rfl⟩
 ·exact ⟨-1, if_pos (by omega), .inl rfl⟩
 rw [if_neg (by omega)]; obtain ⟨r2, e2, q2⟩ := szIntS_or (l := tos) (left := 1048576 - (st.length : Int)) (by omega) (by omega) h2; rw [e2]; simp only [Option.bind_some]
 rcases q2 with rfl | ⟨a2, rfl⟩
 ·exact ⟨-1, if_pos (by omega), .inl rfl⟩
 rw [if_neg (by omega)]; obtain ⟨r3, e3, q3⟩ := szIntS_or (l := dr) (left := 1048576 - (st.length : Int) - tos.length) (by omega) (by omega) h3; rw [e3]; simp only [Option.bind_some]
 rcases q3 with rfl | ⟨a3, rfl⟩
 ·exact ⟨-1, if_pos (by omega), .inl rfl⟩
 rw [if_neg (by omega)]; obtain ⟨r4, e4, q4⟩ := szIntS_or (l := co) (left := 1048576 - (st.length : Int) - tos.length - dr.length) (by omega) (by omega) h4; rw [e4]; simp only [Option.bind_some]
 rcases q4 with rfl | ⟨a4, rfl⟩
 ·exact ⟨-1, if_pos (by omega), .inl rfl⟩
 rw [if_neg (by omega)]; exact ⟨_, rfl, .inr ⟨by omega, by omega⟩⟩

theorem toIntS_loop (x0 : List Int) (hb : x0.length ≤ 35184372088832) (d : Nat) : ∀ (x3 : List Int) (i : Int), 0 ≤ i → x3.length = x0.length → (x0.length : Int) - i = d →
  (∀ j : Int, 0 ≤ j → j < i → rd x3 j = rd x0 j) → Ev (fun k => laws_toIntS.l0 k x0 x3 i) x0 := by
 induction d with
 | zero =>
  intro x3 i h0 hl hd he; refine Ev.step (fun _ => rfl) ?_; simp only [laws_toIntS.l0]; refine ev_neg (by omega) ?_; have : x3 = x0 := rd_ext hl (fun j a b => he j a (by omega)); rw [this]; exact Ev.now _
 | succ d ih =>
  intro x3 i h0 hl hd he; refine Ev.step (fun _ => rfl) ?_; simp only [laws_toIntS.l0]; refine ev_pos (by omega) (ev_pos (by omega) (ev_pos (by omega) ?_)); rw [wrap64_id (by omega) (by omega)]; refine ih _ _ (by omega) (by simpa using hl) (by omega) ?_; intro j a b
  by_cases e : j = i
  ·subst e; exact rd_set_eq (by omega) (by omega)
  ·rw [rd_set_ne (by omega) (by omega) (by omega)]; exact he j a (by omega)
theorem toIntS_ev (l : List Int) (hb : l.length ≤ 35184372088832) : Ev (fun k => laws_toIntS.f k l) l := by
 simp only [laws_toIntS.f]; refine ev_pos (by omega) (ev_pos (by omega) ?_); exact toIntS_loop l hb l.length _ 0 (by omega) (by simp) (by omega) (fun j a b => by omega)

theorem toGraph_ev (n : Int) (st tos dr co : List Int) (h : st.length + tos.length + dr.length + co.length ≤ 1048576) : Ev (fun k => laws_toGraph.f k n st tos dr co) (n, st, tos, dr, co) := by
 simp only [laws_toGraph.f]; exact Ev.bind (toIntS_ev st (by omega)) (Ev.bind (toIntS_ev tos (by omega)) (Ev.bind (toIntS_ev dr (by omega)) (Ev.bind (toIntS_ev co (by omega)) (Ev.now _))))

theorem eqIntS_loop (a b : List Int) (hl : a.length = b.length) (hb : a.length ≤ 9223372036854775800) (d : Nat) : ∀ (i : Int), 0 ≤ i → (a.length : Int) - i = d →
  (∀ j : Int, 0 ≤ j → j < i → rd a j = rd b j) → Ev (fun k => laws_eqIntS.l0 k a b i) (decide (a = b)) := by
 induction d with
 | zero =>
  intro i h0 hd he; refine Ev.step (fun _ => rfl) ?_; simp only [laws_eqIntS.l0]; refine ev_neg (by omega) ?_; have : a = b := rd_ext hl (fun j p q => he j p (by omega)); rw [decide_eq_true this]; exact Ev.now _
 | succ d ih =>
  intro i h0 hd he; refine Ev.step (fun _ => rfl) ?_; simp only [laws_eqIntS.l0]; refine ev_pos (by omega) (ev_pos (by omega) (ev_pos (by omega) (ev_ite (fun e => ?_) (fun e => ?_))))
  ·rw [wrap64_id (by omega) (by omega)]; refine ih _ (by omega) (by omega) ?_; intro j p q
   by_cases e' : j = i
   ·subst e'; exact e
   ·exact he j p (by omega)
  ·have : a ≠ b := fun h => e (by rw [h])
   rw [decide_eq_false this]; exact Ev.now _
theorem eqIntS_ev (a b : List Int) (hb : a.length ≤ 9223372036854775800) : Ev (fun k => laws_eqIntS.f k a b) (decide (a = b)) := by
 simp only [laws_eqIntS.f]; refine ev_ite (fun e => ?_) (fun e => ?_)
 ·exact eqIntS_loop a b (by omega) hb a.length 0 (by omega) (by omega) (fun j p q => by omega)
 ·have : a ≠ b := fun h => e (by rw [h])
  rw [decide_eq_false this]; exact Ev.now _
theorem eqIntS_self (a : List Int) (hb : a.length ≤ 9223372036854775800) : Ev (fun k => laws_eqIntS.f k a a) true := by
 have := eqIntS_ev a a hb
 rwa [decide_eq_true rfl] at this

theorem eqGraph_self (n : Int) (st tos dr co : List Int) (h : st.length + tos.length + dr.length + co.length ≤ 9000000000) : Ev (fun k => laws_eqGraph.f k n st tos dr co n st tos dr co) true := by
 simp only [laws_eqGraph.f]; refine ev_pos (by trivial) (Ev.bind (eqIntS_self st (by omega)) (ev_pos (by trivial) (Ev.bind (eqIntS_self tos (by omega)) (ev_pos (by trivial) (Ev.bind (eqIntS_self dr (by omega)) (ev_pos (by trivial) (Ev.bind (eqIntS_self co (by omega)) ?_))))))); exact ev_pos (by trivial) (Ev.now _)

def upfrom (a : Int) (n : Nat) : List Int := (List.range n).map (fun (j : Nat) => a + (j : Int))
theorem upfrom_length (a : Int) (n : Nat) : (upfrom a n).length = n := by simp [upfrom]
theorem upfrom_rd {a : Int} {n : Nat} {i : Int} (h0 : 0 ≤ i) (h1 : i < n) : rd (upfrom a n) i = a + i := by
 rw [rd_get h0 (by rw [upfrom_length]; omega)]; simp only [upfrom, List.getElem_map, List.getElem_range]; omega

theorem markIntS_loop (n : Nat) (a : Int) (ha : 0 ≤ a) (hn : a + n ≤ 9223372036854775807) (d : Nat) : ∀ (x : List Int) (i : Int), 0 ≤ i → x.length = n → (n : Int) - i = d →
  (∀ j : Int, 0 ≤ j → j < i → rd x j = a + j) → Ev (fun k => laws_markIntS.l0 k x (a + i) i) (a + n, upfrom a n) := by
 induction d with
 | zero =>
  intro x i h0 hl hd he; refine Ev.step (fun _ => rfl) ?_; simp only [laws_markIntS.l0]; refine ev_neg (by omega) ?_; have e1 : x = upfrom a n := rd_ext (by rw [hl, upfrom_length]) (fun j p q => by rw [he j p (by omega), upfrom_rd p (by omega)]); have e2 : i = n := by omega
  rw [e1, e2]; exact Ev.now _
 | succ d ih =>
  intro x i h0 hl hd he; refine Ev.step (fun _ => rfl) ?_; simp only [laws_markIntS.l0]; refine ev_pos (by omega) (ev_pos (by omega) ?_); rw [wrap64_id (by omega) (by omega), wrap64_id (by omega) (by omega), show a + i + 1 = a + (i + 1) by omega]; refine ih _ _ (by omega) (by simpa using hl) (by omega) ?_; intro j p q
  by_cases e : j = i
  ·subst e; exact rd_set_eq (by omega) (by omega)
  ·rw [rd_set_ne (by omega) (by omega) (by omega)]; exact he j p (by omega)
theorem markIntS_ev (l : List Int) (a : Int) (ha : 0 ≤ a) (hn : a + l.length ≤ 9223372036854775807) : Ev (fun k => laws_markIntS.f k l a) (a + l.length, upfrom a l.length) := by
 have := markIntS_loop l.length a ha hn l.length l 0 (by omega) rfl (by omega) (fun j p q => by omega)
 simpa only [laws_markIntS.f, Int.add_zero] using this

theorem heldIntS_loop (n : Nat) (a : Int) (ha : 0 ≤ a) (hn : a + n ≤ 9223372036854775807) (d : Nat) : ∀ (i : Int), 0 ≤ i → (n : Int) - i = d →
  Ev (fun k => laws_heldIntS.l0 k (upfrom a n) (a + i) i) (a + n) := by
 induction d with
 | zero =>
  intro i h0 hd; refine Ev.step (fun _ => rfl) ?_; simp only [laws_heldIntS.l0, upfrom_length]; refine ev_neg (by omega) ?_; have e2 : i = n := by omega
  rw [e2]; exact Ev.now _
 | succ d ih =>
  intro i h0 hd; refine Ev.step (fun _ => rfl) ?_; simp only [laws_heldIntS.l0, upfrom_length]; refine ev_pos (by omega) (ev_pos (by omega) (ev_pos (upfrom_rd h0 (by omega)) ?_)); rw [wrap64_id (by omega) (by omega), wrap64_id (by omega) (by omega), show a + i + 1 = a + (i + 1) by omega]; exact ih _ (by omega) (by omega)
theorem heldIntS_ev (n : Nat) (a : Int) (ha : 0 ≤ a) (hn : a + n ≤ 9223372036854775807) : Ev (fun k => laws_heldIntS.f k (upfrom a n) a) (a + n) := by
 have := heldIntS_loop n a ha hn n 0 (by omega) (by omega)
 simpa only [laws_heldIntS.f, Int.add_zero] using this

theorem markGraph_big (n : Int) (a b c d : List Int) (h : a.length + b.length + c.length + d.length ≤ 1048576) :
  Ev (fun k => laws_markGraph.f k n a b c d 1) (1 + a.length + b.length + c.length + d.length, upfrom 1 a.length, upfrom (1 + a.length) b.length, upfrom (1 + a.length + b.length) c.length, upfrom (1 + a.length + b.length + c.length) d.length) := by
 simp only [laws_markGraph.f]; exact Ev.bind (markIntS_ev a 1 (by omega) (by omega)) (Ev.bind (markIntS_ev b (1 + a.length) (by omega) (by omega)) (Ev.bind (markIntS_ev c (1 + a.length + b.length) (by omega) (by omega)) (Ev.bind (markIntS_ev d (1 + a.length + b.length + c.length) (by omega) (by omega)) (Ev.now _))))

theorem getD_lt {α : Type} {l : List α} {i : Int} {d : α} (h1 : i.toNat < l.length) : l.getD i.toNat d = l[i.toNat] := by
 rw [List.getD_eq_getElem?_getD, List.getElem?_eq_getElem h1]; rfl
theorem getD_set_eq {α : Type} {l : List α} {i : Int} {v d : α} (h0 : 0 ≤ i) (h1 : i < l.length) : (l.set i.toNat v).getD i.toNat d = v := by
 rw [List.getD_eq_getElem?_getD, List.getElem?_set_self (by omega)]; rfl
theorem getD_set_ne {α : Type} {l : List α} {i j : Int} {v d : α} (h0 : 0 ≤ i) (h1 : 0 ≤ j) (h : i ≠ j) : (l.set i.toNat v).getD j.toNat d = l.getD j.toNat d := by
 rw [List.getD_eq_getElem?_getD, List.getElem?_set_ne (by omega), ← List.getD_eq_getElem?_getD]
theorem hrd_set {l : List S67} {i j : Int} {x : S67} (i0 : 0 ≤ i) (i1 : i < l.length) (j0 : 0 ≤ j) : rd_T67 (l.set i.toNat x) j = if j = i then x else rd_T67 l j := by
 by_cases e : j = i
 ·subst e; rw [if_pos rfl]; exact getD_set_eq i0 i1
 ·rw [if_neg e]; exact getD_set_ne i0 j0 (fun q => e q.symm)
theorem hsw_rd {l : List S67} {i j m : Int} (i0 : 0 ≤ i) (i1 : i < l.length) (j0 : 0 ≤ j) (j1 : j < l.length) (m0 : 0 ≤ m) : rd_T67 (impl_Route.sw l i j) m = if m = j then rd_T67 l i else if m = i then rd_T67 l j else rd_T67 l m := by
 unfold impl_Route.sw; rw [hrd_set j0 (by rw [List.length_set]; exact j1) m0, hrd_set i0 i1 m0]
theorem hsw_len (l : List S67) (i j : Int) : (impl_Route.sw l i j).length = l.length := by unfold impl_Route.sw; rw [List.length_set, List.length_set]
def hHas (l : List S67) (x : S67) : Prop := ∃ m : Int, 0 ≤ m ∧ m < l.length ∧ rd_T67 l m = x
theorem hsw_has {l : List S67} {i j : Int} (i0 : 0 ≤ i) (i1 : i < l.length) (j0 : 0 ≤ j) (j1 : j < l.length) (x : S67) : hHas (impl_Route.sw l i j) x ↔ hHas l x := by
 constructor
 ·rintro ⟨m, m0, m1, rfl⟩; rw [hsw_len] at m1; rw [hsw_rd i0 i1 j0 j1 m0]
  split
  ·exact ⟨i, i0, i1, rfl⟩
  ·split
   ·exact ⟨j, j0, j1, rfl⟩
   ·exact ⟨m, m0, m1, rfl⟩
 ·rintro ⟨m, m0, m1, rfl⟩
  by_cases e : m = i
  ·subst e; exact ⟨j, j0, by rw [hsw_len]; exact j1, by rw [hsw_rd i0 i1 j0 j1 j0, if_pos rfl]⟩
  ·by_cases e2 : m = j
   ·subst e2; refine ⟨i, i0, by rw [hsw_len]; exact i1, ?_⟩; rw [hsw_rd i0 i1 j0 j1 i0, if_neg (fun q => e q.symm), if_pos rfl]
   ·exact ⟨m, m0, by rw [hsw_len]; exact m1, by rw [hsw_rd i0 i1 j0 j1 m0, if_neg e2, if_neg e]⟩
def hOrd (l : List S67) : Prop := ∀ j : Int, 0 < j → j < l.length → (rd_T67 l ((j - 1) / 2)).f1 ≤ (rd_T67 l j).f1
theorem up_ok (k : Nat) : ∀ (l : List S67) (i : Int), 0 ≤ i → i < l.length → i < k → (∀ j : Int, 0 < j → j < l.length → j ≠ i → (rd_T67 l ((j - 1) / 2)).f1 ≤ (rd_T67 l j).f1) →
  (∀ j : Int, 0 < j → j < l.length → (j - 1) / 2 = i → 0 < i → (rd_T67 l ((i - 1) / 2)).f1 ≤ (rd_T67 l j).f1) →
  ∃ l', impl_Route.up k l i = some l' ∧ hOrd l' ∧ l'.length = l.length ∧ ∀ x, hHas l' x ↔ hHas l x := by
 induction k with
 | zero => intro l i i0 i1 ik; omega
 | succ k ih =>
  intro l i i0 i1 ik c1 c2; rw [impl_Route.up]
  by_cases ip : 0 < i
  ·rw [if_pos ip]; obtain ⟨p, hp⟩ : ∃ p, p = (i - 1) / 2 := ⟨_, rfl⟩; rw [← hp]
   by_cases lt : (rd_T67 l i).f1 < (rd_T67 l p).f1
   ·rw [if_pos lt]; have p0 : 0 ≤ p := by omega
    have p1 : p < l.length := by omega
    obtain ⟨l', e, o, n, h⟩ := ih (impl_Route.sw l i p) p p0 (by rw [hsw_len]; exact p1) (by omega) (by
     intro j j0 j1 jp; rw [hsw_len] at j1; rw [hsw_rd i0 i1 p0 p1 (by omega : 0 ≤ (j - 1) / 2), hsw_rd i0 i1 p0 p1 (by omega : 0 ≤ j), if_neg jp]
     by_cases ji : j = i
     ·subst ji; rw [if_pos hp.symm, if_pos rfl]
      omega
     ·rw [if_neg ji]; have q := c1 j j0 j1 ji
      by_cases qp : (j - 1) / 2 = p
      ·rw [if_pos qp]; rw [qp] at q
       omega
      ·rw [if_neg qp]
       by_cases qi : (j - 1) / 2 = i
       ·rw [if_pos qi]; have q2 := c2 j j0 j1 qi ip; rw [← hp] at q2; exact q2
       ·rw [if_neg qi]; exact q) (by
     intro j j0 j1 jq pp; rw [hsw_len] at j1; have q := c1 p pp (by omega) (by omega); rw [hsw_rd i0 i1 p0 p1 (by omega : 0 ≤ (p - 1) / 2), hsw_rd i0 i1 p0 p1 (by omega : 0 ≤ j), if_neg (by omega : ¬ (p - 1) / 2 = p), if_neg (by omega : ¬ (p - 1) / 2 = i), if_neg (by omega : ¬ j = p)]
     by_cases ji : j = i
     ·rw [if_pos ji]; exact q
     ·rw [if_neg ji]; have q2 := c1 j j0 j1 ji; rw [jq] at q2
      omega)
    exact ⟨l', e, o, by rw [n, hsw_len], fun x => (h x).trans (hsw_has i0 i1 p0 p1 x)⟩
   ·rw [if_neg lt]; refine ⟨l, rfl, fun j j0 j1 => ?_, rfl, fun _ => Iff.rfl⟩
    by_cases ji : j = i
    ·subst ji; rw [← hp]; omega
    ·exact c1 j j0 j1 ji
  ·rw [if_neg ip]; exact ⟨l, rfl, fun j j0 j1 => c1 j j0 j1 (by omega), rfl, fun _ => Iff.rfl⟩
theorem hrd_snoc {l : List S67} {v : S67} {j : Int} (j0 : 0 ≤ j) (j1 : j ≤ l.length) : rd_T67 (l ++ [v]) j = if j = l.length then v else rd_T67 l j := by
 unfold rd_T67
 split
 ·rename_i e; have : j.toNat = l.length := by omega
  rw [this, List.getD_eq_getElem?_getD, List.getElem?_append_right (Nat.le_refl _)]; simp
 ·rename_i e; rw [List.getD_eq_getElem?_getD, List.getD_eq_getElem?_getD, List.getElem?_append_left (by omega)]
theorem hput_ok {l : List S67} (o : hOrd l) (n : l.length < 1000000) (v : S67) : ∃ l', impl_Route.hput l v = some l' ∧ hOrd l' ∧ l'.length = l.length + 1 ∧ ∀ x, hHas l' x ↔ (hHas l x ∨ x = v) := by
 have ln : (l ++ [v]).length = l.length + 1 := by rw [List.length_append, List.length_singleton]
 obtain ⟨l', e, o', n', h⟩ := up_ok (l.length + 1) (l ++ [v]) l.length (by omega) (by omega) (by omega) (by
  intro j j0 j1 jn; rw [hrd_snoc (by omega) (by omega), hrd_snoc (by omega) (by omega), if_neg (by omega), if_neg jn]
  exact o j j0 (by omega)) (by intro j j0 j1 jq; omega)
 refine ⟨l', by unfold impl_Route.hput; rw [if_pos n]; exact e, o', by omega, fun x => (h x).trans ⟨?_, ?_⟩⟩
 ·rintro ⟨m, m0, m1, rfl⟩; rw [hrd_snoc m0 (by omega)]
  split
  ·exact .inr rfl
  ·exact .inl ⟨m, m0, by omega, rfl⟩
 ·rintro (⟨m, m0, m1, rfl⟩ | rfl)
  ·exact ⟨m, m0, by omega, by rw [hrd_snoc m0 (by omega), if_neg (by omega)]⟩
  ·exact ⟨l.length, by omega, by omega, by rw [hrd_snoc (by omega) (by omega), if_pos rfl]⟩
theorem bs_ok (l : List S67) (i : Int) (i0 : 0 ≤ i) : ∃ b, impl_Route.bs l i 4 (2 * i + 1) i = some b ∧ (b = i ∨ ((b = 2 * i + 1 ∨ b = 2 * i + 2) ∧ b < l.length)) ∧ (rd_T67 l b).f1 ≤ (rd_T67 l i).f1 ∧ ∀ j : Int, (j = 2 * i + 1 ∨ j = 2 * i + 2) → j < l.length → (rd_T67 l b).f1 ≤ (rd_T67 l j).f1 := by
 by_cases g1 : 2 * i + 1 < l.length
 ·by_cases g2 : 2 * i + 2 < l.length
  ·rw [impl_Route.bs, if_pos ⟨by omega, g1⟩, impl_Route.bs, show 2 * i + 1 + 1 = 2 * i + 2 by omega, if_pos ⟨by omega, g2⟩, impl_Route.bs, if_neg (by omega)]
   by_cases a : (rd_T67 l (2 * i + 1)).f1 < (rd_T67 l i).f1
   ·rw [if_pos a]
    by_cases b : (rd_T67 l (2 * i + 2)).f1 < (rd_T67 l (2 * i + 1)).f1
    ·rw [if_pos b]; exact ⟨_, rfl, .inr ⟨.inr rfl, g2⟩, by omega, fun j hj _ => by rcases hj with rfl | rfl <;> omega⟩
    ·rw [if_neg b]; exact ⟨_, rfl, .inr ⟨.inl rfl, g1⟩, by omega, fun j hj _ => by rcases hj with rfl | rfl <;> omega⟩
   ·rw [if_neg a]
    by_cases b : (rd_T67 l (2 * i + 2)).f1 < (rd_T67 l i).f1
    ·rw [if_pos b]; exact ⟨_, rfl, .inr ⟨.inr rfl, g2⟩, by omega, fun j hj _ => by rcases hj with rfl | rfl <;> omega⟩
    ·rw [if_neg b]; exact ⟨_, rfl, .inl rfl, by omega, fun j hj _ => by rcases hj with rfl | rfl <;> omega⟩
  ·rw [impl_Route.bs, if_pos ⟨by omega, g1⟩, impl_Route.bs, if_neg (by omega)]
   by_cases a : (rd_T67 l (2 * i + 1)).f1 < (rd_T67 l i).f1
   ·rw [if_pos a]; exact ⟨_, rfl, .inr ⟨.inl rfl, g1⟩, by omega, fun j hj jl => by rcases hj with rfl | rfl <;> omega⟩
   ·rw [if_neg a]; exact ⟨_, rfl, .inl rfl, by omega, fun j hj jl => by rcases hj with rfl | rfl <;> omega⟩
 ·rw [impl_Route.bs, if_neg (by omega)]; exact ⟨_, rfl, .inl rfl, by omega, fun j hj jl => by rcases hj with rfl | rfl <;> omega⟩
theorem down_ok (k : Nat) : ∀ (l : List S67) (i : Int), 0 ≤ i → (i ≤ l.length) → (l.length : Int) - i < k → (∀ j : Int, 0 < j → j < l.length → (j - 1) / 2 ≠ i → (rd_T67 l ((j - 1) / 2)).f1 ≤ (rd_T67 l j).f1) →
  (∀ j : Int, 0 < j → j < l.length → (j - 1) / 2 = i → 0 < i → (rd_T67 l ((i - 1) / 2)).f1 ≤ (rd_T67 l j).f1) →
  ∃ l', impl_Route.down k l i = some l' ∧ hOrd l' ∧ l'.length = l.length ∧ ∀ x, hHas l' x ↔ hHas l x := by
 induction k with
 | zero => intro l i i0 i1 ik; omega
 | succ k ih =>
  intro l i i0 il ik c1 c2; obtain ⟨b, eb, bb, bi, bm⟩ := bs_ok l i i0; rw [impl_Route.down, eb, Option.bind_some]
  by_cases e : b = i
  ·rw [if_pos e]; subst e; refine ⟨l, rfl, fun j j0 j1 => ?_, rfl, fun _ => Iff.rfl⟩
   by_cases q : (j - 1) / 2 = b
   ·rw [q]; exact bm j (by omega) j1
   ·exact c1 j j0 j1 q
  ·rw [if_neg e]; have b1 : b < l.length := by rcases bb with h | h; exact absurd h e; exact h.2
   have b2 : b = 2 * i + 1 ∨ b = 2 * i + 2 := by rcases bb with h | h; exact absurd h e; exact h.1
   have i1 : i < l.length := by omega
   have b0 : 0 ≤ b := by omega
   rw [if_pos ⟨b0, b1, i1⟩]
   obtain ⟨l', e', o, n, h⟩ := ih (impl_Route.sw l i b) b b0 (by rw [hsw_len]; omega) (by rw [hsw_len]; omega) (by
    intro j j0 j1 jq; rw [hsw_len] at j1; rw [hsw_rd i0 i1 b0 b1 (by omega : 0 ≤ (j - 1) / 2), hsw_rd i0 i1 b0 b1 (by omega : 0 ≤ j), if_neg jq]
    by_cases jb : j = b
    ·rw [if_pos jb, if_pos (by omega : (j - 1) / 2 = i)]; exact bi
    ·rw [if_neg jb]
     by_cases ji : j = i
     ·rw [if_pos ji, if_neg (by omega : ¬ (j - 1) / 2 = i)]; have q := c2 b (by omega) b1 (by omega) (by omega); rw [ji]; exact q
     ·rw [if_neg ji]
      by_cases qi : (j - 1) / 2 = i
      ·rw [if_pos qi]; exact bm j (by omega) j1
      ·rw [if_neg qi]; exact c1 j j0 j1 qi) (by
    intro j j0 j1 jq bp; rw [hsw_len] at j1; rw [show (b - 1) / 2 = i by omega, hsw_rd i0 i1 b0 b1 i0, hsw_rd i0 i1 b0 b1 (by omega : 0 ≤ j), if_neg (fun q => e q.symm), if_pos rfl, if_neg (by omega : ¬ j = b), if_neg (by omega : ¬ j = i)]; have q := c1 j j0 j1 (by omega); rw [jq] at q
    exact q)
   exact ⟨l', e', o, by rw [n, hsw_len], fun x => (h x).trans (hsw_has i0 i1 b0 b1 x)⟩
theorem hOrd.min {l : List S67} (o : hOrd l) (d : Nat) : ∀ m : Int, 0 ≤ m → m < l.length → m ≤ d → (rd_T67 l 0).f1 ≤ (rd_T67 l m).f1 := by
 induction d with
 | zero => intro m m0 m1 md; rw [show m = 0 by omega]; exact Int.le_refl _
 | succ d ih =>
  intro m m0 m1 md
  by_cases e : m = 0
  ·rw [e]; exact Int.le_refl _
  ·have a := ih ((m - 1) / 2) (by omega) (by omega) (by omega); have b := o m (by omega) m1
   omega
theorem htake_ok {l : List S67} (o : hOrd l) (n1 : 1 ≤ l.length) (n2 : l.length ≤ 1000000) : ∃ l', impl_Route.htake l = some (rd_T67 l 0, l') ∧ hOrd l' ∧ l'.length + 1 = l.length ∧ (∀ x, hHas l x → hHas l' x ∨ x = rd_T67 l 0) ∧ (∀ x, hHas l' x → hHas l x) ∧ ∀ x, hHas l x → (rd_T67 l 0).f1 ≤ x.f1 := by
 obtain ⟨m, hm⟩ : ∃ m, m = (l.set 0 (rd_T67 l ((l.length : Int) - 1))).take (l.length - 1) := ⟨_, rfl⟩; have ml : m.length + 1 = l.length := by rw [hm, List.length_take, List.length_set]; omega
 have mr : ∀ j : Int, 0 ≤ j → j < m.length → rd_T67 m j = if j = 0 then rd_T67 l ((l.length : Int) - 1) else rd_T67 l j := by
  intro j j0 j1; have a : rd_T67 m j = rd_T67 (l.set (0 : Int).toNat (rd_T67 l ((l.length : Int) - 1))) j := by
   have e : (List.take (l.length - 1) (l.set 0 (rd_T67 l ((l.length : Int) - 1))))[j.toNat]? = (l.set 0 (rd_T67 l ((l.length : Int) - 1)))[j.toNat]? := List.getElem?_take_of_lt (by omega); rw [hm]; generalize hv : rd_T67 l ((l.length : Int) - 1) = v at e ⊢; unfold rd_T67; rw [List.getD_eq_getElem?_getD, e, List.getD_eq_getElem?_getD]
   rfl
  rw [a, hrd_set (Int.le_refl 0) (by omega) j0]
 obtain ⟨l', e, o', n', h⟩ := down_ok (l.length + 1) m 0 (Int.le_refl 0) (by omega) (by omega) (by
  intro j j0 j1 jq; rw [mr _ (by omega) (by omega), mr _ (by omega) (by omega), if_neg jq, if_neg (by omega)]
  exact o j j0 (by omega)) (by intro j _ _ _ q; omega)
 have hmin : ∀ x, hHas l x → (rd_T67 l 0).f1 ≤ x.f1 := by
  rintro x ⟨q, q0, q1, rfl⟩; exact o.min q.toNat q q0 q1 (by omega)
 refine ⟨l', by unfold impl_Route.htake; rw [if_pos ⟨n1, n2⟩, ← hm, e, Option.bind_some], o', by omega, ?_, ?_, hmin⟩
 ·rintro x ⟨q, q0, q1, rfl⟩
  by_cases e0 : q = 0
  ·exact .inr (by rw [e0])
  ·refine .inl ((h _).2 ?_)
   by_cases e1 : q = (l.length : Int) - 1
   ·by_cases e2 : m.length = 0
    ·omega
    ·exact ⟨0, Int.le_refl 0, by omega, by rw [mr 0 (Int.le_refl 0) (by omega), if_pos rfl, e1]⟩
   ·exact ⟨q, q0, by omega, by rw [mr q q0 (by omega), if_neg e0]⟩
 ·intro x hx; obtain ⟨q, q0, q1, rfl⟩ := (h x).1 hx; rw [mr q q0 q1]
  split
  ·exact ⟨(l.length : Int) - 1, by omega, by omega, rfl⟩
  ·exact ⟨q, q0, by omega, rfl⟩

def WayC (E : Int → Int → Int → Prop) (t v x : Int) : Prop := ∀ P : Int → Int → Prop, P t 0 → (∀ a b c y, E a b c → P b y → P a (y + c)) → P v x
theorem WayC.here (E : Int → Int → Int → Prop) (t : Int) : WayC E t t 0 := fun _ h _ => h
theorem WayC.on {E : Int → Int → Int → Prop} {t a b c y : Int} (e : E a b c) (h : WayC E t b y) : WayC E t a (y + c) := fun P p0 p1 => p1 a b c y e (h P p0 p1)
structure IsDist (n : Int) (E : Int → Int → Int → Prop) (t : Int) (d : List Int) : Prop where
 len : (d.length : Int) = n
 tgt : rd d t = 0
 val : ∀ v : Int, 0 ≤ v → v < n → rd d v = -1 ∨ (0 ≤ rd d v ∧ WayC E t v (rd d v))
 cls : ∀ a b c : Int, E a b c → 0 ≤ rd d b → 0 ≤ rd d a ∧ rd d a ≤ rd d b + c
theorem IsDist.le {n : Int} {E : Int → Int → Int → Prop} {t : Int} {d1 d2 : List Int} (h1 : IsDist n E t d1) (h2 : IsDist n E t d2) {v : Int} (v0 : 0 ≤ v) (v1 : v < n) (p : 0 ≤ rd d1 v) : 0 ≤ rd d2 v ∧ rd d2 v ≤ rd d1 v := by
 rcases h1.val v v0 v1 with h | h
 ·omega
 ·refine h.2 (fun a y => 0 ≤ rd d2 a ∧ rd d2 a ≤ y) (by rw [h2.tgt]; omega) (fun a b c y e q => ?_); have := h2.cls a b c e q.1
  omega
theorem IsDist.unique {n : Int} {E : Int → Int → Int → Prop} {t : Int} {d1 d2 : List Int} (h1 : IsDist n E t d1) (h2 : IsDist n E t d2) : d1 = d2 := by
 have l1 := h1.len; have l2 := h2.len; refine rd_ext (by omega) (fun v v0 v1 => ?_); have vn : v < n := by omega
 rcases h1.val v v0 vn with a | a
 ·rcases h2.val v v0 vn with b | b
  ·rw [a, b]
  ·have := h2.le h1 v0 vn b.1; omega
 ·have p := h1.le h2 v0 vn a.1; have q := h2.le h1 v0 vn p.1
  omega
structure BackG (n : Int) (E : Int → Int → Int → Prop) (bs bt bc : List Int) : Prop where
 n1 : 1 ≤ n
 n2 : n ≤ 1600
 len : (bs.length : Int) = n + 1
 lt : bt.length = bc.length
 small : bt.length ≤ 6400
 zero : 0 ≤ rd bs 0
 rng : ∀ b : Int, 0 ≤ b → b < n → 0 ≤ rd bs b ∧ rd bs b ≤ rd bs (b + 1) ∧ rd bs (b + 1) ≤ bt.length
 one : ∀ b : Int, 0 ≤ b → b < n → ∀ e : Int, rd bs b ≤ e → e < rd bs (b + 1) → (0 ≤ rd bt e ∧ rd bt e < n) ∧ (1 ≤ rd bc e ∧ rd bc e ≤ 9) ∧ E (rd bt e) b (rd bc e)
 all : ∀ a b c : Int, E a b c → 0 ≤ b ∧ b < n ∧ ∃ e : Int, rd bs b ≤ e ∧ e < rd bs (b + 1) ∧ rd bt e = a ∧ rd bc e = c
section
variable {n : Int} {E : Int → Int → Int → Prop} {bs bt bc : List Int} (g : BackG n E bs bt bc)
include g
theorem ins_ok (x en : Int) (x0 : 0 ≤ x) (x1 : x ≤ 100000) (en1 : en ≤ bt.length) (m : Nat) : ∀ (k : Nat) (e : Int) (l : List S67), m < k → 0 ≤ e → e + m = en → hOrd l → l.length + m < 1000000 → (∀ e' : Int, e ≤ e' → e' < en → 1 ≤ rd bc e' ∧ rd bc e' ≤ 9) →
  ∃ l3, impl_Route.ins bt bc x en k e l = some l3 ∧ hOrd l3 ∧ l3.length = l.length + m ∧ ∀ y, hHas l3 y ↔ (hHas l y ∨ ∃ e' : Int, e ≤ e' ∧ e' < en ∧ y = ⟨rd bt e', x + rd bc e'⟩) := by
 have lt := g.lt; have sm := g.small
 induction m with
 | zero =>
  intro k e l mk e0 ee o n1 _; cases k with
  | zero => omega
  | succ k =>
   refine ⟨l, by rw [impl_Route.ins, if_neg (by omega)], o, rfl, fun y => ⟨.inl, ?_⟩⟩; rintro (h | ⟨e', a, b, _⟩)
   ·exact h
   ·omega
 | succ m ih =>
  intro k e l mk e0 ee o n1 hc; cases k with
  | zero => omega
  | succ k =>
   have c := hc e (Int.le_refl _) (by omega); obtain ⟨l', e1, o1, n', h1⟩ := hput_ok o (by omega) ⟨rd bt e, x + rd bc e⟩; obtain ⟨l3, e2, o2, n2, h2⟩ := ih k (e + 1) l' (by omega) (by omega) (by omega) o1 (by omega) (fun e' a b => hc e' (by omega) b); refine ⟨l3, ?_, o2, by omega, fun y => ?_⟩
   ·rw [impl_Route.ins, if_pos (by omega), if_pos ⟨e0, by omega, by omega, by omega⟩, wrap64_id (by omega) (by omega), e1, Option.bind_some]; exact e2
   ·rw [h2, h1]
    constructor
    ·rintro ((h | h) | ⟨e', a, b, h⟩)
     ·exact .inl h
     ·exact .inr ⟨e, Int.le_refl _, by omega, h⟩
     ·exact .inr ⟨e', by omega, b, h⟩
    ·rintro (h | ⟨e', a, b, h⟩)
     ·exact .inl (.inl h)
     ·by_cases q : e' = e
      ·subst q; exact .inl (.inr h)
      ·exact .inr ⟨e', by omega, b, h⟩
omit g in
def potf (bs d : List Int) : Nat → Int
 | 0 => 0
 | m + 1 => potf bs d m + (if rd d m < 0 then rd bs ((m : Int) + 1) - rd bs m else 0)
theorem potf_le (d : List Int) (m : Nat) (hm : (m : Int) ≤ n) : 0 ≤ potf bs d m ∧ potf bs d m ≤ rd bs m - rd bs 0 := by
 induction m with
 | zero => simp [potf]
 | succ m ih =>
  have a := ih (by omega); have b := g.rng m (by omega) (by omega); have e : ((m + 1 : Nat) : Int) = (m : Int) + 1 := by omega
  rw [potf, e]
  split <;> omega
omit g in
theorem potf_set (d : List Int) (b v : Int) (b0 : 0 ≤ b) (b1 : b < d.length) (hb : rd d b < 0) (hv : 0 ≤ v) (m : Nat) : potf bs (d.set b.toNat v) m = potf bs d m - (if b < m then rd bs (b + 1) - rd bs b else 0) := by
 induction m with
 | zero => rw [potf, potf, if_neg (by omega)]; omega
 | succ m ih =>
  rw [potf, potf, ih]
  by_cases e : b = m
  ·subst e; rw [rd_set_eq b0 b1, if_neg (by omega), if_neg (by omega), if_pos hb, if_pos (by omega)]
   omega
  ·rw [rd_set_ne b0 (by omega) e]
   by_cases q : b < m
   ·rw [if_pos q, if_pos (show b < ((m + 1 : Nat) : Int) by omega)]; omega
   ·rw [if_neg q, if_neg (show ¬ b < ((m + 1 : Nat) : Int) by omega)]; omega
structure DI (n : Int) (E : Int → Int → Int → Prop) (t B : Int) (l : List S67) (d : List Int) : Prop where
 o : hOrd l
 len : (d.length : Int) = n
 src : ∀ y, hHas l y → (0 ≤ y.f0 ∧ y.f0 < n) ∧ (0 ≤ y.f1 ∧ y.f1 ≤ B) ∧ WayC E t y.f0 y.f1
 set : ∀ v : Int, 0 ≤ v → v < n → rd d v = -1 ∨ (0 ≤ rd d v ∧ WayC E t v (rd d v) ∧ ∀ y, hHas l y → rd d v ≤ y.f1)
 tgt : rd d t = 0 ∨ hHas l ⟨t, 0⟩
 cls : ∀ a b c : Int, E a b c → 0 ≤ rd d b → (0 ≤ rd d a ∧ rd d a ≤ rd d b + c) ∨ hHas l ⟨a, rd d b + c⟩
theorem dij_ok (t : Int) (t0 : 0 ≤ t) (t1 : t < n) (k : Nat) : ∀ (l : List S67) (d : List Int), DI n E t (9 * (6402 - k)) l d → k ≤ 6402 → (l.length : Int) + potf bs d n.toNat < k → ∃ r, impl_Route.dij bs bt bc k l d = some r ∧ IsDist n E t r := by
 have n1 := g.n1; have n2 := g.n2; have bl := g.len; have sm := g.small
 induction k with
 | zero => intro l d i k1 kk; have := (potf_le g d n.toNat (by omega)).1; omega
 | succ k ih =>
  intro l d i k1 kk; have pp := potf_le g d n.toNat (by omega); have dl := i.len; rw [impl_Route.dij]
  by_cases c : 0 < l.length
  ·rw [if_pos c]; obtain ⟨l', e, o, nl, h1, h2, h3⟩ := htake_ok i.o (by omega) (by omega); generalize hy : rd_T67 l 0 = y at e h1 h3; have hay : hHas l y := ⟨0, Int.le_refl 0, by omega, hy⟩; have sy := i.src y hay; rw [e, Option.bind_some]; simp only; rw [if_pos ⟨sy.1.1, by omega, by omega, by omega, by omega⟩]
   by_cases s : rd d y.f0 ≥ 0
   ·rw [if_pos s]; have dy : rd d y.f0 ≤ y.f1 := by
     rcases i.set y.f0 sy.1.1 sy.1.2 with q | q
     ·omega
     ·exact q.2.2 y hay
    refine ih l' d ⟨o, dl, fun x hx => ?_, fun v v0 v1 => ?_, ?_, fun a b c ee hb => ?_⟩ (by omega) (by omega)
    ·have := i.src x (h2 x hx); exact ⟨this.1, ⟨this.2.1.1, by omega⟩, this.2.2⟩
    ·rcases i.set v v0 v1 with q | q
     ·exact .inl q
     ·exact .inr ⟨q.1, q.2.1, fun x hx => q.2.2 x (h2 x hx)⟩
    ·rcases i.tgt with q | q
     ·exact .inl q
     ·rcases h1 _ q with q | q
      ·exact .inr q
      ·left
       rw [← q] at s dy; simp only at s dy
       omega
    ·rcases i.cls a b c ee hb with q | q
     ·exact .inl q
     ·rcases h1 _ q with q | q
      ·exact .inr q
      ·left
       rw [← q] at s dy; simp only at s dy; exact ⟨s, dy⟩
   ·rw [if_neg s]; have rg := g.rng y.f0 sy.1.1 sy.1.2; have one := g.one y.f0 sy.1.1 sy.1.2; obtain ⟨m, hm⟩ : ∃ m : Nat, rd bs y.f0 + m = rd bs (y.f0 + 1) := ⟨(rd bs (y.f0 + 1) - rd bs y.f0).toNat, by omega⟩; obtain ⟨l3, e3, o3, n3, h4⟩ := ins_ok g y.f1 (rd bs (y.f0 + 1)) sy.2.1.1 (by omega) rg.2.2 m (bt.length + 1) (rd bs y.f0) l' (by omega) rg.1 hm o (by omega) (fun e' a b => (one e' a b).2.1); rw [e3, Option.bind_some]; have ps := potf_set (bs := bs) d y.f0 y.f1 sy.1.1 (by omega) (by omega) sy.2.1.1 n.toNat; rw [if_pos (by omega)] at ps; have rs : ∀ v : Int, 0 ≤ v → rd (d.set y.f0.toNat y.f1) v = if v = y.f0 then y.f1 else rd d v := by
     intro v v0
     by_cases q : v = y.f0
     ·subst q; rw [if_pos rfl]; exact rd_set_eq sy.1.1 (by omega)
     ·rw [if_neg q]; exact rd_set_ne sy.1.1 v0 (fun z => q z.symm)
    have old : ∀ v : Int, 0 ≤ v → v < n → 0 ≤ rd d v → rd d v ≤ y.f1 := fun v v0 v1 q => (i.set v v0 v1).elim (fun z => by omega) (fun z => z.2.2 y hay)
    refine ih l3 (d.set y.f0.toNat y.f1) ⟨o3, by rw [List.length_set]; exact dl, fun x hx => ?_, fun v v0 v1 => ?_, ?_, fun a b c ee hb => ?_⟩ (by omega) (by omega)
    ·rcases (h4 x).1 hx with q | ⟨e', a, b, rfl⟩
     ·have := i.src x (h2 x q); exact ⟨this.1, ⟨this.2.1.1, by omega⟩, this.2.2⟩
     ·have z := one e' a b; exact ⟨z.1, ⟨by simp only; omega, by simp only; omega⟩, WayC.on z.2.2 sy.2.2⟩
    ·rw [rs v v0]; have hall : ∀ x, hHas l3 x → y.f1 ≤ x.f1 := by
      intro x hx
      rcases (h4 x).1 hx with q | ⟨e', a, b, rfl⟩
      ·exact h3 x (h2 x q)
      ·have z := one e' a b; simp only
       omega
     by_cases q : v = y.f0
     ·rw [if_pos q, q]; exact .inr ⟨sy.2.1.1, sy.2.2, hall⟩
     ·rw [if_neg q]
      rcases i.set v v0 v1 with z | z
      ·exact .inl z
      ·exact .inr ⟨z.1, z.2.1, fun x hx => by have := hall x hx; have := z.2.2 y hay; omega⟩
    ·rw [rs t t0]
     by_cases q : t = y.f0
     ·rw [if_pos q]
      rcases i.tgt with z | z
      ·rw [q] at z; omega
      ·have := h3 _ z; simp only at this
       left; omega
     ·rw [if_neg q]
      rcases i.tgt with z | z
      ·exact .inl z
      ·rcases h1 _ z with w | w
       ·exact .inr ((h4 _).2 (.inl w))
       ·exact absurd (by rw [← w]) q
    ·obtain ⟨b0, b1, e', ea, eb, ec, ed⟩ := g.all a b c ee; have za := one; have arg : 0 ≤ a ∧ a < n := by
      have := (g.one b b0 b1 e' ea eb).1; rw [ec] at this; exact this
     have c1 : 1 ≤ c := by
      have := (g.one b b0 b1 e' ea eb).2.1.1; rw [ed] at this; exact this
     rw [rs b b0] at hb ⊢; rw [rs a arg.1]
     by_cases qb : b = y.f0
     ·rw [if_pos qb]
      right
      refine (h4 _).2 (.inr ⟨e', by rw [← qb]; exact ea, by rw [← qb]; exact eb, by rw [ec, ed]⟩)
     ·rw [if_neg qb] at hb ⊢
      rcases i.cls a b c ee hb with z | z
      ·left
       by_cases qa : a = y.f0
       ·rw [qa] at z; omega
       ·rw [if_neg qa]; exact z
      ·by_cases qa : a = y.f0
       ·left
        rw [if_pos qa]; have := h3 _ z; simp only at this; exact ⟨sy.2.1.1, this⟩
       ·rcases h1 _ z with w | w
        ·exact .inr ((h4 _).2 (.inl w))
        ·exact absurd (by rw [← w]) qa
  ·rw [if_neg c]; have no : ∀ x, ¬ hHas l x := by rintro x ⟨m, m0, m1, _⟩; omega
   refine ⟨d, rfl, dl, (i.tgt).elim id (fun z => absurd z (no _)), fun v v0 v1 => (i.set v v0 v1).imp id (fun z => ⟨z.1, z.2.1⟩), fun a b c ee hb => (i.cls a b c ee hb).elim id (fun z => absurd z (no _))⟩
theorem dij_start (t : Int) (t0 : 0 ≤ t) (t1 : t < n) : ∃ h r, impl_Route.hput [] ⟨t, 0⟩ = some h ∧ impl_Route.dij bs bt bc (bt.length + 2) h (List.replicate n.toNat (-1)) = some r ∧ IsDist n E t r := by
 have n1 := g.n1; have n2 := g.n2; have sm := g.small; have z0 := g.zero; have last := g.rng (n - 1) (by omega) (by omega); rw [show n - 1 + 1 = n by omega] at last; have rr : ∀ v : Int, 0 ≤ v → v < n → rd (List.replicate n.toNat (-1)) v = -1 := by
  intro v v0 v1; rw [rd_get v0 (by rw [List.length_replicate]; omega), List.getElem_replicate]
 obtain ⟨h, e, o, nl, hh⟩ := hput_ok (l := []) (by intro j _ j1; simp at j1; omega) (by simp) ⟨t, 0⟩; have hx : ∀ y, hHas h y ↔ y = ⟨t, 0⟩ := by
  intro y; rw [hh]
  constructor
  ·rintro (⟨m, m0, m1, _⟩ | q)
   ·simp at m1; omega
   ·exact q
  ·exact .inr
 have pp := potf_le g (List.replicate n.toNat (-1)) n.toNat (by omega); have nn : ((n.toNat : Nat) : Int) = n := by omega
 rw [nn] at pp; have hl : h.length = 1 := by rw [nl]; rfl
 obtain ⟨r, e2, i⟩ := dij_ok g t t0 t1 (bt.length + 2) h (List.replicate n.toNat (-1)) ⟨o, by rw [List.length_replicate]; omega, fun y hy => by
   rw [hx] at hy; subst hy; exact ⟨⟨t0, t1⟩, ⟨Int.le_refl _, by simp only; omega⟩, WayC.here E t⟩, fun v v0 v1 => .inl (rr v v0 v1), .inr ((hx _).2 rfl), fun a b c ee hb => by
   obtain ⟨b0, b1, _⟩ := g.all a b c ee; rw [rr b b0 b1] at hb
   omega⟩ (by omega) (by omega)
 exact ⟨h, r, e, e2, i⟩
end

section Buckets
variable {α : Type}
def bk (key : α → Int) (es : List α) (c : Int) : List α := es.filter fun e => decide (key e = c)
def rowsOf (key : α → Int) (n : Nat) (es : List α) : List (List α) := (List.range n).map fun (c : Nat) => bk key es (c : Int)
theorem rowsOf_length (key : α → Int) (n : Nat) (es : List α) : (rowsOf key n es).length = n := by simp [rowsOf]
theorem rowsOf_get (key : α → Int) (n : Nat) (es : List α) {c : Nat} (h : c < n) : (rowsOf key n es)[c]'(by rw [rowsOf_length]; exact h) = bk key es (c : Int) := by simp [rowsOf]
theorem rowsOf_getD (key : α → Int) (n : Nat) (es : List α) {c : Int} (h0 : 0 ≤ c) (h : c < n) : (rowsOf key n es).getD c.toNat [] = bk key es c := by
 rw [List.getD_eq_getElem?_getD, List.getElem?_eq_getElem (by rw [rowsOf_length]; omega)]; simp only [Option.getD_some]; rw [rowsOf_get key n es (by omega), Int.toNat_of_nonneg h0]
theorem bk_snoc (key : α → Int) (es : List α) (e : α) (c : Int) : bk key (es ++ [e]) c = if key e = c then bk key es c ++ [e] else bk key es c := by
 unfold bk; rw [List.filter_append]
 by_cases h : key e = c
 ·rw [if_pos h, List.filter_cons_of_pos (by simpa using h)]; rfl
 ·rw [if_neg h, List.filter_cons_of_neg (by simpa using h)]; simp
theorem bk_length_le (key : α → Int) (es : List α) (c : Int) : (bk key es c).length ≤ es.length := List.length_filter_le _ _
theorem rowsOf_set (key : α → Int) (n : Nat) (es : List α) (e : α) (h0 : 0 ≤ key e) (h1 : key e < n) : (rowsOf key n es).set (key e).toNat (bk key es (key e) ++ [e]) = rowsOf key n (es ++ [e]) := by
 apply List.ext_getElem
 ·rw [List.length_set, rowsOf_length, rowsOf_length]
 ·intro i a b; rw [rowsOf_length] at b; rw [rowsOf_get key n _ b, bk_snoc]
  by_cases q : (key e).toNat = i
  ·subst q; rw [List.getElem_set_self, if_pos (by omega), Int.toNat_of_nonneg h0]
  ·rw [List.getElem_set_ne q, rowsOf_get key n _ b, if_neg (by omega)]
theorem rowsOf_nil (key : α → Int) (n : Nat) : rowsOf key n [] = List.replicate n [] := by
 apply List.ext_getElem
 ·rw [rowsOf_length, List.length_replicate]
 ·intro i a b; rw [rowsOf_length] at a; rw [rowsOf_get key n _ a]; simp [bk]
def flatTo (f : Nat → List α) : Nat → List α
 | 0 => []
 | n + 1 => flatTo f n ++ f n
theorem flatTo_congr {f g : Nat → List α} {n : Nat} (h : ∀ c, c < n → f c = g c) : flatTo f n = flatTo g n := by
 induction n with
 | zero => rfl
 | succ n ih => rw [flatTo, flatTo, ih (fun c hc => h c (by omega)), h n (by omega)]
theorem bk_total (key : α → Int) (n : Nat) : ∀ es : List α, (flatTo (fun c => bk key es (c : Int)) n).length ≤ es.length := by
 intro es
 induction n generalizing es with
 | zero => simp [flatTo]
 | succ n ih =>
  rw [flatTo, List.length_append]; have e : ∀ c : Nat, c < n → bk key es (c : Int) = bk key (es.filter fun e => !decide (key e = (n : Int))) (c : Int) := by
   intro c hc; unfold bk; rw [List.filter_filter]; apply List.filter_congr; intro x _
   by_cases q : key x = (c : Int)
   ·simp [q]; omega
   ·simp [q]
  rw [flatTo_congr e]; have a := ih (es.filter fun e => !decide (key e = (n : Int))); have b : (bk key es (n : Int)).length + (es.filter fun e => !decide (key e = (n : Int))).length = es.length := by
   unfold bk; clear a e ih
   induction es with
   | nil => rfl
   | cons x xs ih =>
    by_cases q : key x = (n : Int)
    ·rw [List.filter_cons_of_pos (by simpa using q), List.filter_cons_of_neg (by simpa using q), List.length_cons, List.length_cons]; omega
    ·rw [List.filter_cons_of_neg (by simpa using q), List.filter_cons_of_pos (by simpa using q), List.length_cons, List.length_cons]; omega
  omega
def startsTo (f : Nat → List α) : Nat → List Int
 | 0 => []
 | n + 1 => startsTo f n ++ [((flatTo f n).length : Int)]
theorem startsTo_length (f : Nat → List α) (n : Nat) : (startsTo f n).length = n := by
 induction n with
 | zero => rfl
 | succ n ih => rw [startsTo, List.length_append, ih]; rfl
end Buckets

structure ValidG (n : Int) (st tos dr co : List Int) : Prop where
 n1 : 1 ≤ n
 n2 : n ≤ 1600
 len : (st.length : Int) = n + 1
 zero : rd st 0 = 0
 mono : ∀ c : Int, 0 ≤ c → c < n → rd st c ≤ rd st (c + 1)
 most : rd st n ≤ 6400
 lto : (tos.length : Int) = rd st n
 ldr : (dr.length : Int) = rd st n
 lco : (co.length : Int) = rd st n
 edge : ∀ e : Int, 0 ≤ e → e < rd st n → (0 ≤ rd tos e ∧ rd tos e < n) ∧ (0 ≤ rd dr e ∧ rd dr e ≤ 3) ∧ (1 ≤ rd co e ∧ rd co e ≤ 9)
open Classical in
noncomputable def vg (n : Int) (st tos dr co : List Int) : Bool := decide (ValidG n st tos dr co)
open Classical in
theorem vg_true {n : Int} {st tos dr co : List Int} (h : ValidG n st tos dr co) : vg n st tos dr co = true := by unfold vg; exact decide_eq_true h
open Classical in
theorem vg_false {n : Int} {st tos dr co : List Int} (h : ¬ ValidG n st tos dr co) : vg n st tos dr co = false := by unfold vg; exact decide_eq_false h

def upI (m : Nat) : List Int := (List.range m).map (fun (j : Nat) => (j : Int))
theorem upI_succ (m : Nat) : upI (m + 1) = upI m ++ [(m : Int)] := by simp [upI, List.range_succ]
theorem upI_length (m : Nat) : (upI m).length = m := by simp [upI]
theorem upI_mem {m : Nat} {e : Int} (h : e ∈ upI m) : 0 ≤ e ∧ e < m := by
 simp only [upI, List.mem_map, List.mem_range] at h; obtain ⟨j, hj, rfl⟩ := h
 omega
theorem upI_get (m i : Nat) (h : i < (upI m).length) : (upI m)[i] = (i : Int) := by simp [upI]
theorem rdE_lt {es : List S51} {i : Nat} (h : i < es.length) : rd_T51 es (i : Int) = es[i] := by
 unfold rd_T51; rw [getD_lt (by rw [Int.toNat_natCast]; exact h)]; simp only [Int.toNat_natCast]
theorem take_snoc' {α : Type} (l : List α) (i : Nat) (h : i < l.length) : l.take (i + 1) = l.take i ++ [l[i]] := by
 rw [List.take_succ_eq_append_getElem h]
theorem map_snoc {α β : Type} (f : α → β) (l : List α) (x : α) : (l ++ [x]).map f = l.map f ++ [f x] := by rw [List.map_append]; rfl
open Classical in
noncomputable def owner (n : Int) (st : List Int) (e : Int) : Int := if h : ∃ c : Int, 0 ≤ c ∧ c < n ∧ rd st c ≤ e ∧ e < rd st (c + 1) then Classical.choose h else 0
noncomputable def fwdE (n : Int) (st tos dr co : List Int) (e : Int) : S51 := ⟨owner n st e, rd tos e, rd dr e, rd co e⟩
section
variable {n : Int} {st tos dr co : List Int} (v : ValidG n st tos dr co)
include v
theorem st_mono : ∀ (d : Nat) (a : Int), 0 ≤ a → a + d ≤ n → rd st a ≤ rd st (a + d)
 | 0, a, _, _ => by rw [show a + ((0 : Nat) : Int) = a by omega]; exact Int.le_refl _
 | d + 1, a, a0, a1 => by
  have h := st_mono d a a0 (by omega); have g := v.mono (a + d) (by omega) (by omega); rw [show a + ((d + 1 : Nat) : Int) = a + d + 1 by omega]
  omega
theorem st_le {a b : Int} (a0 : 0 ≤ a) (ab : a ≤ b) (bn : b ≤ n) : rd st a ≤ rd st b := by
 have := st_mono v (b - a).toNat a a0 (by omega)
 rwa [show a + ((b - a).toNat : Int) = b by omega] at this
theorem st_nn {a : Int} (a0 : 0 ≤ a) (an : a ≤ n) : 0 ≤ rd st a ∧ rd st a ≤ rd st n := by
 have h := st_le v (a := 0) (b := a) (by omega) a0 an; have g := st_le v a0 an (Int.le_refl _); have := v.zero
 omega
theorem owner_eq {c e : Int} (c0 : 0 ≤ c) (c1 : c < n) (e0 : rd st c ≤ e) (e1 : e < rd st (c + 1)) : owner n st e = c := by
 have h : ∃ c : Int, 0 ≤ c ∧ c < n ∧ rd st c ≤ e ∧ e < rd st (c + 1) := ⟨c, c0, c1, e0, e1⟩; unfold owner; rw [dif_pos h]; obtain ⟨p0, p1, p2, p3⟩ := Classical.choose_spec h; generalize Classical.choose h = b at *
 by_cases q : b < c
 ·have := st_le v (a := b + 1) (b := c) (by omega) (by omega) (by omega); omega
 by_cases q2 : c < b
 ·have := st_le v (a := c + 1) (b := b) (by omega) (by omega) (by omega); omega
 omega
theorem l5e_row (c : Int) (c0 : 0 ≤ c) (c1 : c < n) {R : List S51} (H : Ev (fun k => spec_l5edges.l0 k ((upI (rd st (c + 1)).toNat).map (fwdE n st tos dr co)) (c + 1) n st tos dr co) R) (d : Nat) : ∀ e : Nat, rd st c ≤ e → (e : Int) ≤ rd st (c + 1) → rd st (c + 1) - e = d →
  Ev (fun k => spec_l5edges.l1 k ((upI e).map (fwdE n st tos dr co)) c e n st tos dr co) R := by
 have n2 := v.n2; have len := v.len; have most := v.most; have lto := v.lto; have ldr := v.ldr; have lco := v.lco; have nn := st_nn v (a := c + 1) (by omega) (by omega)
 induction d with
 | zero =>
  intro e e0 e1 hd; refine Ev.step (fun _ => rfl) ?_; simp only [spec_l5edges.l1]; rw [wrap64_id (x := c + 1) (by omega) (by omega)]; refine ev_pos (by omega) (ev_pos (by omega) (ev_neg (by omega) ?_)); rw [show (rd st (c + 1)).toNat = e by omega] at H; exact H
 | succ d ih =>
  intro e e0 e1 hd; have K := ih (e + 1) (by omega) (by omega) (by omega); rw [upI_succ, map_snoc] at K; refine Ev.step (fun _ => rfl) ?_; simp only [spec_l5edges.l1]; rw [wrap64_id (x := c + 1) (by omega) (by omega)]; refine ev_pos (by omega) (ev_pos (by omega) (ev_pos (by omega) (ev_pos (by omega) (ev_pos (by omega) (ev_pos (by omega) (ev_pos (by omega) (ev_pos (by rw [List.length_map, upI_length]; omega) ?_))))))); rw [wrap64_id (x := (e : Int) + 1) (by omega) (by omega)]; rw [show fwdE n st tos dr co (e : Int) = ⟨c, rd tos e, rd dr e, rd co e⟩ by unfold fwdE; rw [owner_eq v c0 c1 e0 (by omega)]] at K; exact K
theorem l5e_all (d : Nat) : ∀ c : Int, 0 ≤ c → c ≤ n → n - c = d → Ev (fun k => spec_l5edges.l0 k ((upI (rd st c).toNat).map (fwdE n st tos dr co)) c n st tos dr co) ((upI (rd st n).toNat).map (fwdE n st tos dr co)) := by
 have n2 := v.n2; have len := v.len
 induction d with
 | zero =>
  intro c c0 c1 hd; obtain rfl : c = n := by omega
  refine Ev.step (fun _ => rfl) ?_; simp only [spec_l5edges.l0]; exact ev_neg (by omega) (Ev.now _)
 | succ d ih =>
  intro c c0 c1 hd; have nn := st_nn v c0 c1; have mo := v.mono c c0 (by omega); refine Ev.step (fun _ => rfl) ?_; simp only [spec_l5edges.l0]; refine ev_pos (by omega) (ev_pos c0 (ev_pos (by omega) ?_)); have K := l5e_row v c c0 (by omega) (ih (c + 1) (by omega) (by omega) (by omega)) (rd st (c + 1) - (rd st c).toNat).toNat (rd st c).toNat (by omega) (by omega) (by omega); rw [Int.toNat_of_nonneg nn.1] at K; exact K
theorem spec_l5edges_ev : Ev (fun k => spec_l5edges.f k n st tos dr co) ((upI (rd st n).toNat).map (fwdE n st tos dr co)) := by
 simp only [spec_l5edges.f]; have := l5e_all v n.toNat 0 (by omega) (by have := v.n1; omega) (by have := v.n1; omega); rw [v.zero] at this; exact this
end

def eT (e : S51) : Int := e.f1
def eD (e : S51) : Int := e.f2
def eC (e : S51) : Int := e.f3
def gres (n : Nat) (f : Nat → List S51) : Int × List Int × List Int × List Int × List Int :=
 ((n : Int), startsTo f n ++ [((flatTo f n).length : Int)], (flatTo f n).map eT, (flatTo f n).map eD, (flatTo f n).map eC)
def SortedZ (st : List Int) : Prop := ∀ c : Int, 0 ≤ c → c + 1 < st.length → rd st c ≤ rd st (c + 1)
open Classical in
noncomputable def sortedB (st : List Int) : Bool := decide (SortedZ st)
open Classical in
theorem sortedB_true {st : List Int} (h : SortedZ st) : sortedB st = true := by unfold sortedB; exact decide_eq_true h
open Classical in
theorem sortedB_false {st : List Int} (h : ¬ SortedZ st) : sortedB st = false := by unfold sortedB; exact decide_eq_false h
theorem Less_ev (a b : Int) : cmp_Less_int.f a b = some (decide (a < b)) := by
 simp [cmp_Less_int.f, cmp_isNaN_int.f]
theorem IsSorted_loop (st : List Int) (hb : st.length ≤ 9223372036854775807) (d : Nat) : ∀ (i : Int), i = d → i < st.length → (∀ c : Int, i ≤ c → c + 1 < st.length → rd st c ≤ rd st (c + 1)) →
  Ev (fun k => slices_IsSorted_int_int.l0 k st i) (sortedB st) := by
 induction d with
 | zero =>
  intro i hi hl hs; refine Ev.step (fun _ => rfl) ?_; simp only [slices_IsSorted_int_int.l0]; refine ev_neg (by omega) ?_; rw [sortedB_true (fun c a b => hs c (by omega) b)]; exact Ev.now _
 | succ d ih =>
  intro i hi hl hs; refine Ev.step (fun _ => rfl) ?_; simp only [slices_IsSorted_int_int.l0]; rw [wrap64_id (by omega) (by omega)]; refine ev_pos (by omega) (ev_pos (by omega) (ev_pos (by omega) (ev_pos (by omega) (ev_pos (by omega) ?_)))); simp only [Less_ev]; refine ev_letv (ev_ite (fun e => ?_) (fun e => ?_))
  ·have e := of_decide_eq_true e; rw [sortedB_false (fun h => by have := h (i - 1) (by omega) (by omega); rw [show i - 1 + 1 = i by omega] at this; omega)]; exact Ev.now _
  ·have e := of_decide_eq_false (Bool.eq_false_iff.2 e); refine ih _ (by omega) (by omega) (fun c a b => ?_)
   by_cases q : c = i - 1
   ·subst q; rw [show i - 1 + 1 = i by omega]; omega
   ·exact hs c (by omega) b
theorem IsSorted_ev (st : List Int) (hb : st.length ≤ 9223372036854775807) : Ev (fun k => slices_IsSorted_int_int.f k st) (sortedB st) := by
 simp only [slices_IsSorted_int_int.f]; rw [wrap64_id (by omega) (by omega)]
 by_cases h : st.length = 0
 ·refine Ev.step (fun _ => rfl) ?_; simp only [slices_IsSorted_int_int.l0]; refine ev_neg (by omega) ?_; rw [sortedB_true (fun c a b => by omega)]; exact Ev.now _
 ·exact IsSorted_loop st hb (st.length - 1) _ (by omega) (by omega) (fun c a b => by omega)

theorem impl_vg_edges {n : Int} {st tos dr co : List Int} (d : Nat) : ∀ (e : Int), 0 ≤ e → (rd st n) - e = d → 1 ≤ n → n ≤ 1600 → (st.length : Int) = n + 1 → rd st 0 = 0 → rd st n ≤ 6400 →
  (tos.length : Int) = rd st n → (dr.length : Int) = rd st n → (co.length : Int) = rd st n → (∀ c : Int, 0 ≤ c → c < n → rd st c ≤ rd st (c + 1)) →
  (∀ f : Int, 0 ≤ f → f < e → (0 ≤ rd tos f ∧ rd tos f < n) ∧ (0 ≤ rd dr f ∧ rd dr f ≤ 3) ∧ (1 ≤ rd co f ∧ rd co f ≤ 9)) →
  Ev (fun k => impl_ValidGraph.l0 k (rd st n) e n st tos dr co) (vg n st tos dr co) := by
 induction d with
 | zero =>
  intro e h0 hd n1 n2 hl hz hm h1 h2 h3 hs he; refine Ev.step (fun _ => rfl) ?_; simp only [impl_ValidGraph.l0]; refine ev_neg (by omega) ?_; rw [vg_true ⟨n1, n2, hl, hz, hs, hm, h1, h2, h3, fun f a b => he f a (by omega)⟩]; exact Ev.now _
 | succ d ih =>
  intro e h0 hd n1 n2 hl hz hm h1 h2 h3 hs he; refine Ev.step (fun _ => rfl) ?_; simp only [impl_ValidGraph.l0]; have bad : ¬ ((0 ≤ rd tos e ∧ rd tos e < n) ∧ (0 ≤ rd dr e ∧ rd dr e ≤ 3) ∧ (1 ≤ rd co e ∧ rd co e ≤ 9)) → Ev (fun _ => some false) (vg n st tos dr co) := by
   intro h; rw [vg_false (fun v => h (v.edge e h0 (by omega)))]; exact Ev.now _
  refine ev_pos (by omega) (ev_pos (by omega) (ev_pos (by omega) ?_)); refine ev_ite (fun c => bad (by omega)) (fun c1 => ev_ite (fun c => bad (by omega)) (fun c2 => ev_pos (by omega) ?_)); refine ev_ite (fun c => bad (by omega)) (fun c3 => ev_ite (fun c => bad (by omega)) (fun c4 => ev_pos (by omega) ?_)); refine ev_ite (fun c => bad (by omega)) (fun c5 => ev_ite (fun c => bad (by omega)) (fun c6 => ?_)); rw [wrap64_id (by omega) (by omega)]; refine ih _ (by omega) (by omega) n1 n2 hl hz hm h1 h2 h3 hs (fun f a b => ?_)
  by_cases q : f = e
  ·subst q; omega
  ·exact he f a (by omega)
theorem impl_ValidGraph_ev (n : Int) (st tos dr co : List Int) : Ev (fun k => impl_ValidGraph.f k n st tos dr co) (vg n st tos dr co) := by
 have bad0 : ¬ ValidG n st tos dr co → Ev (fun k => impl_ValidGraph.j0 k true n st tos dr co) (vg n st tos dr co) := by
  intro h; rw [vg_false h]; refine Ev.step (fun _ => rfl) ?_; simp only [impl_ValidGraph.j0]; exact ev_pos (by trivial) (Ev.now _)
 have bad1 : ∀ m, ¬ ValidG n st tos dr co → Ev (fun k => impl_ValidGraph.j1 k m true n st tos dr co) (vg n st tos dr co) := by
  intro m h; rw [vg_false h]; refine Ev.step (fun _ => rfl) ?_; simp only [impl_ValidGraph.j1]; exact ev_pos (by trivial) (Ev.now _)
 simp only [impl_ValidGraph.f]; refine ev_ite (fun c => bad0 (fun v => by have := v.n1; omega)) (fun c1 => ?_); refine ev_ite (fun c => bad0 (fun v => by have := v.n2; omega)) (fun c2 => ?_); rw [wrap64_id (by omega) (by omega)]; refine ev_ite (fun c3 => ev_pos (by omega) ?_) (fun c => bad0 (fun v => c v.len)); refine ev_ite (fun c4 => ?_) (fun c4 => bad0 (fun v => c4 v.zero)); refine Ev.bind (IsSorted_ev st (by omega)) ?_
 by_cases cs : SortedZ st
 ·rw [sortedB_true cs]; simp only [Bool.not_true]; refine Ev.step (fun _ => rfl) ?_; simp only [impl_ValidGraph.j0]; refine ev_neg (by simp) (ev_pos (by omega) (ev_pos (by omega) ?_)); refine ev_ite (fun c => bad1 _ (fun v => by have := v.most; omega)) (fun c5 => ?_); refine ev_ite (fun c6 => ?_) (fun c => bad1 _ (fun v => c v.lto)); refine ev_ite (fun c7 => ?_) (fun c => bad1 _ (fun v => c v.ldr))
  by_cases c8 : (co.length : Int) = rd st n
  ·rw [show ((co.length : Int) != rd st n) = false by rw [bne_eq_false_iff_eq]; exact c8]; refine Ev.step (fun _ => rfl) ?_; simp only [impl_ValidGraph.j1]; refine ev_neg (by simp) ?_; exact impl_vg_edges (rd st n).toNat 0 (by omega) (by omega) (by omega) (by omega) c3 c4 (by omega) c6 c7 c8 (fun f a b => cs f a (by omega)) (fun f a b => by omega)
  ·rw [show ((co.length : Int) != rd st n) = true by rw [bne_iff_ne]; exact c8]; exact bad1 _ (fun v => c8 v.lco)
 ·rw [sortedB_false cs]; simp only [Bool.not_false]; exact bad0 (fun v => cs (fun f a b => v.mono f a (by have := v.len; omega)))

theorem flatTo_map {α β : Type} (h : α → β) (f : Nat → List α) (n : Nat) : flatTo (fun c => (f c).map h) n = (flatTo f n).map h := by
 induction n with
 | zero => rfl
 | succ n ih => rw [flatTo, flatTo, ih, List.map_append]
noncomputable def revE (n : Int) (st tos dr co : List Int) (e : Int) : S51 := ⟨rd tos e, owner n st e, rd dr e, rd co e⟩
noncomputable def inRow (n : Int) (st tos dr co : List Int) (c : Nat) : List S51 := (bk (fun e => rd tos e) (upI (rd st n).toNat) (c : Int)).map (revE n st tos dr co)
section
variable {n : Int} {st tos dr co : List Int} (v : ValidG n st tos dr co)
include v
noncomputable def fromL (n : Int) (st : List Int) (m : Nat) (e : Int) : List Int := (upI m).map fun j => if j < e then owner n st j else 0
theorem fromL_length (m : Nat) (e : Int) : (fromL n st m e).length = m := by simp [fromL, upI_length]
theorem fromL_rd (m : Nat) (e : Int) {j : Int} (j0 : 0 ≤ j) (j1 : j < m) : rd (fromL n st m e) j = if j < e then owner n st j else 0 := by
 rw [rd_get j0 (by rw [fromL_length v]; omega)]; simp only [fromL, List.getElem_map, upI_get, Int.toNat_of_nonneg j0]
theorem fromL_zero (m : Nat) : fromL n st m 0 = List.replicate m 0 := by
 apply rd_ext (by rw [fromL_length v, List.length_replicate]); intro j j0 j1; rw [fromL_length v] at j1; rw [fromL_rd v m 0 j0 (by omega), if_neg (by omega), rd_get j0 (by rw [List.length_replicate]; omega), List.getElem_replicate]
theorem fromL_set (m : Nat) (e : Int) (e0 : 0 ≤ e) (e1 : e < m) : (fromL n st m e).set e.toNat (owner n st e) = fromL n st m (e + 1) := by
 apply rd_ext (by rw [List.length_set, fromL_length v, fromL_length v]); intro j j0 j1; rw [List.length_set, fromL_length v] at j1; rw [fromL_rd v m (e + 1) j0 (by omega)]
 by_cases q : j = e
 ·subst q; rw [rd_set_eq j0 (by rw [fromL_length v]; omega), if_pos (by omega)]
 ·rw [rd_set_ne e0 j0 (fun h => q h.symm), fromL_rd v m e j0 (by omega)]
  by_cases r : j < e
  ·rw [if_pos r, if_pos (by omega)]
  ·rw [if_neg r, if_neg (by omega)]
theorem rev_in (M : Nat) (hM : (M : Int) = rd st n) (c : Int) (c0 : 0 ≤ c) (c1 : c < n) {R : Int × List Int × List Int × List Int × List Int × Int}
  (H : Ev (fun k => impl_Reverse.l0 k (rowsOf (fun e => rd tos e) n.toNat (upI (rd st (c + 1)).toNat)) (fromL n st M (rd st (c + 1))) n (c + 1) n st tos dr co) R) (d : Nat) : ∀ e : Nat, rd st c ≤ e → (e : Int) ≤ rd st (c + 1) → rd st (c + 1) - e = d →
  Ev (fun k => impl_Reverse.l1 k (rowsOf (fun e => rd tos e) n.toNat (upI e)) (fromL n st M e) c e n c n st tos dr co) R := by
 have n2 := v.n2; have len := v.len; have most := v.most; have lto := v.lto; have nn := st_nn v (a := c + 1) (by omega) (by omega)
 induction d with
 | zero =>
  intro e e0 e1 hd; refine Ev.step (fun _ => rfl) ?_; simp only [impl_Reverse.l1]; rw [wrap64_id (x := c + 1) (by omega) (by omega)]; refine ev_pos (by omega) (ev_pos (by omega) (ev_neg (by omega) ?_)); rw [show (rd st (c + 1)).toNat = e by omega, show rd st (c + 1) = (e : Int) by omega] at H; exact H
 | succ d ih =>
  intro e e0 e1 hd; have K := ih (e + 1) (by omega) (by omega) (by omega); have b := (v.edge e (by omega) (by omega)).1; have bl := bk_length_le (fun e => rd tos e) (upI e) (rd tos e); rw [upI_length] at bl; rw [upI_succ, ← rowsOf_set (fun e => rd tos e) n.toNat (upI e) (e : Int) b.1 (by omega), show ((e + 1 : Nat) : Int) = (e : Int) + 1 by omega, ← fromL_set v M e (by omega) (by omega), owner_eq v c0 c1 e0 (by omega)] at K; have hr : rd_L2 (rowsOf (fun e => rd tos e) n.toNat (upI e)) (rd tos e) = bk (fun e => rd tos e) (upI e) (rd tos e) := by
   unfold rd_L2; exact rowsOf_getD _ n.toNat _ b.1 (by omega)
  refine Ev.step (fun _ => rfl) ?_; simp only [impl_Reverse.l1]; rw [wrap64_id (x := c + 1) (by omega) (by omega), hr]; refine ev_pos (by omega) (ev_pos (by omega) (ev_pos (by omega) (ev_pos (by omega) (ev_pos (by omega) (ev_pos b.1 (ev_pos (by rw [rowsOf_length]; omega) (ev_pos (by omega) (ev_pos (by rw [fromL_length v]; omega) ?_)))))))); rw [wrap64_id (x := (e : Int) + 1) (by omega) (by omega)]; exact K
theorem rev_ins (M : Nat) (hM : (M : Int) = rd st n) {R : Int × List Int × List Int × List Int × List Int × Int}
  (H : Ev (fun k => impl_Reverse.l2 k (fromL n st M M) (rowsOf (fun e => rd tos e) n.toNat (upI M)) ((rowsOf (fun e => rd tos e) n.toNat (upI M)).length : Int) 0 n st tos dr co n [] [] [] []) R) (d : Nat) : ∀ c : Int, 0 ≤ c → c ≤ n → n - c = d →
  Ev (fun k => impl_Reverse.l0 k (rowsOf (fun e => rd tos e) n.toNat (upI (rd st c).toNat)) (fromL n st M (rd st c)) n c n st tos dr co) R := by
 have n2 := v.n2; have len := v.len
 induction d with
 | zero =>
  intro c c0 c1 hd; obtain rfl : c = n := by omega
  refine Ev.step (fun _ => rfl) ?_; simp only [impl_Reverse.l0]; rw [← hM, Int.toNat_natCast]; exact ev_neg (by omega) H
 | succ d ih =>
  intro c c0 c1 hd; have nn := st_nn v c0 c1; have mo := v.mono c c0 (by omega); refine Ev.step (fun _ => rfl) ?_; simp only [impl_Reverse.l0]; refine ev_pos (by omega) (ev_pos c0 (ev_pos (by omega) ?_)); have K := rev_in v M hM c c0 (by omega) (ih (c + 1) (by omega) (by omega) (by omega)) (rd st (c + 1) - (rd st c).toNat).toNat (rd st c).toNat (by omega) (by omega) (by omega); rw [Int.toNat_of_nonneg nn.1] at K; exact K
theorem rev_row (M : Nat) (hM : (M : Int) = rd st n) (rows : List (List Int)) (c : Nat) (hc : c < 100000) (L : List Int) (hL : ∀ e ∈ L, 0 ≤ e ∧ e < M) (s1 : List Int) (p : List S51) {R : Int × List Int × List Int × List Int × List Int × Int} (hb : p.length + L.length ≤ 1000000)
  (H : Ev (fun k => impl_Reverse.l2 k (fromL n st M M) rows (rows.length : Int) ((c : Int) + 1) n st tos dr co n s1 ((p ++ L.map (revE n st tos dr co)).map eT) ((p ++ L.map (revE n st tos dr co)).map eD) ((p ++ L.map (revE n st tos dr co)).map eC)) R) (d : Nat) : ∀ j : Nat, j + d = L.length →
  Ev (fun k => impl_Reverse.l3 k (fromL n st M M) rows (rows.length : Int) c L (L.length : Int) j n st tos dr co n s1 ((p ++ (L.take j).map (revE n st tos dr co)).map eT) ((p ++ (L.take j).map (revE n st tos dr co)).map eD) ((p ++ (L.take j).map (revE n st tos dr co)).map eC)) R := by
 have ldr := v.ldr; have lco := v.lco
 induction d with
 | zero =>
  intro j hj; refine Ev.step (fun _ => rfl) ?_; simp only [impl_Reverse.l3]; refine ev_neg (by omega) ?_; rw [wrap64_id (by omega) (by omega), List.take_of_length_le (by omega)]; exact H
 | succ d ih =>
  intro j hj; have hjl : j < L.length := by omega
  have K := ih (j + 1) (by omega); have b := hL _ (List.getElem_mem hjl); have rj : rd L (j : Int) = L[j] := by rw [rd_get (by omega) (by simpa using hjl)]; simp
  have ln : (p ++ (L.take j).map (revE n st tos dr co)).length ≤ 1000000 := by rw [List.length_append, List.length_map, List.length_take]; omega
  rw [take_snoc' L j hjl, map_snoc, ← List.append_assoc, map_snoc, map_snoc, map_snoc] at K; have fr : rd (fromL n st M M) L[j] = owner n st L[j] := by rw [fromL_rd v M M b.1 b.2, if_pos b.2]
  refine Ev.step (fun _ => rfl) ?_; simp only [impl_Reverse.l3]; rw [rj, fr]; refine ev_pos (by omega) (ev_pos (by omega) (ev_pos (by omega) (ev_pos b.1 (ev_pos (by rw [fromL_length v]; exact b.2) (ev_pos (by omega) (ev_pos (by omega) (ev_pos (by rw [List.length_map]; omega) (ev_pos (by rw [List.length_map]; omega) (ev_pos (by rw [List.length_map]; omega) ?_))))))))); rw [wrap64_id (by omega) (by omega)]; exact K
theorem rev_rows (M : Nat) (hM : (M : Int) = rd st n) (N : Nat) (hN : (N : Int) = n) (d : Nat) : ∀ c : Nat, c + d = N →
  Ev (fun k => impl_Reverse.l2 k (fromL n st M M) (rowsOf (fun e => rd tos e) N (upI M)) ((rowsOf (fun e => rd tos e) N (upI M)).length : Int) c n st tos dr co n (startsTo (inRow n st tos dr co) c) ((flatTo (inRow n st tos dr co) c).map eT) ((flatTo (inRow n st tos dr co) c).map eD) ((flatTo (inRow n st tos dr co) c).map eC))
   ((gres N (inRow n st tos dr co)).1, (gres N (inRow n st tos dr co)).2.1, (gres N (inRow n st tos dr co)).2.2.1, (gres N (inRow n st tos dr co)).2.2.2.1, (gres N (inRow n st tos dr co)).2.2.2.2, 0) := by
 have n2 := v.n2; have most := v.most
 induction d with
 | zero =>
  intro c hc; obtain rfl : c = N := by omega
  refine Ev.step (fun _ => rfl) ?_; simp only [impl_Reverse.l2]; refine ev_neg (by rw [rowsOf_length]; omega) (ev_pos (by rw [startsTo_length]; omega) ?_); unfold gres; rw [List.length_map, hN]; exact Ev.now _
 | succ d ih =>
  intro c hc; have hr : rd_L2 (rowsOf (fun e => rd tos e) N (upI M)) (c : Int) = bk (fun e => rd tos e) (upI M) (c : Int) := by
   unfold rd_L2; exact rowsOf_getD _ N _ (by omega) (by omega)
  have hM' : (rd st n).toNat = M := by omega
  have t := bk_total (fun e => rd tos e) (c + 1) (upI M); rw [upI_length, flatTo, List.length_append] at t; have fm : flatTo (inRow n st tos dr co) c = (flatTo (fun c => bk (fun e => rd tos e) (upI M) (c : Int)) c).map (revE n st tos dr co) := by
   rw [← flatTo_map]; unfold inRow; rw [hM']
  refine Ev.step (fun _ => rfl) ?_; simp only [impl_Reverse.l2]; refine ev_pos (by rw [rowsOf_length]; omega) (ev_pos (by omega) (ev_pos (by rw [rowsOf_length]; omega) (ev_pos (by rw [startsTo_length]; omega) ?_))); rw [hr]
  have K := rev_row v M hM (rowsOf (fun e => rd tos e) N (upI M)) c (by omega) (bk (fun e => rd tos e) (upI M) (c : Int)) (fun e he => upI_mem (List.mem_filter.1 he).1) (startsTo (inRow n st tos dr co) (c + 1)) (flatTo (inRow n st tos dr co) c) (by rw [fm, List.length_map]; omega) (by
   have q : flatTo (inRow n st tos dr co) c ++ (bk (fun e => rd tos e) (upI M) (c : Int)).map (revE n st tos dr co) = flatTo (inRow n st tos dr co) (c + 1) := by
    rw [flatTo]; unfold inRow; rw [hM']
   rw [q]
   exact ih (c + 1) (by omega)) _ 0 (by rw [Nat.zero_add])
  rw [List.take_zero, List.map_nil, List.append_nil] at K; rw [List.length_map]; exact K
theorem impl_rev_ev : Ev (fun k => impl_Reverse.f k n st tos dr co) ((gres n.toNat (inRow n st tos dr co)).1, (gres n.toNat (inRow n st tos dr co)).2.1, (gres n.toNat (inRow n st tos dr co)).2.2.1, (gres n.toNat (inRow n st tos dr co)).2.2.2.1, (gres n.toNat (inRow n st tos dr co)).2.2.2.2, 0) := by
 have n1 := v.n1; have n2 := v.n2; have most := v.most; have lto := v.lto; have nn := st_nn v (a := n) (by omega) (Int.le_refl _); simp only [impl_Reverse.f]; have es := impl_ValidGraph_ev n st tos dr co; rw [vg_true v] at es; refine Ev.bind es (ev_pos (by trivial) (ev_pos (by omega) (ev_pos (by omega) (ev_pos (by omega) (ev_pos (by omega) ?_)))))
 have K := rev_ins v tos.length lto (by
  have := rev_rows v tos.length lto n.toNat (by omega) n.toNat 0 (by omega)
  exact this) n.toNat 0 (by omega) (by omega) (by omega)
 rw [v.zero, show upI ((0 : Int)).toNat = [] from rfl, rowsOf_nil, fromL_zero v] at K; rw [Int.toNat_natCast]; exact K
end

theorem flat_mono {α : Type} (f : Nat → List α) (a d : Nat) : (flatTo f a).length ≤ (flatTo f (a + d)).length := by
 induction d with
 | zero => exact Nat.le_refl _
 | succ d ih => rw [← Nat.add_assoc, flatTo, List.length_append]; omega
theorem flat_get {α : Type} (f : Nat → List α) (b j : Nat) (hj : j < (f b).length) (d : Nat) : (flatTo f (b + 1 + d))[(flatTo f b).length + j]? = (f b)[j]? := by
 induction d with
 | zero => rw [Nat.add_zero, flatTo, List.getElem?_append_right (by omega), Nat.add_sub_cancel_left]
 | succ d ih =>
  have m := flat_mono f (b + 1) d; rw [flatTo, List.length_append] at m; rw [← Nat.add_assoc, flatTo, List.getElem?_append_left (by omega)]; exact ih
theorem starts_get {α : Type} (f : Nat → List α) (b d : Nat) : (startsTo f (b + 1 + d))[b]? = some ((flatTo f b).length : Int) := by
 induction d with
 | zero => rw [Nat.add_zero, startsTo, List.getElem?_append_right (by rw [startsTo_length]; exact Nat.le_refl _), startsTo_length, Nat.sub_self]; rfl
 | succ d ih => rw [← Nat.add_assoc, startsTo, List.getElem?_append_left (by rw [startsTo_length]; omega)]; exact ih
theorem starts_rd {α : Type} (f : Nat → List α) (n b : Nat) (hb : b ≤ n) : rd (startsTo f n ++ [((flatTo f n).length : Int)]) (b : Int) = (flatTo f b).length := by
 unfold rd; rw [Int.toNat_natCast, List.getD_eq_getElem?_getD]
 by_cases e : b = n
 ·subst e; rw [List.getElem?_append_right (by rw [startsTo_length]; exact Nat.le_refl _), startsTo_length, Nat.sub_self]; rfl
 ·rw [List.getElem?_append_left (by rw [startsTo_length]; omega)]; have q := starts_get f b (n - b - 1); rw [show b + 1 + (n - b - 1) = n by omega] at q; rw [q]; rfl
def EdgeC (n : Int) (st tos co : List Int) (a b c : Int) : Prop := ∃ e : Int, 0 ≤ e ∧ e < rd st n ∧ owner n st e = a ∧ rd tos e = b ∧ rd co e = c
theorem rd_map {α : Type} (h : α → Int) (l : List α) (i : Nat) {x : α} (e : l[i]? = some x) : rd (l.map h) (i : Int) = h x := by
 unfold rd; rw [Int.toNat_natCast, List.getD_eq_getElem?_getD, List.getElem?_map, e]; rfl
section
variable {n : Int} {st tos dr co : List Int} (v : ValidG n st tos dr co)
include v
theorem owner_ex (d : Nat) : ∀ e : Int, 0 ≤ e → e < rd st (d : Int) → (d : Int) ≤ n → ∃ c : Int, 0 ≤ c ∧ c < d ∧ rd st c ≤ e ∧ e < rd st (c + 1) := by
 induction d with
 | zero => intro e e0 e1 _; have := v.zero; simp only [Int.natCast_zero] at e1; omega
 | succ d ih =>
  intro e e0 e1 dn
  by_cases q : rd st (d : Int) ≤ e
  ·exact ⟨d, by omega, by omega, q, by rw [show ((d : Nat) : Int) + 1 = ((d + 1 : Nat) : Int) by omega]; exact e1⟩
  ·obtain ⟨c, a, b, x, y⟩ := ih e e0 (by omega) (by omega); exact ⟨c, a, by omega, x, y⟩
theorem owner_rng {e : Int} (e0 : 0 ≤ e) (e1 : e < rd st n) : 0 ≤ owner n st e ∧ owner n st e < n ∧ rd st (owner n st e) ≤ e ∧ e < rd st (owner n st e + 1) := by
 have n1 := v.n1; obtain ⟨c, a, b, x, y⟩ := owner_ex v n.toNat e e0 (by rw [Int.toNat_of_nonneg (by omega)]; exact e1) (by omega); rw [owner_eq v a (by omega) x y]; exact ⟨a, by omega, x, y⟩
theorem backG : BackG n (EdgeC n st tos co) (gres n.toNat (inRow n st tos dr co)).2.1 (gres n.toNat (inRow n st tos dr co)).2.2.1 (gres n.toNat (inRow n st tos dr co)).2.2.2.2 := by
 have n1 := v.n1; have n2 := v.n2; have most := v.most; have nn := st_nn v (a := n) (by omega) (Int.le_refl _); have fl : (flatTo (inRow n st tos dr co) n.toNat).length ≤ 6400 := by
  have fm : flatTo (inRow n st tos dr co) n.toNat = (flatTo (fun c => bk (fun e => rd tos e) (upI (rd st n).toNat) (c : Int)) n.toNat).map (revE n st tos dr co) := flatTo_map _ _ _; have t := bk_total (fun e => rd tos e) n.toNat (upI (rd st n).toNat); rw [upI_length] at t; rw [fm, List.length_map]; omega
 have sl := startsTo_length (inRow n st tos dr co) n.toNat; have sr : ∀ b : Int, 0 ≤ b → b ≤ n → rd (gres n.toNat (inRow n st tos dr co)).2.1 b = (flatTo (inRow n st tos dr co) b.toNat).length := by
  intro b b0 b1; have q := starts_rd (inRow n st tos dr co) n.toNat b.toNat (by omega); rw [Int.toNat_of_nonneg b0] at q; exact q
 have step : ∀ b : Int, 0 ≤ b → b < n → (flatTo (inRow n st tos dr co) (b + 1).toNat).length = (flatTo (inRow n st tos dr co) b.toNat).length + (inRow n st tos dr co b.toNat).length := by
  intro b b0 b1; rw [show (b + 1).toNat = b.toNat + 1 by omega, flatTo, List.length_append]
 have mon : ∀ b : Int, 0 ≤ b → b ≤ n → (flatTo (inRow n st tos dr co) b.toNat).length ≤ (flatTo (inRow n st tos dr co) n.toNat).length := by
  intro b b0 b1; have q := flat_mono (inRow n st tos dr co) b.toNat (n.toNat - b.toNat)
  rwa [show b.toNat + (n.toNat - b.toNat) = n.toNat by omega] at q
 have at_ : ∀ b : Int, 0 ≤ b → b < n → ∀ j : Nat, ∀ hj : j < (inRow n st tos dr co b.toNat).length, (flatTo (inRow n st tos dr co) n.toNat)[(flatTo (inRow n st tos dr co) b.toNat).length + j]? = some (inRow n st tos dr co b.toNat)[j] := by
  intro b b0 b1 j hj; have q := flat_get (inRow n st tos dr co) b.toNat j hj (n.toNat - b.toNat - 1); rw [show b.toNat + 1 + (n.toNat - b.toNat - 1) = n.toNat by omega] at q; rw [q, List.getElem?_eq_getElem hj]
 have mem : ∀ b : Int, 0 ≤ b → b < n → ∀ x ∈ inRow n st tos dr co b.toNat, ∃ e : Int, (0 ≤ e ∧ e < rd st n) ∧ rd tos e = b ∧ x = revE n st tos dr co e := by
  intro b b0 b1 x hx; unfold inRow at hx; obtain ⟨e, he, rfl⟩ := List.mem_map.1 hx; obtain ⟨hu, hk⟩ := List.mem_filter.1 he; have u := upI_mem hu; rw [Int.toNat_of_nonneg b0] at hk; exact ⟨e, ⟨u.1, by omega⟩, of_decide_eq_true hk, rfl⟩
 refine ⟨n1, n2, ?_, ?_, ?_, ?_, ?_, ?_, ?_⟩
 ·simp only [gres, List.length_append, List.length_singleton]; omega
 ·simp only [gres, List.length_map]
 ·simp only [gres, List.length_map]; omega
 ·rw [sr 0 (Int.le_refl _) (by omega)]; omega
 ·intro b b0 b1; rw [sr b b0 (by omega), sr (b + 1) (by omega) (by omega), step b b0 b1]; have := mon (b + 1) (by omega) (by omega); rw [step b b0 b1] at this; simp only [gres, List.length_map]
  omega
 ·intro b b0 b1 e e0 e1; rw [sr b b0 (by omega)] at e0; rw [sr (b + 1) (by omega) (by omega), step b b0 b1] at e1; obtain ⟨j, hj⟩ : ∃ j : Nat, e = (((flatTo (inRow n st tos dr co) b.toNat).length + j : Nat) : Int) := ⟨(e - (flatTo (inRow n st tos dr co) b.toNat).length).toNat, by omega⟩; have jl : j < (inRow n st tos dr co b.toNat).length := by omega
  have q := at_ b b0 b1 j jl; obtain ⟨x, xr, xt, ex⟩ := mem b b0 b1 _ (List.getElem_mem jl); rw [ex] at q; have r1 := rd_map eT _ _ q; have r2 := rd_map eC _ _ q; rw [← hj] at r1 r2; have ow := owner_rng v xr.1 xr.2; have ed := v.edge x xr.1 xr.2; simp only [gres]; rw [r1, r2]; exact ⟨⟨ow.1, ow.2.1⟩, ed.2.2, ⟨x, xr.1, xr.2, rfl, xt, rfl⟩⟩
 ·rintro a b c ⟨x, x0, x1, xa, xb, xc⟩; have ed := v.edge x x0 x1; have b0 : 0 ≤ b := by omega
  have b1 : b < n := by omega
  have hm : revE n st tos dr co x ∈ inRow n st tos dr co b.toNat := by
   unfold inRow; refine List.mem_map.2 ⟨x, List.mem_filter.2 ⟨?_, ?_⟩, rfl⟩
   ·simp only [upI, List.mem_map, List.mem_range]; exact ⟨x.toNat, by omega, by omega⟩
   ·rw [Int.toNat_of_nonneg b0]; exact decide_eq_true xb
  obtain ⟨j, jl, ej⟩ := List.getElem_of_mem hm; have q := at_ b b0 b1 j jl; rw [ej] at q; refine ⟨b0, b1, (((flatTo (inRow n st tos dr co) b.toNat).length + j : Nat) : Int), ?_, ?_, ?_, ?_⟩
  ·rw [sr b b0 (by omega)]; omega
  ·rw [sr (b + 1) (by omega) (by omega), step b b0 b1]; omega
  ·have := rd_map eT _ _ q; simp only [gres]; rw [this]; exact xa
  ·have := rd_map eC _ _ q; simp only [gres]; rw [this]; exact xc
end

open Classical in
noncomputable def hst (n : Int) (st tos dr co d : List Int) (t : Int) (e : Int) (hp : List Int) : List Int :=
 if owner n st e ≠ t ∧ 0 ≤ rd d (rd tos e) ∧ wrap64 (rd d (rd tos e) + rd co e) = rd d (owner n st e) ∧ (rd hp (owner n st e) < 0 ∨ rd dr e < rd hp (owner n st e)) then hp.set (owner n st e).toNat (rd dr e) else hp
noncomputable def hfold (n : Int) (st tos dr co d : List Int) (t : Int) (h0 : List Int) : Nat → List Int
 | 0 => h0
 | m + 1 => hst n st tos dr co d t m (hfold n st tos dr co d t h0 m)
theorem hst_skip {n : Int} {st tos dr co d : List Int} {t e : Int} {hp : List Int} (h : ¬ (owner n st e ≠ t ∧ 0 ≤ rd d (rd tos e) ∧ wrap64 (rd d (rd tos e) + rd co e) = rd d (owner n st e) ∧ (rd hp (owner n st e) < 0 ∨ rd dr e < rd hp (owner n st e)))) : hst n st tos dr co d t e hp = hp := by unfold hst; exact if_neg h
theorem hst_put {n : Int} {st tos dr co d : List Int} {t e : Int} {hp : List Int} (h : owner n st e ≠ t ∧ 0 ≤ rd d (rd tos e) ∧ wrap64 (rd d (rd tos e) + rd co e) = rd d (owner n st e) ∧ (rd hp (owner n st e) < 0 ∨ rd dr e < rd hp (owner n st e))) : hst n st tos dr co d t e hp = hp.set (owner n st e).toNat (rd dr e) := by unfold hst; exact if_pos h
theorem hst_len (n : Int) (st tos dr co d : List Int) (t e : Int) (hp : List Int) : (hst n st tos dr co d t e hp).length = hp.length := by
 unfold hst; split
 ·rw [List.length_set]
 ·rfl
theorem hfold_len (n : Int) (st tos dr co d : List Int) (t : Int) (h0 : List Int) (m : Nat) : (hfold n st tos dr co d t h0 m).length = h0.length := by
 induction m with
 | zero => rfl
 | succ m ih => rw [hfold, hst_len, ih]
section
variable {n : Int} {st tos dr co : List Int} (v : ValidG n st tos dr co) {d h0 : List Int} (dl : (d.length : Int) = n) (hl : (h0.length : Int) = n) (t : Int)
include v dl hl
theorem hope_ok (c : Int) (c0 : 0 ≤ c) (c1 : c < n) (ct : c ≠ t) (m : Nat) : ∀ (k : Nat) (e : Nat), m < k → (e : Int) + m = rd st (c + 1) → rd st c ≤ e →
  impl_Route.hope st tos dr co d c t k e (hfold n st tos dr co d t h0 e) = some (hfold n st tos dr co d t h0 (rd st (c + 1)).toNat) := by
 have n2 := v.n2; have most := v.most; have lto := v.lto; have ldr := v.ldr; have lco := v.lco; have nn := st_nn v (a := c + 1) (by omega) (by omega)
 induction m with
 | zero =>
  intro k e mk ee e0; cases k with
  | zero => omega
  | succ k =>
   rw [impl_Route.hope, if_neg (by omega), show (rd st (c + 1)).toNat = e by omega]
 | succ m ih =>
  intro k e mk ee e0; cases k with
  | zero => omega
  | succ k =>
   have ed := v.edge e (by omega) (by omega); have ow := owner_eq v c0 c1 e0 (by omega); have K := ih k (e + 1) (by omega) (by omega) (by omega); rw [impl_Route.hope, if_pos ⟨by omega, ct⟩, if_pos ⟨by omega, by omega, by omega, by omega, by omega, ed.1.1, by omega⟩]; rw [← K, show ((e + 1 : Nat) : Int) = (e : Int) + 1 by omega, hfold]
   congr 1
   unfold hst; rw [ow]
   by_cases q : rd d (rd tos e) ≥ 0 ∧ wrap64 (rd d (rd tos e) + rd co e) = rd d c ∧ (rd (hfold n st tos dr co d t h0 e) c < 0 ∨ rd dr e < rd (hfold n st tos dr co d t h0 e) c)
   ·rw [if_pos q, if_pos ⟨ct, q⟩]
   ·rw [if_neg q, if_neg (fun z => q z.2)]
theorem hfold_t (c : Int) (c0 : 0 ≤ c) (c1 : c < n) (ct : c = t) (m : Nat) : ∀ e : Nat, (e : Int) + m = rd st (c + 1) → rd st c ≤ e → hfold n st tos dr co d t h0 (rd st (c + 1)).toNat = hfold n st tos dr co d t h0 e := by
 induction m with
 | zero => intro e ee e0; rw [show (rd st (c + 1)).toNat = e by omega]
 | succ m ih =>
  intro e ee e0; rw [ih (e + 1) (by omega) (by omega), hfold]; unfold hst; rw [owner_eq v c0 c1 e0 (by omega), if_neg (fun z => z.1 ct)]
theorem hopc_ok (m : Nat) : ∀ (k : Nat) (c : Int), m < k → 0 ≤ c → c + m = n →
  impl_Route.hopc st tos dr co d t n k c (hfold n st tos dr co d t h0 (rd st c).toNat) = some (hfold n st tos dr co d t h0 (rd st n).toNat) := by
 have n2 := v.n2; have len := v.len; have most := v.most; have lto := v.lto
 induction m with
 | zero =>
  intro k c mk c0 cc; cases k with
  | zero => omega
  | succ k => rw [impl_Route.hopc, if_neg (by omega), show c = n by omega]
 | succ m ih =>
  intro k c mk c0 cc; cases k with
  | zero => omega
  | succ k =>
   have c1 : c < n := by omega
   have mo := v.mono c c0 c1; have nn := st_nn v (a := c) c0 (by omega); have nn1 := st_nn v (a := c + 1) (by omega) (by omega); have fl := hfold_len n st tos dr co d t h0 (rd st c).toNat; rw [impl_Route.hopc, if_pos c1, if_pos ⟨c0, by omega, by omega, by omega⟩]
   by_cases ct : c = t
   ·have e1 : impl_Route.hope st tos dr co d c t (tos.length + 1) (rd st c) (hfold n st tos dr co d t h0 (rd st c).toNat) = some (hfold n st tos dr co d t h0 (rd st c).toNat) := by
     rw [impl_Route.hope, if_neg (fun q => q.2 ct)]
    rw [e1, Option.bind_some, ← hfold_t v dl hl t c c0 c1 ct (rd st (c + 1) - rd st c).toNat (rd st c).toNat (by omega) (by omega)]; exact ih k (c + 1) (by omega) (by omega) (by omega)
   ·have e1 := hope_ok v dl hl t c c0 c1 ct (rd st (c + 1) - rd st c).toNat (tos.length + 1) (rd st c).toNat (by omega) (by omega) (by omega); rw [Int.toNat_of_nonneg nn.1] at e1; rw [e1, Option.bind_some]; exact ih k (c + 1) (by omega) (by omega) (by omega)
theorem spec_hop (m : Nat) : ∀ i : Nat, (i : Int) + m = rd st n → Ev (fun k => spec_Route.l3 k t ((upI (rd st n).toNat).map (fwdE n st tos dr co)) d (hfold n st tos dr co d t h0 i) i) (d, hfold n st tos dr co d t h0 (rd st n).toNat, 0) := by
 have n2 := v.n2; have most := v.most; have nn := st_nn v (a := n) (by have := v.n1; omega) (Int.le_refl _); have el : ((upI (rd st n).toNat).map (fwdE n st tos dr co)).length = (rd st n).toNat := by rw [List.length_map, upI_length]
 induction m with
 | zero =>
  intro i hi; refine Ev.step (fun _ => rfl) ?_; simp only [spec_Route.l3]; rw [show (rd st n).toNat = i by omega] at el ⊢; exact ev_neg (by omega) (Ev.now _)
 | succ m ih =>
  intro i hi; have K := ih (i + 1) (by omega); have il : i < ((upI (rd st n).toNat).map (fwdE n st tos dr co)).length := by omega
  have re : rd_T51 ((upI (rd st n).toNat).map (fwdE n st tos dr co)) (i : Int) = fwdE n st tos dr co i := by rw [rdE_lt il, List.getElem_map, upI_get]
  have ed := v.edge i (by omega) (by omega); have ow := owner_rng v (e := (i : Int)) (by omega) (by omega); have fl := hfold_len n st tos dr co d t h0 i; have wi : wrap64 ((i : Int) + 1) = ((i + 1 : Nat) : Int) := by rw [wrap64_id (by omega) (by omega)]; omega
  rw [hfold] at K; clear ih; generalize (upI (rd st n).toNat).map (fwdE n st tos dr co) = es at K el il re ⊢; generalize hfold n st tos dr co d t h0 (rd st n).toNat = Hn at K ⊢; generalize hfold n st tos dr co d t h0 i = Hi at K fl ⊢; refine Ev.step (fun _ => rfl) ?_; simp only [spec_Route.l3]; rw [re]; simp only [fwdE]; have skip : ∀ x : Bool, x = true → Ev (fun k => spec_Route.l3 k t es d Hi ((i + 1 : Nat) : Int)) (d, Hn, 0) → Ev (fun k => spec_Route.j5 k t es d Hi i x (owner n st i) (rd tos i) (rd dr i) (rd co i)) (d, Hn, 0) := by
   intro x hx h; refine Ev.step (fun _ => rfl) ?_; simp only [spec_Route.j5]; rw [wi]; exact ev_pos hx h
  have ni : (i : Int) < (es.length : Int) := Int.ofNat_lt.2 il; have i0 : 0 ≤ (i : Int) := Int.natCast_nonneg i; have o1 : owner n st i < (d.length : Int) := by rw [dl]; exact ow.2.1
  have o2 : owner n st i < (Hi.length : Int) := by rw [fl, hl]; exact ow.2.1
  have o3 : rd tos i < (d.length : Int) := by rw [dl]; exact ed.1.2
  have o0 := ow.1; have d0 := ed.1.1; clear ow ed fl el re nn most n2 dl hl v; refine ev_pos ni (ev_pos i0 ?_)
  by_cases q : owner n st i = t
  ·refine ev_pos q ?_; refine skip true rfl ?_; rw [hst_skip (fun z => z.1 q)] at K; exact K
  refine ev_neg q (ev_pos d0 (ev_pos o3 ?_))
  by_cases q2 : rd d (rd tos i) < 0
  ·refine ev_pos q2 ?_; refine skip true rfl ?_; rw [hst_skip (fun z => absurd z.2.1 (by omega))] at K; exact K
  refine ev_neg q2 (ev_pos o0 (ev_pos o1 ?_))
  by_cases q3 : wrap64 (rd d (rd tos i) + rd co i) = rd d (owner n st i)
  ·refine Ev.step (fun _ => rfl) ?_; simp only [spec_Route.j5]; rw [wi]; refine ev_neg (by rw [q3]; simp) (ev_pos o0 (ev_pos o2 ?_))
   by_cases q4 : rd Hi (owner n st i) < 0
   ·rw [hst_put ⟨q, Int.not_lt.1 q2, q3, .inl q4⟩] at K; exact ev_pos q4 K
   ·by_cases q5 : rd dr i < rd Hi (owner n st i)
    ·rw [hst_put ⟨q, Int.not_lt.1 q2, q3, .inr q5⟩] at K; exact ev_neg q4 (ev_pos q5 K)
    ·rw [hst_skip (fun z => z.2.2.2.elim q4 q5)] at K; exact ev_neg q4 (ev_neg q5 K)
  ·refine skip _ (bne_iff_ne.mpr q3) ?_; rw [hst_skip (fun z => q3 z.2.2.1)] at K; exact K
end

theorem u64_mask {x : Int} (h0 : 0 ≤ x) (h1 : x < 4294967296) : Go.bits .and .u64 x 4294967295 = x := by
 have := bits_mask .u64 64 (by decide) (fun n a b => by rw [IntKind.wrap_u64]; omega) 32 (by decide) x h0 (by omega); simp at this; rw [this]
 omega
theorem mul1_ok {n : Int} (h0 : 0 ≤ n) (h1 : n ≤ 1000000) : bits_Mul.f 1 n = some (0, n) := by
 unfold bits_Mul.f bits_Mul64.f; rw [Option.bind_some, show (1 : Int) / 4294967296 = 0 by decide, show n / 4294967296 = 0 by omega, u64_mask h0 (by omega), u64_mask (x := 1) (by decide) (by decide), Int.zero_mul, Int.one_mul, Int.mul_zero, Int.zero_mul]; have w0 : IntKind.u64.wrap 0 = 0 := by rw [IntKind.wrap_u64]; decide
 have wn : IntKind.u64.wrap n = n := by rw [IntKind.wrap_u64]; omega
 have m0 : Go.bits .and .u64 0 4294967295 = 0 := u64_mask (by decide) (by decide); simp only [w0, wn, show n / 4294967296 = 0 by omega, Int.add_zero, m0, show (0 : Int) / 4294967296 = 0 by decide]

theorem rep_rd {n v : Int} (v0 : 0 ≤ v) (v1 : v < n) : rd (List.replicate n.toNat (-1)) v = -1 := by
 rw [rd_get v0 (by rw [List.length_replicate]; omega), List.getElem_replicate]
section
variable {n : Int} {st tos dr co : List Int} (v : ValidG n st tos dr co) (t : Int) (t0 : 0 ≤ t) (t1 : t < n)
include v t0 t1
theorem impl_route_ev : ∃ d, IsDist n (EdgeC n st tos co) t d ∧ Ev (fun k => impl_Route.f k n st tos dr co t) (d, hfold n st tos dr co d t (List.replicate n.toNat (-1)) (rd st n).toNat, 0) := by
 have n1 := v.n1; have n2 := v.n2; obtain ⟨h, d, e1, e2, i⟩ := dij_start (backG (dr := dr) v) t t0 t1; refine ⟨d, i, ?_⟩; have es := impl_ValidGraph_ev n st tos dr co; rw [vg_true v] at es; have nn : ((n.toNat : Nat) : Int) = n := Int.toNat_of_nonneg (by omega); have hc := hopc_ok v i.len (h0 := List.replicate n.toNat (-1)) (by rw [List.length_replicate]; exact nn) t n.toNat (n.toNat + 1) 0 (Nat.lt_succ_self _) (Int.le_refl _) (by rw [nn]; omega); rw [v.zero] at hc; simp only [impl_Route.f]; refine Ev.bind es (ev_pos rfl (ev_neg (by omega) (ev_neg (by omega) (Ev.bind (impl_rev_ev v) (ev_pos ⟨by omega, mul1_ok (by omega) (by omega)⟩ ?_))))); rw [e1, Option.bind_some, e2, Option.bind_some]; rw [show hfold n st tos dr co d t (List.replicate n.toNat (-1)) (0 : Int).toNat = List.replicate n.toNat (-1) from rfl] at hc; rw [hc, Option.bind_some]; exact Ev.now _
end

def unas (d : List Int) : Nat → Int
 | 0 => 0
 | m + 1 => unas d m + (if rd d m < 0 then 1 else 0)
def sums (d : List Int) : Nat → Int
 | 0 => 0
 | m + 1 => sums d m + (if rd d m < 0 then 0 else rd d m)
theorem unas_le (d : List Int) (m : Nat) : 0 ≤ unas d m ∧ unas d m ≤ m := by
 induction m with
 | zero => simp [unas]
 | succ m ih => rw [unas]; split <;> omega
theorem sums_nn (d : List Int) (m : Nat) : 0 ≤ sums d m := by
 induction m with
 | zero => simp [sums]
 | succ m ih => rw [sums]; split <;> omega
theorem unas_new (d : List Int) (b x : Int) (b0 : 0 ≤ b) (b1 : b < d.length) (hb : rd d b < 0) (hx : 0 ≤ x) (m : Nat) : unas (d.set b.toNat x) m = unas d m - (if b < m then 1 else 0) := by
 induction m with
 | zero => rw [unas, unas, if_neg (by omega)]; omega
 | succ m ih =>
  rw [unas, unas, ih]
  by_cases e : b = m
  ·subst e; rw [rd_set_eq b0 b1, if_neg (by omega), if_neg (by omega), if_pos hb, if_pos (by omega)]
   omega
  ·rw [rd_set_ne b0 (by omega) e]
   by_cases q : b < m
   ·rw [if_pos q, if_pos (show b < ((m + 1 : Nat) : Int) by omega)]; omega
   ·rw [if_neg q, if_neg (show ¬ b < ((m + 1 : Nat) : Int) by omega)]; omega
theorem unas_old (d : List Int) (b x : Int) (b0 : 0 ≤ b) (b1 : b < d.length) (hb : 0 ≤ rd d b) (hx : 0 ≤ x) (m : Nat) : unas (d.set b.toNat x) m = unas d m := by
 induction m with
 | zero => rfl
 | succ m ih =>
  rw [unas, unas, ih]
  by_cases e : b = m
  ·subst e; rw [rd_set_eq b0 b1, if_neg (by omega), if_neg (by omega)]
  ·rw [rd_set_ne b0 (by omega) e]
theorem sums_old (d : List Int) (b x : Int) (b0 : 0 ≤ b) (b1 : b < d.length) (hb : 0 ≤ rd d b) (hx : 0 ≤ x) (m : Nat) : sums (d.set b.toNat x) m = sums d m - (if b < m then rd d b - x else 0) := by
 induction m with
 | zero => rw [sums, sums, if_neg (by omega)]; omega
 | succ m ih =>
  rw [sums, sums, ih]
  by_cases e : b = m
  ·subst e; rw [rd_set_eq b0 b1, if_neg (by omega), if_neg (by omega), if_neg (by omega), if_pos (by omega)]
   omega
  ·rw [rd_set_ne b0 (by omega) e]
   by_cases q : b < m
   ·rw [if_pos q, if_pos (show b < ((m + 1 : Nat) : Int) by omega)]; omega
   ·rw [if_neg q, if_neg (show ¬ b < ((m + 1 : Nat) : Int) by omega)]; omega
structure EsC (n : Int) (E : Int → Int → Int → Prop) (es : List S51) : Prop where
 small : es.length ≤ 6400
 one : ∀ i : Int, 0 ≤ i → i < es.length → (0 ≤ (rd_T51 es i).f0 ∧ (rd_T51 es i).f0 < n) ∧ (0 ≤ (rd_T51 es i).f1 ∧ (rd_T51 es i).f1 < n) ∧ (1 ≤ (rd_T51 es i).f3 ∧ (rd_T51 es i).f3 ≤ 9) ∧ E (rd_T51 es i).f0 (rd_T51 es i).f1 (rd_T51 es i).f3
 all : ∀ a b c : Int, E a b c → ∃ i : Int, 0 ≤ i ∧ i < es.length ∧ (rd_T51 es i).f0 = a ∧ (rd_T51 es i).f1 = b ∧ (rd_T51 es i).f3 = c
structure RG (n : Int) (E : Int → Int → Int → Prop) (t : Int) (d : List Int) : Prop where
 len : (d.length : Int) = n
 tgt : rd d t = 0
 val : ∀ v : Int, 0 ≤ v → v < n → rd d v = -1 ∨ ((0 ≤ rd d v ∧ rd d v ≤ 9 * (n - unas d n.toNat)) ∧ WayC E t v (rd d v))
def Less (n : Int) (d d0 : List Int) : Prop := unas d n.toNat < unas d0 n.toNat ∨ (unas d n.toNat = unas d0 n.toNat ∧ sums d n.toNat < sums d0 n.toNat)
section
variable {n : Int} {E : Int → Int → Int → Prop} {es : List S51} (he : EsC n E es) (n1 : 1 ≤ n) (n2 : n ≤ 1600) (t : Int) (t0 : 0 ≤ t) (t1 : t < n)
include he n1 n2 t0 t1
theorem RG.put {d : List Int} (r : RG n E t d) (i : Int) (i0 : 0 ≤ i) (i1 : i < es.length) (hb : 0 ≤ rd d (rd_T51 es i).f1) (hl : rd d (rd_T51 es i).f0 < 0 ∨ rd d (rd_T51 es i).f1 + (rd_T51 es i).f3 < rd d (rd_T51 es i).f0) :
  RG n E t (d.set (rd_T51 es i).f0.toNat (rd d (rd_T51 es i).f1 + (rd_T51 es i).f3)) ∧ Less n (d.set (rd_T51 es i).f0.toNat (rd d (rd_T51 es i).f1 + (rd_T51 es i).f3)) d := by
 obtain ⟨a0, b0, c0, ee⟩ := he.one i i0 i1; have len := r.len; generalize (rd_T51 es i).f0 = a at *; generalize (rd_T51 es i).f1 = b at *; generalize (rd_T51 es i).f3 = c at *; have vb : (0 ≤ rd d b ∧ rd d b ≤ 9 * (n - unas d n.toNat)) ∧ WayC E t b (rd d b) := (r.val b b0.1 b0.2).elim (fun q => by omega) id; have rs : ∀ v : Int, 0 ≤ v → rd (d.set a.toNat (rd d b + c)) v = if v = a then rd d b + c else rd d v := by
  intro v v0
  by_cases q : v = a
  ·subst q; rw [if_pos rfl]; exact rd_set_eq a0.1 (by omega)
  ·rw [if_neg q]; exact rd_set_ne a0.1 v0 (fun z => q z.symm)
 have at_ : a ≠ t := by
  intro q; rw [q, r.tgt] at hl
  omega
 by_cases h : rd d a < 0
 ·have u := unas_new d a (rd d b + c) a0.1 (by omega) h (by omega) n.toNat; rw [if_pos (by omega)] at u; refine ⟨⟨by rw [List.length_set]; exact len, by rw [rs t t0, if_neg (fun q => at_ q.symm)]; exact r.tgt, fun v v0 v1 => ?_⟩, .inl (by omega)⟩; rw [rs v v0, u]
  by_cases q : v = a
  ·rw [if_pos q, q]; exact .inr ⟨⟨by omega, by omega⟩, WayC.on ee vb.2⟩
  ·rw [if_neg q]; exact (r.val v v0 v1).imp id (fun z => ⟨⟨z.1.1, by omega⟩, z.2⟩)
 ·have u := unas_old d a (rd d b + c) a0.1 (by omega) (by omega) (by omega) n.toNat; have s := sums_old d a (rd d b + c) a0.1 (by omega) (by omega) (by omega) n.toNat; rw [if_pos (by omega)] at s; have va : (0 ≤ rd d a ∧ rd d a ≤ 9 * (n - unas d n.toNat)) ∧ WayC E t a (rd d a) := (r.val a a0.1 a0.2).elim (fun q => by omega) id; refine ⟨⟨by rw [List.length_set]; exact len, by rw [rs t t0, if_neg (fun q => at_ q.symm)]; exact r.tgt, fun v v0 v1 => ?_⟩, .inr ⟨u, by omega⟩⟩; rw [rs v v0, u]
  by_cases q : v = a
  ·rw [if_pos q, q]; exact .inr ⟨⟨by omega, by omega⟩, WayC.on ee vb.2⟩
  ·rw [if_neg q]; exact r.val v v0 v1
theorem rpass (hp d0 : List Int) (K1 : ∀ d : List Int, RG n E t d → Less n d d0 → ∃ r, IsDist n E t r ∧ ∀ R, Ev (fun k => spec_Route.l3 k t es r hp 0) R → Ev (fun k => spec_Route.l1 k t es d hp) R) (m : Nat) :
  ∀ (d : List Int) (b : Bool) (i : Int), i + 1 = m → i < es.length → RG n E t d → (b = true → Less n d d0) → (b = false → d = d0 ∧ ∀ j : Int, i < j → j < es.length → 0 ≤ rd d (rd_T51 es j).f1 → 0 ≤ rd d (rd_T51 es j).f0 ∧ rd d (rd_T51 es j).f0 ≤ rd d (rd_T51 es j).f1 + (rd_T51 es j).f3) →
  ∃ r, IsDist n E t r ∧ ∀ R, Ev (fun k => spec_Route.l3 k t es r hp 0) R → Ev (fun k => spec_Route.l2 k t es d hp b i) R := by
 have sm := he.small
 induction m with
 | zero =>
  intro d b i hi il g ht hf; cases b with
  | true =>
   obtain ⟨r, e, K⟩ := K1 d g (ht rfl); refine ⟨r, e, fun R h => Ev.step (fun _ => rfl) ?_⟩; simp only [spec_Route.l2]; exact ev_neg (by omega) (ev_pos (by trivial) (K R h))
  | false =>
   obtain ⟨rfl, hc⟩ := hf rfl; refine ⟨d, ⟨g.len, g.tgt, fun v v0 v1 => (g.val v v0 v1).imp id (fun z => ⟨z.1.1, z.2⟩), fun a b c ee hb => ?_⟩, fun R h => Ev.step (fun _ => rfl) ?_⟩
   ·obtain ⟨j, j0, j1, rfl, rfl, rfl⟩ := he.all a b c ee; exact hc j (by omega) j1 hb
   ·simp only [spec_Route.l2]; exact ev_neg (by omega) (ev_neg (by simp) h)
 | succ m ih =>
  intro d b i hi il g ht hf; have i0 : 0 ≤ i := by omega
  have one := he.one i i0 il; have len := g.len; have wi : wrap64 (i - 1) = i - 1 := wrap64_id (by omega) (by omega); have un := unas_le d n.toNat
  by_cases c0 : rd d (rd_T51 es i).f1 < 0
  ·obtain ⟨r, e, K⟩ := ih d b (i - 1) (by omega) (by omega) g ht (fun hb => ⟨(hf hb).1, fun j j0 j1 h => by
    by_cases q : j = i
    ·subst q; omega
    ·exact (hf hb).2 j (by omega) j1 h⟩)
   refine ⟨r, e, fun R h => Ev.step (fun _ => rfl) ?_⟩; simp only [spec_Route.l2]; rw [wi]; exact ev_pos i0 (ev_pos i0 (ev_pos il (ev_pos one.2.1.1 (ev_pos (by omega) (ev_pos c0 (K R h))))))
  ·have vb : (0 ≤ rd d (rd_T51 es i).f1 ∧ rd d (rd_T51 es i).f1 ≤ 9 * (n - unas d n.toNat)) ∧ _ := (g.val _ one.2.1.1 one.2.1.2).elim (fun q => by omega) id; have ws : wrap64 (rd d (rd_T51 es i).f1 + (rd_T51 es i).f3) = rd d (rd_T51 es i).f1 + (rd_T51 es i).f3 := wrap64_id (by omega) (by omega)
   by_cases hl : rd d (rd_T51 es i).f0 < 0 ∨ rd d (rd_T51 es i).f1 + (rd_T51 es i).f3 < rd d (rd_T51 es i).f0
   ·obtain ⟨g2, ls⟩ := RG.put he n1 n2 t t0 t1 g i i0 il (by omega) hl
    obtain ⟨r, e, K⟩ := ih _ true (i - 1) (by omega) (by omega) g2 (fun _ => by
     cases b with
     | true => have := ht rfl; unfold Less at *; omega
     | false => rw [← (hf rfl).1]; exact ls) (fun q => by cases q)
    refine ⟨r, e, fun R h => Ev.step (fun _ => rfl) ?_⟩; simp only [spec_Route.l2]; rw [wi, ws]; refine ev_pos i0 (ev_pos i0 (ev_pos il (ev_pos one.2.1.1 (ev_pos (by omega) (ev_neg c0 (ev_pos one.1.1 (ev_pos (by omega) ?_))))))); refine ev_ite (fun _ => K R h) (fun q => ev_pos (by omega) (K R h))
   ·obtain ⟨r, e, K⟩ := ih d b (i - 1) (by omega) (by omega) g ht (fun hb => ⟨(hf hb).1, fun j j0 j1 h => by
     by_cases q : j = i
     ·subst q; omega
     ·exact (hf hb).2 j (by omega) j1 h⟩)
    refine ⟨r, e, fun R h => Ev.step (fun _ => rfl) ?_⟩; simp only [spec_Route.l2]; rw [wi, ws]; exact ev_pos i0 (ev_pos i0 (ev_pos il (ev_pos one.2.1.1 (ev_pos (by omega) (ev_neg c0 (ev_pos one.1.1 (ev_pos (by omega) (ev_neg (by omega) (ev_neg (by omega) (K R h))))))))))
theorem rpasses (hp : List Int) (u : Nat) : ∀ (s : Nat) (d : List Int), RG n E t d → unas d n.toNat ≤ u → sums d n.toNat ≤ s → ∃ r, IsDist n E t r ∧ ∀ R, Ev (fun k => spec_Route.l3 k t es r hp 0) R → Ev (fun k => spec_Route.l1 k t es d hp) R := by
 have sm := he.small; have go : ∀ d : List Int, RG n E t d → (∀ d2 : List Int, RG n E t d2 → Less n d2 d → ∃ r, IsDist n E t r ∧ ∀ R, Ev (fun k => spec_Route.l3 k t es r hp 0) R → Ev (fun k => spec_Route.l1 k t es d2 hp) R) → ∃ r, IsDist n E t r ∧ ∀ R, Ev (fun k => spec_Route.l3 k t es r hp 0) R → Ev (fun k => spec_Route.l1 k t es d hp) R := by
  intro d g K1; obtain ⟨r, e, K⟩ := rpass he n1 n2 t t0 t1 hp d K1 es.length d false ((es.length : Int) - 1) (by omega) (by omega) g (fun q => by cases q) (fun _ => ⟨rfl, fun j j0 j1 => by omega⟩); refine ⟨r, e, fun R h => Ev.step (fun _ => rfl) ?_⟩; simp only [spec_Route.l1]; rw [wrap64_id (by omega) (by omega)]; exact K R h
 induction u with
 | zero =>
  intro s
  induction s with
  | zero => intro d g hu hs; exact go d g (fun d2 g2 l => by have := unas_le d2 n.toNat; have := sums_nn d2 n.toNat; unfold Less at l; omega)
  | succ s ihs => intro d g hu hs; exact go d g (fun d2 g2 l => by have := unas_le d2 n.toNat; unfold Less at l; exact ihs d2 g2 (by omega) (by omega))
 | succ u ihu =>
  intro s; have low : ∀ d2 : List Int, RG n E t d2 → unas d2 n.toNat ≤ u → ∃ r, IsDist n E t r ∧ ∀ R, Ev (fun k => spec_Route.l3 k t es r hp 0) R → Ev (fun k => spec_Route.l1 k t es d2 hp) R := fun d2 g2 q => ihu (sums d2 n.toNat).toNat d2 g2 q (by omega)
  induction s with
  | zero => intro d g hu hs; exact go d g (fun d2 g2 l => by have := sums_nn d2 n.toNat; unfold Less at l; exact low d2 g2 (by omega))
  | succ s ihs =>
   intro d g hu hs; refine go d g (fun d2 g2 l => ?_)
   by_cases q : unas d2 n.toNat ≤ u
   ·exact low d2 g2 q
   ·unfold Less at l; exact ihs d2 g2 (by omega) (by omega)
end

theorem spec_vg_edges {n : Int} {st tos dr co : List Int} (d : Nat) : ∀ (e : Int), 0 ≤ e → (rd st n) - e = d → 1 ≤ n → n ≤ 1600 → (st.length : Int) = n + 1 → rd st 0 = 0 → rd st n ≤ 6400 →
  (tos.length : Int) = rd st n → (dr.length : Int) = rd st n → (co.length : Int) = rd st n → (∀ c : Int, 0 ≤ c → c < n → rd st c ≤ rd st (c + 1)) →
  (∀ f : Int, 0 ≤ f → f < e → (0 ≤ rd tos f ∧ rd tos f < n) ∧ (0 ≤ rd dr f ∧ rd dr f ≤ 3) ∧ (1 ≤ rd co f ∧ rd co f ≤ 9)) →
  Ev (fun k => spec_ValidGraph.l1 k (rd st n) e n st tos dr co) (vg n st tos dr co) := by
 induction d with
 | zero =>
  intro e h0 hd n1 n2 hl hz hm h1 h2 h3 hs he; refine Ev.step (fun _ => rfl) ?_; simp only [spec_ValidGraph.l1]; refine ev_neg (by omega) ?_; rw [vg_true ⟨n1, n2, hl, hz, hs, hm, h1, h2, h3, fun f a b => he f a (by omega)⟩]; exact Ev.now _
 | succ d ih =>
  intro e h0 hd n1 n2 hl hz hm h1 h2 h3 hs he; refine Ev.step (fun _ => rfl) ?_; simp only [spec_ValidGraph.l1]; have bad : ¬ ((0 ≤ rd tos e ∧ rd tos e < n) ∧ (0 ≤ rd dr e ∧ rd dr e ≤ 3) ∧ (1 ≤ rd co e ∧ rd co e ≤ 9)) → Ev (fun _ => some false) (vg n st tos dr co) := by
   intro h; rw [vg_false (fun v => h (v.edge e h0 (by omega)))]; exact Ev.now _
  refine ev_pos (by omega) (ev_pos (by omega) (ev_pos (by omega) ?_)); refine ev_ite (fun c => bad (by omega)) (fun c1 => ev_ite (fun c => bad (by omega)) (fun c2 => ev_pos (by omega) ?_)); refine ev_ite (fun c => bad (by omega)) (fun c3 => ev_ite (fun c => bad (by omega)) (fun c4 => ev_pos (by omega) ?_)); refine ev_ite (fun c => bad (by omega)) (fun c5 => ev_ite (fun c => bad (by omega)) (fun c6 => ?_)); rw [wrap64_id (by omega) (by omega)]; refine ih _ (by omega) (by omega) n1 n2 hl hz hm h1 h2 h3 hs (fun f a b => ?_)
  by_cases q : f = e
  ·subst q; omega
  ·exact he f a (by omega)
theorem spec_vg_sorted {n : Int} {st tos dr co : List Int} (d : Nat) : ∀ (c : Int), 0 ≤ c → n - c = d → 1 ≤ n → n ≤ 1600 → (st.length : Int) = n + 1 → rd st 0 = 0 → rd st n ≤ 6400 →
  (tos.length : Int) = rd st n → (dr.length : Int) = rd st n → (co.length : Int) = rd st n → (∀ f : Int, 0 ≤ f → f < c → rd st f ≤ rd st (f + 1)) →
  Ev (fun k => spec_ValidGraph.l0 k (rd st n) c n st tos dr co) (vg n st tos dr co) := by
 induction d with
 | zero =>
  intro c h0 hd n1 n2 hl hz hm h1 h2 h3 hs; refine Ev.step (fun _ => rfl) ?_; simp only [spec_ValidGraph.l0]; refine ev_neg (by omega) ?_; exact spec_vg_edges (rd st n).toNat 0 (by omega) (by omega) n1 n2 hl hz hm h1 h2 h3 (fun f a b => hs f a (by omega)) (fun f a b => by omega)
 | succ d ih =>
  intro c h0 hd n1 n2 hl hz hm h1 h2 h3 hs; refine Ev.step (fun _ => rfl) ?_; simp only [spec_ValidGraph.l0]; rw [wrap64_id (by omega) (by omega)]; refine ev_pos (by omega) (ev_pos (by omega) (ev_pos (by omega) (ev_pos (by omega) (ev_pos (by omega) ?_)))); refine ev_ite (fun q => ?_) (fun q => ?_)
  ·rw [vg_false (fun v => by have := v.mono c h0 (by omega); omega)]; exact Ev.now _
  ·refine ih _ (by omega) (by omega) n1 n2 hl hz hm h1 h2 h3 (fun f a b => ?_)
   by_cases e : f = c
   ·subst e; omega
   ·exact hs f a (by omega)
theorem spec_ValidGraph_ev (n : Int) (st tos dr co : List Int) : Ev (fun k => spec_ValidGraph.f k n st tos dr co) (vg n st tos dr co) := by
 have bad0 : ¬ ValidG n st tos dr co → Ev (fun k => spec_ValidGraph.j0 k true n st tos dr co) (vg n st tos dr co) := by
  intro h; rw [vg_false h]; refine Ev.step (fun _ => rfl) ?_; simp only [spec_ValidGraph.j0]; exact ev_pos (by trivial) (Ev.now _)
 have bad1 : ∀ m, ¬ ValidG n st tos dr co → Ev (fun k => spec_ValidGraph.j1 k m true n st tos dr co) (vg n st tos dr co) := by
  intro m h; rw [vg_false h]; refine Ev.step (fun _ => rfl) ?_; simp only [spec_ValidGraph.j1]; exact ev_pos (by trivial) (Ev.now _)
 simp only [spec_ValidGraph.f]; refine ev_ite (fun c => bad0 (fun v => by have := v.n1; omega)) (fun c1 => ?_); refine ev_ite (fun c => bad0 (fun v => by have := v.n2; omega)) (fun c2 => ?_); rw [wrap64_id (by omega) (by omega)]; refine ev_ite (fun c3 => ev_pos (by omega) ?_) (fun c => bad0 (fun v => c v.len))
 by_cases c4 : rd st 0 = 0
 ·rw [show (rd st 0 != 0) = false by rw [bne_eq_false_iff_eq]; exact c4]; refine Ev.step (fun _ => rfl) ?_; simp only [spec_ValidGraph.j0]; refine ev_neg (by simp) (ev_pos (by omega) (ev_pos (by omega) ?_)); refine ev_ite (fun c => bad1 _ (fun v => by have := v.most; omega)) (fun c5 => ?_); refine ev_ite (fun c6 => ?_) (fun c => bad1 _ (fun v => c v.lto)); refine ev_ite (fun c7 => ?_) (fun c => bad1 _ (fun v => c v.ldr))
  by_cases c8 : (co.length : Int) = rd st n
  ·rw [show ((co.length : Int) != rd st n) = false by rw [bne_eq_false_iff_eq]; exact c8]; refine Ev.step (fun _ => rfl) ?_; simp only [spec_ValidGraph.j1]; refine ev_neg (by simp) ?_; exact spec_vg_sorted n.toNat 0 (by omega) (by omega) (by omega) (by omega) c3 c4 (by omega) c6 c7 c8 (fun f a b => by omega)
  ·rw [show ((co.length : Int) != rd st n) = true by rw [bne_iff_ne]; exact c8]; exact bad1 _ (fun v => c8 v.lco)
 ·rw [show (rd st 0 != 0) = true by rw [bne_iff_ne]; exact c4]; exact bad0 (fun v => c4 v.zero)

section
variable {n : Int} {st tos dr co : List Int} (v : ValidG n st tos dr co) (t : Int) (t0 : 0 ≤ t) (t1 : t < n)
include v t0 t1
theorem esC : EsC n (EdgeC n st tos co) ((upI (rd st n).toNat).map (fwdE n st tos dr co)) := by
 have n1 := v.n1; have most := v.most; have nn := st_nn v (a := n) (by omega) (Int.le_refl _); have el : ((upI (rd st n).toNat).map (fwdE n st tos dr co)).length = (rd st n).toNat := by rw [List.length_map, upI_length]
 have re : ∀ i : Int, 0 ≤ i → i < rd st n → rd_T51 ((upI (rd st n).toNat).map (fwdE n st tos dr co)) i = fwdE n st tos dr co i := by
  intro i i0 i1; have q : i.toNat < ((upI (rd st n).toNat).map (fwdE n st tos dr co)).length := by omega
  have z := rdE_lt q; rw [Int.toNat_of_nonneg i0] at z; rw [z, List.getElem_map, upI_get, Int.toNat_of_nonneg i0]
 refine ⟨by omega, fun i i0 i1 => ?_, fun a b c h => ?_⟩
 ·have i2 : i < rd st n := by omega
  have ow := owner_rng v i0 i2; have ed := v.edge i i0 i2; rw [re i i0 i2]; exact ⟨⟨ow.1, ow.2.1⟩, ed.1, ed.2.2, ⟨i, i0, i2, rfl, rfl, rfl⟩⟩
 ·obtain ⟨e, e0, e1, ea, eb, ec⟩ := h; refine ⟨e, e0, by omega, ?_⟩; rw [re e e0 e1]; exact ⟨ea, eb, ec⟩
theorem rg0 : RG n (EdgeC n st tos co) t ((List.replicate n.toNat (-1)).set t.toNat 0) := by
 have n1 := v.n1; have ln : ((List.replicate n.toNat (-1 : Int)).length : Int) = n := by rw [List.length_replicate]; omega
 have un := unas_le ((List.replicate n.toNat (-1)).set t.toNat 0) n.toNat; have tg : rd ((List.replicate n.toNat (-1)).set t.toNat 0) t = 0 := rd_set_eq t0 (by omega); refine ⟨by rw [List.length_set]; exact ln, tg, fun w w0 w1 => ?_⟩
 by_cases q : w = t
 ·subst q; rw [tg]; exact .inr ⟨⟨Int.le_refl _, by omega⟩, WayC.here _ _⟩
 ·rw [rd_set_ne t0 w0 (fun z => q z.symm), rep_rd w0 w1]; exact .inl rfl
theorem spec_r0 (es : List S51) {R : List Int × List Int × Int} (H : Ev (fun k => spec_Route.l1 k t es ((List.replicate n.toNat (-1)).set t.toNat 0) (List.replicate n.toNat (-1))) R) (m : Nat) : ∀ (i : Int) (A B : List Int), 0 ≤ i → i + m = n → (A.length : Int) = n → (B.length : Int) = n → (∀ j : Int, 0 ≤ j → j < i → rd A j = -1) → (∀ j : Int, 0 ≤ j → j < i → rd B j = -1) →
  Ev (fun k => spec_Route.l0 k t es A B i n st tos dr co) R := by
 have n1 := v.n1; have n2 := v.n2; clear v
 induction m with
 | zero =>
  intro i A B i0 im la lb ha hb; have full : ∀ A : List Int, (A.length : Int) = n → (∀ j : Int, 0 ≤ j → j < i → rd A j = -1) → A = List.replicate n.toNat (-1) := by
   intro A la ha; refine rd_ext (by rw [List.length_replicate]; omega) (fun w w0 w1 => ?_); rw [ha w w0 (by omega), rep_rd w0 (by omega)]
  rw [full A la ha, full B lb hb]; have lr : ((List.replicate n.toNat (-1 : Int)).length : Int) = n := by rw [List.length_replicate]; omega
  refine Ev.step (fun _ => rfl) ?_; simp only [spec_Route.l0]; exact ev_neg (by omega) (ev_pos t0 (ev_pos (by omega) H))
 | succ m ih =>
  intro i A B i0 im la lb ha hb; have put : ∀ A : List Int, (A.length : Int) = n → (∀ j : Int, 0 ≤ j → j < i → rd A j = -1) → ∀ j : Int, 0 ≤ j → j < i + 1 → rd (A.set i.toNat (-1)) j = -1 := by
   intro A la ha j j0 j1
   by_cases q : j = i
   ·subst q; exact rd_set_eq j0 (by omega)
   ·rw [rd_set_ne i0 j0 (fun z => q z.symm)]; exact ha j j0 (by omega)
  have K := ih (i + 1) (A.set i.toNat (-1)) (B.set i.toNat (-1)) (by omega) (by omega) (by rw [List.length_set]; exact la) (by rw [List.length_set]; exact lb) (put A la ha) (put B lb hb); refine Ev.step (fun _ => rfl) ?_; simp only [spec_Route.l0]; rw [wrap64_id (x := i + 1) (by omega) (by omega)]; exact ev_pos (by omega) (ev_pos i0 (ev_pos (by omega) (ev_pos (by omega) K)))
theorem spec_route_ev : ∃ d, IsDist n (EdgeC n st tos co) t d ∧ Ev (fun k => spec_Route.f k n st tos dr co t) (d, hfold n st tos dr co d t (List.replicate n.toNat (-1)) (rd st n).toNat, 0) := by
 have n1 := v.n1; have n2 := v.n2; have nn := st_nn v (a := n) (by omega) (Int.le_refl _); have ln : ((List.replicate n.toNat (-1 : Int)).length : Int) = n := by rw [List.length_replicate]; omega
 have lz : ((List.replicate n.toNat (0 : Int)).length : Int) = n := by rw [List.length_replicate]; omega
 have g0 := rg0 v t t0 t1; obtain ⟨d, i, K⟩ := rpasses (esC v t t0 t1 (dr := dr)) n1 n2 t t0 t1 (List.replicate n.toNat (-1)) (unas ((List.replicate n.toNat (-1)).set t.toNat 0) n.toNat).toNat (sums ((List.replicate n.toNat (-1)).set t.toNat 0) n.toNat).toNat _ g0 (Int.self_le_toNat _) (Int.self_le_toNat _); refine ⟨d, i, ?_⟩; have hp := spec_hop v i.len ln t (rd st n).toNat 0 (by omega); have l1 := K _ hp; have l0 := spec_r0 v t t0 t1 _ l1 n.toNat 0 (List.replicate n.toNat 0) (List.replicate n.toNat 0) (Int.le_refl _) (by omega) lz lz (fun j j0 j1 => by omega) (fun j j0 j1 => by omega); have es := spec_ValidGraph_ev n st tos dr co; rw [vg_true v] at es; simp only [spec_Route.f]; refine Ev.bind es (ev_pos rfl (ev_neg (by omega) ?_)); refine Ev.step (fun _ => rfl) ?_; simp only [spec_Route.j0]; exact ev_neg (by rw [decide_eq_false (show ¬ t ≥ n by omega)]; decide) (Ev.bind (spec_l5edges_ev v) (ev_pos (by omega) (ev_pos (by omega) l0)))
end
theorem route_both (n : Int) (st tos dr co : List Int) (t : Int) :
  ∃ r, Ev (fun k => spec_Route.f k n st tos dr co t) r ∧ Ev (fun k => impl_Route.f k n st tos dr co t) r ∧ r.1.length ≤ 1600 ∧ r.2.1.length ≤ 1600 := by
 have bad : ∀ k : Nat → Option (List Int × List Int × Int), k = k := fun _ => rfl
 cases hv : vg n st tos dr co with
 | false =>
  have es := spec_ValidGraph_ev n st tos dr co; have ei := impl_ValidGraph_ev n st tos dr co; rw [hv] at es ei; simp only [spec_Route.f, impl_Route.f]; refine ⟨([], [], 1), Ev.bind es (ev_neg (by simp) (Ev.step (fun _ => rfl) ?_)), Ev.bind ei (ev_neg (by simp) (Ev.now _)), by simp, by simp⟩; simp only [spec_Route.j0]; exact ev_pos (by trivial) (Ev.now _)
 | true =>
  have v : ValidG n st tos dr co := by
   refine Classical.byContradiction fun q => ?_
   rw [vg_false q] at hv; cases hv
  have n1 := v.n1; have n2 := v.n2
  by_cases t0 : t < 0
  ·have es := spec_ValidGraph_ev n st tos dr co; have ei := impl_ValidGraph_ev n st tos dr co; rw [hv] at es ei; simp only [spec_Route.f, impl_Route.f]; refine ⟨([], [], 1), Ev.bind es (ev_pos rfl (ev_pos t0 (Ev.step (fun _ => rfl) ?_))), Ev.bind ei (ev_pos rfl (ev_pos t0 (Ev.now _))), by simp, by simp⟩; simp only [spec_Route.j0]; exact ev_pos (by trivial) (Ev.now _)
  by_cases t1 : t ≥ n
  ·have es := spec_ValidGraph_ev n st tos dr co; have ei := impl_ValidGraph_ev n st tos dr co; rw [hv] at es ei; simp only [spec_Route.f, impl_Route.f]; refine ⟨([], [], 1), Ev.bind es (ev_pos rfl (ev_neg t0 (Ev.step (fun _ => rfl) ?_))), Ev.bind ei (ev_pos rfl (ev_neg t0 (ev_pos t1 (Ev.now _)))), by simp, by simp⟩; simp only [spec_Route.j0]; exact ev_pos (decide_eq_true t1) (Ev.now _)
  obtain ⟨d, i, e⟩ := spec_route_ev v t (by omega) (by omega); obtain ⟨d', i', e'⟩ := impl_route_ev v t (by omega) (by omega); obtain rfl := i.unique i'; have ln := i.len; refine ⟨_, e, e', by dsimp only; omega, ?_⟩; dsimp only; rw [hfold_len, List.length_replicate]
  omega

theorem FnExactRoute : laws_FnExactRoute.Pure := by
 intro n st tos dr co tg wn w1 w2 w3 w4 wt; have m1 : st.length ≤ 9223372036854775807 := w1.1; have m2 : tos.length ≤ 9223372036854775807 := w2.1; have m3 : dr.length ≤ 9223372036854775807 := w3.1; have m4 : co.length ≤ 9223372036854775807 := w4.1; refine Ev.rounds (g := fun k => laws_FnExactRoute.f k n st tos dr co tg) ?_; simp only [laws_FnExactRoute.f]; obtain ⟨r, e, q⟩ := szGraph_or (n := n) m1 m2 m3 m4; rw [e]; refine ev_letv ?_
 rcases q with rfl | ⟨q, q0⟩
 ·exact ev_pos (by omega) (Ev.now _)
 have t := toGraph_ev n st tos dr co q; obtain ⟨⟨gd, gh, gx⟩, s, i, l1, l2⟩ := route_both n st tos dr co tg; dsimp only at l1 l2; have eq1 := eqIntS_self gd (by omega); have eq2 := eqIntS_self gh (by omega); have ea := eqGraph_self n st tos dr co (by omega); have ek := markGraph_big n st tos dr co (by omega); have em1 := markIntS_ev gd 1 (by omega) (by omega); have em2 := markIntS_ev gh (1 + gd.length) (by omega) (by omega); have eh1 := heldIntS_ev gd.length 1 (by omega) (by omega); have eh2 := heldIntS_ev gh.length (1 + gd.length) (by omega) (by omega); refine ev_neg (by omega) (Ev.bind t (Ev.bind s (Ev.bind t (Ev.bind i (Ev.bind eq1 (ev_pos (by trivial) (Ev.bind eq2 (ev_pos (by trivial) ?_)))))))); refine Ev.step (fun _ => rfl) ?_; simp only [laws_FnExactRoute.j0]; refine ev_neg (by simp) (Ev.bind t (Ev.bind ea (ev_pos (by trivial) (Ev.bind ek (ev_neg (by dsimp only; omega) (Ev.bind eq1 (ev_pos (by trivial) (Ev.bind eq2 (ev_pos (by trivial) ?_))))))))); refine Ev.step (fun _ => rfl) ?_; simp only [laws_FnExactRoute.j1]; refine ev_neg (by simp) (Ev.bind em1 (Ev.bind em2 (Ev.bind eh1 (ev_neg (by omega) (Ev.bind eh2 (ev_neg (by omega) (ev_pos (by trivial) (Ev.bind t (Ev.bind i (Ev.bind eq1 (ev_pos (by trivial) (Ev.bind eq2 (ev_pos (by trivial) ?_))))))))))))); refine Ev.step (fun _ => rfl) ?_; simp only [laws_FnExactRoute.j2]; exact ev_neg (by simp) (Ev.bind eh1 (ev_neg (by omega) (Ev.bind eh2 (ev_neg (by omega) (ev_pos (by trivial) (Ev.now _))))))

end Go.Proofs.Ytiboccbaaphbhaa.Pure
