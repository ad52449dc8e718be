/- The program's ValidGraph returns what the reference's returns, for all arguments: no condition. -/
import Derived.Test.YtbeheecjemdcdaaQFnExactValidGraph
namespace Go.Proofs.Ytbeheecjemdcdaa.Pure
set_option linter.unusedVariables false
set_option linter.unusedSimpArgs false
open Go.RowKit Go.Proofs.Ytbeheecjemdcdaa.PFnExactValidGraph Go.Proofs.YtbeheecjemdcdaaW.PrintWords Go.Proofs.YtbeheecjemdcdaaW.PrintLast Go.Proofs.YtbeheecjemdcdaaW.PrintMore
/-! ### general words: from some number of rounds on -/
section EvLib
variable {α β : Type}
theorem ev_pos {c : Prop} [Decidable c] {A B : Nat → Option α} {r : α} (h : c) (k : Ev A r) : Ev (fun n => if c then A n else B n) r :=
  Ev.congr (fun _ => if_pos h) k
theorem ev_neg {c : Prop} [Decidable c] {A B : Nat → Option α} {r : α} (h : ¬ c) (k : Ev B r) : Ev (fun n => if c then A n else B n) r :=
  Ev.congr (fun _ => if_neg h) k
theorem ev_ite {c : Prop} [Decidable c] {A B : Nat → Option α} {r : α} (h1 : c → Ev A r) (h2 : ¬ c → Ev B r) : Ev (fun n => if c then A n else B n) r := by
  by_cases h : c
  · exact ev_pos h (h1 h)
  · exact ev_neg h (h2 h)
theorem ev_letv {a : α} {f : Nat → α → Option β} {r : β} (k : Ev (fun n => f n a) r) : Ev (fun n => (some a).bind (f n)) r := Ev.bind (Ev.now a) k
end EvLib
theorem wrap64_id {x : Int} (h0 : -9223372036854775808 ≤ x) (h1 : x ≤ 9223372036854775807) : wrap64 x = x := by unfold wrap64; omega
theorem tdiv_nn {x y : Int} (h0 : 0 ≤ x) : Int.tdiv x y = x / y := Int.tdiv_eq_ediv_of_nonneg h0
theorem tmod_nn {x y : Int} (h0 : 0 ≤ x) : Int.tmod x y = x % y := Int.tmod_eq_emod_of_nonneg h0
theorem rd_nat (l : List Int) (i : Nat) : rd l (i : Int) = l.getD i 0 := by simp [rd]
theorem rd_get {l : List Int} {i : Int} (h0 : 0 ≤ i) (h1 : i.toNat < l.length) : rd l i = l[i.toNat] := by
  unfold rd; rw [List.getD_eq_getElem?_getD, List.getElem?_eq_getElem h1]; rfl
theorem rd_mem {l : List Int} {i : Int} (h0 : 0 ≤ i) (h1 : i < l.length) : rd l i ∈ l := by
  have h : i.toNat < l.length := by omega
  rw [rd_get h0 h]; exact List.getElem_mem h
theorem rd_set_eq {l : List Int} {i : Int} {v : Int} (h0 : 0 ≤ i) (h1 : i < l.length) : rd (l.set i.toNat v) i = v := by
  have h : i.toNat < l.length := by omega
  unfold rd; rw [List.getD_eq_getElem?_getD, List.getElem?_set_self h]; rfl
theorem rd_set_ne {l : List Int} {i j : Int} {v : Int} (h0 : 0 ≤ i) (h1 : 0 ≤ j) (h : i ≠ j) : rd (l.set i.toNat v) j = rd l j := by
  unfold rd; rw [List.getD_eq_getElem?_getD, List.getElem?_set_ne (by omega), ← List.getD_eq_getElem?_getD]
theorem rd_ext {l m : List Int} (h : l.length = m.length) (e : ∀ i : Int, 0 ≤ i → i < l.length → rd l i = rd m i) : l = m := by
  apply List.ext_getElem h
  intro i h1 h2
  have := e i (by omega) (by omega)
  rw [rd_get (by omega) (by simpa using h1), rd_get (by omega) (by simpa using h2)] at this
  simpa using this

theorem szIntS_or {l : List Int} {left : Int} (h0 : 0 ≤ left) (h1 : left ≤ 1048576) (hm : l.length ≤ 9223372036854775807) :
    ∃ r, laws_szIntS.f l left = some r ∧ (r = -1 ∨ ((l.length : Int) ≤ left ∧ r = left - l.length)) := by
  simp only [laws_szIntS.f]
  rw [wrap64_id (by omega) (by omega)]
  by_cases h : left - (l.length : Int) < 0
  · exact ⟨-1, if_pos h, .inl rfl⟩
  · exact ⟨_, if_neg h, .inr ⟨by omega, rfl⟩⟩

theorem szGraph_or {n : Int} {st tos dr co : List Int} (h1 : st.length ≤ 9223372036854775807) (h2 : tos.length ≤ 9223372036854775807) (h3 : dr.length ≤ 9223372036854775807) (h4 : co.length ≤ 9223372036854775807) :
    ∃ r, laws_szGraph.f n st tos dr co 1048576 = some r ∧ (r = -1 ∨ (st.length + tos.length + dr.length + co.length ≤ 1048576 ∧ 0 ≤ r)) := by
  simp only [laws_szGraph.f]
  obtain ⟨r1, e1, q1⟩ := szIntS_or (l := st) (left := 1048576) (by omega) (by omega) h1
  rw [e1]; simp only [Option.bind_some]
  rcases q1 with rfl | ⟨a1, rfl⟩
  · exact ⟨-1, if_pos (by omega), .inl rfl⟩
  rw [if_neg (by omega)]
  obtain ⟨r2, e2, q2⟩ := szIntS_or (l := tos) (left := 1048576 - (st.length : Int)) (by omega) (by omega) h2
  rw [e2]; simp only [Option.bind_some]
  rcases q2 with rfl | ⟨a2, rfl⟩
  · exact ⟨-1, if_pos (by omega), .inl rfl⟩
  rw [if_neg (by omega)]
  obtain ⟨r3, e3, q3⟩ := szIntS_or (l := dr) (left := 1048576 - (st.length : Int) - tos.length) (by omega) (by omega) h3
  rw [e3]; simp only [Option.bind_some]
  rcases q3 with rfl | ⟨a3, rfl⟩
  · exact ⟨-1, if_pos (by omega), .inl rfl⟩
  rw [if_neg (by omega)]
  obtain ⟨r4, e4, q4⟩ := szIntS_or (l := co) (left := 1048576 - (st.length : Int) - tos.length - dr.length) (by omega) (by omega) h4
  rw [e4]; simp only [Option.bind_some]
  rcases q4 with rfl | ⟨a4, rfl⟩
  · exact ⟨-1, if_pos (by omega), .inl rfl⟩
  rw [if_neg (by omega)]
  exact ⟨_, rfl, .inr ⟨by omega, by omega⟩⟩

theorem toIntS_loop (x0 : List Int) (hb : x0.length ≤ 35184372088832) (d : Nat) : ∀ (x3 : List Int) (i : Int), 0 ≤ i → x3.length = x0.length → (x0.length : Int) - i = d →
    (∀ j : Int, 0 ≤ j → j < i → rd x3 j = rd x0 j) → Ev (fun k => laws_toIntS.l0 k x0 x3 i) x0 := by
  induction d with
  | zero =>
    intro x3 i h0 hl hd he
    refine Ev.step (fun _ => rfl) ?_
    simp only [laws_toIntS.l0]
    refine ev_neg (by omega) ?_
    have : x3 = x0 := rd_ext hl (fun j a b => he j a (by omega))
    rw [this]; exact Ev.now _
  | succ d ih =>
    intro x3 i h0 hl hd he
    refine Ev.step (fun _ => rfl) ?_
    simp only [laws_toIntS.l0]
    refine ev_pos (by omega) (ev_pos (by omega) (ev_pos (by omega) ?_))
    rw [wrap64_id (by omega) (by omega)]
    refine ih _ _ (by omega) (by simpa using hl) (by omega) ?_
    intro j a b
    by_cases e : j = i
    · subst e; exact rd_set_eq (by omega) (by omega)
    · rw [rd_set_ne (by omega) (by omega) (by omega)]; exact he j a (by omega)
theorem toIntS_ev (l : List Int) (hb : l.length ≤ 35184372088832) : Ev (fun k => laws_toIntS.f k l) l := by
  simp only [laws_toIntS.f]
  refine ev_pos (by omega) (ev_pos (by omega) ?_)
  exact toIntS_loop l hb l.length _ 0 (by omega) (by simp) (by omega) (fun j a b => by omega)

theorem toGraph_ev (n : Int) (st tos dr co : List Int) (h : st.length + tos.length + dr.length + co.length ≤ 1048576) : Ev (fun k => laws_toGraph.f k n st tos dr co) (n, st, tos, dr, co) := by
  simp only [laws_toGraph.f]
  exact Ev.bind (toIntS_ev st (by omega)) (Ev.bind (toIntS_ev tos (by omega)) (Ev.bind (toIntS_ev dr (by omega)) (Ev.bind (toIntS_ev co (by omega)) (Ev.now _))))

theorem eqIntS_loop (a b : List Int) (hl : a.length = b.length) (hb : a.length ≤ 9223372036854775800) (d : Nat) : ∀ (i : Int), 0 ≤ i → (a.length : Int) - i = d →
    (∀ j : Int, 0 ≤ j → j < i → rd a j = rd b j) → Ev (fun k => laws_eqIntS.l0 k a b i) (decide (a = b)) := by
  induction d with
  | zero =>
    intro i h0 hd he
    refine Ev.step (fun _ => rfl) ?_
    simp only [laws_eqIntS.l0]
    refine ev_neg (by omega) ?_
    have : a = b := rd_ext hl (fun j p q => he j p (by omega))
    rw [decide_eq_true this]; exact Ev.now _
  | succ d ih =>
    intro i h0 hd he
    refine Ev.step (fun _ => rfl) ?_
    simp only [laws_eqIntS.l0]
    refine ev_pos (by omega) (ev_pos (by omega) (ev_pos (by omega) (ev_ite (fun e => ?_) (fun e => ?_))))
    · rw [wrap64_id (by omega) (by omega)]
      refine ih _ (by omega) (by omega) ?_
      intro j p q
      by_cases e' : j = i
      · subst e'; exact e
      · exact he j p (by omega)
    · have : a ≠ b := fun h => e (by rw [h])
      rw [decide_eq_false this]; exact Ev.now _
theorem eqIntS_ev (a b : List Int) (hb : a.length ≤ 9223372036854775800) : Ev (fun k => laws_eqIntS.f k a b) (decide (a = b)) := by
  simp only [laws_eqIntS.f]
  refine ev_ite (fun e => ?_) (fun e => ?_)
  · exact eqIntS_loop a b (by omega) hb a.length 0 (by omega) (by omega) (fun j p q => by omega)
  · have : a ≠ b := fun h => e (by rw [h])
    rw [decide_eq_false this]; exact Ev.now _
theorem eqIntS_self (a : List Int) (hb : a.length ≤ 9223372036854775800) : Ev (fun k => laws_eqIntS.f k a a) true := by
  have := eqIntS_ev a a hb
  rwa [decide_eq_true rfl] at this

theorem eqGraph_self (n : Int) (st tos dr co : List Int) (h : st.length + tos.length + dr.length + co.length ≤ 9000000000) : Ev (fun k => laws_eqGraph.f k n st tos dr co n st tos dr co) true := by
  simp only [laws_eqGraph.f]
  refine ev_pos (by trivial) (Ev.bind (eqIntS_self st (by omega)) (ev_pos (by trivial) (Ev.bind (eqIntS_self tos (by omega)) (ev_pos (by trivial) (Ev.bind (eqIntS_self dr (by omega)) (ev_pos (by trivial) (Ev.bind (eqIntS_self co (by omega)) ?_)))))))
  exact ev_pos (by trivial) (Ev.now _)

/-- A valid graph, in plain words. -/
structure ValidG (n : Int) (st tos dr co : List Int) : Prop where
  n1 : 1 ≤ n
  n2 : n ≤ 1600
  len : (st.length : Int) = n + 1
  zero : rd st 0 = 0
  mono : ∀ c : Int, 0 ≤ c → c < n → rd st c ≤ rd st (c + 1)
  most : rd st n ≤ 6400
  lto : (tos.length : Int) = rd st n
  ldr : (dr.length : Int) = rd st n
  lco : (co.length : Int) = rd st n
  edge : ∀ e : Int, 0 ≤ e → e < rd st n → (0 ≤ rd tos e ∧ rd tos e < n) ∧ (0 ≤ rd dr e ∧ rd dr e ≤ 3) ∧ (1 ≤ rd co e ∧ rd co e ≤ 9)
open Classical in
noncomputable def vg (n : Int) (st tos dr co : List Int) : Bool := decide (ValidG n st tos dr co)
open Classical in
theorem vg_true {n : Int} {st tos dr co : List Int} (h : ValidG n st tos dr co) : vg n st tos dr co = true := by unfold vg; exact decide_eq_true h
open Classical in
theorem vg_false {n : Int} {st tos dr co : List Int} (h : ¬ ValidG n st tos dr co) : vg n st tos dr co = false := by unfold vg; exact decide_eq_false h

theorem spec_vg_edges {n : Int} {st tos dr co : List Int} (d : Nat) : ∀ (e : Int), 0 ≤ e → (rd st n) - e = d → 1 ≤ n → n ≤ 1600 → (st.length : Int) = n + 1 → rd st 0 = 0 → rd st n ≤ 6400 →
    (tos.length : Int) = rd st n → (dr.length : Int) = rd st n → (co.length : Int) = rd st n → (∀ c : Int, 0 ≤ c → c < n → rd st c ≤ rd st (c + 1)) →
    (∀ f : Int, 0 ≤ f → f < e → (0 ≤ rd tos f ∧ rd tos f < n) ∧ (0 ≤ rd dr f ∧ rd dr f ≤ 3) ∧ (1 ≤ rd co f ∧ rd co f ≤ 9)) →
    Ev (fun k => spec_ValidGraph.l1 k (rd st n) e n st tos dr co) (vg n st tos dr co) := by
  induction d with
  | zero =>
    intro e h0 hd n1 n2 hl hz hm h1 h2 h3 hs he
    refine Ev.step (fun _ => rfl) ?_
    simp only [spec_ValidGraph.l1]
    refine ev_neg (by omega) ?_
    rw [vg_true ⟨n1, n2, hl, hz, hs, hm, h1, h2, h3, fun f a b => he f a (by omega)⟩]
    exact Ev.now _
  | succ d ih =>
    intro e h0 hd n1 n2 hl hz hm h1 h2 h3 hs he
    refine Ev.step (fun _ => rfl) ?_
    simp only [spec_ValidGraph.l1]
    have bad : ¬ ((0 ≤ rd tos e ∧ rd tos e < n) ∧ (0 ≤ rd dr e ∧ rd dr e ≤ 3) ∧ (1 ≤ rd co e ∧ rd co e ≤ 9)) → Ev (fun _ => some false) (vg n st tos dr co) := by
      intro h; rw [vg_false (fun v => h (v.edge e h0 (by omega)))]; exact Ev.now _
    refine ev_pos (by omega) (ev_pos (by omega) (ev_pos (by omega) ?_))
    refine ev_ite (fun c => bad (by omega)) (fun c1 => ev_ite (fun c => bad (by omega)) (fun c2 => ev_pos (by omega) ?_))
    refine ev_ite (fun c => bad (by omega)) (fun c3 => ev_ite (fun c => bad (by omega)) (fun c4 => ev_pos (by omega) ?_))
    refine ev_ite (fun c => bad (by omega)) (fun c5 => ev_ite (fun c => bad (by omega)) (fun c6 => ?_))
    rw [wrap64_id (by omega) (by omega)]
    refine ih _ (by omega) (by omega) n1 n2 hl hz hm h1 h2 h3 hs (fun f a b => ?_)
    by_cases q : f = e
    · subst q; omega
    · exact he f a (by omega)
theorem spec_vg_sorted {n : Int} {st tos dr co : List Int} (d : Nat) : ∀ (c : Int), 0 ≤ c → n - c = d → 1 ≤ n → n ≤ 1600 → (st.length : Int) = n + 1 → rd st 0 = 0 → rd st n ≤ 6400 →
    (tos.length : Int) = rd st n → (dr.length : Int) = rd st n → (co.length : Int) = rd st n → (∀ f : Int, 0 ≤ f → f < c → rd st f ≤ rd st (f + 1)) →
    Ev (fun k => spec_ValidGraph.l0 k (rd st n) c n st tos dr co) (vg n st tos dr co) := by
  induction d with
  | zero =>
    intro c h0 hd n1 n2 hl hz hm h1 h2 h3 hs
    refine Ev.step (fun _ => rfl) ?_
    simp only [spec_ValidGraph.l0]
    refine ev_neg (by omega) ?_
    exact spec_vg_edges (rd st n).toNat 0 (by omega) (by omega) n1 n2 hl hz hm h1 h2 h3 (fun f a b => hs f a (by omega)) (fun f a b => by omega)
  | succ d ih =>
    intro c h0 hd n1 n2 hl hz hm h1 h2 h3 hs
    refine Ev.step (fun _ => rfl) ?_
    simp only [spec_ValidGraph.l0]
    rw [wrap64_id (by omega) (by omega)]
    refine ev_pos (by omega) (ev_pos (by omega) (ev_pos (by omega) (ev_pos (by omega) (ev_pos (by omega) ?_))))
    refine ev_ite (fun q => ?_) (fun q => ?_)
    · rw [vg_false (fun v => by have := v.mono c h0 (by omega); omega)]; exact Ev.now _
    · refine ih _ (by omega) (by omega) n1 n2 hl hz hm h1 h2 h3 (fun f a b => ?_)
      by_cases e : f = c
      · subst e; omega
      · exact hs f a (by omega)
theorem spec_ValidGraph_ev (n : Int) (st tos dr co : List Int) : Ev (fun k => spec_ValidGraph.f k n st tos dr co) (vg n st tos dr co) := by
  have bad0 : ¬ ValidG n st tos dr co → Ev (fun k => spec_ValidGraph.j0 k true n st tos dr co) (vg n st tos dr co) := by
    intro h; rw [vg_false h]
    refine Ev.step (fun _ => rfl) ?_
    simp only [spec_ValidGraph.j0]
    exact ev_pos (by trivial) (Ev.now _)
  have bad1 : ∀ m, ¬ ValidG n st tos dr co → Ev (fun k => spec_ValidGraph.j1 k m true n st tos dr co) (vg n st tos dr co) := by
    intro m h; rw [vg_false h]
    refine Ev.step (fun _ => rfl) ?_
    simp only [spec_ValidGraph.j1]
    exact ev_pos (by trivial) (Ev.now _)
  simp only [spec_ValidGraph.f]
  refine ev_ite (fun c => bad0 (fun v => by have := v.n1; omega)) (fun c1 => ?_)
  refine ev_ite (fun c => bad0 (fun v => by have := v.n2; omega)) (fun c2 => ?_)
  rw [wrap64_id (by omega) (by omega)]
  refine ev_ite (fun c3 => ev_pos (by omega) ?_) (fun c => bad0 (fun v => c v.len))
  by_cases c4 : rd st 0 = 0
  · rw [show (rd st 0 != 0) = false by rw [bne_eq_false_iff_eq]; exact c4]
    refine Ev.step (fun _ => rfl) ?_
    simp only [spec_ValidGraph.j0]
    refine ev_neg (by simp) (ev_pos (by omega) (ev_pos (by omega) ?_))
    refine ev_ite (fun c => bad1 _ (fun v => by have := v.most; omega)) (fun c5 => ?_)
    refine ev_ite (fun c6 => ?_) (fun c => bad1 _ (fun v => c v.lto))
    refine ev_ite (fun c7 => ?_) (fun c => bad1 _ (fun v => c v.ldr))
    by_cases c8 : (co.length : Int) = rd st n
    · rw [show ((co.length : Int) != rd st n) = false by rw [bne_eq_false_iff_eq]; exact c8]
      refine Ev.step (fun _ => rfl) ?_
      simp only [spec_ValidGraph.j1]
      refine ev_neg (by simp) ?_
      exact spec_vg_sorted n.toNat 0 (by omega) (by omega) (by omega) (by omega) c3 c4 (by omega) c6 c7 c8 (fun f a b => by omega)
    · rw [show ((co.length : Int) != rd st n) = true by rw [bne_iff_ne]; exact c8]
      exact bad1 _ (fun v => c8 v.lco)
  · rw [show (rd st 0 != 0) = true by rw [bne_iff_ne]; exact c4]
    exact bad0 (fun v => c4 v.zero)

def SortedZ (st : List Int) : Prop := ∀ c : Int, 0 ≤ c → c + 1 < st.length → rd st c ≤ rd st (c + 1)
open Classical in
noncomputable def sortedB (st : List Int) : Bool := decide (SortedZ st)
open Classical in
theorem sortedB_true {st : List Int} (h : SortedZ st) : sortedB st = true := by unfold sortedB; exact decide_eq_true h
open Classical in
theorem sortedB_false {st : List Int} (h : ¬ SortedZ st) : sortedB st = false := by unfold sortedB; exact decide_eq_false h
theorem Less_ev (a b : Int) : cmp_Less_int.f a b = some (decide (a < b)) := by
  simp [cmp_Less_int.f, cmp_isNaN_int.f]
theorem IsSorted_loop (st : List Int) (hb : st.length ≤ 9223372036854775807) (d : Nat) : ∀ (i : Int), i = d → i < st.length → (∀ c : Int, i ≤ c → c + 1 < st.length → rd st c ≤ rd st (c + 1)) →
    Ev (fun k => slices_IsSorted_int_int.l0 k st i) (sortedB st) := by
  induction d with
  | zero =>
    intro i hi hl hs
    refine Ev.step (fun _ => rfl) ?_
    simp only [slices_IsSorted_int_int.l0]
    refine ev_neg (by omega) ?_
    rw [sortedB_true (fun c a b => hs c (by omega) b)]; exact Ev.now _
  | succ d ih =>
    intro i hi hl hs
    refine Ev.step (fun _ => rfl) ?_
    simp only [slices_IsSorted_int_int.l0]
    rw [wrap64_id (by omega) (by omega)]
    refine ev_pos (by omega) (ev_pos (by omega) (ev_pos (by omega) (ev_pos (by omega) (ev_pos (by omega) ?_))))
    simp only [Less_ev]
    refine ev_letv (ev_ite (fun e => ?_) (fun e => ?_))
    · have e := of_decide_eq_true e
      rw [sortedB_false (fun h => by have := h (i - 1) (by omega) (by omega); rw [show i - 1 + 1 = i by omega] at this; omega)]; exact Ev.now _
    · have e := of_decide_eq_false (Bool.eq_false_iff.2 e)
      refine ih _ (by omega) (by omega) (fun c a b => ?_)
      by_cases q : c = i - 1
      · subst q; rw [show i - 1 + 1 = i by omega]; omega
      · exact hs c (by omega) b
theorem IsSorted_ev (st : List Int) (hb : st.length ≤ 9223372036854775807) : Ev (fun k => slices_IsSorted_int_int.f k st) (sortedB st) := by
  simp only [slices_IsSorted_int_int.f]
  rw [wrap64_id (by omega) (by omega)]
  by_cases h : st.length = 0
  · refine Ev.step (fun _ => rfl) ?_
    simp only [slices_IsSorted_int_int.l0]
    refine ev_neg (by omega) ?_
    rw [sortedB_true (fun c a b => by omega)]; exact Ev.now _
  · exact IsSorted_loop st hb (st.length - 1) _ (by omega) (by omega) (fun c a b => by omega)

theorem impl_vg_edges {n : Int} {st tos dr co : List Int} (d : Nat) : ∀ (e : Int), 0 ≤ e → (rd st n) - e = d → 1 ≤ n → n ≤ 1600 → (st.length : Int) = n + 1 → rd st 0 = 0 → rd st n ≤ 6400 →
    (tos.length : Int) = rd st n → (dr.length : Int) = rd st n → (co.length : Int) = rd st n → (∀ c : Int, 0 ≤ c → c < n → rd st c ≤ rd st (c + 1)) →
    (∀ f : Int, 0 ≤ f → f < e → (0 ≤ rd tos f ∧ rd tos f < n) ∧ (0 ≤ rd dr f ∧ rd dr f ≤ 3) ∧ (1 ≤ rd co f ∧ rd co f ≤ 9)) →
    Ev (fun k => impl_ValidGraph.l0 k (rd st n) e n st tos dr co) (vg n st tos dr co) := by
  induction d with
  | zero =>
    intro e h0 hd n1 n2 hl hz hm h1 h2 h3 hs he
    refine Ev.step (fun _ => rfl) ?_
    simp only [impl_ValidGraph.l0]
    refine ev_neg (by omega) ?_
    rw [vg_true ⟨n1, n2, hl, hz, hs, hm, h1, h2, h3, fun f a b => he f a (by omega)⟩]
    exact Ev.now _
  | succ d ih =>
    intro e h0 hd n1 n2 hl hz hm h1 h2 h3 hs he
    refine Ev.step (fun _ => rfl) ?_
    simp only [impl_ValidGraph.l0]
    have bad : ¬ ((0 ≤ rd tos e ∧ rd tos e < n) ∧ (0 ≤ rd dr e ∧ rd dr e ≤ 3) ∧ (1 ≤ rd co e ∧ rd co e ≤ 9)) → Ev (fun _ => some false) (vg n st tos dr co) := by
      intro h; rw [vg_false (fun v => h (v.edge e h0 (by omega)))]; exact Ev.now _
    refine ev_pos (by omega) (ev_pos (by omega) (ev_pos (by omega) ?_))
    refine ev_ite (fun c => bad (by omega)) (fun c1 => ev_ite (fun c => bad (by omega)) (fun c2 => ev_pos (by omega) ?_))
    refine ev_ite (fun c => bad (by omega)) (fun c3 => ev_ite (fun c => bad (by omega)) (fun c4 => ev_pos (by omega) ?_))
    refine ev_ite (fun c => bad (by omega)) (fun c5 => ev_ite (fun c => bad (by omega)) (fun c6 => ?_))
    rw [wrap64_id (by omega) (by omega)]
    refine ih _ (by omega) (by omega) n1 n2 hl hz hm h1 h2 h3 hs (fun f a b => ?_)
    by_cases q : f = e
    · subst q; omega
    · exact he f a (by omega)
theorem impl_ValidGraph_ev (n : Int) (st tos dr co : List Int) : Ev (fun k => impl_ValidGraph.f k n st tos dr co) (vg n st tos dr co) := by
  have bad0 : ¬ ValidG n st tos dr co → Ev (fun k => impl_ValidGraph.j0 k true n st tos dr co) (vg n st tos dr co) := by
    intro h; rw [vg_false h]
    refine Ev.step (fun _ => rfl) ?_
    simp only [impl_ValidGraph.j0]
    exact ev_pos (by trivial) (Ev.now _)
  have bad1 : ∀ m, ¬ ValidG n st tos dr co → Ev (fun k => impl_ValidGraph.j1 k m true n st tos dr co) (vg n st tos dr co) := by
    intro m h; rw [vg_false h]
    refine Ev.step (fun _ => rfl) ?_
    simp only [impl_ValidGraph.j1]
    exact ev_pos (by trivial) (Ev.now _)
  simp only [impl_ValidGraph.f]
  refine ev_ite (fun c => bad0 (fun v => by have := v.n1; omega)) (fun c1 => ?_)
  refine ev_ite (fun c => bad0 (fun v => by have := v.n2; omega)) (fun c2 => ?_)
  rw [wrap64_id (by omega) (by omega)]
  refine ev_ite (fun c3 => ev_pos (by omega) ?_) (fun c => bad0 (fun v => c v.len))
  refine ev_ite (fun c4 => ?_) (fun c4 => bad0 (fun v => c4 v.zero))
  refine Ev.bind (IsSorted_ev st (by omega)) ?_
  by_cases cs : SortedZ st
  · rw [sortedB_true cs]
    simp only [Bool.not_true]
    refine Ev.step (fun _ => rfl) ?_
    simp only [impl_ValidGraph.j0]
    refine ev_neg (by simp) (ev_pos (by omega) (ev_pos (by omega) ?_))
    refine ev_ite (fun c => bad1 _ (fun v => by have := v.most; omega)) (fun c5 => ?_)
    refine ev_ite (fun c6 => ?_) (fun c => bad1 _ (fun v => c v.lto))
    refine ev_ite (fun c7 => ?_) (fun c => bad1 _ (fun v => c v.ldr))
    by_cases c8 : (co.length : Int) = rd st n
    · rw [show ((co.length : Int) != rd st n) = false by rw [bne_eq_false_iff_eq]; exact c8]
      refine Ev.step (fun _ => rfl) ?_
      simp only [impl_ValidGraph.j1]
      refine ev_neg (by simp) ?_
      exact impl_vg_edges (rd st n).toNat 0 (by omega) (by omega) (by omega) (by omega) c3 c4 (by omega) c6 c7 c8 (fun f a b => cs f a (by omega)) (fun f a b => by omega)
    · rw [show ((co.length : Int) != rd st n) = true by rw [bne_iff_ne]; exact c8]
      exact bad1 _ (fun v => c8 v.lco)
  · rw [sortedB_false cs]
    simp only [Bool.not_false]
    exact bad0 (fun v => cs (fun f a b => v.mono f a (by have := v.len; omega)))

theorem FnExactValidGraph : laws_FnExactValidGraph.Pure := by
  intro n st tos dr co wn w1 w2 w3 w4
  have m1 : st.length ≤ 9223372036854775807 := w1.1
  have m2 : tos.length ≤ 9223372036854775807 := w2.1
  have m3 : dr.length ≤ 9223372036854775807 := w3.1
  have m4 : co.length ≤ 9223372036854775807 := w4.1
  refine Ev.rounds (g := fun k => laws_FnExactValidGraph.f k n st tos dr co) ?_
  simp only [laws_FnExactValidGraph.f]
  obtain ⟨r, e, q⟩ := szGraph_or (n := n) m1 m2 m3 m4
  rw [e]
  refine ev_letv ?_
  rcases q with rfl | ⟨q, q0⟩
  · exact ev_pos (by omega) (Ev.now _)
  have t := toGraph_ev n st tos dr co q
  refine ev_neg (by omega) (Ev.bind t (Ev.bind (spec_ValidGraph_ev n st tos dr co) (Ev.bind t (Ev.bind (impl_ValidGraph_ev n st tos dr co) ?_))))
  refine ev_neg (by simp) (Ev.bind t (Ev.bind (eqGraph_self n st tos dr co (by omega)) ?_))
  exact ev_pos (by trivial) (Ev.now _)

end Go.Proofs.Ytbeheecjemdcdaa.Pure
