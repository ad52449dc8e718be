/- General words of this session: what a writer of whole numbers leaves of rows of whole numbers, and of rows of such rows, that may share blocks. No program stands in it, and no condition. -/
import Derived.Test.YtibipjpmeekifaaDoorWWords
import Derived.Test.YtibipjpmeekifaaDoorWLast
import Derived.Test.YtibipjpmeekifaaDoorWMore
import Derived.Test.YtibipjpmeekifaaDoorWKept
namespace Go.Proofs.YtibipjpmeekifaaDoor
open Go.RowKit Go.Proofs.YtibipjpmeekifaaDoorW.PrintWords Go.Proofs.YtibipjpmeekifaaDoorW.PrintLast Go.Proofs.YtibipjpmeekifaaDoorW.PrintMore
set_option linter.unusedVariables false
/-- A block of one of these types. -/
def IsT (w : World) (k : Nat) (l : List Nat) : Prop := ∃ q, q ∈ l ∧ ∃ cells, w.heap[k]? = some (.cells cells q (0, 0))
theorem IsT.ne {w : World} {k e : Nat} {l : List Nat} (h : IsT w k l) (hc : ∃ cells, w.heap[k]? = some (.cells cells e (0, 0))) (he : e ∉ l) : False := by
  obtain ⟨q, hq, c, h1⟩ := h
  obtain ⟨c', h2⟩ := hc
  rw [h1] at h2
  injection h2 with h2
  injection h2 with _ h2
  subst h2
  exact he hq
/-- From w to w1: the blocks of S alone have changed, and there whole numbers into whole numbers alone. -/
def IntCh (w w1 : World) (S : Nat → Prop) : Prop :=
  w.heap.size ≤ w1.heap.size ∧ ∀ k, k < w.heap.size → (¬ S k → w1.heap[k]? = w.heap[k]?) ∧
    ∀ cur t, w.heap[k]? = some (.cells cur t (0, 0)) → ∃ cur', w1.heap[k]? = some (.cells cur' t (0, 0)) ∧ cur'.size = cur.size ∧ ∀ j : Nat, cur'[j]? = cur[j]? ∨ ((∃ x, cur[j]? = some (.int .i64 x)) ∧ ∃ x, cur'[j]? = some (.int .i64 x))
section
variable {w w1 w2 : World} {S S2 : Nat → Prop}
theorem IntCh.refl (w : World) (S : Nat → Prop) : IntCh w w S := ⟨Nat.le_refl _, fun k hk => ⟨fun _ => rfl, fun cur t h => ⟨cur, h, rfl, fun j => .inl rfl⟩⟩⟩
theorem IntCh.of_below (h : Below w.heap.size w w1) (S : Nat → Prop) : IntCh w w1 S := ⟨h.size, fun k hk => ⟨fun _ => h.block k hk, fun cur t hc => ⟨cur, by rw [h.block k hk]; exact hc, rfl, fun j => .inl rfl⟩⟩⟩
theorem IntCh.then_ (h : IntCh w w1 S) (h2 : IntCh w1 w2 S2) (hs : ∀ k, k < w.heap.size → S2 k → S k) : IntCh w w2 S := by
  refine ⟨Nat.le_trans h.1 h2.1, fun k hk => ?_⟩
  have hk1 := Nat.lt_of_lt_of_le hk h.1
  refine ⟨fun hn => ((h2.2 k hk1).1 (fun q => hn (hs k hk q))).trans ((h.2 k hk).1 hn), fun cur t hc => ?_⟩
  obtain ⟨c1, e1, z1, q1⟩ := (h.2 k hk).2 cur t hc
  obtain ⟨c2, e2, z2, q2⟩ := (h2.2 k hk1).2 c1 t e1
  refine ⟨c2, e2, z2.trans z1, fun j => ?_⟩
  rcases q2 j with a | ⟨⟨x, a⟩, b⟩
  · rcases q1 j with c | ⟨c, d⟩
    · exact .inl (a.trans c)
    · exact .inr ⟨c, by rw [a]; exact d⟩
  · rcases q1 j with c | ⟨c, d⟩
    · exact .inr ⟨⟨x, by rw [← c]; exact a⟩, b⟩
    · exact .inr ⟨c, b⟩
theorem IntCh.mono (h : IntCh w w1 S) (hs : ∀ k, k < w.heap.size → S k → S2 k) : IntCh w w1 S2 := ⟨h.1, fun k hk => ⟨fun hn => (h.2 k hk).1 (fun q => hn (hs k hk q)), (h.2 k hk).2⟩⟩
theorem IntCh.kept (h : IntCh w w1 S) : Kept w w1 S := ⟨h.1, fun i hi hn => (h.2 i hi).1 hn⟩
theorem Kept.inS {P : Nat → Prop} {l : List Nat} {k : Nat} (h : Kept w w1 (fun k => P k ∧ IsT w k l)) (hk : k < w.heap.size) (hp : P k) (ht : IsT w1 k l) : P k ∧ IsT w k l := by
  by_cases q : P k ∧ IsT w k l
  · exact q
  · obtain ⟨t, h1, c, h2⟩ := ht
    exact ⟨hp, t, h1, c, by rw [← h.2 k hk q]; exact h2⟩
/-- What is of these types now, and of P, is of S. -/
theorem IntCh.inS {P : Nat → Prop} {l : List Nat} {k : Nat} (h : IntCh w w1 (fun k => P k ∧ IsT w k l)) (hk : k < w.heap.size) (hp : P k) (ht : IsT w1 k l) : P k ∧ IsT w k l := by
  by_cases q : P k ∧ IsT w k l
  · exact q
  · obtain ⟨t, h1, c, h2⟩ := ht
    exact ⟨hp, t, h1, c, by rw [← (h.2 k hk).1 q]; exact h2⟩
theorem IntCh.set {g o : Nat} {y x : Int} {cs : Array Value} {t : TypeId} (hg : w.heap[g]? = some (.cells cs t (0, 0))) (hy : cs[o]? = some (.int .i64 y)) : IntCh w (w.setCell ⟨g, o, none⟩ (.int .i64 x)) (fun k => k = g) := by
  have hb := blk_set hg o (.int .i64 x)
  refine ⟨by simp [World.setCell], fun k hk => ⟨fun hn => Below.heap_setCell w ⟨g, o, none⟩ _ k hn, fun cur t' hc => ?_⟩⟩
  by_cases e : k = g
  · subst e
    rw [hg] at hc
    injection hc with hc
    injection hc with hc1 hc2
    subst hc1 hc2
    have ho : o < cs.size := (Array.getElem?_eq_some_iff.1 hy).1
    refine ⟨_, hb, by simp, fun j => ?_⟩
    by_cases q : j = o
    · subst q
      exact .inr ⟨⟨y, hy⟩, ⟨x, by simp [ho]⟩⟩
    · exact .inl (by simp [Ne.symm q])
  · exact ⟨cur, by rw [Below.heap_setCell w ⟨g, o, none⟩ _ k e]; exact hc, rfl, fun j => .inl rfl⟩
end
theorem exists_row {α : Type} {p : Nat → α → Prop} : ∀ n, (∀ i, i < n → ∃ x, p i x) → ∃ xs : List α, xs.length = n ∧ ∀ i x, xs[i]? = some x → p i x
  | 0, _ => ⟨[], rfl, fun i x h => by simp at h⟩
  | n + 1, h => by
    obtain ⟨xs, hl, hx⟩ := exists_row n (fun i hi => h i (by omega))
    obtain ⟨y, hy⟩ := h n (by omega)
    refine ⟨xs ++ [y], by simp [hl], fun i x hi => ?_⟩
    by_cases e : i < n
    · rw [List.getElem?_append_left (by omega)] at hi; exact hx i x hi
    · rw [List.getElem?_append_right (by omega)] at hi
      by_cases e2 : i = n
      · subst e2; rw [hl, Nat.sub_self] at hi; simp at hi; rw [← hi]; exact hy
      · rw [List.getElem?_eq_none (by simp; omega)] at hi; cases hi
section
variable {w w1 : World} {S ok : Nat → Prop} {e e2 base : Nat} {v : Value}
theorem take_one (l : List Value) (j : Nat) : (l.drop j).take 1 = (l[j]?).toList := by
  by_cases h : j < l.length
  · rw [List.drop_eq_getElem_cons h, List.getElem?_eq_getElem h]; rfl
  · rw [List.drop_eq_nil_of_le (by omega), List.getElem?_eq_none (by omega)]; rfl
theorem toList_at (c : Array Value) (j : Nat) : c.toList[j]? = c[j]? := by simp
/-- A row of whole numbers stays one, as long as it was. -/
theorem IntCh.row (h : IntCh w w1 S) {xs : List Int} (hR : Kd.R (Kd.int .i64) e w base ok v xs) : ∃ ys : List Int, ys.length = xs.length ∧ Kd.R (Kd.int .i64) e w1 base ok v ys := by
  obtain ⟨h0, inner, ⟨hl, hc⟩, hr⟩ := hR
  rcases hc with ⟨rfl, hn⟩ | ⟨g, cap, cur, rfl, hg, hh, hcap, hmx, hsz, htk⟩
  · have hx : xs = [] := List.eq_nil_of_length_eq_zero hn
    subst hx
    exact ⟨[], rfl, Kd.R_nil _ _ _ _ _⟩
  · have hk := blk_lt hh
    obtain ⟨cur', h2, hz, hq⟩ := (h.2 g hk).2 cur e hh
    have hsz1 : xs.length * (Kd.int .i64).sz = xs.length := Nat.mul_one _
    have old : ∀ j, j < xs.length → ∃ x, cur[j]? = some (.int .i64 x) := by
      intro j hj
      have hM := hr.2 j _ (List.getElem?_eq_getElem hj)
      have hM : (inner.drop (j * 1)).take 1 = [Value.int .i64 xs[j]] := hM
      rw [Nat.mul_one, take_one, ← htk, hsz1, List.getElem?_take, if_pos hj, toList_at] at hM
      cases hx : cur[j]? with
      | none => rw [hx] at hM; cases hM
      | some u => rw [hx] at hM; exact ⟨xs[j], by simpa using hM⟩
    obtain ⟨ys, hyl, hy⟩ := exists_row (p := fun j (x : Int) => cur'[j]? = some (.int .i64 x)) xs.length (fun j hj => by
      obtain ⟨x, hx⟩ := old j hj
      rcases hq j with a | ⟨_, a⟩
      · exact ⟨x, by rw [a]; exact hx⟩
      · exact a)
    have hcl : cur'.toList.length = cap := by rw [Array.length_toList, hz, hsz]; exact Nat.mul_one _
    refine ⟨ys, hyl, h0, cur'.toList.take (ys.length * 1), ⟨?_, .inr ⟨g, cap, cur', by rw [hyl], hg, h2, by omega, hmx, by rw [hz]; exact hsz, rfl⟩⟩, ?_, fun j p hp => ?_⟩
    · rw [List.length_take, hcl]
      show min (ys.length * 1) cap = ys.length * 1
      omega
    · rw [List.length_take, hcl]
      show min (ys.length * 1) cap = ys.length * 1
      omega
    · show ((cur'.toList.take (ys.length * 1)).drop (j * 1)).take 1 = [Value.int .i64 p]
      have hj := (List.getElem?_eq_some_iff.1 hp).1
      rw [Nat.mul_one, Nat.mul_one, take_one, List.getElem?_take, if_pos hj, toList_at, hy j p hp]
      rfl
/-- A row of such rows stays one, each row as long as it was. -/
theorem IntCh.rows (h : IntCh w w1 S) {xs : List (List Int)} (hR : Kd.R (Kd.slice e (Kd.int .i64)) e2 w base ok v xs) : ∃ ys : List (List Int), ys.length = xs.length ∧ (∀ j : Nat, (ys.getD j []).length = (xs.getD j []).length) ∧ Kd.R (Kd.slice e (Kd.int .i64)) e2 w1 base ok v ys := by
  obtain ⟨h0, inner, ⟨hl, hc⟩, hr⟩ := hR
  rcases hc with ⟨rfl, hn⟩ | ⟨g, cap, cur, rfl, hg, hh, hcap, hmx, hsz, htk⟩
  · have hx : xs = [] := List.eq_nil_of_length_eq_zero hn
    subst hx
    exact ⟨[], rfl, fun _ => rfl, Kd.R_nil _ _ _ _ _⟩
  · have hk := blk_lt hh
    obtain ⟨cur', h2, hz, hq⟩ := (h.2 g hk).2 cur e2 hh
    have hsz1 : xs.length * (Kd.slice e (Kd.int .i64)).sz = xs.length := Nat.mul_one _
    have same : ∀ j, j < xs.length → cur'[j]? = cur[j]? := by
      intro j hj
      obtain ⟨u, hu, hRj⟩ := hr.2 j _ (List.getElem?_eq_getElem hj)
      have hu : (inner.drop (j * 1)).take 1 = [u] := hu
      obtain ⟨A, c, rfl⟩ := Kd.R_slice hRj
      rw [Nat.mul_one, take_one, ← htk, hsz1, List.getElem?_take, if_pos hj, toList_at] at hu
      rcases hq j with a | ⟨⟨x, a⟩, _⟩
      · exact a
      · rw [a] at hu; simp at hu
    have hin : cur'.toList.take xs.length = cur.toList.take xs.length := by
      apply List.ext_getElem?
      intro j
      rw [List.getElem?_take, List.getElem?_take]
      by_cases hj : j < xs.length
      · rw [if_pos hj, if_pos hj, toList_at, toList_at]; exact same j hj
      · rw [if_neg hj, if_neg hj]
    obtain ⟨ys, hyl, hy⟩ := exists_row (p := fun j (y : List Int) => y.length = (xs.getD j []).length ∧ (Kd.slice e (Kd.int .i64)).M w1 base (fun k => ok k ∧ some k ≠ (Value.slice (some ⟨g, 0, none⟩) xs.length cap).ownBlock) y ((inner.drop (j * 1)).take 1)) xs.length (fun j hj => by
      obtain ⟨u, hu, hRj⟩ := hr.2 j _ (List.getElem?_eq_getElem hj)
      obtain ⟨y, hyl, hRy⟩ := h.row hRj
      exact ⟨y, by rw [List.getD_eq_getElem?_getD, List.getElem?_eq_getElem hj]; exact hyl, u, hu, hRy⟩)
    refine ⟨ys, hyl, fun j => ?_, by rw [show (Value.slice (some ⟨g, 0, none⟩) xs.length cap).ownBlock = some g from rfl] at h0 ⊢; exact h0, inner, ⟨by rw [hyl]; exact hl, .inr ⟨g, cap, cur', by rw [hyl], hg, h2, by omega, hmx, by rw [hz]; exact hsz, ?_⟩⟩, by rw [hyl]; exact hr.1, fun j p hp => ?_⟩
    · by_cases hj : j < ys.length
      · rw [List.getD_eq_getElem?_getD, List.getElem?_eq_getElem hj]
        exact (hy j _ (List.getElem?_eq_getElem hj)).1
      · rw [List.getD_eq_getElem?_getD, List.getElem?_eq_none (by omega), List.getD_eq_getElem?_getD, List.getElem?_eq_none (by omega)]
    · rw [hyl, hsz1, hin, ← hsz1]; exact htk
    · exact (hy j p hp).2
end
theorem Kept.thenT {w W W2 : World} {S P : Nat → Prop} {l : List Nat} (h : Kept w W S) (k : Kept W W2 (fun k => P k ∧ IsT W k l)) (hs : ∀ k, P k → IsT w k l → S k) : Kept w W2 S :=
  h.then_ k (fun q hp => (Nat.lt_or_ge q w.heap.size).elim (fun hq => .inl (Classical.byContradiction fun hn => hn (by
    obtain ⟨p, t, h1, c, h2⟩ := hp
    exact hs q p ⟨t, h1, c, by rw [← h.2 q hq hn]; exact h2⟩))) .inr)
theorem R_keptT {α : Type} {d : Kd α} {e base : Nat} {W W2 : World} {ok P : Nat → Prop} {v : Value} {xs : List α} {l : List Nat} (h : d.R e W base ok v xs) (hk : Kept W W2 (fun k => P k ∧ IsT W k l)) (hd : ∀ q, q ∈ e :: d.E → q ∉ l) : d.R e W2 base ok v xs :=
  Kd.R_mono (Kd.R_step (Kd.R_bound h) (fun k hk2 hlt => hk.2 k hlt (fun q => by
    obtain ⟨_, _, _, t, ht, c, hc⟩ := hk2
    exact q.2.ne ⟨c, hc⟩ (hd t ht)))) (fun _ h => h.1)
theorem blk_keptT {W W2 : World} {P : Nat → Prop} {l : List Nat} {g t : Nat} {cs : Array Value} (h : W.heap[g]? = some (.cells cs t (0, 0))) (hk : Kept W W2 (fun k => P k ∧ IsT W k l)) (ht : t ∉ l) : W2.heap[g]? = some (.cells cs t (0, 0)) :=
  blk_kept h hk (fun q => q.2.ne ⟨cs, h⟩ ht)
theorem blk_keptO {W W2 : World} {u : Value} {e g t : Nat} {cs : Array Value} (h : W.heap[g]? = some (.cells cs t (0, 0))) (hk : Kept W W2 (fun k => some k = u.ownBlock)) (hu : ∀ k, u.ownBlock = some k → ∃ cells, W.heap[k]? = some (.cells cells e (0, 0))) (ht : e ∉ [t]) : W2.heap[g]? = some (.cells cs t (0, 0)) :=
  blk_kept h hk (fun q => IsT.ne ⟨t, List.mem_singleton.2 rfl, cs, h⟩ (hu g q.symm) ht)
theorem S_keptO {α : Type} {d : Kd α} {e e2 base : Nat} {W W2 : World} {u : Value} {ok : Nat → Prop} {v : Value} {xs : List α} (h : Kd.S d e W base ok v xs) (hk : Kept W W2 (fun k => some k = u.ownBlock)) (hu : ∀ k, u.ownBlock = some k → ∃ cells, W.heap[k]? = some (.cells cells e2 (0, 0))) (ht : e2 ∉ e :: d.E) : Kd.S d e W2 base ok v xs :=
  Kd.S_mono (Kd.S_step (Kd.S_bound h) (fun k hk2 hlt => hk.2 k hlt (fun q => by
    obtain ⟨_, _, _, t, hm, c, hc⟩ := hk2
    exact IsT.ne ⟨t, hm, c, hc⟩ (hu k q.symm) ht))) (fun _ h => h.1)
end Go.Proofs.YtibipjpmeekifaaDoor
