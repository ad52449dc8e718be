/- General words of this session: a map from int to int that a call made, told by a list of pairs. No program stands in it, and no condition. -/
import Derived.Maps.OwnSet
import Derived.Maps.OwnOps
import Derived.WalkKit
import Derived.Below
import Derived.Deep.Draws
set_option linter.unusedVariables false
namespace Go.Proofs.YtibipjpmeekifaaDoor
open Go.Maps Go.RowKit
/-- What a list of pairs, the newest first, holds at a key. -/
def mget (m : List (Int × Int)) (c : Int) : Option Int := (m.find? (fun p => p.1 == c)).map (·.2)
def mdel (m : List (Int × Int)) (c : Int) : List (Int × Int) := m.filter (fun p => p.1 != c)
theorem mget_nil (c : Int) : mget [] c = none := rfl
theorem mget_cons (m : List (Int × Int)) (a v c : Int) : mget ((a, v) :: m) c = if a = c then some v else mget m c := by
  unfold mget
  by_cases h : a = c
  · subst h; simp
  · rw [List.find?_cons_of_neg (by simpa using h), if_neg h]
theorem mget_del (m : List (Int × Int)) (a c : Int) : mget (mdel m a) c = if a = c then none else mget m c := by
  unfold mget mdel
  induction m with
  | nil => simp
  | cons p m ih =>
    by_cases h1 : p.1 = a
    · rw [List.filter_cons_of_neg (by simpa using h1), ih]
      by_cases h2 : a = c
      · rw [if_pos h2, if_pos h2]
      · rw [if_neg h2, if_neg h2, List.find?_cons_of_neg (by simp; omega)]
    · rw [List.filter_cons_of_pos (by simpa using h1)]
      by_cases h2 : p.1 = c
      · rw [List.find?_cons_of_pos (by simpa using h2), List.find?_cons_of_pos (by simpa using h2), if_neg (by omega)]
      · rw [List.find?_cons_of_neg (by simpa using h2), List.find?_cons_of_neg (by simpa using h2)]; exact ih
/-- Block b is a map that holds these pairs. -/
def IntMap (P : Program) (k e : TypeId) (W : World) (b N : Nat) (m : List (Int × Int)) : Prop :=
  ∃ (n : Nat) (D : DataW Unit), n ≤ N ∧ W.ownsMap P k (plainElem P e) b n D ∧
    ∀ c : Int, Maps.has D (.int .i64 c) = (mget m c).isSome ∧ D.atKey (.int .i64 c) (.lit (.int .i64 0)) = .lit (.int .i64 ((mget m c).getD 0))
section
variable {P : Program} {k e : TypeId} {W W' : World} {b N : Nat} {m : List (Int × Int)}
theorem IntMap.made (P : Program) (k e : TypeId) (W : World) : IntMap P k e (W.alloc (.map #[] 0)) W.heap.size 0 [] :=
  ⟨0, .map [], Nat.le_refl _, World.ownsMap_made _ _ _ _, fun c => ⟨rfl, rfl⟩⟩
theorem IntMap.lt (h : IntMap P k e W b N m) : b < W.heap.size := by obtain ⟨_, _, _, ho, _⟩ := h; exact ho.lt
theorem IntMap.kept {row : Option Nat} (h : IntMap P k e W b N m) (hg : W.grownBy W' row) (hne : some b ≠ row) : IntMap P k e W' b N m := by
  obtain ⟨n, D, hn, ho, hc⟩ := h; exact ⟨n, D, hn, ho.kept hg hne, hc⟩
theorem IntMap.alloc (h : IntMap P k e W b N m) (o : Obj) : IntMap P k e (W.alloc o) b N m := h.kept (World.grownBy_alloc W o none) (by simp)
theorem IntMap.below (h : IntMap P k e W b N m) (hb : Below W.heap.size W W') : IntMap P k e W' b N m :=
  h.kept (row := none) ⟨hb.os, hb.tape, hb.output, hb.size, fun i hi _ => hb.block i hi⟩ (by simp)
theorem IntMap.drew (h : IntMap P k e W b N m) : IntMap P k e W.drew b N m := h
theorem IntMap.drewN (h : IntMap P k e W b N m) (n : Nat) : IntMap P k e (W.drewN n) b N m := h
/-- A cell of another block is written. -/
theorem IntMap.setCell (h : IntMap P k e W b N m) {a : Addr} {v : Value} (ha : a.block ≠ b) : IntMap P k e (W.setCell a v) b N m := by
  obtain ⟨n, D, hn, ⟨es, clock, hh, r⟩, hc⟩ := h
  refine ⟨n, D, hn, ⟨es, clock, ?_, r⟩, hc⟩
  rw [← hh]
  exact Below.heap_setCell W a v b (fun e_ => ha e_.symm)
theorem IntMap.put (hk : P.underlying k = some (.int .i64)) (D : DataW Unit) (hD : IsMap D) (hc : ∀ c : Int, Maps.has D (.int .i64 c) = (mget m c).isSome ∧ D.atKey (.int .i64 c) (.lit (.int .i64 0)) = .lit (.int .i64 ((mget m c).getD 0))) (a v : Int) :
    ∀ c : Int, Maps.has (D.put (.int .i64 a) (.lit (.int .i64 v))) (.int .i64 c) = (mget ((a, v) :: m) c).isSome ∧ (D.put (.int .i64 a) (.lit (.int .i64 v))).atKey (.int .i64 c) (.lit (.int .i64 0)) = .lit (.int .i64 ((mget ((a, v) :: m) c).getD 0)) := by
  intro c
  rw [mget_cons]
  by_cases h : a = c
  · subst h
    rw [if_pos rfl, Maps.has_put_same hD (by first | trivial | rfl | simp [WideAt.IsKeyLit]), Maps.atKey_put_same hD (by first | trivial | rfl | simp [WideAt.IsKeyLit])]
    exact ⟨rfl, rfl⟩
  · rw [if_neg h, Maps.has_put_other (by intro e; injection e with _ e; exact h e.symm), Maps.atKey_put_other (by intro e; injection e with _ e; exact h e.symm)]
    exact hc c
theorem IntMap.del (D : DataW Unit) (hc : ∀ c : Int, Maps.has D (.int .i64 c) = (mget m c).isSome ∧ D.atKey (.int .i64 c) (.lit (.int .i64 0)) = .lit (.int .i64 ((mget m c).getD 0))) (a : Int) :
    ∀ c : Int, Maps.has (D.del (.int .i64 a)) (.int .i64 c) = (mget (mdel m a) c).isSome ∧ (D.del (.int .i64 a)).atKey (.int .i64 c) (.lit (.int .i64 0)) = .lit (.int .i64 ((mget (mdel m a) c).getD 0)) := by
  intro c
  rw [mget_del]
  by_cases h : a = c
  · subst h
    rw [if_pos rfl, Maps.has_del_same, Maps.atKey_del_same]
    exact ⟨rfl, rfl⟩
  · rw [if_neg h, Maps.has_del_other (by intro e; injection e with _ e; exact h e.symm), Maps.atKey_del_other (by intro e; injection e with _ e; exact h e.symm)]
    exact hc c
variable {ops : Array Oper} {rest : List Oper} {o : Oper} {a : Act} {Q : Exit → Act → World → Prop} {t : TypeId}
/-- 'v, ok := m[c]'. -/
theorem wpList_imap_look (hg : o.guard = none) (x y : Operand) (hop : o.op = Op.lookup t x y true)
    (ht : P.underlying t = some (.map k e)) (hk : P.underlying k = some (.int .i64)) (he : P.underlying e = some (.int .i64)) (hz : (zeroValue e).run P W = .ok (.int .i64 0) W)
    (h : IntMap P k e W b N m) (hm : a.eval x = .map (some b)) (c : Int) (hx : a.eval y = .int .i64 c) (hc : (Lit.int .i64 c).wf = true)
    (hK : wpList P ops Q rest (a.put o.dst (.tuple #[.int .i64 ((mget m c).getD 0), .bool (mget m c).isSome])) W) : wpList P ops Q (o :: rest) a W := by
  obtain ⟨n, D, hn, ho, hD⟩ := h
  refine wpList_lookup_own_ok_int W hg x y t hop k e .i64 (Maps.int_keyed hk) ht he hz b n D hm ho _ (.int .i64 c) hx (keyOf_int_mk hk hc) ?_
  intro v hv _
  rw [(hD c).1]
  rw [(hD c).2] at hv
  injection hv with hv
  injection hv with _ hv
  rw [← hv]
  exact hK
/-- 'm[c] = v'. -/
theorem wpList_imap_put (hg : o.guard = none) (x y z : Operand) (hop : o.op = Op.mapUpdate t x y z)
    (ht : P.underlying t = some (.map k e)) (hk : P.underlying k = some (.int .i64)) (he : P.underlying e = some (.int .i64))
    (h : IntMap P k e W b N m) (hl : N < maxLen) (hm : a.eval x = .map (some b)) (c v : Int) (hx : a.eval y = .int .i64 c) (hy : a.eval z = .int .i64 v) (hc : (Lit.int .i64 c).wf = true) (hv : (Lit.int .i64 v).wf = true)
    (hK : ∀ w', IntMap P k e w' b (N + 1) ((c, v) :: m) → W.grownBy w' (some b) → wpList P ops Q rest (a.put o.dst undef) w') : wpList P ops Q (o :: rest) a W := by
  obtain ⟨n, D, hn, ho, hD⟩ := h
  refine wpList_mapUpdate_own W hg x y z t hop k e (Maps.int_keyed hk) ht (plainElem P e) b n D hm ho (by omega) _ _ (.int .i64 c) hx hy (keyOf_int_mk hk hc) (.lit (.int .i64 v)) [] (plainElem_int he hv) ?_
  intro w' ho' hg'
  exact hK w' ⟨n + 1, _, by omega, ho', IntMap.put hk D (ho.tidy (Maps.int_keyed hk)).isMap hD c v⟩ hg'
/-- 'delete(m, c)'. -/
theorem wpList_imap_del (hg : o.guard = none) (x y : Operand) (hop : o.op = Op.call { callee := Callee.builtin Builtin.delete, args := #[x, y], argTypes := #[t, k] })
    (ht : P.underlying t = some (.map k e)) (hk : P.underlying k = some (.int .i64))
    (h : IntMap P k e W b N m) (hm : a.eval x = .map (some b)) (c : Int) (hx : a.eval y = .int .i64 c) (hc : (Lit.int .i64 c).wf = true)
    (hK : ∀ w', IntMap P k e w' b N (mdel m c) → W.mapTurned w' b → wpList P ops Q rest (a.put o.dst (.tuple #[])) w') : wpList P ops Q (o :: rest) a W := by
  obtain ⟨n, D, hn, ho, hD⟩ := h
  refine wpList_delete_own W hg x y t k hop e (Maps.int_keyed hk) ht (plainElem P e) b n D hm ho _ (.int .i64 c) hx (keyOf_int_mk hk hc) ?_
  intro w' ho' hg'
  exact hK w' ⟨n, _, hn, ho', IntMap.del D hD c⟩ hg'
end
end Go.Proofs.YtibipjpmeekifaaDoor
