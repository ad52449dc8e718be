/- A row of four bytes that a constant's conversion left: a mark lies past the row's end; its cells are like any other. No program stands in it, and no condition. -/
import Derived.ArgAppend
import Derived.Test.YthbeplmihjhoeaaDoorZed
set_option linter.unusedVariables false
namespace Go.Proofs.YthbeplmihjhoeaaDoor
open Go.RowKit Go.Proofs.YthbeplmihjhoeaaDoorW.PrintWords Go.Proofs.YthbeplmihjhoeaaDoorW.PrintLast Go.Proofs.YthbeplmihjhoeaaDoorW.PrintMore
/-- A row of bytes of the call's own, or such a marked row. -/
def MkQ (w : World) (base : Nat) (v : Value) (xs : List Int) : Prop :=
  Kd.R (Kd.int .u8) 5 w base (fun _ => True) v xs ∨
  ∃ b, v = .slice (some ⟨b, 0, none⟩) 4 4 ∧ base ≤ b ∧ xs.length = 4 ∧ w.heap[b]? = some (.cells (encs (Value.int .u8) xs).toArray 5 (4, 5))
namespace MkQ
variable {w : World} {base : Nat} {v : Value} {xs : List Int}
theorem of (h : Kd.R (Kd.int .u8) 5 w base (fun _ => True) v xs) : MkQ w base v xs := .inl h
theorem slice (h : MkQ w base v xs) : ∃ A c, v = .slice A xs.length c := by
  rcases h with h | ⟨b, rfl, _, hl, _⟩
  · exact Kd.R_slice h
  · exact ⟨_, _, by rw [hl]⟩
theorem ne (h : MkQ w base v xs) {g t : Nat} {cells : Array Value} (hb : w.heap[g]? = some (.cells cells t (0, 0))) (ht : 5 ≠ t) : some g ≠ v.ownBlock := by
  rcases h with h | ⟨b, rfl, _, hl, hh⟩
  · exact Kd.R_ne h hb ht
  · intro e
    simp only [Value.ownBlock, Option.some.injEq] at e
    subst e
    rw [hh] at hb
    simp at hb
theorem below (h : MkQ w base v xs) {w1 : World} (hb : Below w.heap.size w w1) : MkQ w1 base v xs := by
  rcases h with h | ⟨b, rfl, hB, hl, hh⟩
  · exact .inl (Kd.R_below h hb)
  · refine .inr ⟨b, rfl, hB, hl, ?_⟩
    rw [hb.block b (blk_lt hh)]
    exact hh
theorem alloc (h : MkQ w base v xs) (o : Obj) : MkQ (w.alloc o) base v xs := h.below (below_alloc (Below.refl _ _) o)
theorem drew (h : MkQ w base v xs) : MkQ w.drew base v xs := h.below (below_drew (Below.refl _ _))
theorem drewN (h : MkQ w base v xs) (m : Nat) : MkQ (w.drewN m) base v xs := h.below (pw_below_drewN (Below.refl _ _) m)
theorem append_step {P : Program} {ops : Array Oper} {o : Oper} {a : Act} {Q : Exit → Act → World → Prop} {Kc : Act → World → Prop} {w0 W : World} (base : Nat) (hw : Region.wanted o (yielded ops a.tmps) = true) (s x : Operand) (t : TypeId)
    (ho : o.op = .call { callee := .builtin .append, args := #[s, x], argTypes := #[t, t] })
    (ht : P.underlying t = some (.slice 5)) (hinfo : (P.info? 5).map (fun i => (i.zero, i.size, i.bytes)) = some (some (.int .u8 0), 1, 1))
    (v : Value) (xs : List Int) (p : Int) (hs : a.eval s = v) (hx : a.eval x = .slice (some ⟨W.heap.size, 0, none⟩) 1 1)
    (HO : MkQ W base v xs) (HB : Below base w0 W) (hbase : base ≤ W.heap.size) (hl : xs.length + 1 ≤ 140737488355328)
    (h : ∀ v1 w1, Kd.R (Kd.int .u8) 5 w1 base (fun _ => True) v1 (xs ++ [p]) → Below base w0 w1 → W.grownBy w1 v.ownBlock → (v1.ownBlock = v.ownBlock ∨ ∃ b, v1.ownBlock = some b ∧ W.heap.size ≤ b) → Kc (a.put o.dst v1) w1) :
    if Region.wanted o (yielded ops a.tmps) = true then Oper.wp P o a (W.alloc (.cells #[.int .u8 p] 5)) Kc Q else Kc (a.put o.dst undef) (W.alloc (.cells #[.int .u8 p] 5)) := by
  rcases HO with HO | ⟨b, rfl, hB, h4, hh⟩
  · exact Kd.R_append_step (Kd.int .u8) base hw s x t 5 (.int .u8 0) 1 ho ht hinfo rfl (by decide) (by decide) v xs p [.int .u8 p] (fun _ => True) (fun _ => False) hs hx rfl (fun _ hk => hk.elim) (fun _ _ => trivial) HO HB hbase (by omega) h
  · obtain ⟨i0, hi, hzz⟩ := Option.map_eq_some_iff.1 hinfo
    simp only [Prod.mk.injEq] at hzz
    obtain ⟨hz0, hz1, hz2⟩ := hzz
    rw [if_pos hw]
    have hbl : b < W.heap.size := blk_lt hh
    have hh' : (W.alloc (.cells #[.int .u8 p] 5)).heap[b]? = some (.cells (encs (Value.int .u8) xs).toArray 5 (4, 5)) := (heap_alloc_old W _ hbl).trans hh
    obtain ⟨v1, w1, hr, hown, hg⟩ := run_append_arg_grows (P := P) (W.alloc (.cells #[.int .u8 p] 5)) t o.type 5 i0 (.int .u8 0) 1 1 ht hi hz0 hz1 hz2 rfl (by decide) ⟨b, 0, none⟩ 4 4 (encs (Value.int .u8) xs) (by simp [encs, h4])
      (by simpa using World.news_of_block hh') ⟨W.heap.size, 0, none⟩ 1 1 [.int .u8 p] rfl
      (by simpa using World.news_of_block (cs := #[.int .u8 p]) (t := 5) (fr := (0, 0)) (heap_alloc_new W (.cells #[.int .u8 p] 5))) (by omega) (by simp only [maxLen]; omega) (by omega)
    unfold Oper.wp execOp
    simp only [ho, resolve, invoke, builtin, Sem.run_bind, Sem.run_pure, Result.andThen_ok, List.map_toArray, List.map_cons, List.map_nil, hs, hx, hr]
    have hgW : W.grownBy w1 none := World.grownBy.trans (World.grownBy_alloc W _ _) hg
    refine h v1 w1 ?_ ((HB.alloc hbase _).grown hg (by simp; omega) (fun k hk => by simp at hk)) ⟨hgW.os, hgW.tape, hgW.output, hgW.size, fun k hk _ => hgW.block k hk (by simp)⟩ ?_
    rotate_left
    · rcases hown.2 with ⟨_, h0⟩ | ⟨g', cap, cur, rfl, hb, _⟩
      · exact absurd h0 (by omega)
      · have e : (W.alloc (.cells #[.int .u8 p] 5)).heap.size = W.heap.size + 1 := by
          show (W.heap.push _).size = _
          rw [Array.size_push]
        exact .inr ⟨g', by simp [Value.ownBlock], by omega⟩
    refine Kd.R_of_own ?_ (fun _ _ => trivial)
    have ow := own_weaken hown (base' := base) (by simp; omega)
    have e : encs (Value.int .u8) (xs ++ [p]) = encs (Value.int .u8) xs ++ [.int .u8 p] := by simp [encs]
    rw [e, List.length_append, h4]
    exact ow
/-- append(v, ys...) onto the marked row: the answer is a row of the call's own like any other. -/
theorem append_rows_mk {P : Program} {ops : Array Oper} {o : Oper} {rest : List Oper} {a : Act} {Q : Exit → Act → World → Prop} {w0 W : World} (base : Nat) (hgd : o.guard = none) (s x : Operand) (t : TypeId)
    (ho : o.op = .call { callee := .builtin .append, args := #[s, x], argTypes := #[t, t] })
    (ht : P.underlying t = some (.slice 5)) (hinfo : (P.info? 5).map (fun i => (i.zero, i.size, i.bytes)) = some (some (.int .u8 0), 1, 1))
    (b : Nat) (xs ys : List Int) (A : Option Addr) (m c : Nat) (ok : Nat → Prop) (hs : a.eval s = .slice (some ⟨b, 0, none⟩) 4 4) (hx : a.eval x = .slice A m c)
    (h4 : xs.length = 4) (hh : W.heap[b]? = some (.cells (encs (Value.int .u8) xs).toArray 5 (4, 5))) (HR : Kd.C (Kd.int .u8) W A m ys) (hm : ys.length = m) (hp : 0 < m) (hfresh : ∀ k, W.heap.size ≤ k → ok k)
    (HB : Below base w0 W) (hl : xs.length + m ≤ 140737488355328)
    (h : ∀ v1 w1, Kd.R (Kd.int .u8) 5 w1 base ok v1 (xs ++ ys) → Below base w0 w1 → W.grownBy w1 (some b) → (v1.ownBlock = some b ∨ ∃ b', v1.ownBlock = some b' ∧ W.heap.size ≤ b') → wpList P ops Q rest (a.put o.dst v1) w1) (hbase : base ≤ W.heap.size) :
    wpList P ops Q (o :: rest) a W := by
  obtain ⟨i0, hi, hzz⟩ := Option.map_eq_some_iff.1 hinfo
  simp only [Prod.mk.injEq] at hzz
  obtain ⟨hz0, hz1, hz2⟩ := hzz
  obtain ⟨ad, rfl, _⟩ := Kd.at_int HR 0 (by omega) (by omega)
  obtain ⟨v1, w1, hr, hown, hg⟩ := run_append_arg_grows (P := P) W t o.type 5 i0 (.int .u8 0) 1 1 ht hi hz0 hz1 hz2 rfl (by decide) ⟨b, 0, none⟩ 4 4 (encs (Value.int .u8) xs) (by simp [encs, h4])
    (by simpa using World.news_of_block hh) ad m c (encs (Value.int .u8) ys) (by simp [encs, hm])
    (by
      intro j u hu
      simp only [encs, List.getElem?_map, Option.map_eq_some_iff] at hu
      obtain ⟨y, hy, rfl⟩ := hu
      have hj : j < ys.length := (List.getElem?_eq_some_iff.1 hy).1
      obtain ⟨ad', e, hc⟩ := Kd.at_int HR j (by omega) (by omega)
      cases e
      rw [Int.toNat_natCast] at hc
      rw [hc]
      unfold rd
      rw [Int.toNat_natCast, List.getD_eq_getElem?_getD, hy]
      rfl) (by omega) (by simp only [maxLen]; omega) (by omega)
  refine wpList_plain hgd fun K hK => ?_
  unfold Oper.wp execOp
  simp only [ho, resolve, invoke, builtin, Sem.run_bind, Sem.run_pure, Result.andThen_ok, List.map_toArray, List.map_cons, List.map_nil, hs, hx, hr]
  have hat : ∃ b', v1.ownBlock = some b' ∧ W.heap.size ≤ b' := by
    rcases hown.2 with ⟨_, h0⟩ | ⟨g', cap, cur, rfl, hb, _⟩
    · exact absurd h0 (by omega)
    · exact ⟨g', by simp [Value.ownBlock], hb⟩
  refine hK _ _ (h v1 w1 ?_ (HB.grown hg hbase (fun k hk => by simp at hk)) ⟨hg.os, hg.tape, hg.output, hg.size, fun k hk _ => hg.block k hk (by simp)⟩ (.inr hat))
  obtain ⟨b', e, hb'⟩ := hat
  refine Kd.R_of_own ?_ (fun k hk => by rw [e] at hk; injection hk with hk; exact hfresh k (by omega))
  have ow := own_weaken hown (base' := base) hbase
  have e : encs (Value.int .u8) (xs ++ ys) = encs (Value.int .u8) xs ++ encs (Value.int .u8) ys := by simp [encs]
  rw [e, List.length_append, h4, hm]
  exact ow
theorem const (W : World) {base : Nat} (hb : base ≤ W.heap.size) (xs : List Int) (h4 : xs.length = 4) : MkQ (W.alloc (.cells (encs (Value.int .u8) xs).toArray 5 (4, 5))) base (.slice (some ⟨W.heap.size, 0, none⟩) 4 4) xs :=
  .inr ⟨W.heap.size, rfl, hb, h4, heap_alloc_new W _⟩
theorem far {w : World} {base : Nat} {v : Value} {xs : List Int} (h : MkQ w base v xs) {g t : Nat} {cells : Array Value} (hb : w.heap[g]? = some (.cells cells t (0, 0))) (ht : 5 ≠ t) (i : Nat) (u : Value) : MkQ (w.setCell ⟨g, i, none⟩ u) base v xs := by
  rcases h with h | ⟨b, rfl, hB, hl, hh⟩
  · refine .inl (zK h hb (But.set (But.refl _ _) i u) (fun q hq => ?_))
    simp [Kd.int, Kd.scalar] at hq
    omega
  · refine .inr ⟨b, rfl, hB, hl, ?_⟩
    have hn : b ≠ g := by
      intro e
      subst e
      rw [hh] at hb
      simp at hb
    rw [Below.heap_setCell w ⟨g, i, none⟩ u b hn]
    exact hh
/-- Behind one element more it is a row of the call's own like any other. -/
theorem own {w : World} {base : Nat} {v : Value} {xs : List Int} (h : MkQ w base v xs) (hl : xs.length ≠ 4) : Kd.R (Kd.int .u8) 5 w base (fun _ => True) v xs := by
  rcases h with h | ⟨b, rfl, hB, h4, hh⟩
  · exact h
  · exact absurd h4 hl
theorem lower {w : World} {base base' : Nat} {v : Value} {xs : List Int} (h : MkQ w base v xs) (hb : base' ≤ base) : MkQ w base' v xs := by
  rcases h with h | ⟨b, rfl, hB, hl, hh⟩
  · exact .inl (Kd.R_lower h hb)
  · exact .inr ⟨b, rfl, Nat.le_trans hb hB, hl, hh⟩
end MkQ
end Go.Proofs.YthbeplmihjhoeaaDoor
