/- General words of this session: short names for side proofs that stand many times in a printed text: each is told where it is used, out of what lies there. No program stands in it, and no condition. -/
import Derived.Below
import Derived.Deep.Draws
import Derived.Test.YtibipjpmeekifaaDoorWWords
import Derived.Test.YtibipjpmeekifaaDoorWLast
import Derived.Test.YtibipjpmeekifaaDoorWMore
import Derived.Test.YtibipjpmeekifaaDoorWApart
import Derived.Test.YtibipjpmeekifaaDoorWKept
set_option linter.unusedVariables false
namespace Go.Proofs.YtibipjpmeekifaaDoor
open Go.RowKit Go.Proofs.YtibipjpmeekifaaDoorW.PrintWords Go.Proofs.YtibipjpmeekifaaDoorW.PrintLast Go.Proofs.YtibipjpmeekifaaDoorW.PrintMore
theorem z_ {p : Prop} (h : p := by repeat (first | (with_reducible first | exact HB.out | apply below_alloc | apply pw_below_drewN | apply below_drew1) | exact HB.out)) : p := h
theorem zs {p q : Prop} (g : q) (h : q → p := by intro g_; repeat (first | (with_reducible first | exact HB.out | apply below_alloc | apply pw_below_drewN | apply below_drew1 | refine below_set ?_ g_) | exact HB.out)) : p := h g
theorem zd {p : Prop} [Decidable p] (h : decide p = true := by first | (with_reducible assumption) | assumption) : p := of_decide_eq_true h
theorem zb {p q : Prop} (b : q) (h : q → p := by intro b_; (with_reducible repeat (first | refine blk_drewN ?_ _ | refine blk_drew ?_ | refine blk_alloc ?_ _)); exact b_) : p := h b
theorem zS {p q : Prop} (b : q) (h : q → p := by intro b_; (with_reducible repeat (first | apply Kd.S_alloc | apply Kd.S_drewN | apply Kd.S_drew)); exact b_) : p := h b
theorem zc {p q : Prop} (b : q) (h : q → p := by intro b_; repeat (first | exact b_ | (with_reducible refine Kd.C_alloc ?_ _) | (with_reducible refine Kd.C_drewN ?_ _) | (with_reducible refine Kd.C_drew ?_))) : p := h b
theorem za {p : Prop} (h : p := by (try simp only [List.map_toArray, List.map_cons, List.map_nil]); first | done | rfl | (simp only [List.length_drop, List.length_take]; rfl)) : p := h
theorem zr {p : Prop} (h : p := by first | rfl | (simp; done) | (simp [*]; done)) : p := h
theorem ze {p : Prop} (h : p := by first | rfl | (simp [errW_none, errW_some] <;> rfl) | (simp [*, errW_none, errW_some] <;> rfl)) : p := h
theorem zh {p q : Prop} (e : q) (h : q → p := by intro e_; first | (rw [e_]; with_reducible exact H) | (have H2_ := (Option.bind_some _ _).symm.trans H; rw [e_]; with_reducible exact H2_) | (have H2_ := (Option.bind_some _ _).symm.trans H; with_reducible exact H2_) | with_reducible exact H | (rw [e_]; exact H) | exact H) : p := h e
theorem zA {p : Prop} (h : p) : Aside0 p := ⟨h⟩
/-- All blocks but g stay. -/
def But (w W : World) (g : Nat) : Prop := w.heap.size ≤ W.heap.size ∧ ∀ k, k ≠ g → k < w.heap.size → W.heap[k]? = w.heap[k]?
theorem But.refl (w : World) (g : Nat) : But w w g := ⟨Nat.le_refl _, fun _ _ _ => rfl⟩
theorem But.set {w W : World} {g : Nat} (h : But w W g) (i : Nat) (u : Value) : But w (W.setCell ⟨g, i, none⟩ u) g := ⟨by simpa [World.setCell] using h.1, fun k a b => (Below.heap_setCell W ⟨g, i, none⟩ u k a).trans (h.2 k a b)⟩
theorem But.alloc {w W : World} {g : Nat} (h : But w W g) (o : Obj) : But w (W.alloc o) g := ⟨by have := h.1; simp; omega, fun k a b => (Below.heap_alloc W o k (Nat.lt_of_lt_of_le b h.1)).trans (h.2 k a b)⟩
theorem But.drewN {w W : World} {g : Nat} (h : But w W g) (m : Nat) : But w (W.drewN m) g := h
theorem But.drew {w W : World} {g : Nat} (h : But w W g) : But w W.drew g := h
theorem le_set {n : Nat} {W : World} (h : n ≤ W.heap.size) (p : Addr) (u : Value) : n ≤ (W.setCell p u).heap.size := by simpa [World.setCell] using h
theorem le_alloc {n : Nat} {W : World} (h : n ≤ W.heap.size) (o : Obj) : n ≤ (W.alloc o).heap.size := by simp; omega
theorem le_drewN {n : Nat} {W : World} (h : n ≤ W.heap.size) (m : Nat) : n ≤ (W.drewN m).heap.size := h
theorem le_drew {n : Nat} {W : World} (h : n ≤ W.heap.size) : n ≤ W.drew.heap.size := h
theorem blk_eq {W : World} {g t : Nat} {cs cs' : Array Value} (h : W.heap[g]? = some (.cells cs t (0, 0))) (e : cs = cs') : W.heap[g]? = some (.cells cs' t (0, 0)) := e ▸ h
theorem zK {α : Type} {d : Kd α} {e base : Nat} {ok : Nat → Prop} {v : Value} {xs : List α} {w W : World} (h : d.R e w base ok v xs) {g t : Nat} {cells : Array Value} (hb : w.heap[g]? = some (.cells cells t (0, 0)))
    (hk : But w W g := by repeat (first | (with_reducible exact But.refl _ _) | (with_reducible apply But.set) | (with_reducible apply But.alloc) | (with_reducible apply But.drewN) | (with_reducible apply But.drew))) (ht : ∀ q, q ∈ e :: d.E → q ≠ t := by decide) : d.R e W base ok v xs :=
  Kd.R_mono (Kd.R_step (Kd.R_types h hb ht) (fun k a b => hk.2 k a.2 b)) (fun _ a => a.1)
theorem zR {p q : Prop} (b : q) (h : q → p := by intro b_; (with_reducible repeat (first | apply Kd.R_alloc | apply Kd.R_drewN | apply Kd.R_drew)); exact b_) : p := h b
theorem zl {α : Type} {d : Kd α} {e base : Nat} {ok : Nat → Prop} {v : Value} {xs : List α} {w W : World} (h : d.R e w base ok v xs) (hs : w.heap.size ≤ W.heap.size := by repeat (first | (with_reducible exact Nat.le_refl _) | (with_reducible apply le_set) | (with_reducible apply le_alloc) | (with_reducible apply le_drewN) | (with_reducible apply le_drew))) : ∀ k, v.ownBlock = some k → k < W.heap.size :=
  fun k hk => Nat.lt_of_lt_of_le (Kd.R_lt h k hk) hs
theorem zq {p q : Prop} (b : q) (h : q → p := by intro b_; apply blk_eq; (repeat (first | (with_reducible exact b_) | (with_reducible apply blk_drewN) | (with_reducible apply blk_drew) | (with_reducible apply blk_alloc) | (with_reducible apply blk_put))); all_goals rfl) : p := h b
theorem zf {p q r : Prop} (b : q) (n : r) (h : q → r → p := by intro b_ n_; (repeat (first | (with_reducible exact b_) | (with_reducible refine blk_drewN ?_ _) | (with_reducible refine blk_drew ?_) | (with_reducible refine blk_alloc ?_ _) | (with_reducible refine blk_far ?_ n_ _)))) : p := h b n
theorem zB {w W w1 : World} {g : Nat} {o : Obj} (h : w.heap[g]? = some o) (hb : Below W.heap.size W w1) (k : w.heap[g]? = some o → W.heap[g]? = some o := by intro b_; (with_reducible repeat (first | refine blk_drewN ?_ _ | refine blk_drew ?_ | refine blk_alloc ?_ _)); exact b_) : w1.heap[g]? = some o := blk_below (k h) hb
theorem zs2 {p q r : Prop} (g : q) (g' : r) (h : q → r → p := by intro g_ g2_; repeat (first | (with_reducible first | exact HB.out | apply below_alloc | apply pw_below_drewN | apply below_drew1 | refine below_set ?_ g_ | refine below_set ?_ g2_) | exact HB.out)) : p := h g g'
theorem zs3 {p q r s : Prop} (g : q) (g' : r) (g'' : s) (h : q → r → s → p := by intro g_ g2_ g3_; repeat (first | (with_reducible first | exact HB.out | apply below_alloc | apply pw_below_drewN | apply below_drew1 | refine below_set ?_ g_ | refine below_set ?_ g2_ | refine below_set ?_ g3_) | exact HB.out)) : p := h g g' g''
theorem zv {w : World} {g : Nat} {t : TypeId} {cs : Array Value} (h : w.heap[g]? = some (.cells cs t (0, 0))) (j : Nat) (v : Value) (e : cs[j]? = some v := by rfl) : w.cell? ⟨g, j, none⟩ = some v := (blk_cell h j).trans e
theorem zw {w W : World} {g : Nat} {o : Obj} (h : w.heap[g]? = some o) (hs : w.heap.size ≤ W.heap.size := by repeat (first | (with_reducible exact Nat.le_refl _) | (with_reducible apply le_set) | (with_reducible apply le_alloc) | (with_reducible apply le_drewN) | (with_reducible apply le_drew))) : g < W.heap.size := Nat.lt_of_lt_of_le (blk_lt h) hs
theorem zx {w W : World} {a : Addr} {v : Value} (hb : Below w.heap.size w W) (h : w.cell? a = some v) : W.cell? a = some v := (hb.cell (World.block_lt_of_cell? w _ h)).trans h
theorem zm {p : Prop} (h : p := by repeat' first | (with_reducible first | exact LeO.refl _ | exact LeO.none _ | refine LeO.ite ?_ ?_ | refine LeO.bind ?_ (fun _ => ?_) | apply ih0 | apply ih1 | apply ih2 | apply ih3 | apply ih4 | apply ih5 | apply ih6 | apply ih7 | apply ih8 | apply ih9 | apply m1 | apply m2 | apply m3 | apply m4 | apply m5 | apply m6 | apply m7 | apply m8 | apply m9 | apply m10 | apply m11 | apply m12) | exact LeO.none _ | refine LeO.ite ?_ ?_ | refine LeO.bind ?_ (fun _ => ?_)) : p := h
theorem zh3 {w : World} {g t : Nat} {v0 v1 v2 : Value} (h : w.heap[g]? = some (.cells #[v0, v1, v2] t (0, 0))) : w.cell? ⟨g, 0, none⟩ = some v0 ∧ w.cell? ⟨g, 1, none⟩ = some v1 ∧ w.cell? ⟨g, 2, none⟩ = some v2 ∧ w.frozen? ⟨g, 0, none⟩ = false ∧ w.frozen? ⟨g, 1, none⟩ = false ∧ w.frozen? ⟨g, 2, none⟩ = false := ⟨zv h 0 _, zv h 1 _, zv h 2 _, blk_frozen h 0, blk_frozen h 1, blk_frozen h 2⟩
theorem zh5 {w : World} {g t : Nat} {v0 v1 v2 v3 v4 : Value} (h : w.heap[g]? = some (.cells #[v0, v1, v2, v3, v4] t (0, 0))) : w.cell? ⟨g, 0, none⟩ = some v0 ∧ w.cell? ⟨g, 1, none⟩ = some v1 ∧ w.cell? ⟨g, 2, none⟩ = some v2 ∧ w.cell? ⟨g, 3, none⟩ = some v3 ∧ w.cell? ⟨g, 4, none⟩ = some v4 ∧ w.frozen? ⟨g, 0, none⟩ = false ∧ w.frozen? ⟨g, 1, none⟩ = false ∧ w.frozen? ⟨g, 2, none⟩ = false ∧ w.frozen? ⟨g, 3, none⟩ = false ∧ w.frozen? ⟨g, 4, none⟩ = false := ⟨zv h 0 _, zv h 1 _, zv h 2 _, zv h 3 _, zv h 4 _, blk_frozen h 0, blk_frozen h 1, blk_frozen h 2, blk_frozen h 3, blk_frozen h 4⟩
theorem zh9 {w : World} {g t : Nat} {v0 v1 v2 v3 v4 v5 v6 v7 v8 : Value} (h : w.heap[g]? = some (.cells #[v0, v1, v2, v3, v4, v5, v6, v7, v8] t (0, 0))) : w.cell? ⟨g, 0, none⟩ = some v0 ∧ w.cell? ⟨g, 1, none⟩ = some v1 ∧ w.cell? ⟨g, 2, none⟩ = some v2 ∧ w.cell? ⟨g, 3, none⟩ = some v3 ∧ w.cell? ⟨g, 4, none⟩ = some v4 ∧ w.cell? ⟨g, 5, none⟩ = some v5 ∧ w.cell? ⟨g, 6, none⟩ = some v6 ∧ w.cell? ⟨g, 7, none⟩ = some v7 ∧ w.cell? ⟨g, 8, none⟩ = some v8 ∧ w.frozen? ⟨g, 0, none⟩ = false ∧ w.frozen? ⟨g, 1, none⟩ = false ∧ w.frozen? ⟨g, 2, none⟩ = false ∧ w.frozen? ⟨g, 3, none⟩ = false ∧ w.frozen? ⟨g, 4, none⟩ = false ∧ w.frozen? ⟨g, 5, none⟩ = false ∧ w.frozen? ⟨g, 6, none⟩ = false ∧ w.frozen? ⟨g, 7, none⟩ = false ∧ w.frozen? ⟨g, 8, none⟩ = false := ⟨zv h 0 _, zv h 1 _, zv h 2 _, zv h 3 _, zv h 4 _, zv h 5 _, zv h 6 _, zv h 7 _, zv h 8 _, blk_frozen h 0, blk_frozen h 1, blk_frozen h 2, blk_frozen h 3, blk_frozen h 4, blk_frozen h 5, blk_frozen h 6, blk_frozen h 7, blk_frozen h 8⟩
@[reducible] def zO (k : Nat) (v : Value) : Prop := some k ≠ v.ownBlock
theorem zy {a b : Nat → Prop} (h : ∀ k, a k → b k := by intro k_ hk_; (with_reducible repeat (cases ‹_ ∧ _›)); (repeat' (with_reducible apply And.intro)) <;> (first | (with_reducible assumption) | trivial | assumption)) : ∀ k, a k → b k := h
theorem zbx {P : Program} {ops : Array Oper} {Q : Exit → Act → World → Prop} {rest : List Oper} {o : Oper} {a : Act} {W : World} {N : Tmp} {cs : Array Value} {t : TypeId}
    (h : ∀ g, g = W.heap.size → ∀ w1, w1.heap[g]? = some (.cells cs t (0, 0)) → Below W.heap.size W w1 → wpList P ops Q rest (a.put o.dst (.pointer (some ⟨g, 0, none⟩))) w1)
    (hgd : o.guard = none := by rfl) (hd : o.dst = some N := by rfl) (hrun : (execOp a.eval o).run P W = .ok (.value (.pointer (some ⟨W.heap.size, 0, none⟩))) (W.alloc (.cells cs t (0, 0))) := by first | (go_simp; done) | (go_simp; rfl)) : wpList P ops Q (o :: rest) a W := box_event hgd hd hrun h
theorem zg {g : Nat} {w W : World} (e : g = W.heap.size) (h : Below w.heap.size w W := by exact z_) : w.heap.size ≤ g := by rw [e]; exact below_size h
theorem zQS {α : Type} {d : Kd α} {e base : Nat} {ok : Nat → Prop} {A : Option Addr} {n c : Nat} {xs : List α} {w : World} (h : Kd.S d e w base ok (.slice A n c) xs) : n ≤ c := (Kd.S_reads' h).2.1
theorem zQR {α : Type} {d : Kd α} {e base : Nat} {ok : Nat → Prop} {A : Option Addr} {n c : Nat} {xs : List α} {w : World} (h : d.R e w base ok (.slice A n c) xs) : n ≤ c := (Kd.R_reads' h).2.1
theorem zpw {p : Prop} (h : p := by intro w'; go_simp; with_reducible rfl) : p := h
theorem zpt {p : Prop} (h : p := by simp only [Act.put, List.setIfInBounds_toArray, List.set_cons_zero, List.set_cons_succ, i64_w, i32_w]; rfl) : p := h
theorem zt (p : Prop) [Decidable p] (h : p := by exact zd) : p = True := eq_true h
end Go.Proofs.YtibipjpmeekifaaDoor

