/- General words of this session: short names for side proofs that stand many times in a printed text: each is told where it is used, out of what lies there. No program stands in it, and no condition. -/
import Derived.Below
import Derived.Deep.Draws
import Derived.Test.YtbnpkiokpnmphaaDoorWWords
import Derived.Test.YtbnpkiokpnmphaaDoorWLast
import Derived.Test.YtbnpkiokpnmphaaDoorWMore
import Derived.Test.YtbnpkiokpnmphaaDoorWApart
import Derived.Test.YtbnpkiokpnmphaaDoorWKept
set_option linter.unusedVariables false
namespace Go.Proofs.YtbnpkiokpnmphaaDoor
open Go.RowKit Go.Proofs.YtbnpkiokpnmphaaDoorW.PrintWords Go.Proofs.YtbnpkiokpnmphaaDoorW.PrintLast Go.Proofs.YtbnpkiokpnmphaaDoorW.PrintMore
theorem z_ {p : Prop} (h : p := by repeat (first | (with_reducible first | exact HB.out | apply below_alloc | apply pw_below_drewN | apply below_drew1) | exact HB.out)) : p := h
theorem zd {p : Prop} [Decidable p] (h : decide p = true := by first | (with_reducible assumption) | assumption) : p := of_decide_eq_true h
theorem zc {p q : Prop} (b : q) (h : q → p := by intro b_; repeat (first | exact b_ | (with_reducible refine Kd.C_alloc ?_ _) | (with_reducible refine Kd.C_drewN ?_ _) | (with_reducible refine Kd.C_drew ?_))) : p := h b
theorem za {p : Prop} (h : p := by (try simp only [List.map_toArray, List.map_cons, List.map_nil]); first | done | rfl | (simp only [List.length_drop, List.length_take]; rfl)) : p := h
theorem zr {p : Prop} (h : p := by first | rfl | (simp; done) | (simp [*]; done)) : p := h
theorem ze {p : Prop} (h : p := by first | rfl | (simp [errW_none, errW_some] <;> rfl) | (simp [*, errW_none, errW_some] <;> rfl)) : p := h
theorem zh {p q : Prop} (e : q) (h : q → p := by intro e_; first | (rw [e_]; with_reducible exact H) | (have H2_ := (Option.bind_some _ _).symm.trans H; rw [e_]; with_reducible exact H2_) | (have H2_ := (Option.bind_some _ _).symm.trans H; with_reducible exact H2_) | with_reducible exact H | (rw [e_]; exact H) | exact H) : p := h e
theorem zA {p : Prop} (h : p) : Aside0 p := ⟨h⟩
theorem le_set {n : Nat} {W : World} (h : n ≤ W.heap.size) (p : Addr) (u : Value) : n ≤ (W.setCell p u).heap.size := by simpa [World.setCell] using h
theorem le_alloc {n : Nat} {W : World} (h : n ≤ W.heap.size) (o : Obj) : n ≤ (W.alloc o).heap.size := by simp; omega
theorem le_drewN {n : Nat} {W : World} (h : n ≤ W.heap.size) (m : Nat) : n ≤ (W.drewN m).heap.size := h
theorem le_drew {n : Nat} {W : World} (h : n ≤ W.heap.size) : n ≤ W.drew.heap.size := h
theorem zR {p q : Prop} (b : q) (h : q → p := by intro b_; (with_reducible repeat (first | apply Kd.R_alloc | apply Kd.R_drewN | apply Kd.R_drew)); exact b_) : p := h b
theorem zl {α : Type} {d : Kd α} {e base : Nat} {ok : Nat → Prop} {v : Value} {xs : List α} {w W : World} (h : d.R e w base ok v xs) (hs : w.heap.size ≤ W.heap.size := by repeat (first | (with_reducible exact Nat.le_refl _) | (with_reducible apply le_set) | (with_reducible apply le_alloc) | (with_reducible apply le_drewN) | (with_reducible apply le_drew))) : ∀ k, v.ownBlock = some k → k < W.heap.size :=
  fun k hk => Nat.lt_of_lt_of_le (Kd.R_lt h k hk) hs
theorem zo {α : Type} {d : Kd α} {e base : Nat} {ok ok' : Nat → Prop} {v : Value} {xs : List α} {w W : World} (b : d.R e w base ok v xs) (m : ∀ k, ok k → ok' k)
    (h : d.R e w base ok' v xs → d.R e W base ok' v xs := by intro b_; (with_reducible repeat (first | apply Kd.R_alloc | apply Kd.R_drewN | apply Kd.R_drew)); exact b_) : d.R e W base ok' v xs := h (Kd.R_mono b m)
theorem zx {w W : World} {a : Addr} {v : Value} (hb : Below w.heap.size w W) (h : w.cell? a = some v) : W.cell? a = some v := (hb.cell (World.block_lt_of_cell? w _ h)).trans h
theorem zm {p : Prop} (h : p := by repeat' first | (with_reducible first | exact LeO.refl _ | exact LeO.none _ | refine LeO.ite ?_ ?_ | refine LeO.bind ?_ (fun _ => ?_) | apply ih0 | apply ih1 | apply ih2 | apply ih3 | apply ih4 | apply ih5 | apply ih6 | apply ih7 | apply ih8 | apply ih9 | apply m1 | apply m2 | apply m3 | apply m4 | apply m5 | apply m6 | apply m7 | apply m8 | apply m9 | apply m10 | apply m11 | apply m12) | exact LeO.none _ | refine LeO.ite ?_ ?_ | refine LeO.bind ?_ (fun _ => ?_)) : p := h
@[reducible] def zO (k : Nat) (v : Value) : Prop := some k ≠ v.ownBlock
theorem zPR {α : Type} {d : Kd α} {e base : Nat} {ok : Nat → Prop} {A : Option Addr} {n c : Nat} {xs : List α} {w : World} {p : Prop} (h : d.R e w base ok (.slice A n c) xs) (k : d.C w A xs.length xs → p := by intro b_; repeat (first | exact b_ | (with_reducible refine Kd.C_alloc ?_ _) | (with_reducible refine Kd.C_drewN ?_ _) | (with_reducible refine Kd.C_drew ?_))) : p := k (Kd.R_reads' h).2.2
theorem zQR {α : Type} {d : Kd α} {e base : Nat} {ok : Nat → Prop} {A : Option Addr} {n c : Nat} {xs : List α} {w : World} (h : d.R e w base ok (.slice A n c) xs) : n ≤ c := (Kd.R_reads' h).2.1
theorem zt (p : Prop) [Decidable p] (h : p := by exact zd) : p = True := eq_true h
end Go.Proofs.YtbnpkiokpnmphaaDoor

