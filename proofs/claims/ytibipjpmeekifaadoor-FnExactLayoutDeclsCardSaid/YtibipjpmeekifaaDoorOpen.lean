/- General words of this session: a value that is read as data is told by a kind (Kd): integers, bools, strings, slices of whatever kind, structs. No program stands in it, and no condition. -/
import Derived.Deep.Slices
import Derived.ChangeArms
import Derived.DataReads
import Derived.Test.YtibipjpmeekifaaDoorWWords
import Derived.Test.YtibipjpmeekifaaDoorWLast
namespace Go.Proofs.YtibipjpmeekifaaDoor.Open
open Go.ChangeShapes Go.WideShapes Go.Deep Go.RowKit Go.Proofs.YtibipjpmeekifaaDoorW.PrintWords Go.Proofs.YtibipjpmeekifaaDoorW.PrintLast
/-- What a reading of type t gives: cells that the kind d tells, and what is known of the value. -/
def Opn {α : Type} (P : Program) (W : World) (t : TypeId) (d : Kd α) (wfx : α → Prop) : Prop :=
  ∀ (H : Type) (enc : TypeId × Value → H) (spare : Nat → Bool) (held : Bool) (fuel : Nat) (cs : List Value) (x : DataW H × List MemPlace),
    DataW.trod enc P W 0 spare held fuel t cs = some x → ∃ a, d.K W a cs ∧ wfx a
def wfI (k : IntKind) (n : Int) : Prop := (Lit.int k n).wf = true
def wfB (_ : Bool) : Prop := True
def wfS (s : ByteArray) : Prop := s.size ≤ maxLen
def wfL {α : Type} (p : α → Prop) (xs : List α) : Prop := xs.length ≤ maxLen ∧ ∀ x ∈ xs, p x
def wfP {α β : Type} (p : α → Prop) (q : β → Prop) (x : α × β) : Prop := p x.1 ∧ q x.2
section
variable {P : Program} {W : World} {t e : TypeId}
theorem Opn.int {k : IntKind} (ht : P.underlying t = some (.int k)) : Opn P W t (Kd.int k) (wfI k) := by
  intro H enc spare held fuel cs x h
  obtain ⟨n, rfl, _, hw⟩ := DataW.trod_int ht h
  exact ⟨n, rfl, hw⟩
theorem Opn.bool (ht : P.underlying t = some .bool) : Opn P W t Kd.bool wfB := by
  intro H enc spare held fuel cs x h
  obtain ⟨n, rfl, _⟩ := DataW.trod_bool ht h
  exact ⟨n, rfl, trivial⟩
theorem Opn.string (ht : P.underlying t = some .string) : Opn P W t Kd.string wfS := by
  intro H enc spare held fuel cs x h
  obtain ⟨n, rfl, _, hw⟩ := DataW.trod_string ht h
  exact ⟨n, rfl, hw⟩
theorem exists_list {α : Type} {p : Nat → α → Prop} : ∀ n, (∀ i, i < n → ∃ x, p i x) → ∃ xs : List α, xs.length = n ∧ ∀ i x, xs[i]? = some x → p i x
  | 0, _ => ⟨[], rfl, fun i x h => by simp at h⟩
  | n + 1, h => by
    obtain ⟨xs, hl, hx⟩ := exists_list n (fun i hi => h i (by omega))
    obtain ⟨y, hy⟩ := h n (by omega)
    refine ⟨xs ++ [y], by simp [hl], fun i x hi => ?_⟩
    by_cases e : i < n
    · rw [List.getElem?_append_left (by omega)] at hi; exact hx i x hi
    · rw [List.getElem?_append_right (by omega)] at hi
      by_cases e2 : i = n
      · subst e2; rw [hl, Nat.sub_self] at hi; simp at hi; rw [← hi]; exact hy
      · rw [List.getElem?_eq_none (by simp; omega)] at hi; cases hi
theorem Opn.slice {α : Type} {d : Kd α} {wfx : α → Prop} (ht : P.underlying t = some (.slice e)) (hC : P.cellsOf e = d.sz) (he : Opn P W e d wfx) : Opn P W t (Kd.slice e d) (wfL wfx) := by
  intro H enc spare held fuel cs x h
  rcases open_slice ht h with ⟨rfl, _⟩ | ⟨a, len, cap, m, n, D, Pl, rfl, _, hl, hm, hmm, _, hi⟩
  · exact ⟨[], ⟨none, 0, rfl, Nat.le_refl _, ⟨rfl, by simp, fun h => absurd h (by simp)⟩⟩, Nat.zero_le _, fun x hx => by cases hx⟩
  · have hlm : len ≤ m := by rw [hmm]; split <;> omega
    obtain ⟨xs, hxl, hx⟩ := exists_list (p := fun i (x : α) => wfx x ∧ ∃ cs', W.cells? 0 (a.add (i * P.cellsOf e)) (P.cellsOf e) = some cs' ∧ d.K W x cs') len (fun i hil => by
      obtain ⟨cs', hc, ht'⟩ := hi i (by omega)
      obtain ⟨z, hk, hw⟩ := he H enc spare held n cs' _ ht'
      exact ⟨z, hw, cs', hc, hk⟩)
    have hmx : maxLen = 9223372036854775807 := rfl
    refine ⟨xs, ⟨some a, cap, by rw [hxl], by omega, rfl, by omega, fun _ => ⟨a, rfl, fun j p hj => ?_⟩⟩, by omega, fun x hxm => ?_⟩
    · obtain ⟨_, cs', hc, hk⟩ := hx j p hj
      obtain ⟨_, hcl, hat⟩ := World.cells?_some hc
      refine ⟨cs', d.K_len hk, hk, fun i u hu => ?_⟩
      have hil : i < cs'.length := (List.getElem?_eq_some_iff.1 hu).1
      rw [← hC, ← Go.Deep.add_add, hat i (by omega), hu]
    · obtain ⟨i, hi', rfl⟩ := List.getElem_of_mem hxm
      exact (hx i _ (List.getElem?_eq_getElem hi')).1
/-- The fields of a struct, from offset o on. -/
def OpnF {α : Type} (P : Program) (W : World) (fs : List Field) (o : Nat) (d : Kd α) (wfx : α → Prop) : Prop :=
  ∀ (H : Type) (enc : TypeId × Value → H) (spare : Nat → Bool) (held : Bool) (n : Nat) (cs : List Value), cs.length = o + d.sz →
    (∀ f ∈ fs, ∃ y, DataW.trod enc P W 0 spare held n f.type ((cs.drop f.offset).take (P.cellsOf f.type)) = some y) → ∃ a, d.K W a (cs.drop o) ∧ wfx a
theorem OpnF.last {α : Type} {d : Kd α} {wfx : α → Prop} {f : Field} {o : Nat} (ho : f.offset = o) (hC : P.cellsOf f.type = d.sz) (hf : Opn P W f.type d wfx) : OpnF P W [f] o d wfx := by
  intro H enc spare held n cs hl h
  obtain ⟨y, hy⟩ := h f (List.mem_singleton.2 rfl)
  rw [ho, hC, List.take_of_length_le (by simp; omega)] at hy
  exact hf H enc spare held n _ _ hy
theorem OpnF.cons {α β : Type} {d : Kd α} {d' : Kd β} {wfx : α → Prop} {wfy : β → Prop} {f : Field} {fs : List Field} {o : Nat} (ho : f.offset = o) (hC : P.cellsOf f.type = d.sz) (hf : Opn P W f.type d wfx)
    (hfs : OpnF P W fs (o + d.sz) d' wfy) : OpnF P W (f :: fs) o (Kd.pair d d') (wfP wfx wfy) := by
  intro H enc spare held n cs hl h
  have hl' : cs.length = o + (d.sz + d'.sz) := hl
  obtain ⟨y, hy⟩ := h f (List.mem_cons_self ..)
  rw [ho, hC] at hy
  obtain ⟨a, ka, wa⟩ := hf H enc spare held n _ _ hy
  obtain ⟨b, kb, wb⟩ := hfs H enc spare held n cs (by omega) (fun g hg => h g (List.mem_cons_of_mem _ hg))
  refine ⟨(a, b), ⟨(cs.drop o).take d.sz, cs.drop (o + d.sz), ?_, ka, kb⟩, wa, wb⟩
  rw [← List.drop_drop, List.take_append_drop]
theorem Opn.struct {α : Type} {d : Kd α} {wfx : α → Prop} {fs : Array Field} (ht : P.underlying t = some (.struct fs)) (hC : P.cellsOf t = d.sz) (hf : OpnF P W fs.toList 0 d wfx) : Opn P W t d wfx := by
  intro H enc spare held fuel cs x h
  obtain ⟨ys, n, _, _, hlen, hyl, hg⟩ := DataW.trod_struct ht h
  obtain ⟨a, ka, wa⟩ := hf H enc spare held n cs (by omega) (fun f hfm => by
    obtain ⟨i, hi, e⟩ := List.getElem_of_mem hfm
    have h1 := hg i f (by rw [← e]; simp [show i < fs.size by simpa using hi])
    rw [List.getElem?_eq_getElem (by rw [hyl]; simpa using hi)] at h1
    exact ⟨_, h1⟩)
  exact ⟨a, by simpa using ka, wa⟩
theorem Opn.iso {α β : Type} {d : Kd α} {wfx : α → Prop} (f : β → α) (g : α → β) (hfg : ∀ a, f (g a) = a) (h : Opn P W t d wfx) : Opn P W t (Kd.iso d f) (fun b => wfx (f b)) := by
  intro H enc spare held fuel cs x hx
  obtain ⟨a, ka, wa⟩ := h H enc spare held fuel cs x hx
  exact ⟨g a, by show d.K W (f (g a)) cs; rw [hfg]; exact ka, by show wfx (f (g a)); rw [hfg]; exact wa⟩
end
end Go.Proofs.YtibipjpmeekifaaDoor.Open
