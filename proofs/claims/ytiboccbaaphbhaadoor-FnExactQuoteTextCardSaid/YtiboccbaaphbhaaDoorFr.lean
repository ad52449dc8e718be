/- General words: a row of bytes of the call's own whose frozen range lies behind its cells (what []byte(s) makes of a string). No program stands in it. -/
import Derived.Below
import Derived.Lib.ConvBytes
import Derived.Lib.BufferWrite
import Derived.Test.YtiboccbaaphbhaaDoorWWords
import Derived.Test.YtiboccbaaphbhaaDoorWMore
import Derived.Test.YtiboccbaaphbhaaDoorWKept
import Derived.Test.YtiboccbaaphbhaaDoorWApart
import Derived.Test.YtiboccbaaphbhaaDoorZed
set_option linter.unusedVariables false
namespace Go.Proofs.YtiboccbaaphbhaaDoor
open Go.RowKit Go.Proofs.YtiboccbaaphbhaaDoorW.PrintWords Go.Proofs.YtiboccbaaphbhaaDoorW.PrintLast Go.Proofs.YtiboccbaaphbhaaDoorW.PrintMore
def FR (e : Nat) (w : World) (base : Nat) (ok : Nat → Prop) (v : Value) (xs : List Int) : Prop :=
  (∀ k, v.ownBlock = some k → ok k) ∧ xs.length ≤ maxLen ∧ ((v = .slice none 0 0 ∧ xs = []) ∨ ∃ g cap cur fz, v = .slice (some ⟨g, 0, none⟩) xs.length cap ∧ base ≤ g ∧ w.heap[g]? = some (.cells cur e fz) ∧ (∀ i, i < xs.length → ¬ (fz.1 ≤ i ∧ i < fz.2)) ∧ xs.length ≤ cap ∧ (∀ j, j < xs.length → cur[j]? = some (.int .u8 (xs.getD j 0))))
section
variable {e : Nat} {w w1 W W2 : World} {base : Nat} {ok ok' S : Nat → Prop} {v u : Value} {xs : List Int}
theorem FR_lt (h : FR e w base ok v xs) : ∀ k, v.ownBlock = some k → base ≤ k ∧ k < w.heap.size := by
  intro k hk
  rcases h.2.2 with ⟨rfl, _⟩ | ⟨g, cap, cur, fz, rfl, hb, hg, _⟩
  · simp [Value.ownBlock] at hk
  · simp [Value.ownBlock] at hk
    subst hk
    exact ⟨hb, (Array.getElem?_eq_some_iff.1 hg).1⟩
theorem FR_base (h : FR e w base ok v xs) : ∀ k, v.ownBlock = some k → base ≤ k := fun k hk => (FR_lt h k hk).1
theorem FR_move (h : FR e w base ok v xs) (hm : ∀ k, v.ownBlock = some k → w1.heap[k]? = w.heap[k]?) : FR e w1 base ok v xs := by
  refine ⟨h.1, h.2.1, ?_⟩
  rcases h.2.2 with h2 | ⟨g, cap, cur, fz, rfl, hb, hg, r⟩
  · exact .inl h2
  · exact .inr ⟨g, cap, cur, fz, rfl, hb, (hm g (by simp [Value.ownBlock])).trans hg, r⟩
theorem FR_reok' (h : FR e w base ok v xs) (hok : ∀ k, v.ownBlock = some k → ok' k) : FR e w base ok' v xs := ⟨hok, h.2⟩
theorem FR_mono (h : FR e w base ok v xs) (hok : ∀ k, ok k → ok' k) : FR e w base ok' v xs := FR_reok' h (fun k hk => hok k (h.1 k hk))
theorem FR_lower {base' : Nat} (h : FR e w base ok v xs) (hb' : base' ≤ base) : FR e w base' ok v xs := by
  refine ⟨h.1, h.2.1, ?_⟩
  rcases h.2.2 with h2 | ⟨g, cap, cur, fz, rfl, hb, r⟩
  · exact .inl h2
  · exact .inr ⟨g, cap, cur, fz, rfl, by omega, r⟩
theorem FR_below (h : FR e w base ok v xs) (hb : Below w.heap.size w w1) : FR e w1 base ok v xs := FR_move h (fun k hk => hb.block k (FR_lt h k hk).2)
theorem FR_alloc (h : FR e w base ok v xs) (o : Obj) : FR e (w.alloc o) base ok v xs := FR_below h (below_alloc (Below.refl _ _) o)
theorem FR_drew (h : FR e w base ok v xs) : FR e w.drew base ok v xs := FR_below h (below_drew (Below.refl _ _))
theorem FR_drewN (h : FR e w base ok v xs) (m : Nat) : FR e (w.drewN m) base ok v xs := FR_below h (pw_below_drewN (Below.refl _ _) m)
theorem FR_elder' (hu : FR e W base ok u xs) (hbase : ∀ k, v.ownBlock = some k → W.heap.size ≤ k) (hb : Below W.heap.size W w1) : FR e w1 base (fun k => ok k ∧ some k ≠ v.ownBlock) u xs :=
  FR_reok' (FR_below hu hb) (fun k hk => ⟨hu.1 k hk, fun he => by have := hbase k he.symm; have := (FR_lt hu k hk).2; omega⟩)
theorem FR_new' (h : FR e w1 W.heap.size ok v xs) (hlt : ∀ k, u.ownBlock = some k → k < W.heap.size) : FR e w1 W.heap.size (fun k => ok k ∧ some k ≠ u.ownBlock) v xs :=
  FR_reok' h (fun k hk => ⟨h.1 k hk, fun he => by have := hlt k he.symm; have := (FR_lt h k hk).1; omega⟩)
theorem FR_slice (h : FR e w base ok v xs) : ∃ A c, v = .slice A xs.length c := by
  rcases h.2.2 with ⟨rfl, rfl⟩ | ⟨g, cap, cur, fz, rfl, _⟩
  · exact ⟨_, _, rfl⟩
  · exact ⟨_, _, rfl⟩
theorem FR_form (h : FR e w base ok v xs) (hp : 0 < xs.length) : ∃ g cap, v = .slice (some ⟨g, 0, none⟩) xs.length cap ∧ base ≤ g ∧ g < w.heap.size ∧ ∃ o, w.heap[g]? = some o := by
  rcases h.2.2 with ⟨rfl, rfl⟩ | ⟨g, cap, cur, fz, rfl, hb, hg, _⟩
  · simp at hp
  · exact ⟨g, cap, rfl, hb, (Array.getElem?_eq_some_iff.1 hg).1, _, hg⟩
theorem FR_tight (_ : (0 : Nat) = 0) (h : FR e w base ok v xs) : FR e w base (fun k => some k = v.ownBlock) v xs := FR_reok' h (fun k hk => hk.symm)
theorem FR_reok (_ : (0 : Nat) = 0) (h : FR e w base ok v xs) (hok : ∀ k, v.ownBlock = some k → ok' k) : FR e w base ok' v xs := FR_reok' h hok
theorem FR_keptB (h : FR e W base ok v xs) (hk : Kept W W2 S) (hne : ∀ k, ok k → ¬ S k) : FR e W2 base (fun k => ok k ∧ (¬ S k ∧ k < W.heap.size)) v xs :=
  FR_reok' (FR_move h (fun k hk' => hk.2 k (FR_lt h k hk').2 (hne k (h.1 k hk')))) (fun k hk' => ⟨h.1 k hk', hne k (h.1 k hk'), (FR_lt h k hk').2⟩)
theorem FR_reads' {A : Option Addr} {n c : Nat} (h : FR e w base ok (.slice A n c) xs) : n = xs.length ∧ n ≤ c ∧ Kd.C (Kd.int .u8) w A xs.length xs := by
  rcases h.2.2 with ⟨e1, rfl⟩ | ⟨g, cap, cur, fz, e1, hb, hg, hf, hc, hx⟩
  · injection e1 with h1 h2 h3
    subst h1 h2 h3
    exact ⟨rfl, Nat.le_refl _, Kd.C_of_reads (enc := Value.int .u8) (d := (0 : Int)) (h1 := fun _ => rfl) (ReadsInt.nil w .u8)⟩
  · injection e1 with h1 h2 h3
    subst h1 h2 h3
    exact ⟨rfl, hc, Kd.C_of_reads (enc := Value.int .u8) (d := (0 : Int)) (h1 := fun _ => rfl) ⟨rfl, h.2.1, fun _ => ⟨_, rfl, fun j hj => by
      have e2 : w.cell? ((⟨g, 0, none⟩ : Addr).add j) = cur[j]? := by rw [Addr.add_lit]; simp [World.cell?, hg]
      rw [e2]; exact hx j hj⟩⟩⟩
theorem FR_celln (z : Int) {g n cap : Nat} (h : FR e W base ok (.slice (some ⟨g, 0, none⟩) n cap) xs) (i : Int) (h0 : 0 ≤ i) (hi : i < n) : W.cell? ⟨g, i.toNat, none⟩ = some (.int .u8 (rd xs i)) ∧ W.frozen? ⟨g, i.toNat, none⟩ = false := by
  rcases h.2.2 with ⟨e1, rfl⟩ | ⟨g', cap', cur, fz, e1, hb, hg, hf, hc, hx⟩
  · injection e1 with h1 h2 h3
    cases h1
  · injection e1 with h1 h2 h3
    injection h1 with h1
    injection h1 with h1 _ _
    subst h1 h2 h3
    have hl : i.toNat < xs.length := by omega
    refine ⟨?_, ?_⟩
    · have e2 : W.cell? ⟨g, i.toNat, none⟩ = cur[i.toNat]? := by simp [World.cell?, hg]
      rw [e2]; exact hx _ hl
    · have := hf _ hl
      obtain ⟨lo, hi2⟩ := fz
      simp [World.frozen?, hg]
      simpa using this
theorem FR_putg {g n cap : Nat} (h : FR e W base ok (.slice (some ⟨g, 0, none⟩) n cap) xs) (i : Int) (x : Int) : FR e (W.setCell ⟨g, i.toNat, none⟩ (.int .u8 x)) base ok (.slice (some ⟨g, 0, none⟩) n cap) (xs.set i.toNat x) ∧ W.grownBy (W.setCell ⟨g, i.toNat, none⟩ (.int .u8 x)) (some g) := by
  refine ⟨⟨h.1, by simpa using h.2.1, ?_⟩, (Lib.grownBy_setCell W g i.toNat _)⟩
  rcases h.2.2 with ⟨e1, rfl⟩ | ⟨g', cap', cur, fz, e1, hb, hg, hf, hc, hx⟩
  · injection e1 with h1 h2 h3
    cases h1
  · injection e1 with h1 h2 h3
    injection h1 with h1
    injection h1 with h1 _ _
    subst h1 h2 h3
    refine .inr ⟨g, cap, cur.setIfInBounds i.toNat (.int .u8 x), fz, by simp, hb, ?_, by simpa using hf, by simpa using hc, fun j hj => ?_⟩
    · simp [World.setCell, hg, Array.getElem?_modify]
    · have hj' : j < xs.length := by simpa using hj
      by_cases hji : i.toNat = j
      · subst hji
        have hs : i.toNat < cur.size := by
          have := hx _ hj'
          exact (Array.getElem?_eq_some_iff.1 this).1
        rw [Array.getElem?_setIfInBounds_self_of_lt hs]
        simp [List.getD, hj']
      · rw [Array.getElem?_setIfInBounds_ne hji, hx j hj']
        simp [List.getD, List.getElem?_set_ne hji]
end
theorem FR_of {e base : Nat} {ok : Nat → Prop} {w : World} {v : Value} {xs : List Int} (h : Kd.R (Kd.int .u8) e w base ok v xs) : FR e w base ok v xs := by
  obtain ⟨A, c, rfl⟩ := Kd.R_slice h
  obtain ⟨_, hc, hr⟩ := Kd.R_reads' h
  have hI : ReadsInt w .u8 A xs.length xs := Kd.reads_of_C (enc := Value.int .u8) (d := (0 : Int)) (h1 := fun _ => rfl) hr
  refine ⟨h.1, hI.2.1, ?_⟩
  by_cases hp : 0 < xs.length
  · obtain ⟨g, cap, e1, hb, _, cells, hg⟩ := Kd.R_form h hp
    injection e1 with h1 _ h3
    subst h1 h3
    refine .inr ⟨g, c, cells, (0, 0), rfl, hb, hg, fun i _ => by simp, hc, fun j hj => ?_⟩
    obtain ⟨ad, e2, hx⟩ := hI.2.2 hp
    cases e2
    have := hx j hj
    have e3 : w.cell? ((⟨g, 0, none⟩ : Addr).add j) = cells[j]? := by rw [Addr.add_lit]; simp [World.cell?, hg]
    rw [e3] at this
    exact this
  · have hn : xs = [] := List.eq_nil_of_length_eq_zero (by omega)
    subst hn
    obtain ⟨inner, ho⟩ := Kd.R_own h
    rcases ho.2 with ⟨e1, _⟩ | ⟨g, cap, cur, e1, hb, hg, _⟩
    · exact .inl ⟨e1, rfl⟩
    · exact .inr ⟨g, cap, cur, (0, 0), e1, hb, hg, fun i hi => by simp at hi, by simp, fun j hj => by simp at hj⟩
theorem FR_bytes {e : Nat} {W : World} (s : ByteArray) (hs : s.size ≤ maxLen) : FR e (Lib.bytesWorld W e s) W.heap.size (fun _ => True) (.slice (some ⟨W.heap.size, 0, none⟩) s.size (grownCap W s.size 0 e)) (bytesOf s) := by
  have hl : (bytesOf s).length = s.size := bytesOf_length s
  refine ⟨fun _ _ => trivial, by rw [hl]; exact hs, .inr ⟨W.heap.size, grownCap W s.size 0 e, _, _, by rw [hl], Nat.le_refl _, Lib.bytesWorld_at_new W e s, fun i hi => ?_, ?_, fun j hj => ?_⟩⟩
  · have : (bytesOf s).length ≤ (Lib.bytesCells W e s).size := by rw [hl]; unfold Lib.bytesCells; rw [Array.size_append, Array.size_map]; exact Nat.le_add_right _ _
    simp; omega
  · rw [hl]; exact grownCap_ge W s.size 0 e
  · have h1 := (bytes_reads W e s hs).2.2 (by omega)
    obtain ⟨ad, e2, hx⟩ := h1
    cases e2
    have := hx j (by omega)
    have e3 : (Lib.bytesWorld W e s).cell? ((⟨W.heap.size, 0, none⟩ : Addr).add j) = (Lib.bytesCells W e s)[j]? := by rw [Addr.add_lit]; simp only [World.cell?, Lib.bytesWorld_at_new]; simp
    rw [e3] at this
    exact this
theorem zRF {p q : Prop} (b : q) (h : q → p := by intro b_; (with_reducible repeat (first | apply FR_alloc | apply FR_drewN | apply FR_drew)); exact b_) : p := h b
theorem zlF {e base : Nat} {ok : Nat → Prop} {v : Value} {xs : List Int} {w W : World} (h : FR e w base ok v xs) (hs : w.heap.size ≤ W.heap.size := by repeat (first | (with_reducible exact Nat.le_refl _) | (with_reducible apply le_set) | (with_reducible apply le_alloc) | (with_reducible apply le_drewN) | (with_reducible apply le_drew))) : ∀ k, v.ownBlock = some k → k < W.heap.size :=
  fun k hk => Nat.lt_of_lt_of_le (FR_lt h k hk).2 hs
theorem zoF {e base : Nat} {ok ok' : Nat → Prop} {v : Value} {xs : List Int} {w W : World} (b : FR e w base ok v xs) (m : ∀ k, ok k → ok' k)
    (h : FR e w base ok' v xs → FR e W base ok' v xs := by intro b_; (with_reducible repeat (first | apply FR_alloc | apply FR_drewN | apply FR_drew)); exact b_) : FR e W base ok' v xs := h (FR_mono b m)
theorem zPRF {e base : Nat} {ok : Nat → Prop} {A : Option Addr} {n c : Nat} {xs : List Int} {w : World} {p : Prop} (h : FR e w base ok (.slice A n c) xs) (k : Kd.C (Kd.int .u8) w A xs.length xs → p := by intro b_; repeat (first | exact b_ | (with_reducible refine Kd.C_alloc ?_ _) | (with_reducible refine Kd.C_drewN ?_ _) | (with_reducible refine Kd.C_drew ?_))) : p := k (FR_reads' h).2.2
theorem zQRF {e base : Nat} {ok : Nat → Prop} {A : Option Addr} {n c : Nat} {xs : List Int} {w : World} (h : FR e w base ok (.slice A n c) xs) : n ≤ c := (FR_reads' h).2.1
end Go.Proofs.YtiboccbaaphbhaaDoor
