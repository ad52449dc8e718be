/- The program's CheckText returns what the reference's returns, for all bytes: the library's two tables of UTF-8 hold what their initialisers lay. -/
import Derived.Test.YtbeheecjemdcdaaDoorQFnExactCheckText
namespace Go.Proofs.YtbeheecjemdcdaaDoor.Pure
set_option linter.unusedVariables false
set_option linter.unusedSimpArgs false
open Go.RowKit Go.Proofs.YtbeheecjemdcdaaDoor.PFnExactCheckText Go.Proofs.YtbeheecjemdcdaaDoorW.PrintWords Go.Proofs.YtbeheecjemdcdaaDoorW.PrintLast Go.Proofs.YtbeheecjemdcdaaDoorW.PrintMore
/-! ### general words: from some number of rounds on -/
section EvLib
variable {α β : Type}
theorem ev_pos {c : Prop} [Decidable c] {A B : Nat → Option α} {r : α} (h : c) (k : Ev A r) : Ev (fun n => if c then A n else B n) r :=
  Ev.congr (fun _ => if_pos h) k
theorem ev_neg {c : Prop} [Decidable c] {A B : Nat → Option α} {r : α} (h : ¬ c) (k : Ev B r) : Ev (fun n => if c then A n else B n) r :=
  Ev.congr (fun _ => if_neg h) k
theorem ev_ite {c : Prop} [Decidable c] {A B : Nat → Option α} {r : α} (h1 : c → Ev A r) (h2 : ¬ c → Ev B r) : Ev (fun n => if c then A n else B n) r := by
  by_cases h : c
  · exact ev_pos h (h1 h)
  · exact ev_neg h (h2 h)
theorem ev_letv {a : α} {f : Nat → α → Option β} {r : β} (k : Ev (fun n => f n a) r) : Ev (fun n => (some a).bind (f n)) r := Ev.bind (Ev.now a) k
end EvLib
theorem wrap64_id {x : Int} (h0 : -9223372036854775808 ≤ x) (h1 : x ≤ 9223372036854775807) : wrap64 x = x := by unfold wrap64; omega
theorem tdiv_nn {x y : Int} (h0 : 0 ≤ x) : Int.tdiv x y = x / y := Int.tdiv_eq_ediv_of_nonneg h0
theorem tmod_nn {x y : Int} (h0 : 0 ≤ x) : Int.tmod x y = x % y := Int.tmod_eq_emod_of_nonneg h0
theorem rd_nat (l : List Int) (i : Nat) : rd l (i : Int) = l.getD i 0 := by simp [rd]
theorem rd_get {l : List Int} {i : Int} (h0 : 0 ≤ i) (h1 : i.toNat < l.length) : rd l i = l[i.toNat] := by
  unfold rd; rw [List.getD_eq_getElem?_getD, List.getElem?_eq_getElem h1]; rfl
theorem rd_mem {l : List Int} {i : Int} (h0 : 0 ≤ i) (h1 : i < l.length) : rd l i ∈ l := by
  have h : i.toNat < l.length := by omega
  rw [rd_get h0 h]; exact List.getElem_mem h
theorem rd_set_eq {l : List Int} {i : Int} {v : Int} (h0 : 0 ≤ i) (h1 : i < l.length) : rd (l.set i.toNat v) i = v := by
  have h : i.toNat < l.length := by omega
  unfold rd; rw [List.getD_eq_getElem?_getD, List.getElem?_set_self h]; rfl
theorem rd_set_ne {l : List Int} {i j : Int} {v : Int} (h0 : 0 ≤ i) (h1 : 0 ≤ j) (h : i ≠ j) : rd (l.set i.toNat v) j = rd l j := by
  unfold rd; rw [List.getD_eq_getElem?_getD, List.getElem?_set_ne (by omega), ← List.getD_eq_getElem?_getD]
theorem rd_ext {l m : List Int} (h : l.length = m.length) (e : ∀ i : Int, 0 ≤ i → i < l.length → rd l i = rd m i) : l = m := by
  apply List.ext_getElem h
  intro i h1 h2
  have := e i (by omega) (by omega)
  rw [rd_get (by omega) (by simpa using h1), rd_get (by omega) (by simpa using h2)] at this
  simpa using this

theorem wf_u8 {x : Int} (h : (Lit.int .u8 x).wf = true) : 0 ≤ x ∧ x ≤ 255 := by
  simp [Lit.wf, IntKind.min, IntKind.max, IntKind.signed, IntKind.bits] at h; omega
theorem wf_i64 {x : Int} (h : (Lit.int .i64 x).wf = true) : -9223372036854775808 ≤ x ∧ x ≤ 9223372036854775807 := by
  simp [Lit.wf, IntKind.min, IntKind.max, IntKind.signed, IntKind.bits] at h; omega
theorem bytes_of {l : List Int} (h : ∀ x ∈ l, (Lit.int .u8 x).wf = true) : ∀ i : Int, 0 ≤ i → i < l.length → 0 ≤ rd l i ∧ rd l i ≤ 255 :=
  fun i h0 h1 => wf_u8 (h _ (rd_mem h0 h1))
theorem ints_of {l : List Int} (h : ∀ x ∈ l, (Lit.int .i64 x).wf = true) : ∀ i : Int, 0 ≤ i → i < l.length → -9223372036854775808 ≤ rd l i ∧ rd l i ≤ 9223372036854775807 :=
  fun i h0 h1 => wf_i64 (h _ (rd_mem h0 h1))

/-- n, and four bytes: what the decoder answers. -/
theorem rd_drop (l : List Int) (i : Nat) (j : Int) (h : 0 ≤ j) : rd (l.drop i) j = rd l (i + j) := by
  unfold rd
  rw [List.getD_eq_getElem?_getD, List.getElem?_drop, List.getD_eq_getElem?_getD, show ((i : Int) + j).toNat = i + j.toNat by omega]
theorem decI_drop {l : List Int} {i : Int} (h0 : 0 ≤ i) (h1 : i < l.length) : decI (l.drop i.toNat) =
    ((((Lib.decodeN (l.length - i.toNat) (rd l i).toNat (rd l (i + 1)).toNat (rd l (i + 2)).toNat (rd l (i + 3)).toNat).1 : Nat) : Int), (((Lib.decodeN (l.length - i.toNat) (rd l i).toNat (rd l (i + 1)).toNat (rd l (i + 2)).toNat (rd l (i + 3)).toNat).2 : Nat) : Int)) := by
  unfold decI
  rw [List.length_drop, if_neg (by omega)]
  rw [rd_drop _ _ _ (by omega), rd_drop _ _ _ (by omega), rd_drop _ _ _ (by omega), rd_drop _ _ _ (by omega), show ((i.toNat : Nat) : Int) = i by omega, Int.add_zero]
/-- A character at a place: its width and code point; width 0 if there is none. -/
def chr (l : List Int) (i : Int) : Int × Int :=
  if (decI (l.drop i.toNat)).1 = 65533 ∧ (decI (l.drop i.toNat)).2 ≤ 1 then (0, 0) else ((decI (l.drop i.toNat)).2, (decI (l.drop i.toNat)).1)
def Bytes (l : List Int) : Prop := ∀ i : Int, 0 ≤ i → i < l.length → 0 ≤ rd l i ∧ rd l i ≤ 255
theorem rd_out {l : List Int} {i : Int} (h : (l.length : Int) ≤ i) : rd l i = 0 := by
  unfold rd; rw [List.getD_eq_getElem?_getD, List.getElem?_eq_none (by omega)]; rfl
theorem Bytes.rd {l : List Int} (hb : Bytes l) {i : Int} (h0 : 0 ≤ i) : 0 ≤ rd l i ∧ rd l i ≤ 255 := by
  by_cases h : i < l.length
  · exact hb i h0 h
  · rw [rd_out (by omega)]; omega
theorem bytesB_of {l : List Int} (hb : Bytes l) : bytesB l = true := by
  unfold bytesB
  rw [List.all_eq_true]
  intro x hx
  obtain ⟨j, hj, e⟩ := List.getElem_of_mem hx
  have := hb (j : Int) (by omega) (by omega)
  rw [rd_get (by omega) (by simpa using hj)] at this
  simp only [Int.toNat_natCast] at this
  rw [e] at this
  simp only [Bool.and_eq_true, decide_eq_true_eq]
  exact this
theorem Bytes.drop {l : List Int} (hb : Bytes l) (i : Nat) : Bytes (l.drop i) := by
  intro j h0 h1
  rw [List.length_drop] at h1
  rw [rd_drop _ _ _ h0]
  exact hb _ (by omega) (by omega)
def chrZ (n b0 b1 b2 b3 : Int) : Int × Int :=
  if b0 < 128 then (1, b0)
      else if b0 / 32 = 6 ∧ (1 < n ∧ b1 / 64 = 2) then (if b0 % 32 * 64 + b1 % 64 ≥ 128 then (2, b0 % 32 * 64 + b1 % 64) else (0, 0))
      else if b0 / 16 = 14 ∧ (1 < n ∧ b1 / 64 = 2) ∧ (2 < n ∧ b2 / 64 = 2) then
        (if b0 % 16 * 4096 + b1 % 64 * 64 + b2 % 64 ≥ 2048 ∧ (b0 % 16 * 4096 + b1 % 64 * 64 + b2 % 64 < 55296 ∨ 57344 ≤ b0 % 16 * 4096 + b1 % 64 * 64 + b2 % 64) then (3, b0 % 16 * 4096 + b1 % 64 * 64 + b2 % 64) else (0, 0))
      else if b0 / 8 = 30 ∧ (1 < n ∧ b1 / 64 = 2) ∧ (2 < n ∧ b2 / 64 = 2) ∧ (3 < n ∧ b3 / 64 = 2) then
        (if b0 % 8 * 262144 + b1 % 64 * 4096 + b2 % 64 * 64 + b3 % 64 ≥ 65536 ∧ b0 % 8 * 262144 + b1 % 64 * 4096 + b2 % 64 * 64 + b3 % 64 ≤ 1114111 then (4, b0 % 8 * 262144 + b1 % 64 * 4096 + b2 % 64 * 64 + b3 % 64) else (0, 0))
      else (0, 0)
theorem chrZ_nat (n c0 c1 c2 c3 : Nat) : (if (((Lib.decodeN n c0 c1 c2 c3).1 : Nat) : Int) = 65533 ∧ (((Lib.decodeN n c0 c1 c2 c3).2 : Nat) : Int) ≤ 1 then ((0 : Int), (0 : Int)) else ((((Lib.decodeN n c0 c1 c2 c3).2 : Nat) : Int), (((Lib.decodeN n c0 c1 c2 c3).1 : Nat) : Int)))
    = chrZ n c0 c1 c2 c3 := by
  by_cases h1 : c0 < 128
  · have hd : Lib.decodeN n c0 c1 c2 c3 = (c0, 1) := by unfold Lib.decodeN; rw [if_pos h1]
    rw [hd, if_neg (by simp only; omega)]; unfold chrZ; rw [if_pos (by omega)]; rfl
  by_cases h2 : c0 / 32 = 6 ∧ (1 < n ∧ c1 / 64 = 2)
  · by_cases h3 : c0 % 32 * 64 + c1 % 64 ≥ 128
    · have hd : Lib.decodeN n c0 c1 c2 c3 = (c0 % 32 * 64 + c1 % 64, 2) := by unfold Lib.decodeN; rw [if_neg h1, if_pos h2, if_pos h3]
      rw [hd, if_neg (by simp only; omega)]; unfold chrZ; rw [if_neg (by omega), if_pos (by omega), if_pos (by omega)]; simp
    · have hd : Lib.decodeN n c0 c1 c2 c3 = (65533, 1) := by unfold Lib.decodeN; rw [if_neg h1, if_pos h2, if_neg h3]
      rw [hd, if_pos (by simp)]; unfold chrZ; rw [if_neg (by omega), if_pos (by omega), if_neg (by omega)]
  by_cases h4 : c0 / 16 = 14 ∧ (1 < n ∧ c1 / 64 = 2) ∧ (2 < n ∧ c2 / 64 = 2)
  · by_cases h5 : c0 % 16 * 4096 + c1 % 64 * 64 + c2 % 64 ≥ 2048 ∧ (c0 % 16 * 4096 + c1 % 64 * 64 + c2 % 64 < 55296 ∨ (57344 ≤ c0 % 16 * 4096 + c1 % 64 * 64 + c2 % 64 ∧ c0 % 16 * 4096 + c1 % 64 * 64 + c2 % 64 ≤ 1114111))
    · have hd : Lib.decodeN n c0 c1 c2 c3 = (c0 % 16 * 4096 + c1 % 64 * 64 + c2 % 64, 3) := by unfold Lib.decodeN; rw [if_neg h1, if_neg h2, if_pos h4, if_pos h5]
      rw [hd, if_neg (by simp only; omega)]; unfold chrZ; rw [if_neg (by omega), if_neg (by omega), if_pos (by omega), if_pos (by omega)]; simp
    · have hd : Lib.decodeN n c0 c1 c2 c3 = (65533, 1) := by unfold Lib.decodeN; rw [if_neg h1, if_neg h2, if_pos h4, if_neg h5]
      rw [hd, if_pos (by simp)]; unfold chrZ; rw [if_neg (by omega), if_neg (by omega), if_pos (by omega), if_neg (by omega)]
  by_cases h6 : c0 / 8 = 30 ∧ (1 < n ∧ c1 / 64 = 2) ∧ (2 < n ∧ c2 / 64 = 2) ∧ (3 < n ∧ c3 / 64 = 2)
  · by_cases h7 : c0 % 8 * 262144 + c1 % 64 * 4096 + c2 % 64 * 64 + c3 % 64 ≥ 65536 ∧ (c0 % 8 * 262144 + c1 % 64 * 4096 + c2 % 64 * 64 + c3 % 64 < 55296 ∨ (57344 ≤ c0 % 8 * 262144 + c1 % 64 * 4096 + c2 % 64 * 64 + c3 % 64 ∧ c0 % 8 * 262144 + c1 % 64 * 4096 + c2 % 64 * 64 + c3 % 64 ≤ 1114111))
    · have hd : Lib.decodeN n c0 c1 c2 c3 = (c0 % 8 * 262144 + c1 % 64 * 4096 + c2 % 64 * 64 + c3 % 64, 4) := by unfold Lib.decodeN; rw [if_neg h1, if_neg h2, if_neg h4, if_pos h6, if_pos h7]
      rw [hd, if_neg (by simp only; omega)]; unfold chrZ; rw [if_neg (by omega), if_neg (by omega), if_neg (by omega), if_pos (by omega), if_pos (by omega)]; simp
    · have hd : Lib.decodeN n c0 c1 c2 c3 = (65533, 1) := by unfold Lib.decodeN; rw [if_neg h1, if_neg h2, if_neg h4, if_pos h6, if_neg h7]
      rw [hd, if_pos (by simp)]; unfold chrZ; rw [if_neg (by omega), if_neg (by omega), if_neg (by omega), if_pos (by omega), if_neg (by omega)]
  have hd : Lib.decodeN n c0 c1 c2 c3 = (65533, 1) := by unfold Lib.decodeN; rw [if_neg h1, if_neg h2, if_neg h4, if_neg h6]
  rw [hd, if_pos (by simp)]; unfold chrZ; rw [if_neg (by omega), if_neg (by omega), if_neg (by omega), if_neg (by omega)]
/-- All that the decoder can answer, in whole numbers. -/
theorem chr_eq {l : List Int} (hb : Bytes l) {i : Int} (h0 : 0 ≤ i) (h1 : i < l.length) : chr l i = chrZ ((l.length : Int) - i) (rd l i) (rd l (i + 1)) (rd l (i + 2)) (rd l (i + 3)) := by
  have r0 := hb.rd h0; have r1 := hb.rd (show 0 ≤ i + 1 by omega); have r2 := hb.rd (show 0 ≤ i + 2 by omega); have r3 := hb.rd (show 0 ≤ i + 3 by omega)
  unfold chr
  rw [decI_drop h0 h1]
  simp only
  rw [chrZ_nat, Int.toNat_of_nonneg r0.1, Int.toNat_of_nonneg r1.1, Int.toNat_of_nonneg r2.1, Int.toNat_of_nonneg r3.1, show ((l.length - i.toNat : Nat) : Int) = (l.length : Int) - i by omega]

theorem Bytes.of {l : List Int} (h : Open.wfL (Open.wfI .u8) l) : Bytes l := bytes_of h.2

theorem toByteS_loop (x0 : List Int) (hb : x0.length ≤ 281474976710656) (d : Nat) : ∀ (x3 : List Int) (i : Int), 0 ≤ i → x3.length = x0.length → (x0.length : Int) - i = d →
    (∀ j : Int, 0 ≤ j → j < i → rd x3 j = rd x0 j) → Ev (fun k => laws_toByteS.l0 k x0 x3 i) x0 := by
  induction d with
  | zero =>
    intro x3 i h0 hl hd he
    refine Ev.step (fun _ => rfl) ?_
    simp only [laws_toByteS.l0]
    refine ev_neg (by omega) ?_
    have : x3 = x0 := rd_ext hl (fun j a b => he j a (by omega))
    rw [this]; exact Ev.now _
  | succ d ih =>
    intro x3 i h0 hl hd he
    refine Ev.step (fun _ => rfl) ?_
    simp only [laws_toByteS.l0]
    refine ev_pos (by omega) (ev_pos (by omega) (ev_pos (by omega) ?_))
    rw [wrap64_id (by omega) (by omega)]
    refine ih _ _ (by omega) (by simpa using hl) (by omega) ?_
    intro j a b
    by_cases e : j = i
    · subst e; exact rd_set_eq (by omega) (by omega)
    · rw [rd_set_ne (by omega) (by omega) (by omega)]; exact he j a (by omega)
theorem toByteS_ev (l : List Int) (hb : l.length ≤ 281474976710656) : Ev (fun k => laws_toByteS.f k l) l := by
  simp only [laws_toByteS.f]
  refine ev_pos (by omega) (ev_pos (by omega) ?_)
  exact toByteS_loop l hb l.length _ 0 (by omega) (by simp) (by omega) (fun j a b => by omega)

theorem eqByteS_loop (a b : List Int) (hl : a.length = b.length) (hb : a.length ≤ 9223372036854775800) (d : Nat) : ∀ (i : Int), 0 ≤ i → (a.length : Int) - i = d →
    (∀ j : Int, 0 ≤ j → j < i → rd a j = rd b j) → Ev (fun k => laws_eqByteS.l0 k a b i) (decide (a = b)) := by
  induction d with
  | zero =>
    intro i h0 hd he
    refine Ev.step (fun _ => rfl) ?_
    simp only [laws_eqByteS.l0]
    refine ev_neg (by omega) ?_
    have : a = b := rd_ext hl (fun j p q => he j p (by omega))
    rw [decide_eq_true this]; exact Ev.now _
  | succ d ih =>
    intro i h0 hd he
    refine Ev.step (fun _ => rfl) ?_
    simp only [laws_eqByteS.l0]
    refine ev_pos (by omega) (ev_pos (by omega) (ev_pos (by omega) (ev_ite (fun e => ?_) (fun e => ?_))))
    · rw [wrap64_id (by omega) (by omega)]
      refine ih _ (by omega) (by omega) ?_
      intro j p q
      by_cases e' : j = i
      · subst e'; exact e
      · exact he j p (by omega)
    · have : a ≠ b := fun h => e (by rw [h])
      rw [decide_eq_false this]; exact Ev.now _
theorem eqByteS_ev (a b : List Int) (hb : a.length ≤ 9223372036854775800) : Ev (fun k => laws_eqByteS.f k a b) (decide (a = b)) := by
  simp only [laws_eqByteS.f]
  refine ev_ite (fun e => ?_) (fun e => ?_)
  · exact eqByteS_loop a b (by omega) hb a.length 0 (by omega) (by omega) (fun j p q => by omega)
  · have : a ≠ b := fun h => e (by rw [h])
    rw [decide_eq_false this]; exact Ev.now _
theorem eqByteS_self (a : List Int) (hb : a.length ≤ 9223372036854775800) : Ev (fun k => laws_eqByteS.f k a a) true := by
  have := eqByteS_ev a a hb
  rwa [decide_eq_true rfl] at this

theorem l1point_eq (v : Int) : spec_l1point.f v = some (decide (0 ≤ v ∧ v ≤ 1114111 ∧ (v < 55296 ∨ v > 57343))) := by
  unfold spec_l1point.f
  by_cases h1 : v ≥ 0
  · rw [if_pos h1]
    by_cases h2 : v ≤ 1114111
    · rw [if_pos h2]
      by_cases h3 : v < 55296
      · rw [if_pos h3, decide_eq_true (by omega)]
      · rw [if_neg h3]; congr 1; rw [decide_eq_decide]; omega
    · rw [if_neg h2, decide_eq_false (by omega)]
  · rw [if_neg h1, decide_eq_false (by omega)]
def ulen (v : Int) : Int := if v < 128 then 1 else if v < 2048 then 2 else if v < 65536 then 3 else 4
theorem l1utf8_len (v : Int) : ∃ u, spec_l1utf8.f v = some u ∧ (u.length : Int) = ulen v := by
  unfold spec_l1utf8.f ulen
  by_cases h1 : v < 128
  · rw [if_pos h1, if_pos h1]; exact ⟨_, rfl, rfl⟩
  rw [if_neg h1, if_neg h1]
  by_cases h2 : v < 2048
  · rw [if_pos h2, if_pos h2]; exact ⟨_, rfl, rfl⟩
  rw [if_neg h2, if_neg h2]
  by_cases h3 : v < 65536
  · rw [if_pos h3, if_pos h3]; exact ⟨_, rfl, rfl⟩
  rw [if_neg h3, if_neg h3]; exact ⟨_, rfl, rfl⟩
theorem l1char_end (l : List Int) (i n v j : Int) (hj : ¬ j < n) : Ev (fun k => spec_l1char.l0 k l i n v j) (if (0 ≤ v ∧ v ≤ 1114111 ∧ (v < 55296 ∨ v > 57343)) ∧ ulen v = n then (n, v) else (0, 0)) := by
  refine Ev.step (fun _ => rfl) ?_
  simp only [spec_l1char.l0]
  refine ev_neg hj ?_
  rw [l1point_eq]
  refine ev_letv (ev_ite (fun e => ?_) (fun e => ?_))
  · have e := of_decide_eq_true e
    obtain ⟨u, hu, hl⟩ := l1utf8_len v
    rw [hu]
    refine ev_letv (ev_ite (fun f => ?_) (fun f => ?_))
    · rw [if_pos ⟨e, by omega⟩]; exact Ev.now _
    · rw [if_neg (fun h => f (by omega))]; exact Ev.now _
  · have e := of_decide_eq_false (Bool.eq_false_iff.2 e)
    rw [if_neg (fun h => e h.1)]; exact Ev.now _
theorem l1char_bad (l : List Int) (hb : Bytes l) (i n v j : Int) (h0 : 0 ≤ i) (j0 : 0 ≤ j) (hj : j < n) (hi : i + j < l.length) (hl : l.length ≤ 9000000000) (hc : rd l (i + j) / 64 ≠ 2) : Ev (fun k => spec_l1char.l0 k l i n v j) (0, 0) := by
  have hr := hb (i + j) (by omega) hi
  refine Ev.step (fun _ => rfl) ?_
  simp only [spec_l1char.l0]
  simp (disch := omega) only [wrap64_id]
  refine ev_pos hj (ev_pos (by omega) (ev_pos (by omega) (ev_ite (fun e => Ev.now _) (fun e => ?_))))
  exact ev_pos (by omega) (Ev.now _)
theorem l1char_go {R : Int × Int} (l : List Int) (hb : Bytes l) (i n v j : Int) (h0 : 0 ≤ i) (j0 : 0 ≤ j) (hj : j < n) (hi : i + j < l.length) (hl : l.length ≤ 9000000000) (hc : rd l (i + j) / 64 = 2) (v0 : 0 ≤ v) (v1 : v ≤ 99999999)
    (h : Ev (fun k => spec_l1char.l0 k l i n (v * 64 + rd l (i + j) % 64) (j + 1)) R) (hn : n ≤ 10) : Ev (fun k => spec_l1char.l0 k l i n v j) R := by
  have hr := hb (i + j) (by omega) hi
  refine Ev.step (fun _ => rfl) ?_
  simp only [spec_l1char.l0]
  simp (disch := omega) only [wrap64_id]
  refine ev_pos hj (ev_pos (by omega) (ev_pos (by omega) (ev_neg (by omega) (ev_neg (by omega) ?_))))
  rw [show v * 64 + rd l (i + j) - 128 = v * 64 + rd l (i + j) % 64 by omega]
  exact h
theorem spec_l1char_ev (l : List Int) (hb : Bytes l) (hl : l.length ≤ 9000000000) (i : Int) (h0 : 0 ≤ i) (h1 : i < l.length) : Ev (fun k => spec_l1char.f k l i) (chr l i) := by
  rw [chr_eq hb h0 h1]
  have r0 := hb i h0 h1
  simp only [spec_l1char.f]
  simp (disch := omega) only [wrap64_id]
  refine ev_pos h0 (ev_pos h1 ?_)
  unfold chrZ
  refine ev_ite (fun c0 => ?_) (fun c0 => ?_)
  · rw [if_pos c0]; exact Ev.now _
  rw [if_neg c0]
  have three : ∀ n v R, (n = 0 ∨ i + n > l.length → Ev (fun _ => some (0, 0)) R) → (¬ (n = 0 ∨ i + n > l.length) → Ev (fun k => spec_l1char.l0 k l i n v 1) R) → 0 ≤ n → n ≤ 4 → Ev (fun k => spec_l1char.j2 k l i n v) R := by
    intro n v R hA hB n0 n4
    have ja : (n = 0 ∨ i + n > l.length) → Ev (fun k => spec_l1char.j3 k l i n v true) R := by
      intro h
      refine Ev.step (fun _ => rfl) ?_
      simp only [spec_l1char.j3]
      exact ev_pos (by trivial) (hA h)
    refine Ev.step (fun _ => rfl) ?_
    simp only [spec_l1char.j2]
    simp (disch := omega) only [wrap64_id]
    refine ev_ite (fun c => ja (.inl c)) (fun c => ?_)
    by_cases d : i + n > l.length
    · rw [decide_eq_true d]; exact ja (.inr d)
    · rw [decide_eq_false d]
      refine Ev.step (fun _ => rfl) ?_
      simp only [spec_l1char.j3]
      exact ev_neg (by simp) (hB (by omega))
  refine ev_ite (fun c1 => ?_) (fun c1 => ?_)
  · by_cases c2 : rd l i < 224
    · rw [decide_eq_true c2]
      refine Ev.step (fun _ => rfl) ?_
      simp only [spec_l1char.j0]
      refine ev_pos (by trivial) ?_
      simp (disch := omega) only [wrap64_id]
      refine three 2 _ _ (fun h => ?_) (fun h => ?_) (by omega) (by omega)
      · rw [if_neg (by omega), if_neg (by omega), if_neg (by omega)]; exact Ev.now _
      · by_cases d : rd l (i + 1) / 64 = 2
        · rw [if_pos (by omega)]
          refine l1char_go l hb i 2 _ 1 h0 (by omega) (by omega) (by omega) hl d (by omega) (by omega) ?_ (by omega)
          have := l1char_end l i 2 ((rd l i - 192) * 64 + rd l (i + 1) % 64) (1 + 1) (by omega)
          rw [show (rd l i - 192) * 64 + rd l (i + 1) % 64 = rd l i % 32 * 64 + rd l (i + 1) % 64 by omega] at this ⊢
          by_cases q : rd l i % 32 * 64 + rd l (i + 1) % 64 ≥ 128
          · rw [if_pos q]
            rwa [if_pos ⟨by omega, by unfold ulen; rw [if_neg (by omega), if_pos (by omega)]⟩] at this
          · rw [if_neg q]
            rwa [if_neg (fun h => by have := h.2; unfold ulen at this; rw [if_pos (by omega)] at this; omega)] at this
        · rw [if_neg (by omega), if_neg (by omega), if_neg (by omega)]
          exact l1char_bad l hb i 2 _ 1 h0 (by omega) (by omega) (by omega) hl d
    · rw [decide_eq_false c2]
      refine Ev.step (fun _ => rfl) ?_
      simp only [spec_l1char.j0]
      refine ev_neg (by simp) (ev_pos (by omega) ?_)
      by_cases c3 : rd l i < 240
      · rw [decide_eq_true c3]
        refine Ev.step (fun _ => rfl) ?_
        simp only [spec_l1char.j1]
        refine ev_pos (by trivial) ?_
        simp (disch := omega) only [wrap64_id]
        refine three 3 _ _ (fun h => ?_) (fun h => ?_) (by omega) (by omega)
        · rw [if_neg (by omega), if_neg (by omega), if_neg (by omega)]; exact Ev.now _
        · rw [if_neg (by omega)]
          by_cases d : rd l (i + 1) / 64 = 2
          · refine l1char_go l hb i 3 _ 1 h0 (by omega) (by omega) (by omega) hl d (by omega) (by omega) ?_ (by omega)
            rw [show (1 : Int) + 1 = 2 by omega]
            by_cases d2 : rd l (i + 2) / 64 = 2
            · rw [if_pos (by omega)]
              refine l1char_go l hb i 3 _ 2 h0 (by omega) (by omega) (by omega) hl d2 (by omega) (by omega) ?_ (by omega)
              have := l1char_end l i 3 (((rd l i - 224) * 64 + rd l (i + 1) % 64) * 64 + rd l (i + 2) % 64) (2 + 1) (by omega)
              rw [show ((rd l i - 224) * 64 + rd l (i + 1) % 64) * 64 + rd l (i + 2) % 64 = rd l i % 16 * 4096 + rd l (i + 1) % 64 * 64 + rd l (i + 2) % 64 by omega] at this ⊢
              by_cases q : rd l i % 16 * 4096 + rd l (i + 1) % 64 * 64 + rd l (i + 2) % 64 ≥ 2048 ∧ (rd l i % 16 * 4096 + rd l (i + 1) % 64 * 64 + rd l (i + 2) % 64 < 55296 ∨ 57344 ≤ rd l i % 16 * 4096 + rd l (i + 1) % 64 * 64 + rd l (i + 2) % 64)
              · rw [if_pos q]
                rwa [if_pos ⟨by omega, by unfold ulen; rw [if_neg (by omega), if_neg (by omega), if_pos (by omega)]⟩] at this
              · rw [if_neg q]
                rwa [if_neg (fun h => by have h2 := h.2; have h1 := h.1; unfold ulen at h2; split at h2; omega; split at h2 <;> omega)] at this
            · rw [if_neg (by omega), if_neg (by omega)]
              exact l1char_bad l hb i 3 _ 2 h0 (by omega) (by omega) (by omega) hl d2
          · rw [if_neg (by omega), if_neg (by omega)]
            exact l1char_bad l hb i 3 _ 1 h0 (by omega) (by omega) (by omega) hl d
      · rw [decide_eq_false c3]
        refine Ev.step (fun _ => rfl) ?_
        simp only [spec_l1char.j1]
        refine ev_neg (by simp) (ev_pos (by omega) (ev_ite (fun c4 => ?_) (fun c4 => ?_)))
        · simp (disch := omega) only [wrap64_id]
          rw [if_neg (by omega), if_neg (by omega)]
          refine three 4 _ _ (fun h => ?_) (fun h => ?_) (by omega) (by omega)
          · rw [if_neg (by omega)]; exact Ev.now _
          · by_cases d : rd l (i + 1) / 64 = 2
            · refine l1char_go l hb i 4 _ 1 h0 (by omega) (by omega) (by omega) hl d (by omega) (by omega) ?_ (by omega)
              rw [show (1 : Int) + 1 = 2 by omega]
              by_cases d2 : rd l (i + 2) / 64 = 2
              · refine l1char_go l hb i 4 _ 2 h0 (by omega) (by omega) (by omega) hl d2 (by omega) (by omega) ?_ (by omega)
                rw [show (2 : Int) + 1 = 3 by omega]
                by_cases d3 : rd l (i + 3) / 64 = 2
                · rw [if_pos (by omega)]
                  refine l1char_go l hb i 4 _ 3 h0 (by omega) (by omega) (by omega) hl d3 (by omega) (by omega) ?_ (by omega)
                  have := l1char_end l i 4 ((((rd l i - 240) * 64 + rd l (i + 1) % 64) * 64 + rd l (i + 2) % 64) * 64 + rd l (i + 3) % 64) (3 + 1) (by omega)
                  rw [show (((rd l i - 240) * 64 + rd l (i + 1) % 64) * 64 + rd l (i + 2) % 64) * 64 + rd l (i + 3) % 64 = rd l i % 8 * 262144 + rd l (i + 1) % 64 * 4096 + rd l (i + 2) % 64 * 64 + rd l (i + 3) % 64 by omega] at this ⊢
                  by_cases q : rd l i % 8 * 262144 + rd l (i + 1) % 64 * 4096 + rd l (i + 2) % 64 * 64 + rd l (i + 3) % 64 ≥ 65536 ∧ rd l i % 8 * 262144 + rd l (i + 1) % 64 * 4096 + rd l (i + 2) % 64 * 64 + rd l (i + 3) % 64 ≤ 1114111
                  · rw [if_pos q]
                    rwa [if_pos ⟨by omega, by unfold ulen; rw [if_neg (by omega), if_neg (by omega), if_neg (by omega)]⟩] at this
                  · rw [if_neg q]
                    rwa [if_neg (fun h => by have h2 := h.2; have h1 := h.1; unfold ulen at h2; split at h2; omega; split at h2; omega; split at h2 <;> omega)] at this
                · rw [if_neg (by omega)]
                  exact l1char_bad l hb i 4 _ 3 h0 (by omega) (by omega) (by omega) hl d3
              · rw [if_neg (by omega)]
                exact l1char_bad l hb i 4 _ 2 h0 (by omega) (by omega) (by omega) hl d2
            · rw [if_neg (by omega)]
              exact l1char_bad l hb i 4 _ 1 h0 (by omega) (by omega) (by omega) hl d
        · rw [if_neg (by omega), if_neg (by omega), if_neg (by omega)]
          exact three 0 0 _ (fun h => Ev.now _) (fun h => absurd (.inl rfl) h) (by omega) (by omega)
  · refine Ev.step (fun _ => rfl) ?_
    simp only [spec_l1char.j0]
    refine ev_neg (by simp) (ev_neg (by omega) ?_)
    refine Ev.step (fun _ => rfl) ?_
    simp only [spec_l1char.j1]
    refine ev_neg (by simp) (ev_neg (by omega) ?_)
    rw [if_neg (by omega), if_neg (by omega), if_neg (by omega)]
    exact three 0 0 _ (fun h => Ev.now _) (fun h => absurd (.inl rfl) h) (by omega) (by omega)

/-- CheckText, from a place on; d: what is left at most. -/
def checkFrom (l : List Int) : Nat → Int → Int × Int
  | 0, _ => (0, 0)
  | d + 1, i => if i < l.length then (if (chr l i).1 = 0 then (2, i) else checkFrom l d (i + (chr l i).1)) else (0, 0)
def checkRes (l : List Int) : Int × Int := checkFrom l (l.length + 1) 0
theorem chr_pos {l : List Int} (hb : Bytes l) {i : Int} (h0 : 0 ≤ i) (h1 : i < l.length) (h : ¬ (chr l i).1 = 0) : 1 ≤ (chr l i).1 ∧ (chr l i).1 ≤ 4 ∧ i + (chr l i).1 ≤ l.length := by
  rw [chr_eq hb h0 h1] at h ⊢
  unfold chrZ at h ⊢
  split at h
  · rename_i c; rw [if_pos c]; simp only; omega
  · rename_i c; rw [if_neg c]
    split at h
    · rename_i c; rw [if_pos c]
      split at h
      · rename_i c2; rw [if_pos c2]; simp only; omega
      · simp at h
    · rename_i c; rw [if_neg c]
      split at h
      · rename_i c; rw [if_pos c]
        split at h
        · rename_i c2; rw [if_pos c2]; simp only; omega
        · simp at h
      · rename_i c; rw [if_neg c]
        split at h
        · rename_i c; rw [if_pos c]
          split at h
          · rename_i c2; rw [if_pos c2]; simp only; omega
          · simp at h
        · simp at h
theorem spec_check_loop (l : List Int) (hb : Bytes l) (hl : l.length ≤ 9000000000) (d : Nat) : ∀ i : Int, 0 ≤ i → i ≤ l.length → (l.length : Int) - i < d → Ev (fun k => spec_CheckText.l0 k l i) (checkFrom l d i) := by
  induction d with
  | zero => intro i h0 h1 hd; omega
  | succ d ih =>
    intro i h0 h1 hd
    refine Ev.step (fun _ => rfl) ?_
    simp only [spec_CheckText.l0, checkFrom]
    refine ev_ite (fun c => ?_) (fun c => ?_)
    · rw [if_pos c]
      refine Ev.bind (spec_l1char_ev l hb hl i h0 c) (ev_ite (fun e => ?_) (fun e => ?_))
      · rw [if_pos e]; exact Ev.now _
      · have := chr_pos hb h0 c e
        rw [if_neg e, wrap64_id (by omega) (by omega)]
        exact ih _ (by omega) (by omega) (by omega)
    · rw [if_neg c]; exact Ev.now _
theorem spec_CheckText_ev (l : List Int) (hb : Bytes l) (hl : l.length ≤ 9000000000) : Ev (fun k => spec_CheckText.f k l) (checkRes l) := by
  simp only [spec_CheckText.f]
  exact spec_check_loop l hb hl (l.length + 1) 0 (by omega) (by omega) (by omega)

theorem DecodeRune_at {l : List Int} (hb : Bytes l) {i : Int} (h0 : 0 ≤ i) (h1 : i < l.length) : utf8_DecodeRune.f (l.drop i.toNat) = some (decI (l.drop i.toNat)) := by
  unfold utf8_DecodeRune.f
  rw [if_neg (by rw [List.length_drop]; omega), if_pos (bytesB_of (hb.drop _))]
theorem impl_check_loop (l : List Int) (hb : Bytes l) (hl : l.length ≤ 9000000000) (d : Nat) : ∀ i : Int, 0 ≤ i → i ≤ l.length → (l.length : Int) - i < d → Ev (fun k => impl_CheckText.l0 k l i) (checkFrom l d i) := by
  induction d with
  | zero => intro i h0 h1 hd; omega
  | succ d ih =>
    intro i h0 h1 hd
    refine Ev.step (fun _ => rfl) ?_
    simp only [impl_CheckText.l0, checkFrom]
    refine ev_ite (fun c => ?_) (fun c => ?_)
    · rw [if_pos c]
      refine ev_pos h0 (ev_pos h1 ?_)
      rw [DecodeRune_at hb h0 c]
      refine ev_letv ?_
      have hgo : ¬ ((decI (l.drop i.toNat)).1 = 65533 ∧ (decI (l.drop i.toNat)).2 ≤ 1) → Ev (fun k => impl_CheckText.l0 k l (wrap64 (i + (decI (l.drop i.toNat)).2))) (if (chr l i).1 = 0 then (2, i) else checkFrom l d (i + (chr l i).1)) := by
        intro hn
        have e : (chr l i).1 = (decI (l.drop i.toNat)).2 := by unfold chr; rw [if_neg hn]
        have hz : ¬ (chr l i).1 = 0 := by
          intro hz
          have hq := chr_eq hb h0 c
          rw [decI_drop h0 c] at hn
          have hw := chrZ_nat (l.length - i.toNat) (rd l i).toNat (rd l (i + 1)).toNat (rd l (i + 2)).toNat (rd l (i + 3)).toNat
          rw [if_neg hn] at hw
          rw [e, decI_drop h0 c] at hz
          simp only at hz
          unfold Lib.decodeN at hz
          repeat' split at hz
          all_goals simp at hz
        have := chr_pos hb h0 c hz
        rw [if_neg hz, ← e, wrap64_id (by omega) (by omega)]
        exact ih _ (by omega) (by omega) (by omega)
      refine ev_ite (fun e1 => ev_ite (fun e2 => ?_) (fun e2 => hgo (fun h => e2 h.2))) (fun e1 => hgo (fun h => e1 h.1))
      have e : (chr l i).1 = 0 := by unfold chr; rw [if_pos ⟨e1, e2⟩]
      rw [if_pos e]; exact Ev.now _
    · rw [if_neg c]; exact Ev.now _
theorem impl_CheckText_ev (l : List Int) (hb : Bytes l) (hl : l.length ≤ 9000000000) : Ev (fun k => impl_CheckText.f k l) (checkRes l) := by
  simp only [impl_CheckText.f]
  exact impl_check_loop l hb hl (l.length + 1) 0 (by omega) (by omega) (by omega)

theorem FnExactCheckText : laws_FnExactCheckText.Pure := by
  intro l0 w0
  have hm : l0.length ≤ 9223372036854775807 := w0.1
  have hb := Bytes.of w0
  refine Ev.rounds (g := fun k => laws_FnExactCheckText.f k l0) ?_
  simp only [laws_FnExactCheckText.f]
  refine ev_ite (fun _ => Ev.now _) (fun hc => ?_)
  have e1 := toByteS_ev l0 (by omega)
  refine Ev.bind e1 (Ev.bind (spec_CheckText_ev l0 hb (by omega)) (Ev.bind e1 (Ev.bind (impl_CheckText_ev l0 hb (by omega)) (ev_pos rfl ?_))))
  refine Ev.step (fun _ => rfl) ?_
  simp only [laws_FnExactCheckText.j0]
  refine ev_neg (by simp) (Ev.bind e1 (Ev.bind (eqByteS_self l0 (by omega)) ?_))
  exact ev_pos (by trivial) (Ev.now _)

end Go.Proofs.YtbeheecjemdcdaaDoor.Pure
