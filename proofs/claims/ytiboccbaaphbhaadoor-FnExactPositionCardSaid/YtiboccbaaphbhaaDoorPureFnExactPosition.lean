/- The program's Position returns what the reference's returns, for all bytes and offsets: the library's two tables of UTF-8 hold what their initialisers lay. -/
import Derived.Test.YtiboccbaaphbhaaDoorQFnExactPosition
namespace Go.Proofs.YtiboccbaaphbhaaDoor.Pure
set_option linter.unusedVariables false
set_option linter.unusedSimpArgs false
open Go.RowKit Go.Proofs.YtiboccbaaphbhaaDoor.PFnExactPosition Go.Proofs.YtiboccbaaphbhaaDoorW.PrintWords Go.Proofs.YtiboccbaaphbhaaDoorW.PrintLast Go.Proofs.YtiboccbaaphbhaaDoorW.PrintMore
section EvLib
variable {α β : Type}
theorem ev_pos {c : Prop} [Decidable c] {A B : Nat → Option α} {r : α} (h : c) (k : Ev A r) : Ev (fun n => if c then A n else B n) r :=
 Ev.congr (fun _ => if_pos h) k
theorem ev_neg {c : Prop} [Decidable c] {A B : Nat → Option α} {r : α} (h : ¬ c) (k : Ev B r) : Ev (fun n => if c then A n else B n) r :=
 Ev.congr (fun _ => if_neg h) k
theorem ev_ite {c : Prop} [Decidable c] {A B : Nat → Option α} {r : α} (h1 : c → Ev A r) (h2 : ¬ c → Ev B r) : Ev (fun n => if c then A n else B n) r := by
 by_cases h : c
 ·exact ev_pos h (h1 h)
 ·exact ev_neg h (h2 h)
theorem ev_letv {a : α} {f : Nat → α → Option β} {r : β} (k : Ev (fun n => f n a) r) : Ev (fun n => (some a).bind (f n)) r := Ev.bind (Ev.now a) k
end EvLib
theorem wrap64_id {x : Int} (h0 : -9223372036854775808 ≤ x) (h1 : x ≤ 9223372036854775807) : wrap64 x = x := by unfold wrap64; omega
theorem tdiv_nn {x y : Int} (h0 : 0 ≤ x) : Int.tdiv x y = x / y := Int.tdiv_eq_ediv_of_nonneg h0
theorem tmod_nn {x y : Int} (h0 : 0 ≤ x) : Int.tmod x y = x % y := Int.tmod_eq_emod_of_nonneg h0
theorem rd_nat (l : List Int) (i : Nat) : rd l (i : Int) = l.getD i 0 := by simp [rd]
theorem rd_get {l : List Int} {i : Int} (h0 : 0 ≤ i) (h1 : i.toNat < l.length) : rd l i = l[i.toNat] := by
 unfold rd; rw [List.getD_eq_getElem?_getD, List.getElem?_eq_getElem h1]; rfl
theorem rd_mem {l : List Int} {i : Int} (h0 : 0 ≤ i) (h1 : i < l.length) : rd l i ∈ l := by
 have h : i.toNat < l.length := by omega
 rw [rd_get h0 h]; exact List.getElem_mem h
theorem rd_set_eq {l : List Int} {i : Int} {v : Int} (h0 : 0 ≤ i) (h1 : i < l.length) : rd (l.set i.toNat v) i = v := by
 have h : i.toNat < l.length := by omega
 unfold rd; rw [List.getD_eq_getElem?_getD, List.getElem?_set_self h]; rfl
theorem rd_set_ne {l : List Int} {i j : Int} {v : Int} (h0 : 0 ≤ i) (h1 : 0 ≤ j) (h : i ≠ j) : rd (l.set i.toNat v) j = rd l j := by
 unfold rd; rw [List.getD_eq_getElem?_getD, List.getElem?_set_ne (by omega), ← List.getD_eq_getElem?_getD]
theorem rd_ext {l m : List Int} (h : l.length = m.length) (e : ∀ i : Int, 0 ≤ i → i < l.length → rd l i = rd m i) : l = m := by
 apply List.ext_getElem h
 intro i h1 h2
 have := e i (by omega) (by omega)
 rw [rd_get (by omega) (by simpa using h1), rd_get (by omega) (by simpa using h2)] at this
 simpa using this

theorem wf_u8 {x : Int} (h : (Lit.int .u8 x).wf = true) : 0 ≤ x ∧ x ≤ 255 := by
 simp [Lit.wf, IntKind.min, IntKind.max, IntKind.signed, IntKind.bits] at h; omega
theorem wf_i64 {x : Int} (h : (Lit.int .i64 x).wf = true) : -9223372036854775808 ≤ x ∧ x ≤ 9223372036854775807 := by
 simp [Lit.wf, IntKind.min, IntKind.max, IntKind.signed, IntKind.bits] at h; omega
theorem bytes_of {l : List Int} (h : ∀ x ∈ l, (Lit.int .u8 x).wf = true) : ∀ i : Int, 0 ≤ i → i < l.length → 0 ≤ rd l i ∧ rd l i ≤ 255 :=
 fun i h0 h1 => wf_u8 (h _ (rd_mem h0 h1))
theorem ints_of {l : List Int} (h : ∀ x ∈ l, (Lit.int .i64 x).wf = true) : ∀ i : Int, 0 ≤ i → i < l.length → -9223372036854775808 ≤ rd l i ∧ rd l i ≤ 9223372036854775807 :=
 fun i h0 h1 => wf_i64 (h _ (rd_mem h0 h1))

theorem rd_drop (l : List Int) (i : Nat) (j : Int) (h : 0 ≤ j) : rd (l.drop i) j = rd l (i + j) := by
 unfold rd
 rw [List.getD_eq_getElem?_getD, List.getElem?_drop, List.getD_eq_getElem?_getD, show ((i : Int) + j).toNat = i + j.toNat by omega]
theorem decI_drop {l : List Int} {i : Int} (h0 : 0 ≤ i) (h1 : i < l.length) : decI (l.drop i.toNat) =
  ((((Lib.decodeN (l.length - i.toNat) (rd l i).toNat (rd l (i + 1)).toNat (rd l (i + 2)).toNat (rd l (i + 3)).toNat).1 : Nat) : Int), (((Lib.decodeN (l.length - i.toNat) (rd l i).toNat (rd l (i + 1)).toNat (rd l (i + 2)).toNat (rd l (i + 3)).toNat).2 : Nat) : Int)) := by
 unfold decI
 rw [List.length_drop, if_neg (by omega)]
 rw [rd_drop _ _ _ (by omega), rd_drop _ _ _ (by omega), rd_drop _ _ _ (by omega), rd_drop _ _ _ (by omega), show ((i.toNat : Nat) : Int) = i by omega, Int.add_zero]
def chr (l : List Int) (i : Int) : Int × Int :=
 if (decI (l.drop i.toNat)).1 = 65533 ∧ (decI (l.drop i.toNat)).2 ≤ 1 then (0, 0) else ((decI (l.drop i.toNat)).2, (decI (l.drop i.toNat)).1)
def Bytes (l : List Int) : Prop := ∀ i : Int, 0 ≤ i → i < l.length → 0 ≤ rd l i ∧ rd l i ≤ 255
theorem rd_out {l : List Int} {i : Int} (h : (l.length : Int) ≤ i) : rd l i = 0 := by
 unfold rd; rw [List.getD_eq_getElem?_getD, List.getElem?_eq_none (by omega)]; rfl
theorem Bytes.rd {l : List Int} (hb : Bytes l) {i : Int} (h0 : 0 ≤ i) : 0 ≤ rd l i ∧ rd l i ≤ 255 := by
 by_cases h : i < l.length
 ·exact hb i h0 h
 ·rw [rd_out (by omega)]; omega
theorem bytesB_of {l : List Int} (hb : Bytes l) : bytesB l = true := by
 unfold bytesB
 rw [List.all_eq_true]
 intro x hx
 obtain ⟨j, hj, e⟩ := List.getElem_of_mem hx
 have := hb (j : Int) (by omega) (by omega)
 rw [rd_get (by omega) (by simpa using hj)] at this
 simp only [Int.toNat_natCast] at this
 rw [e] at this
 simp only [Bool.and_eq_true, decide_eq_true_eq]
 exact this
theorem Bytes.drop {l : List Int} (hb : Bytes l) (i : Nat) : Bytes (l.drop i) := by
 intro j h0 h1
 rw [List.length_drop] at h1
 rw [rd_drop _ _ _ h0]
 exact hb _ (by omega) (by omega)
def chrZ (n b0 b1 b2 b3 : Int) : Int × Int :=
 if b0 < 128 then (1, b0)
   else if b0 / 32 = 6 ∧ (1 < n ∧ b1 / 64 = 2) then (if b0 % 32 * 64 + b1 % 64 ≥ 128 then (2, b0 % 32 * 64 + b1 % 64) else (0, 0))
   else if b0 / 16 = 14 ∧ (1 < n ∧ b1 / 64 = 2) ∧ (2 < n ∧ b2 / 64 = 2) then
    (if b0 % 16 * 4096 + b1 % 64 * 64 + b2 % 64 ≥ 2048 ∧ (b0 % 16 * 4096 + b1 % 64 * 64 + b2 % 64 < 55296 ∨ 57344 ≤ b0 % 16 * 4096 + b1 % 64 * 64 + b2 % 64) then (3, b0 % 16 * 4096 + b1 % 64 * 64 + b2 % 64) else (0, 0))
   else if b0 / 8 = 30 ∧ (1 < n ∧ b1 / 64 = 2) ∧ (2 < n ∧ b2 / 64 = 2) ∧ (3 < n ∧ b3 / 64 = 2) then
    (if b0 % 8 * 262144 + b1 % 64 * 4096 + b2 % 64 * 64 + b3 % 64 ≥ 65536 ∧ b0 % 8 * 262144 + b1 % 64 * 4096 + b2 % 64 * 64 + b3 % 64 ≤ 1114111 then (4, b0 % 8 * 262144 + b1 % 64 * 4096 + b2 % 64 * 64 + b3 % 64) else (0, 0))
   else (0, 0)
theorem chrZ_nat (n c0 c1 c2 c3 : Nat) : (if (((Lib.decodeN n c0 c1 c2 c3).1 : Nat) : Int) = 65533 ∧ (((Lib.decodeN n c0 c1 c2 c3).2 : Nat) : Int) ≤ 1 then ((0 : Int), (0 : Int)) else ((((Lib.decodeN n c0 c1 c2 c3).2 : Nat) : Int), (((Lib.decodeN n c0 c1 c2 c3).1 : Nat) : Int)))
  = chrZ n c0 c1 c2 c3 := by
 by_cases h1 : c0 < 128
 ·have hd : Lib.decodeN n c0 c1 c2 c3 = (c0, 1) := by unfold Lib.decodeN; rw [if_pos h1]
  rw [hd, if_neg (by simp only; omega)]; unfold chrZ; rw [if_pos (by omega)]; rfl
 by_cases h2 : c0 / 32 = 6 ∧ (1 < n ∧ c1 / 64 = 2)
 ·by_cases h3 : c0 % 32 * 64 + c1 % 64 ≥ 128
  ·have hd : Lib.decodeN n c0 c1 c2 c3 = (c0 % 32 * 64 + c1 % 64, 2) := by unfold Lib.decodeN; rw [if_neg h1, if_pos h2, if_pos h3]
   rw [hd, if_neg (by simp only; omega)]; unfold chrZ; rw [if_neg (by omega), if_pos (by omega), if_pos (by omega)]; simp
  ·have hd : Lib.decodeN n c0 c1 c2 c3 = (65533, 1) := by unfold Lib.decodeN; rw [if_neg h1, if_pos h2, if_neg h3]
   rw [hd, if_pos (by simp)]; unfold chrZ; rw [if_neg (by omega), if_pos (by omega), if_neg (by omega)]
 by_cases h4 : c0 / 16 = 14 ∧ (1 < n ∧ c1 / 64 = 2) ∧ (2 < n ∧ c2 / 64 = 2)
 ·by_cases h5 : c0 % 16 * 4096 + c1 % 64 * 64 + c2 % 64 ≥ 2048 ∧ (c0 % 16 * 4096 + c1 % 64 * 64 + c2 % 64 < 55296 ∨ (57344 ≤ c0 % 16 * 4096 + c1 % 64 * 64 + c2 % 64 ∧ c0 % 16 * 4096 + c1 % 64 * 64 + c2 % 64 ≤ 1114111))
  ·have hd : Lib.decodeN n c0 c1 c2 c3 = (c0 % 16 * 4096 + c1 % 64 * 64 + c2 % 64, 3) := by unfold Lib.decodeN; rw [if_neg h1, if_neg h2, if_pos h4, if_pos h5]
   rw [hd, if_neg (by simp only; omega)]; unfold chrZ; rw [if_neg (by omega), if_neg (by omega), if_pos (by omega), if_pos (by omega)]; simp
  ·have hd : Lib.decodeN n c0 c1 c2 c3 = (65533, 1) := by unfold Lib.decodeN; rw [if_neg h1, if_neg h2, if_pos h4, if_neg h5]
   rw [hd, if_pos (by simp)]; unfold chrZ; rw [if_neg (by omega), if_neg (by omega), if_pos (by omega), if_neg (by omega)]
 by_cases h6 : c0 / 8 = 30 ∧ (1 < n ∧ c1 / 64 = 2) ∧ (2 < n ∧ c2 / 64 = 2) ∧ (3 < n ∧ c3 / 64 = 2)
 ·by_cases h7 : c0 % 8 * 262144 + c1 % 64 * 4096 + c2 % 64 * 64 + c3 % 64 ≥ 65536 ∧ (c0 % 8 * 262144 + c1 % 64 * 4096 + c2 % 64 * 64 + c3 % 64 < 55296 ∨ (57344 ≤ c0 % 8 * 262144 + c1 % 64 * 4096 + c2 % 64 * 64 + c3 % 64 ∧ c0 % 8 * 262144 + c1 % 64 * 4096 + c2 % 64 * 64 + c3 % 64 ≤ 1114111))
  ·have hd : Lib.decodeN n c0 c1 c2 c3 = (c0 % 8 * 262144 + c1 % 64 * 4096 + c2 % 64 * 64 + c3 % 64, 4) := by unfold Lib.decodeN; rw [if_neg h1, if_neg h2, if_neg h4, if_pos h6, if_pos h7]
   rw [hd, if_neg (by simp only; omega)]; unfold chrZ; rw [if_neg (by omega), if_neg (by omega), if_neg (by omega), if_pos (by omega), if_pos (by omega)]; simp
  ·have hd : Lib.decodeN n c0 c1 c2 c3 = (65533, 1) := by unfold Lib.decodeN; rw [if_neg h1, if_neg h2, if_neg h4, if_pos h6, if_neg h7]
   rw [hd, if_pos (by simp)]; unfold chrZ; rw [if_neg (by omega), if_neg (by omega), if_neg (by omega), if_pos (by omega), if_neg (by omega)]
 have hd : Lib.decodeN n c0 c1 c2 c3 = (65533, 1) := by unfold Lib.decodeN; rw [if_neg h1, if_neg h2, if_neg h4, if_neg h6]
 rw [hd, if_pos (by simp)]; unfold chrZ; rw [if_neg (by omega), if_neg (by omega), if_neg (by omega), if_neg (by omega)]
theorem chr_eq {l : List Int} (hb : Bytes l) {i : Int} (h0 : 0 ≤ i) (h1 : i < l.length) : chr l i = chrZ ((l.length : Int) - i) (rd l i) (rd l (i + 1)) (rd l (i + 2)) (rd l (i + 3)) := by
 have r0 := hb.rd h0; have r1 := hb.rd (show 0 ≤ i + 1 by omega); have r2 := hb.rd (show 0 ≤ i + 2 by omega); have r3 := hb.rd (show 0 ≤ i + 3 by omega)
 unfold chr
 rw [decI_drop h0 h1]
 simp only
 rw [chrZ_nat, Int.toNat_of_nonneg r0.1, Int.toNat_of_nonneg r1.1, Int.toNat_of_nonneg r2.1, Int.toNat_of_nonneg r3.1, show ((l.length - i.toNat : Nat) : Int) = (l.length : Int) - i by omega]

theorem Bytes.of {l : List Int} (h : Open.wfL (Open.wfI .u8) l) : Bytes l := bytes_of h.2

theorem toByteS_loop (x0 : List Int) (hb : x0.length ≤ 281474976710656) (d : Nat) : ∀ (x3 : List Int) (i : Int), 0 ≤ i → x3.length = x0.length → (x0.length : Int) - i = d →
  (∀ j : Int, 0 ≤ j → j < i → rd x3 j = rd x0 j) → Ev (fun k => laws_toByteS.l0 k x0 x3 i) x0 := by
 induction d with
 | zero =>
  intro x3 i h0 hl hd he
  refine Ev.step (fun _ => rfl) ?_
  simp only [laws_toByteS.l0]
  refine ev_neg (by omega) ?_
  have : x3 = x0 := rd_ext hl (fun j a b => he j a (by omega))
  rw [this]; exact Ev.now _
 | succ d ih =>
  intro x3 i h0 hl hd he
  refine Ev.step (fun _ => rfl) ?_
  simp only [laws_toByteS.l0]
  refine ev_pos (by omega) (ev_pos (by omega) (ev_pos (by omega) ?_))
  rw [wrap64_id (by omega) (by omega)]
  refine ih _ _ (by omega) (by simpa using hl) (by omega) ?_
  intro j a b
  by_cases e : j = i
  ·subst e; exact rd_set_eq (by omega) (by omega)
  ·rw [rd_set_ne (by omega) (by omega) (by omega)]; exact he j a (by omega)
theorem toByteS_ev (l : List Int) (hb : l.length ≤ 281474976710656) : Ev (fun k => laws_toByteS.f k l) l := by
 simp only [laws_toByteS.f]
 refine ev_pos (by omega) (ev_pos (by omega) ?_)
 exact toByteS_loop l hb l.length _ 0 (by omega) (by simp) (by omega) (fun j a b => by omega)

theorem eqByteS_loop (a b : List Int) (hl : a.length = b.length) (hb : a.length ≤ 9223372036854775800) (d : Nat) : ∀ (i : Int), 0 ≤ i → (a.length : Int) - i = d →
  (∀ j : Int, 0 ≤ j → j < i → rd a j = rd b j) → Ev (fun k => laws_eqByteS.l0 k a b i) (decide (a = b)) := by
 induction d with
 | zero =>
  intro i h0 hd he
  refine Ev.step (fun _ => rfl) ?_
  simp only [laws_eqByteS.l0]
  refine ev_neg (by omega) ?_
  have : a = b := rd_ext hl (fun j p q => he j p (by omega))
  rw [decide_eq_true this]; exact Ev.now _
 | succ d ih =>
  intro i h0 hd he
  refine Ev.step (fun _ => rfl) ?_
  simp only [laws_eqByteS.l0]
  refine ev_pos (by omega) (ev_pos (by omega) (ev_pos (by omega) (ev_ite (fun e => ?_) (fun e => ?_))))
  ·rw [wrap64_id (by omega) (by omega)]
   refine ih _ (by omega) (by omega) ?_
   intro j p q
   by_cases e' : j = i
   ·subst e'; exact e
   ·exact he j p (by omega)
  ·have : a ≠ b := fun h => e (by rw [h])
   rw [decide_eq_false this]; exact Ev.now _
theorem eqByteS_ev (a b : List Int) (hb : a.length ≤ 9223372036854775800) : Ev (fun k => laws_eqByteS.f k a b) (decide (a = b)) := by
 simp only [laws_eqByteS.f]
 refine ev_ite (fun e => ?_) (fun e => ?_)
 ·exact eqByteS_loop a b (by omega) hb a.length 0 (by omega) (by omega) (fun j p q => by omega)
 ·have : a ≠ b := fun h => e (by rw [h])
  rw [decide_eq_false this]; exact Ev.now _
theorem eqByteS_self (a : List Int) (hb : a.length ≤ 9223372036854775800) : Ev (fun k => laws_eqByteS.f k a a) true := by
 have := eqByteS_ev a a hb
 rwa [decide_eq_true rfl] at this

theorem getD_lt {α : Type} {l : List α} {i : Int} {d : α} (h1 : i.toNat < l.length) : l.getD i.toNat d = l[i.toNat] := by
 rw [List.getD_eq_getElem?_getD, List.getElem?_eq_getElem h1]; rfl
theorem getD_mem {α : Type} {l : List α} {i : Int} {d : α} (h0 : 0 ≤ i) (h1 : i < l.length) : l.getD i.toNat d ∈ l := by
 rw [getD_lt (by omega)]; exact List.getElem_mem _
theorem getD_set_eq {α : Type} {l : List α} {i : Int} {v d : α} (h0 : 0 ≤ i) (h1 : i < l.length) : (l.set i.toNat v).getD i.toNat d = v := by
 rw [List.getD_eq_getElem?_getD, List.getElem?_set_self (by omega)]; rfl
theorem getD_set_ne {α : Type} {l : List α} {i j : Int} {v d : α} (h0 : 0 ≤ i) (h1 : 0 ≤ j) (h : i ≠ j) : (l.set i.toNat v).getD j.toNat d = l.getD j.toNat d := by
 rw [List.getD_eq_getElem?_getD, List.getElem?_set_ne (by omega), ← List.getD_eq_getElem?_getD]
theorem getD_ext {α : Type} {l m : List α} (d : α) (h : l.length = m.length) (e : ∀ i : Int, 0 ≤ i → i < l.length → l.getD i.toNat d = m.getD i.toNat d) : l = m := by
 apply List.ext_getElem h
 intro i h1 h2
 have := e i (by omega) (by omega)
 rw [getD_lt (by simpa using h1), getD_lt (by simpa using h2)] at this
 simpa using this
theorem getD_map {α β : Type} (f : α → β) {l : List α} {i : Int} {d : α} {d' : β} (h0 : 0 ≤ i) (h1 : i < l.length) : (l.map f).getD i.toNat d' = f (l.getD i.toNat d) := by
 rw [getD_lt (by rw [List.length_map]; omega), getD_lt (by omega), List.getElem_map]

theorem DecodeRune_at {l : List Int} (hb : Bytes l) {i : Int} (h0 : 0 ≤ i) (h1 : i < l.length) : utf8_DecodeRune.f (l.drop i.toNat) = some (decI (l.drop i.toNat)) := by
 unfold utf8_DecodeRune.f
 rw [if_neg (by rw [List.length_drop]; omega), if_pos (bytesB_of (hb.drop _))]
theorem chr_pos {l : List Int} (hb : Bytes l) {i : Int} (h0 : 0 ≤ i) (h1 : i < l.length) (h : ¬ (chr l i).1 = 0) : 1 ≤ (chr l i).1 ∧ (chr l i).1 ≤ 4 ∧ i + (chr l i).1 ≤ l.length := by
 rw [chr_eq hb h0 h1] at h ⊢
 unfold chrZ at h ⊢
 split at h
 ·rename_i c; rw [if_pos c]; simp only; omega
 ·rename_i c; rw [if_neg c]
  split at h
  ·rename_i c; rw [if_pos c]
   split at h
   ·rename_i c2; rw [if_pos c2]; simp only; omega
   ·simp at h
  ·rename_i c; rw [if_neg c]
   split at h
   ·rename_i c; rw [if_pos c]
    split at h
    ·rename_i c2; rw [if_pos c2]; simp only; omega
    ·simp at h
   ·rename_i c; rw [if_neg c]
    split at h
    ·rename_i c; rw [if_pos c]
     split at h
     ·rename_i c2; rw [if_pos c2]; simp only; omega
     ·simp at h
    ·simp at h

theorem l1point_eq (v : Int) : spec_l1point.f v = some (decide (0 ≤ v ∧ v ≤ 1114111 ∧ (v < 55296 ∨ v > 57343))) := by
 unfold spec_l1point.f
 by_cases h1 : v ≥ 0
 ·rw [if_pos h1]
  by_cases h2 : v ≤ 1114111
  ·rw [if_pos h2]
   by_cases h3 : v < 55296
   ·rw [if_pos h3, decide_eq_true (by omega)]
   ·rw [if_neg h3]; congr 1; rw [decide_eq_decide]; omega
  ·rw [if_neg h2, decide_eq_false (by omega)]
 ·rw [if_neg h1, decide_eq_false (by omega)]
def ulen (v : Int) : Int := if v < 128 then 1 else if v < 2048 then 2 else if v < 65536 then 3 else 4
theorem l1utf8_len (v : Int) : ∃ u, spec_l1utf8.f v = some u ∧ (u.length : Int) = ulen v := by
 unfold spec_l1utf8.f ulen
 by_cases h1 : v < 128
 ·rw [if_pos h1, if_pos h1]; exact ⟨_, rfl, rfl⟩
 rw [if_neg h1, if_neg h1]
 by_cases h2 : v < 2048
 ·rw [if_pos h2, if_pos h2]; exact ⟨_, rfl, rfl⟩
 rw [if_neg h2, if_neg h2]
 by_cases h3 : v < 65536
 ·rw [if_pos h3, if_pos h3]; exact ⟨_, rfl, rfl⟩
 rw [if_neg h3, if_neg h3]; exact ⟨_, rfl, rfl⟩
theorem l1char_end (l : List Int) (i n v j : Int) (hj : ¬ j < n) : Ev (fun k => spec_l1char.l0 k l i n v j) (if (0 ≤ v ∧ v ≤ 1114111 ∧ (v < 55296 ∨ v > 57343)) ∧ ulen v = n then (n, v) else (0, 0)) := by
 refine Ev.step (fun _ => rfl) ?_
 simp only [spec_l1char.l0]
 refine ev_neg hj ?_
 rw [l1point_eq]
 refine ev_letv (ev_ite (fun e => ?_) (fun e => ?_))
 ·have e := of_decide_eq_true e
  obtain ⟨u, hu, hl⟩ := l1utf8_len v
  rw [hu]
  refine ev_letv (ev_ite (fun f => ?_) (fun f => ?_))
  ·rw [if_pos ⟨e, by omega⟩]; exact Ev.now _
  ·rw [if_neg (fun h => f (by omega))]; exact Ev.now _
 ·have e := of_decide_eq_false (Bool.eq_false_iff.2 e)
  rw [if_neg (fun h => e h.1)]; exact Ev.now _
theorem l1char_bad (l : List Int) (hb : Bytes l) (i n v j : Int) (h0 : 0 ≤ i) (j0 : 0 ≤ j) (hj : j < n) (hi : i + j < l.length) (hl : l.length ≤ 9000000000) (hc : rd l (i + j) / 64 ≠ 2) : Ev (fun k => spec_l1char.l0 k l i n v j) (0, 0) := by
 have hr := hb (i + j) (by omega) hi
 refine Ev.step (fun _ => rfl) ?_
 simp only [spec_l1char.l0]
 simp (disch := omega) only [wrap64_id]
 refine ev_pos hj (ev_pos (by omega) (ev_pos (by omega) (ev_ite (fun e => Ev.now _) (fun e => ?_))))
 exact ev_pos (by omega) (Ev.now _)
theorem l1char_go {R : Int × Int} (l : List Int) (hb : Bytes l) (i n v j : Int) (h0 : 0 ≤ i) (j0 : 0 ≤ j) (hj : j < n) (hi : i + j < l.length) (hl : l.length ≤ 9000000000) (hc : rd l (i + j) / 64 = 2) (v0 : 0 ≤ v) (v1 : v ≤ 99999999)
  (h : Ev (fun k => spec_l1char.l0 k l i n (v * 64 + rd l (i + j) % 64) (j + 1)) R) (hn : n ≤ 10) : Ev (fun k => spec_l1char.l0 k l i n v j) R := by
 have hr := hb (i + j) (by omega) hi
 refine Ev.step (fun _ => rfl) ?_
 simp only [spec_l1char.l0]
 simp (disch := omega) only [wrap64_id]
 refine ev_pos hj (ev_pos (by omega) (ev_pos (by omega) (ev_neg (by omega) (ev_neg (by omega) ?_))))
 rw [show v * 64 + rd l (i + j) - 128 = v * 64 + rd l (i + j) % 64 by omega]
 exact h
theorem spec_l1char_ev (l : List Int) (hb : Bytes l) (hl : l.length ≤ 9000000000) (i : Int) (h0 : 0 ≤ i) (h1 : i < l.length) : Ev (fun k => spec_l1char.f k l i) (chr l i) := by
 rw [chr_eq hb h0 h1]
 have r0 := hb i h0 h1
 simp only [spec_l1char.f]
 simp (disch := omega) only [wrap64_id]
 refine ev_pos h0 (ev_pos h1 ?_)
 unfold chrZ
 refine ev_ite (fun c0 => ?_) (fun c0 => ?_)
 ·rw [if_pos c0]; exact Ev.now _
 rw [if_neg c0]
 have three : ∀ n v R, (n = 0 ∨ i + n > l.length → Ev (fun _ => some (0, 0)) R) → (¬ (n = 0 ∨ i + n > l.length) → Ev (fun k => spec_l1char.l0 k l i n v 1) R) → 0 ≤ n → n ≤ 4 → Ev (fun k => spec_l1char.j2 k l i n v) R := by
  intro n v R hA hB n0 n4
  have ja : (n = 0 ∨ i + n > l.length) → Ev (fun k => spec_l1char.j3 k l i n v true) R := by
   intro h
   refine Ev.step (fun _ => rfl) ?_
   simp only [spec_l1char.j3]
   exact ev_pos (by trivial) (hA h)
  refine Ev.step (fun _ => rfl) ?_
  simp only [spec_l1char.j2]
  simp (disch := omega) only [wrap64_id]
  refine ev_ite (fun c => ja (.inl c)) (fun c => ?_)
  by_cases d : i + n > l.length
  ·rw [decide_eq_true d]; exact ja (.inr d)
  ·rw [decide_eq_false d]
   refine Ev.step (fun _ => rfl) ?_
   simp only [spec_l1char.j3]
   exact ev_neg (by simp) (hB (by omega))
 refine ev_ite (fun c1 => ?_) (fun c1 => ?_)
 ·by_cases c2 : rd l i < 224
  ·rw [decide_eq_true c2]
   refine Ev.step (fun _ => rfl) ?_
   simp only [spec_l1char.j0]
   refine ev_pos (by trivial) ?_
   simp (disch := omega) only [wrap64_id]
   refine three 2 _ _ (fun h => ?_) (fun h => ?_) (by omega) (by omega)
   ·rw [if_neg (by omega), if_neg (by omega), if_neg (by omega)]; exact Ev.now _
   ·by_cases d : rd l (i + 1) / 64 = 2
    ·rw [if_pos (by omega)]
     refine l1char_go l hb i 2 _ 1 h0 (by omega) (by omega) (by omega) hl d (by omega) (by omega) ?_ (by omega)
     have := l1char_end l i 2 ((rd l i - 192) * 64 + rd l (i + 1) % 64) (1 + 1) (by omega)
     rw [show (rd l i - 192) * 64 + rd l (i + 1) % 64 = rd l i % 32 * 64 + rd l (i + 1) % 64 by omega] at this ⊢
     by_cases q : rd l i % 32 * 64 + rd l (i + 1) % 64 ≥ 128
     ·rw [if_pos q]
      rwa [if_pos ⟨by omega, by unfold ulen; rw [if_neg (by omega), if_pos (by omega)]⟩] at this
     ·rw [if_neg q]
      rwa [if_neg (fun h => by have := h.2; unfold ulen at this; rw [if_pos (by omega)] at this; omega)] at this
    ·rw [if_neg (by omega), if_neg (by omega), if_neg (by omega)]
     exact l1char_bad l hb i 2 _ 1 h0 (by omega) (by omega) (by omega) hl d
  ·rw [decide_eq_false c2]
   refine Ev.step (fun _ => rfl) ?_
   simp only [spec_l1char.j0]
   refine ev_neg (by simp) (ev_pos (by omega) ?_)
   by_cases c3 : rd l i < 240
   ·rw [decide_eq_true c3]
    refine Ev.step (fun _ => rfl) ?_
    simp only [spec_l1char.j1]
    refine ev_pos (by trivial) ?_
    simp (disch := omega) only [wrap64_id]
    refine three 3 _ _ (fun h => ?_) (fun h => ?_) (by omega) (by omega)
    ·rw [if_neg (by omega), if_neg (by omega), if_neg (by omega)]; exact Ev.now _
    ·rw [if_neg (by omega)]
     by_cases d : rd l (i + 1) / 64 = 2
     ·refine l1char_go l hb i 3 _ 1 h0 (by omega) (by omega) (by omega) hl d (by omega) (by omega) ?_ (by omega)
      rw [show (1 : Int) + 1 = 2 by omega]
      by_cases d2 : rd l (i + 2) / 64 = 2
      ·rw [if_pos (by omega)]
       refine l1char_go l hb i 3 _ 2 h0 (by omega) (by omega) (by omega) hl d2 (by omega) (by omega) ?_ (by omega)
       have := l1char_end l i 3 (((rd l i - 224) * 64 + rd l (i + 1) % 64) * 64 + rd l (i + 2) % 64) (2 + 1) (by omega)
       rw [show ((rd l i - 224) * 64 + rd l (i + 1) % 64) * 64 + rd l (i + 2) % 64 = rd l i % 16 * 4096 + rd l (i + 1) % 64 * 64 + rd l (i + 2) % 64 by omega] at this ⊢
       by_cases q : rd l i % 16 * 4096 + rd l (i + 1) % 64 * 64 + rd l (i + 2) % 64 ≥ 2048 ∧ (rd l i % 16 * 4096 + rd l (i + 1) % 64 * 64 + rd l (i + 2) % 64 < 55296 ∨ 57344 ≤ rd l i % 16 * 4096 + rd l (i + 1) % 64 * 64 + rd l (i + 2) % 64)
       ·rw [if_pos q]
        rwa [if_pos ⟨by omega, by unfold ulen; rw [if_neg (by omega), if_neg (by omega), if_pos (by omega)]⟩] at this
       ·rw [if_neg q]
        rwa [if_neg (fun h => by have h2 := h.2; have h1 := h.1; unfold ulen at h2; split at h2; omega; split at h2 <;> omega)] at this
      ·rw [if_neg (by omega), if_neg (by omega)]
       exact l1char_bad l hb i 3 _ 2 h0 (by omega) (by omega) (by omega) hl d2
     ·rw [if_neg (by omega), if_neg (by omega)]
      exact l1char_bad l hb i 3 _ 1 h0 (by omega) (by omega) (by omega) hl d
   ·rw [decide_eq_false c3]
    refine Ev.step (fun _ => rfl) ?_
    simp only [spec_l1char.j1]
    refine ev_neg (by simp) (ev_pos (by omega) (ev_ite (fun c4 => ?_) (fun c4 => ?_)))
    ·simp (disch := omega) only [wrap64_id]
     rw [if_neg (by omega), if_neg (by omega)]
     refine three 4 _ _ (fun h => ?_) (fun h => ?_) (by omega) (by omega)
     ·rw [if_neg (by omega)]; exact Ev.now _
     ·by_cases d : rd l (i + 1) / 64 = 2
      ·refine l1char_go l hb i 4 _ 1 h0 (by omega) (by omega) (by omega) hl d (by omega) (by omega) ?_ (by omega)
       rw [show (1 : Int) + 1 = 2 by omega]
       by_cases d2 : rd l (i + 2) / 64 = 2
       ·refine l1char_go l hb i 4 _ 2 h0 (by omega) (by omega) (by omega) hl d2 (by omega) (by omega) ?_ (by omega)
        rw [show (2 : Int) + 1 = 3 by omega]
        by_cases d3 : rd l (i + 3) / 64 = 2
        ·rw [if_pos (by omega)]
         refine l1char_go l hb i 4 _ 3 h0 (by omega) (by omega) (by omega) hl d3 (by omega) (by omega) ?_ (by omega)
         have := l1char_end l i 4 ((((rd l i - 240) * 64 + rd l (i + 1) % 64) * 64 + rd l (i + 2) % 64) * 64 + rd l (i + 3) % 64) (3 + 1) (by omega)
         rw [show (((rd l i - 240) * 64 + rd l (i + 1) % 64) * 64 + rd l (i + 2) % 64) * 64 + rd l (i + 3) % 64 = rd l i % 8 * 262144 + rd l (i + 1) % 64 * 4096 + rd l (i + 2) % 64 * 64 + rd l (i + 3) % 64 by omega] at this ⊢
         by_cases q : rd l i % 8 * 262144 + rd l (i + 1) % 64 * 4096 + rd l (i + 2) % 64 * 64 + rd l (i + 3) % 64 ≥ 65536 ∧ rd l i % 8 * 262144 + rd l (i + 1) % 64 * 4096 + rd l (i + 2) % 64 * 64 + rd l (i + 3) % 64 ≤ 1114111
         ·rw [if_pos q]
          rwa [if_pos ⟨by omega, by unfold ulen; rw [if_neg (by omega), if_neg (by omega), if_neg (by omega)]⟩] at this
         ·rw [if_neg q]
          rwa [if_neg (fun h => by have h2 := h.2; have h1 := h.1; unfold ulen at h2; split at h2; omega; split at h2; omega; split at h2 <;> omega)] at this
        ·rw [if_neg (by omega)]
         exact l1char_bad l hb i 4 _ 3 h0 (by omega) (by omega) (by omega) hl d3
       ·rw [if_neg (by omega)]
        exact l1char_bad l hb i 4 _ 2 h0 (by omega) (by omega) (by omega) hl d2
      ·rw [if_neg (by omega)]
       exact l1char_bad l hb i 4 _ 1 h0 (by omega) (by omega) (by omega) hl d
    ·rw [if_neg (by omega), if_neg (by omega), if_neg (by omega)]
     exact three 0 0 _ (fun h => Ev.now _) (fun h => absurd (.inl rfl) h) (by omega) (by omega)
 ·refine Ev.step (fun _ => rfl) ?_
  simp only [spec_l1char.j0]
  refine ev_neg (by simp) (ev_neg (by omega) ?_)
  refine Ev.step (fun _ => rfl) ?_
  simp only [spec_l1char.j1]
  refine ev_neg (by simp) (ev_neg (by omega) ?_)
  rw [if_neg (by omega), if_neg (by omega), if_neg (by omega)]
  exact three 0 0 _ (fun h => Ev.now _) (fun h => absurd (.inl rfl) h) (by omega) (by omega)

def wd (l : List Int) (i : Int) : Int := if (chr l i).1 = 0 then 1 else (chr l i).1
theorem chr_in {l : List Int} (hb : Bytes l) {i : Int} (h0 : 0 ≤ i) (h1 : i < l.length) {q : Int} (q0 : i < q) (q1 : q < i + (chr l i).1) : rd l q / 64 = 2 := by
 rw [chr_eq hb h0 h1] at q1
 unfold chrZ at q1
 split at q1
 ·simp only at q1; omega
 split at q1
 ·rename_i c
  split at q1
  ·simp only at q1
   have : q = i + 1 := by omega
   subst this; exact c.2.2
  ·simp at q1; omega
 split at q1
 ·rename_i c
  split at q1
  ·simp only at q1
   have : q = i + 1 ∨ q = i + 2 := by omega
   rcases this with rfl | rfl
   ·exact c.2.1.2
   ·exact c.2.2.2
  ·simp at q1; omega
 split at q1
 ·rename_i c
  split at q1
  ·simp only at q1
   have : q = i + 1 ∨ q = i + 2 ∨ q = i + 3 := by omega
   rcases this with rfl | rfl | rfl
   ·exact c.2.1.2
   ·exact c.2.2.1.2
   ·exact c.2.2.2.2
  ·simp at q1; omega
 ·simp at q1; omega
theorem wd_pos {l : List Int} (hb : Bytes l) {i : Int} (h0 : 0 ≤ i) (h1 : i < l.length) : 1 ≤ wd l i ∧ i + wd l i ≤ l.length := by
 unfold wd
 by_cases h : (chr l i).1 = 0
 ·rw [if_pos h]; omega
 ·rw [if_neg h]; have := chr_pos hb h0 h1 h; omega
theorem wd_nl {l : List Int} (hb : Bytes l) {i : Int} (h0 : 0 ≤ i) (h1 : i < l.length) {q : Int} (q0 : i < q) (q1 : q < i + wd l i) : rd l q ≠ 10 := by
 unfold wd at q1
 by_cases h : (chr l i).1 = 0
 ·rw [if_pos h] at q1; omega
 ·rw [if_neg h] at q1
  have := chr_in hb h0 h1 q0 q1
  omega
theorem wd_one {l : List Int} (hb : Bytes l) {i : Int} (h0 : 0 ≤ i) (h1 : i < l.length) (h : rd l i = 10) : wd l i = 1 := by
 have e : (chr l i).1 = 1 := by rw [chr_eq hb h0 h1]; unfold chrZ; rw [if_pos (by omega)]
 unfold wd; rw [e]; rfl
theorem wd_dec {l : List Int} (hb : Bytes l) {i : Int} (h0 : 0 ≤ i) (h1 : i < l.length) : (decI (l.drop i.toNat)).2 = wd l i := by
 have hz : 1 ≤ (decI (l.drop i.toNat)).2 := by
  rw [decI_drop h0 h1]
  have n1 : 0 < l.length - i.toNat := by omega
  unfold Lib.decodeN
  simp only
  repeat' split
  all_goals simp
 unfold wd chr
 by_cases h : (decI (l.drop i.toNat)).1 = 65533 ∧ (decI (l.drop i.toNat)).2 ≤ 1
 ·rw [if_pos h, if_pos rfl]; omega
 ·rw [if_neg h, if_neg (by simp only; omega)]
def cn (l : List Int) (a i : Int) : Int := (((l.take a.toNat).drop i.toNat).count (10 : Int) : Nat)
theorem cn_step {l : List Int} {a i : Int} (h0 : 0 ≤ i) (h1 : i < a) (h2 : a ≤ l.length) : cn l a i = (if rd l i = 10 then 1 else 0) + cn l a (i + 1) := by
 have hl : i.toNat < (l.take a.toNat).length := by rw [List.length_take]; omega
 unfold cn
 rw [List.drop_eq_getElem_cons hl, List.count_cons, show (i + 1).toNat = i.toNat + 1 by omega, List.getElem_take]
 have e : rd l i = l[i.toNat]'(by rw [List.length_take] at hl; omega) := rd_get h0 (by omega)
 rw [← e]
 by_cases q : rd l i = 10
 ·rw [if_pos (by rw [beq_iff_eq]; exact q), if_pos q]; omega
 ·rw [if_neg (by rw [beq_iff_eq]; exact q), if_neg q]; omega
theorem cn_end {l : List Int} {a i : Int} (h : a ≤ i) (a0 : 0 ≤ a) : cn l a i = 0 := by
 unfold cn
 rw [List.drop_eq_nil_of_le (by rw [List.length_take]; omega)]
 rfl
theorem cn_skip {l : List Int} {a : Int} (h2 : a ≤ l.length) (n : Nat) : ∀ i : Int, 0 ≤ i → i + n ≤ a → (∀ q : Int, i ≤ q → q < i + n → rd l q ≠ 10) → cn l a i = cn l a (i + n) := by
 induction n with
 | zero => intro i _ _ _; rw [show i + ((0 : Nat) : Int) = i by omega]
 | succ n ih =>
  intro i h0 h1 hq
  rw [cn_step h0 (by omega) h2, if_neg (hq i (by omega) (by omega)), ih (i + 1) (by omega) (by omega) (fun q a b => hq q (by omega) (by omega)), show i + 1 + (n : Int) = i + ((n + 1 : Nat) : Int) by omega]
  omega
theorem cn_le {l : List Int} {a i : Int} : 0 ≤ cn l a i ∧ cn l a i ≤ l.length := by
 unfold cn
 have h := List.count_le_length (a := (10 : Int)) (l := (l.take a.toNat).drop i.toNat)
 rw [List.length_drop, List.length_take] at h
 omega
theorem spec_pos_step (l : List Int) (hb : Bytes l) (hl : l.length ≤ 1048576) (a : Int) (ha : a ≤ l.length) (ln c i : Int) (h0 : 0 ≤ i) (h1 : i < a) (r : Int × Int)
  (H : Ev (fun k => if i + wd l i > a then some (ln, c) else if rd l i = 10 then spec_Position.l0 k l a (wrap64 (ln + 1)) 1 (i + wd l i) else spec_Position.l0 k l a ln (wrap64 (c + 1)) (i + wd l i)) r) : Ev (fun k => spec_Position.l0 k l a ln c i) r := by
 have wp := wd_pos hb h0 (show i < l.length by omega)
 have j2 : Ev (fun k => spec_Position.j2 k l a ln c i (wd l i)) r := by
  refine Ev.step (fun _ => rfl) ?_
  simp only [spec_Position.j2]
  rw [wrap64_id (x := i + wd l i) (by omega) (by omega)]
  simp only [if_pos h0, if_pos (show i < (l.length : Int) by omega)]
  exact H
 refine Ev.step (fun _ => rfl) ?_
 simp only [spec_Position.l0]
 refine ev_pos h1 (Ev.bind (spec_l1char_ev l hb (by omega) i h0 (by omega)) (ev_ite (fun e => ?_) (fun e => ?_)))
 ·have : wd l i = 1 := by unfold wd; rw [if_pos e]
  rw [this] at j2; exact j2
 ·have : wd l i = (chr l i).1 := by unfold wd; rw [if_neg e]
  rw [this] at j2; exact j2
theorem pos_tail (l : List Int) (hb : Bytes l) (hl : l.length ≤ 1048576) (a : Int) (ha : a ≤ l.length) (d : Nat) : ∀ (c i : Int), 0 ≤ i → a - i ≤ d → 0 ≤ c → c ≤ i + 1 → (∀ q : Int, i ≤ q → q < a → rd l q ≠ 10) →
  ∃ c' : Int, ∀ ln : Int, Ev (fun k => spec_Position.l0 k l a ln c i) (ln, c') ∧ Ev (fun k => impl_Position.l0 k l a ln c i) (ln, c') := by
 induction d with
 | zero =>
  intro c i h0 hd c0 c1 hq
  refine ⟨c, fun ln => ⟨Ev.step (fun _ => rfl) ?_, Ev.step (fun _ => rfl) ?_⟩⟩
  ·simp only [spec_Position.l0]; exact ev_neg (by omega) (Ev.now _)
  ·simp only [impl_Position.l0]; exact ev_neg (by omega) (Ev.now _)
 | succ d ih =>
  intro c i h0 hd c0 c1 hq
  by_cases h1 : i < a
  ·have wp := wd_pos hb h0 (show i < l.length by omega)
   have im : ∀ ln r, Ev (fun k => if i + wd l i ≤ a then impl_Position.l0 k l a ln (wrap64 (c + 1)) (i + wd l i) else impl_Position.l0 k l a ln c (i + wd l i)) r → Ev (fun k => impl_Position.l0 k l a ln c i) r := by
    intro ln r H
    refine Ev.step (fun _ => rfl) ?_
    simp only [impl_Position.l0]
    rw [DecodeRune_at hb h0 (by omega)]
    refine ev_pos h1 (ev_pos h0 (ev_pos (by omega) (ev_letv ?_)))
    rw [wd_dec hb h0 (by omega), wrap64_id (x := i + wd l i) (by omega) (by omega)]
    exact H
   by_cases h2 : i + wd l i > a
   ·refine ⟨c, fun ln => ⟨spec_pos_step l hb hl a ha ln c i h0 h1 _ (ev_pos h2 (Ev.now _)), im ln _ (ev_neg (by omega) (Ev.step (fun _ => rfl) ?_))⟩⟩
    simp only [impl_Position.l0]; exact ev_neg (by omega) (Ev.now _)
   ·obtain ⟨c', hc⟩ := ih (c + 1) (i + wd l i) (by omega) (by omega) (by omega) (by omega) (fun q q0 q1 => hq q (by omega) q1)
    refine ⟨c', fun ln => ⟨spec_pos_step l hb hl a ha ln c i h0 h1 _ (ev_neg h2 (ev_neg (hq i (by omega) h1) ?_)), im ln _ (ev_pos (by omega) ?_)⟩⟩
    ·rw [wrap64_id (by omega) (by omega)]; exact (hc ln).1
    ·rw [wrap64_id (by omega) (by omega)]; exact (hc ln).2
  ·refine ⟨c, fun ln => ⟨Ev.step (fun _ => rfl) ?_, Ev.step (fun _ => rfl) ?_⟩⟩
   ·simp only [spec_Position.l0]; exact ev_neg (by omega) (Ev.now _)
   ·simp only [impl_Position.l0]; exact ev_neg (by omega) (Ev.now _)
theorem pos_head (l : List Int) (hb : Bytes l) (hl : l.length ≤ 1048576) (a : Int) (ha : a ≤ l.length) (p : Int) (p0 : 0 ≤ p) (p1 : p < a) (pn : rd l p = 10) (pz : cn l a (p + 1) = 0) (r : Int × Int) (d : Nat) : ∀ (ln c i : Int), 0 ≤ i → i ≤ p → p - i < d → 0 ≤ ln → ln + cn l a i ≤ 2000000 → 0 ≤ c → c ≤ i + 1 →
  Ev (fun k => spec_Position.l0 k l a (ln + cn l a i) 1 (p + 1)) r → Ev (fun k => spec_Position.l0 k l a ln c i) r := by
 induction d with
 | zero => intro ln c i h0 h1 hd; omega
 | succ d ih =>
  intro ln c i h0 h1 hd l0 l1 c0 c1 H
  have cl := cn_le (l := l) (a := a) (i := i)
  have wp := wd_pos hb h0 (show i < l.length by omega)
  have np : i < p → ¬ p < i + wd l i := fun q1 q2 => wd_nl hb h0 (by omega) q1 q2 pn
  by_cases e : rd l i = 10
  ·have w1 := wd_one hb h0 (show i < l.length by omega) e
   have cs := cn_step h0 (show i < a by omega) ha
   rw [if_pos e] at cs
   refine spec_pos_step l hb hl a ha ln c i h0 (by omega) r (ev_neg (by omega) (ev_pos e ?_))
   rw [w1, wrap64_id (by omega) (by omega)]
   by_cases ip : i = p
   ·subst ip
    rw [cs, pz] at H
    rw [show ln + (1 + 0) = ln + 1 by omega] at H
    exact H
   ·refine ih (ln + 1) 1 (i + 1) (by omega) (by omega) (by omega) (by omega) (by omega) (by omega) (by omega) ?_
    rw [cs] at H
    rw [show ln + 1 + cn l a (i + 1) = ln + (1 + cn l a (i + 1)) by omega]
    exact H
  ·have ip : i < p := by
    by_cases q : i = p
    ·subst q; exact absurd pn e
    ·omega
   have := np ip
   have sk := cn_skip ha (wd l i).toNat i h0 (by omega) (fun q q0 q1 => by
    by_cases z : q = i
    ·subst z; exact e
    ·exact wd_nl hb h0 (by omega) (by omega) (by omega))
   rw [show i + (((wd l i).toNat : Nat) : Int) = i + wd l i by omega] at sk
   refine spec_pos_step l hb hl a ha ln c i h0 (by omega) r (ev_neg (by omega) (ev_neg e ?_))
   rw [wrap64_id (by omega) (by omega)]
   refine ih ln (c + 1) (i + wd l i) (by omega) (by omega) (by omega) l0 (by omega) (by omega) (by omega) ?_
   rw [← sk]; exact H
theorem last_ev (m : List Int) (hl : m.length ≤ 1048576) (d : Nat) : ∀ j : Int, -1 ≤ j → j < m.length → j < d → ∃ p, Ev (fun k => bytealg_LastIndexByte.l0 k m 10 j) p ∧ ((p = -1 ∧ ∀ q : Int, 0 ≤ q → q ≤ j → rd m q ≠ 10) ∨ (0 ≤ p ∧ p ≤ j ∧ rd m p = 10 ∧ ∀ q : Int, p < q → q ≤ j → rd m q ≠ 10)) := by
 induction d with
 | zero =>
  intro j j0 j1 hd
  refine ⟨-1, Ev.step (fun _ => rfl) ?_, .inl ⟨rfl, fun q a b => by omega⟩⟩
  simp only [bytealg_LastIndexByte.l0]
  exact ev_neg (by omega) (Ev.now _)
 | succ d ih =>
  intro j j0 j1 hd
  by_cases h : j ≥ 0
  ·by_cases e : rd m j = 10
   ·refine ⟨j, Ev.step (fun _ => rfl) ?_, .inr ⟨h, by omega, e, fun q a b => by omega⟩⟩
    simp only [bytealg_LastIndexByte.l0]
    exact ev_pos h (ev_pos h (ev_pos j1 (ev_pos e (Ev.now _))))
   ·obtain ⟨p, hp, hq⟩ := ih (j - 1) (by omega) (by omega) (by omega)
    refine ⟨p, Ev.step (fun _ => rfl) ?_, ?_⟩
    ·simp only [bytealg_LastIndexByte.l0]
     refine ev_pos h (ev_pos h (ev_pos j1 (ev_neg e ?_)))
     rw [wrap64_id (by omega) (by omega)]; exact hp
    ·rcases hq with ⟨rfl, hq⟩ | ⟨p0, p1, pe, hq⟩
     ·refine .inl ⟨rfl, fun q a b => ?_⟩
      by_cases z : q = j
      ·subst z; exact e
      ·exact hq q a (by omega)
     ·refine .inr ⟨p0, by omega, pe, fun q a b => ?_⟩
      by_cases z : q = j
      ·subst z; exact e
      ·exact hq q a (by omega)
  ·refine ⟨-1, Ev.step (fun _ => rfl) ?_, .inl ⟨rfl, fun q a b => by omega⟩⟩
   simp only [bytealg_LastIndexByte.l0]
   exact ev_neg h (Ev.now _)
theorem count_bytes (xs : List Int) (h : ∀ x ∈ xs, 0 ≤ x ∧ x ≤ 255) : Lib.countByte (Lib.bytesOf xs) ((10 : Int).toNat.toUInt8) = xs.count 10 := by
 unfold Lib.countByte
 induction xs with
 | nil => rfl
 | cons x xs ih =>
  have hx := h x List.mem_cons_self
  have e : Lib.bytesOf (x :: xs) = x.toNat.toUInt8 :: Lib.bytesOf xs := rfl
  rw [e, List.count_cons, List.count_cons, ih (fun y hy => h y (List.mem_cons_of_mem _ hy))]
  congr 1
  by_cases q : x = 10
  ·subst q; rfl
  ·have nq : ¬ ((x.toNat.toUInt8 == (10 : Int).toNat.toUInt8) = true) := by
    rw [beq_iff_eq]
    intro z
    have z2 := congrArg UInt8.toNat z
    rw [show (10 : Int).toNat.toUInt8.toNat = 10 from rfl] at z2
    have : x.toNat.toUInt8.toNat = x.toNat % 256 := by simp
    rw [this] at z2
    omega
   rw [if_neg nq, if_neg (by rw [beq_iff_eq]; exact q)]
theorem rd_take {l : List Int} {a q : Int} (q0 : 0 ≤ q) (q1 : q < a) : rd (l.take a.toNat) q = rd l q := by
 unfold rd
 rw [List.getD_eq_getElem?_getD, List.getElem?_take_of_lt (by omega), ← List.getD_eq_getElem?_getD]
theorem position_both (l : List Int) (hb : Bytes l) (hl : l.length ≤ 1048576) (a : Int) : ∃ r, Ev (fun k => spec_Position.f k l a) r ∧ Ev (fun k => impl_Position.f k l a) r := by
 simp only [spec_Position.f, impl_Position.f]
 have sj : Ev (fun k => spec_Position.j0 k l a true) (0, 0) := by
  refine Ev.step (fun _ => rfl) ?_
  simp only [spec_Position.j0]
  exact ev_pos (by trivial) (Ev.now _)
 have ij : Ev (fun k => impl_Position.j0 k l a true) (0, 0) := by
  refine Ev.step (fun _ => rfl) ?_
  simp only [impl_Position.j0]
  exact ev_pos (by trivial) (Ev.now _)
 by_cases a0 : a < 0
 ·exact ⟨(0, 0), ev_pos a0 sj, ev_pos a0 ij⟩
 by_cases a1 : a > l.length
 ·rw [decide_eq_true a1]; exact ⟨(0, 0), ev_neg a0 sj, ev_neg a0 ij⟩
 rw [decide_eq_false a1]
 have ml : ((l.take a.toNat).length : Int) = a := by rw [List.length_take]; omega
 have ct : bytes_Count.f (l.take a.toNat) [10] = some (cn l a 0) := by
  unfold bytes_Count.f cn
  rw [if_pos (show ([10] : List Int).length = 1 from rfl), show rd [10] 0 = 10 from rfl, count_bytes _ (fun x hx => ?_)]
  ·rw [show (0 : Int).toNat = 0 from rfl, List.drop_zero]
  ·obtain ⟨j, hj, rfl⟩ := List.getElem_of_mem hx
   rw [List.getElem_take]
   rw [List.length_take] at hj
   have := hb (j : Int) (by omega) (by omega)
   rw [rd_get (by omega) (by simp only [Int.toNat_natCast]; omega)] at this
   simpa using this
 have cl := cn_le (l := l) (a := a) (i := 0)
 obtain ⟨p, hp, hq⟩ := last_ev (l.take a.toNat) (by omega) (l.length + 1) (a - 1) (by omega) (by omega) (by omega)
 have li : Ev (fun k => bytes_LastIndexByte.f k (l.take a.toNat) 10) p := by
  simp only [bytes_LastIndexByte.f, bytealg_LastIndexByte.f]
  rw [ml, wrap64_id (by omega) (by omega)]
  exact Ev.bind hp (Ev.now _)
 have im : ∀ r, Ev (fun k => impl_Position.l0 k l a (1 + cn l a 0) 1 (p + 1)) r → Ev (fun k => impl_Position.j0 k l a false) r := by
  intro r H
  refine Ev.step (fun _ => rfl) ?_
  simp only [impl_Position.j0]
  refine ev_neg (by simp) (ev_pos (by omega) (ev_pos (by omega) ?_))
  rw [ct]
  refine ev_letv (Ev.bind li ?_)
  rw [wrap64_id (by omega) (by omega), wrap64_id (by omega) (by omega)]
  exact H
 have sp : ∀ r, Ev (fun k => spec_Position.l0 k l a 1 1 0) r → Ev (fun k => spec_Position.j0 k l a false) r := by
  intro r H
  refine Ev.step (fun _ => rfl) ?_
  simp only [spec_Position.j0]
  exact ev_neg (by simp) H
 rcases hq with ⟨rfl, hq⟩ | ⟨p0, p1, pe, hq⟩
 ·have nn : ∀ q : Int, 0 ≤ q → q < a → rd l q ≠ 10 := fun q x y => by
   have := hq q x (by omega); rwa [rd_take x y] at this
  obtain ⟨c', hc⟩ := pos_tail l hb hl a (by omega) a.toNat 1 0 (by omega) (by omega) (by omega) (by omega) nn
  have z : cn l a 0 = 0 := by
   rw [cn_skip (by omega) a.toNat 0 (by omega) (by omega) (fun q x y => nn q x (by omega))]
   exact cn_end (by omega) (by omega)
  refine ⟨(1, c'), ev_neg a0 (sp _ (hc 1).1), ev_neg a0 (im _ ?_)⟩
  rw [z]; exact (hc (1 + 0)).2
 ·rw [rd_take p0 (by omega)] at pe
  have nn : ∀ q : Int, p + 1 ≤ q → q < a → rd l q ≠ 10 := fun q x y => by
   have := hq q (by omega) (by omega); rwa [rd_take (by omega) y] at this
  obtain ⟨c', hc⟩ := pos_tail l hb hl a (by omega) a.toNat 1 (p + 1) (by omega) (by omega) (by omega) (by omega) nn
  have z : cn l a (p + 1) = 0 := by
   rw [cn_skip (by omega) (a - (p + 1)).toNat (p + 1) (by omega) (by omega) (fun q x y => nn q x (by omega))]
   exact cn_end (by omega) (by omega)
  refine ⟨(1 + cn l a 0, c'), ev_neg a0 (sp _ ?_), ev_neg a0 (im _ (hc _).2)⟩
  exact pos_head l hb hl a (by omega) p p0 (by omega) pe z _ (p.toNat + 1) 1 1 0 (by omega) (by omega) (by omega) (by omega) (by omega) (by omega) (by omega) (hc _).1

theorem FnExactPosition : laws_FnExactPosition.Pure := by
 intro l0 a1 w0 w1
 have hm : l0.length ≤ 9223372036854775807 := w0.1
 have hb := Bytes.of w0
 refine Ev.rounds (g := fun k => laws_FnExactPosition.f k l0 a1) ?_
 simp only [laws_FnExactPosition.f]
 refine ev_ite (fun _ => Ev.now _) (fun hc => ?_)
 have e1 := toByteS_ev l0 (by omega)
 obtain ⟨r, s, i⟩ := position_both l0 hb (by omega) a1
 refine Ev.bind e1 (Ev.bind s (Ev.bind e1 (Ev.bind i (ev_pos rfl ?_))))
 refine Ev.step (fun _ => rfl) ?_
 simp only [laws_FnExactPosition.j0]
 refine ev_neg (by simp) (Ev.bind e1 (Ev.bind (eqByteS_self l0 (by omega)) ?_))
 exact ev_pos (by trivial) (Ev.now _)

end Go.Proofs.YtiboccbaaphbhaaDoor.Pure
