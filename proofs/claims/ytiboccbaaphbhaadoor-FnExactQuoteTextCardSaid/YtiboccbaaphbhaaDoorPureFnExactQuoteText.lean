/- The program's QuoteText returns what the reference's returns, for all bytes: the library's tables of UTF-8 and of bit counts hold what their initialisers lay. -/
import Derived.Test.YtiboccbaaphbhaaDoorQFnExactQuoteText
namespace Go.Proofs.YtiboccbaaphbhaaDoor.Pure
set_option linter.unusedVariables false
set_option linter.unusedSimpArgs false
set_option linter.unusedSectionVars false
open Go.RowKit Go.Proofs.YtiboccbaaphbhaaDoor.PFnExactQuoteText Go.Proofs.YtiboccbaaphbhaaDoorW.PrintWords Go.Proofs.YtiboccbaaphbhaaDoorW.PrintLast Go.Proofs.YtiboccbaaphbhaaDoorW.PrintMore
section EvLib
variable {α β : Type}
theorem ev_pos {c : Prop} [Decidable c] {A B : Nat → Option α} {r : α} (h : c) (k : Ev A r) : Ev (fun n => if c then A n else B n) r :=
 Ev.congr (fun _ => if_pos h) k
theorem ev_neg {c : Prop} [Decidable c] {A B : Nat → Option α} {r : α} (h : ¬ c) (k : Ev B r) : Ev (fun n => if c then A n else B n) r :=
 Ev.congr (fun _ => if_neg h) k
theorem ev_ite {c : Prop} [Decidable c] {A B : Nat → Option α} {r : α} (h1 : c → Ev A r) (h2 : ¬ c → Ev B r) : Ev (fun n => if c then A n else B n) r := by
 by_cases h : c
 ·exact ev_pos h (h1 h)
 ·exact ev_neg h (h2 h)
theorem ev_letv {a : α} {f : Nat → α → Option β} {r : β} (k : Ev (fun n => f n a) r) : Ev (fun n => (some a).bind (f n)) r := Ev.bind (Ev.now a) k
end EvLib
theorem wrap64_id {x : Int} (h0 : -9223372036854775808 ≤ x) (h1 : x ≤ 9223372036854775807) : wrap64 x = x := by unfold wrap64; omega
theorem tdiv_nn {x y : Int} (h0 : 0 ≤ x) : Int.tdiv x y = x / y := Int.tdiv_eq_ediv_of_nonneg h0
theorem tmod_nn {x y : Int} (h0 : 0 ≤ x) : Int.tmod x y = x % y := Int.tmod_eq_emod_of_nonneg h0
theorem rd_get {l : List Int} {i : Int} (h0 : 0 ≤ i) (h1 : i.toNat < l.length) : rd l i = l[i.toNat] := by
 unfold rd; rw [List.getD_eq_getElem?_getD, List.getElem?_eq_getElem h1]; rfl
theorem rd_mem {l : List Int} {i : Int} (h0 : 0 ≤ i) (h1 : i < l.length) : rd l i ∈ l := by
 have h : i.toNat < l.length := by omega
 rw [rd_get h0 h]; exact List.getElem_mem h
theorem rd_set_eq {l : List Int} {i : Int} {v : Int} (h0 : 0 ≤ i) (h1 : i < l.length) : rd (l.set i.toNat v) i = v := by
 have h : i.toNat < l.length := by omega
 unfold rd; rw [List.getD_eq_getElem?_getD, List.getElem?_set_self h]; rfl
theorem rd_set_ne {l : List Int} {i j : Int} {v : Int} (h0 : 0 ≤ i) (h1 : 0 ≤ j) (h : i ≠ j) : rd (l.set i.toNat v) j = rd l j := by
 unfold rd; rw [List.getD_eq_getElem?_getD, List.getElem?_set_ne (by omega), ← List.getD_eq_getElem?_getD]
theorem rd_ext {l m : List Int} (h : l.length = m.length) (e : ∀ i : Int, 0 ≤ i → i < l.length → rd l i = rd m i) : l = m := by
 apply List.ext_getElem h; intro i h1 h2; have := e i (by omega) (by omega); rw [rd_get (by omega) (by simpa using h1), rd_get (by omega) (by simpa using h2)] at this
 simpa using this

theorem wf_u8 {x : Int} (h : (Lit.int .u8 x).wf = true) : 0 ≤ x ∧ x ≤ 255 := by
 simp [Lit.wf, IntKind.min, IntKind.max, IntKind.signed, IntKind.bits] at h; omega
theorem bytes_of {l : List Int} (h : ∀ x ∈ l, (Lit.int .u8 x).wf = true) : ∀ i : Int, 0 ≤ i → i < l.length → 0 ≤ rd l i ∧ rd l i ≤ 255 :=
 fun i h0 h1 => wf_u8 (h _ (rd_mem h0 h1))
theorem rd_drop (l : List Int) (i : Nat) (j : Int) (h : 0 ≤ j) : rd (l.drop i) j = rd l (i + j) := by
 unfold rd; rw [List.getD_eq_getElem?_getD, List.getElem?_drop, List.getD_eq_getElem?_getD, show ((i : Int) + j).toNat = i + j.toNat by omega]
theorem decI_drop {l : List Int} {i : Int} (h0 : 0 ≤ i) (h1 : i < l.length) : decI (l.drop i.toNat) =
  ((((Lib.decodeN (l.length - i.toNat) (rd l i).toNat (rd l (i + 1)).toNat (rd l (i + 2)).toNat (rd l (i + 3)).toNat).1 : Nat) : Int), (((Lib.decodeN (l.length - i.toNat) (rd l i).toNat (rd l (i + 1)).toNat (rd l (i + 2)).toNat (rd l (i + 3)).toNat).2 : Nat) : Int)) := by
 unfold decI; rw [List.length_drop, if_neg (by omega)]; rw [rd_drop _ _ _ (by omega), rd_drop _ _ _ (by omega), rd_drop _ _ _ (by omega), rd_drop _ _ _ (by omega), show ((i.toNat : Nat) : Int) = i by omega, Int.add_zero]
def chr (l : List Int) (i : Int) : Int × Int :=
 if (decI (l.drop i.toNat)).1 = 65533 ∧ (decI (l.drop i.toNat)).2 ≤ 1 then (0, 0) else ((decI (l.drop i.toNat)).2, (decI (l.drop i.toNat)).1)
def Bytes (l : List Int) : Prop := ∀ i : Int, 0 ≤ i → i < l.length → 0 ≤ rd l i ∧ rd l i ≤ 255
theorem rd_out {l : List Int} {i : Int} (h : (l.length : Int) ≤ i) : rd l i = 0 := by
 unfold rd; rw [List.getD_eq_getElem?_getD, List.getElem?_eq_none (by omega)]; rfl
theorem Bytes.rd {l : List Int} (hb : Bytes l) {i : Int} (h0 : 0 ≤ i) : 0 ≤ rd l i ∧ rd l i ≤ 255 := by
 by_cases h : i < l.length
 ·exact hb i h0 h
 ·rw [rd_out (by omega)]; omega
theorem bytesB_of {l : List Int} (hb : Bytes l) : bytesB l = true := by
 unfold bytesB; rw [List.all_eq_true]; intro x hx; obtain ⟨j, hj, e⟩ := List.getElem_of_mem hx; have := hb (j : Int) (by omega) (by omega); rw [rd_get (by omega) (by simpa using hj)] at this; simp only [Int.toNat_natCast] at this; rw [e] at this; simp only [Bool.and_eq_true, decide_eq_true_eq]; exact this
theorem Bytes.drop {l : List Int} (hb : Bytes l) (i : Nat) : Bytes (l.drop i) := by
 intro j h0 h1; rw [List.length_drop] at h1; rw [rd_drop _ _ _ h0]; exact hb _ (by omega) (by omega)
def chrZ (n b0 b1 b2 b3 : Int) : Int × Int :=
 if b0 < 128 then (1, b0)
   else if b0 / 32 = 6 ∧ (1 < n ∧ b1 / 64 = 2) then (if b0 % 32 * 64 + b1 % 64 ≥ 128 then (2, b0 % 32 * 64 + b1 % 64) else (0, 0))
   else if b0 / 16 = 14 ∧ (1 < n ∧ b1 / 64 = 2) ∧ (2 < n ∧ b2 / 64 = 2) then
    (if b0 % 16 * 4096 + b1 % 64 * 64 + b2 % 64 ≥ 2048 ∧ (b0 % 16 * 4096 + b1 % 64 * 64 + b2 % 64 < 55296 ∨ 57344 ≤ b0 % 16 * 4096 + b1 % 64 * 64 + b2 % 64) then (3, b0 % 16 * 4096 + b1 % 64 * 64 + b2 % 64) else (0, 0))
   else if b0 / 8 = 30 ∧ (1 < n ∧ b1 / 64 = 2) ∧ (2 < n ∧ b2 / 64 = 2) ∧ (3 < n ∧ b3 / 64 = 2) then
    (if b0 % 8 * 262144 + b1 % 64 * 4096 + b2 % 64 * 64 + b3 % 64 ≥ 65536 ∧ b0 % 8 * 262144 + b1 % 64 * 4096 + b2 % 64 * 64 + b3 % 64 ≤ 1114111 then (4, b0 % 8 * 262144 + b1 % 64 * 4096 + b2 % 64 * 64 + b3 % 64) else (0, 0))
   else (0, 0)
theorem chrZ_nat (n c0 c1 c2 c3 : Nat) : (if (((Lib.decodeN n c0 c1 c2 c3).1 : Nat) : Int) = 65533 ∧ (((Lib.decodeN n c0 c1 c2 c3).2 : Nat) : Int) ≤ 1 then ((0 : Int), (0 : Int)) else ((((Lib.decodeN n c0 c1 c2 c3).2 : Nat) : Int), (((Lib.decodeN n c0 c1 c2 c3).1 : Nat) : Int)))
  = chrZ n c0 c1 c2 c3 := by
 by_cases h1 : c0 < 128
 ·have hd : Lib.decodeN n c0 c1 c2 c3 = (c0, 1) := by unfold Lib.decodeN; rw [if_pos h1]
  rw [hd, if_neg (by simp only; omega)]; unfold chrZ; rw [if_pos (by omega)]; rfl
 by_cases h2 : c0 / 32 = 6 ∧ (1 < n ∧ c1 / 64 = 2)
 ·by_cases h3 : c0 % 32 * 64 + c1 % 64 ≥ 128
  ·have hd : Lib.decodeN n c0 c1 c2 c3 = (c0 % 32 * 64 + c1 % 64, 2) := by unfold Lib.decodeN; rw [if_neg h1, if_pos h2, if_pos h3]
   rw [hd, if_neg (by simp only; omega)]; unfold chrZ; rw [if_neg (by omega), if_pos (by omega), if_pos (by omega)]; simp
  ·have hd : Lib.decodeN n c0 c1 c2 c3 = (65533, 1) := by unfold Lib.decodeN; rw [if_neg h1, if_pos h2, if_neg h3]
   rw [hd, if_pos (by simp)]; unfold chrZ; rw [if_neg (by omega), if_pos (by omega), if_neg (by omega)]
 by_cases h4 : c0 / 16 = 14 ∧ (1 < n ∧ c1 / 64 = 2) ∧ (2 < n ∧ c2 / 64 = 2)
 ·by_cases h5 : c0 % 16 * 4096 + c1 % 64 * 64 + c2 % 64 ≥ 2048 ∧ (c0 % 16 * 4096 + c1 % 64 * 64 + c2 % 64 < 55296 ∨ (57344 ≤ c0 % 16 * 4096 + c1 % 64 * 64 + c2 % 64 ∧ c0 % 16 * 4096 + c1 % 64 * 64 + c2 % 64 ≤ 1114111))
  ·have hd : Lib.decodeN n c0 c1 c2 c3 = (c0 % 16 * 4096 + c1 % 64 * 64 + c2 % 64, 3) := by unfold Lib.decodeN; rw [if_neg h1, if_neg h2, if_pos h4, if_pos h5]
   rw [hd, if_neg (by simp only; omega)]; unfold chrZ; rw [if_neg (by omega), if_neg (by omega), if_pos (by omega), if_pos (by omega)]; simp
  ·have hd : Lib.decodeN n c0 c1 c2 c3 = (65533, 1) := by unfold Lib.decodeN; rw [if_neg h1, if_neg h2, if_pos h4, if_neg h5]
   rw [hd, if_pos (by simp)]; unfold chrZ; rw [if_neg (by omega), if_neg (by omega), if_pos (by omega), if_neg (by omega)]
 by_cases h6 : c0 / 8 = 30 ∧ (1 < n ∧ c1 / 64 = 2) ∧ (2 < n ∧ c2 / 64 = 2) ∧ (3 < n ∧ c3 / 64 = 2)
 ·by_cases h7 : c0 % 8 * 262144 + c1 % 64 * 4096 + c2 % 64 * 64 + c3 % 64 ≥ 65536 ∧ (c0 % 8 * 262144 + c1 % 64 * 4096 + c2 % 64 * 64 + c3 % 64 < 55296 ∨ (57344 ≤ c0 % 8 * 262144 + c1 % 64 * 4096 + c2 % 64 * 64 + c3 % 64 ∧ c0 % 8 * 262144 + c1 % 64 * 4096 + c2 % 64 * 64 + c3 % 64 ≤ 1114111))
  ·have hd : Lib.decodeN n c0 c1 c2 c3 = (c0 % 8 * 262144 + c1 % 64 * 4096 + c2 % 64 * 64 + c3 % 64, 4) := by unfold Lib.decodeN; rw [if_neg h1, if_neg h2, if_neg h4, if_pos h6, if_pos h7]
   rw [hd, if_neg (by simp only; omega)]; unfold chrZ; rw [if_neg (by omega), if_neg (by omega), if_neg (by omega), if_pos (by omega), if_pos (by omega)]; simp
  ·have hd : Lib.decodeN n c0 c1 c2 c3 = (65533, 1) := by unfold Lib.decodeN; rw [if_neg h1, if_neg h2, if_neg h4, if_pos h6, if_neg h7]
   rw [hd, if_pos (by simp)]; unfold chrZ; rw [if_neg (by omega), if_neg (by omega), if_neg (by omega), if_pos (by omega), if_neg (by omega)]
 have hd : Lib.decodeN n c0 c1 c2 c3 = (65533, 1) := by unfold Lib.decodeN; rw [if_neg h1, if_neg h2, if_neg h4, if_neg h6]
 rw [hd, if_pos (by simp)]; unfold chrZ; rw [if_neg (by omega), if_neg (by omega), if_neg (by omega), if_neg (by omega)]
theorem chr_eq {l : List Int} (hb : Bytes l) {i : Int} (h0 : 0 ≤ i) (h1 : i < l.length) : chr l i = chrZ ((l.length : Int) - i) (rd l i) (rd l (i + 1)) (rd l (i + 2)) (rd l (i + 3)) := by
 have r0 := hb.rd h0; have r1 := hb.rd (show 0 ≤ i + 1 by omega); have r2 := hb.rd (show 0 ≤ i + 2 by omega); have r3 := hb.rd (show 0 ≤ i + 3 by omega); unfold chr; rw [decI_drop h0 h1]; simp only; rw [chrZ_nat, Int.toNat_of_nonneg r0.1, Int.toNat_of_nonneg r1.1, Int.toNat_of_nonneg r2.1, Int.toNat_of_nonneg r3.1, show ((l.length - i.toNat : Nat) : Int) = (l.length : Int) - i by omega]

theorem Bytes.of {l : List Int} (h : Open.wfL (Open.wfI .u8) l) : Bytes l := bytes_of h.2

theorem toByteS_loop (x0 : List Int) (hb : x0.length ≤ 281474976710656) (d : Nat) : ∀ (x3 : List Int) (i : Int), 0 ≤ i → x3.length = x0.length → (x0.length : Int) - i = d →
  (∀ j : Int, 0 ≤ j → j < i → rd x3 j = rd x0 j) → Ev (fun k => laws_toByteS.l0 k x0 x3 i) x0 := by
 induction d with
 | zero =>
  intro x3 i h0 hl hd he; refine Ev.step (fun _ => rfl) ?_; simp only [laws_toByteS.l0]; refine ev_neg (by omega) ?_; have : x3 = x0 := rd_ext hl (fun j a b => he j a (by omega)); rw [this]; exact Ev.now _
 | succ d ih =>
  intro x3 i h0 hl hd he; refine Ev.step (fun _ => rfl) ?_; simp only [laws_toByteS.l0]; refine ev_pos (by omega) (ev_pos (by omega) (ev_pos (by omega) ?_)); rw [wrap64_id (by omega) (by omega)]; refine ih _ _ (by omega) (by simpa using hl) (by omega) ?_; intro j a b
  by_cases e : j = i
  ·subst e; exact rd_set_eq (by omega) (by omega)
  ·rw [rd_set_ne (by omega) (by omega) (by omega)]; exact he j a (by omega)
theorem toByteS_ev (l : List Int) (hb : l.length ≤ 281474976710656) : Ev (fun k => laws_toByteS.f k l) l := by
 simp only [laws_toByteS.f]; refine ev_pos (by omega) (ev_pos (by omega) ?_); exact toByteS_loop l hb l.length _ 0 (by omega) (by simp) (by omega) (fun j a b => by omega)

theorem eqByteS_loop (a b : List Int) (hl : a.length = b.length) (hb : a.length ≤ 9223372036854775800) (d : Nat) : ∀ (i : Int), 0 ≤ i → (a.length : Int) - i = d →
  (∀ j : Int, 0 ≤ j → j < i → rd a j = rd b j) → Ev (fun k => laws_eqByteS.l0 k a b i) (decide (a = b)) := by
 induction d with
 | zero =>
  intro i h0 hd he; refine Ev.step (fun _ => rfl) ?_; simp only [laws_eqByteS.l0]; refine ev_neg (by omega) ?_; have : a = b := rd_ext hl (fun j p q => he j p (by omega)); rw [decide_eq_true this]; exact Ev.now _
 | succ d ih =>
  intro i h0 hd he; refine Ev.step (fun _ => rfl) ?_; simp only [laws_eqByteS.l0]; refine ev_pos (by omega) (ev_pos (by omega) (ev_pos (by omega) (ev_ite (fun e => ?_) (fun e => ?_))))
  ·rw [wrap64_id (by omega) (by omega)]; refine ih _ (by omega) (by omega) ?_; intro j p q
   by_cases e' : j = i
   ·subst e'; exact e
   ·exact he j p (by omega)
  ·have : a ≠ b := fun h => e (by rw [h])
   rw [decide_eq_false this]; exact Ev.now _
theorem eqByteS_ev (a b : List Int) (hb : a.length ≤ 9223372036854775800) : Ev (fun k => laws_eqByteS.f k a b) (decide (a = b)) := by
 simp only [laws_eqByteS.f]; refine ev_ite (fun e => ?_) (fun e => ?_)
 ·exact eqByteS_loop a b (by omega) hb a.length 0 (by omega) (by omega) (fun j p q => by omega)
 ·have : a ≠ b := fun h => e (by rw [h])
  rw [decide_eq_false this]; exact Ev.now _
theorem eqByteS_self (a : List Int) (hb : a.length ≤ 9223372036854775800) : Ev (fun k => laws_eqByteS.f k a a) true := by
 have := eqByteS_ev a a hb
 rwa [decide_eq_true rfl] at this

def upbyte (a : Int) (n : Nat) : List Int := (List.range n).map (fun (j : Nat) => (a + (j : Int)) % 256)
theorem upbyte_length (a : Int) (n : Nat) : (upbyte a n).length = n := by simp [upbyte]
theorem upbyte_rd {a : Int} {n : Nat} {i : Int} (h0 : 0 ≤ i) (h1 : i < n) : rd (upbyte a n) i = (a + i) % 256 := by
 rw [rd_get h0 (by rw [upbyte_length]; omega)]; simp only [upbyte, List.getElem_map, List.getElem_range]; omega

theorem markByteS_loop (n : Nat) (a : Int) (ha : 0 ≤ a) (hn : a + n ≤ 9223372036854775807) (d : Nat) : ∀ (x : List Int) (i : Int), 0 ≤ i → x.length = n → (n : Int) - i = d →
  (∀ j : Int, 0 ≤ j → j < i → rd x j = (a + j) % 256) → Ev (fun k => laws_markByteS.l0 k x (a + i) i) (a + n, upbyte a n) := by
 induction d with
 | zero =>
  intro x i h0 hl hd he; refine Ev.step (fun _ => rfl) ?_; simp only [laws_markByteS.l0]; refine ev_neg (by omega) ?_; have e1 : x = upbyte a n := rd_ext (by rw [hl, upbyte_length]) (fun j p q => by rw [he j p (by omega), upbyte_rd p (by omega)]); have e2 : i = n := by omega
  rw [e1, e2]; exact Ev.now _
 | succ d ih =>
  intro x i h0 hl hd he; refine Ev.step (fun _ => rfl) ?_; simp only [laws_markByteS.l0]; refine ev_pos (by omega) (ev_pos (by omega) ?_); rw [wrap64_id (by omega) (by omega), wrap64_id (by omega) (by omega), show a + i + 1 = a + (i + 1) by omega]; refine ih _ _ (by omega) (by simpa using hl) (by omega) ?_; intro j p q
  by_cases e : j = i
  ·subst e; exact rd_set_eq (by omega) (by omega)
  ·rw [rd_set_ne (by omega) (by omega) (by omega)]; exact he j p (by omega)
theorem markByteS_ev (l : List Int) (a : Int) (ha : 0 ≤ a) (hn : a + l.length ≤ 9223372036854775807) : Ev (fun k => laws_markByteS.f k l a) (a + l.length, upbyte a l.length) := by
 have := markByteS_loop l.length a ha hn l.length l 0 (by omega) rfl (by omega) (fun j p q => by omega)
 simpa only [laws_markByteS.f, Int.add_zero] using this

theorem heldByteS_loop (n : Nat) (a : Int) (ha : 0 ≤ a) (hn : a + n ≤ 9223372036854775807) (d : Nat) : ∀ (i : Int), 0 ≤ i → (n : Int) - i = d →
  Ev (fun k => laws_heldByteS.l0 k (upbyte a n) (a + i) i) (a + n) := by
 induction d with
 | zero =>
  intro i h0 hd; refine Ev.step (fun _ => rfl) ?_; simp only [laws_heldByteS.l0, upbyte_length]; refine ev_neg (by omega) ?_; have e2 : i = n := by omega
  rw [e2]; exact Ev.now _
 | succ d ih =>
  intro i h0 hd; refine Ev.step (fun _ => rfl) ?_; simp only [laws_heldByteS.l0, upbyte_length]; refine ev_pos (by omega) (ev_pos (by omega) (ev_pos (upbyte_rd h0 (by omega)) ?_)); rw [wrap64_id (by omega) (by omega), wrap64_id (by omega) (by omega), show a + i + 1 = a + (i + 1) by omega]; exact ih _ (by omega) (by omega)
theorem heldByteS_ev (n : Nat) (a : Int) (ha : 0 ≤ a) (hn : a + n ≤ 9223372036854775807) : Ev (fun k => laws_heldByteS.f k (upbyte a n) a) (a + n) := by
 have := heldByteS_loop n a ha hn n 0 (by omega) (by omega)
 simpa only [laws_heldByteS.f, Int.add_zero] using this

theorem l1point_eq (v : Int) : spec_l1point.f v = some (decide (0 ≤ v ∧ v ≤ 1114111 ∧ (v < 55296 ∨ v > 57343))) := by
 unfold spec_l1point.f
 by_cases h1 : v ≥ 0
 ·rw [if_pos h1]
  by_cases h2 : v ≤ 1114111
  ·rw [if_pos h2]
   by_cases h3 : v < 55296
   ·rw [if_pos h3, decide_eq_true (by omega)]
   ·rw [if_neg h3]; congr 1; rw [decide_eq_decide]; omega
  ·rw [if_neg h2, decide_eq_false (by omega)]
 ·rw [if_neg h1, decide_eq_false (by omega)]
def ulen (v : Int) : Int := if v < 128 then 1 else if v < 2048 then 2 else if v < 65536 then 3 else 4
theorem l1utf8_len (v : Int) : ∃ u, spec_l1utf8.f v = some u ∧ (u.length : Int) = ulen v := by
 unfold spec_l1utf8.f ulen
 by_cases h1 : v < 128
 ·rw [if_pos h1, if_pos h1]; exact ⟨_, rfl, rfl⟩
 rw [if_neg h1, if_neg h1]
 by_cases h2 : v < 2048
 ·rw [if_pos h2, if_pos h2]; exact ⟨_, rfl, rfl⟩
 rw [if_neg h2, if_neg h2]
 by_cases h3 : v < 65536
 ·rw [if_pos h3, if_pos h3]; exact ⟨_, rfl, rfl⟩
 rw [if_neg h3, if_neg h3]; exact ⟨_, rfl, rfl⟩
theorem l1char_end (l : List Int) (i n v j : Int) (hj : ¬ j < n) : Ev (fun k => spec_l1char.l0 k l i n v j) (if (0 ≤ v ∧ v ≤ 1114111 ∧ (v < 55296 ∨ v > 57343)) ∧ ulen v = n then (n, v) else (0, 0)) := by
 refine Ev.step (fun _ => rfl) ?_; simp only [spec_l1char.l0]; refine ev_neg hj ?_; rw [l1point_eq]; refine ev_letv (ev_ite (fun e => ?_) (fun e => ?_))
 ·have e := of_decide_eq_true e; obtain ⟨u, hu, hl⟩ := l1utf8_len v; rw [hu]; refine ev_letv (ev_ite (fun f => ?_) (fun f => ?_))
  ·rw [if_pos ⟨e, by omega⟩]; exact Ev.now _
  ·rw [if_neg (fun h => f (by omega))]; exact Ev.now _
 ·have e := of_decide_eq_false (Bool.eq_false_iff.2 e); rw [if_neg (fun h => e h.1)]; exact Ev.now _
theorem l1char_bad (l : List Int) (hb : Bytes l) (i n v j : Int) (h0 : 0 ≤ i) (j0 : 0 ≤ j) (hj : j < n) (hi : i + j < l.length) (hl : l.length ≤ 9000000000) (hc : rd l (i + j) / 64 ≠ 2) : Ev (fun k => spec_l1char.l0 k l i n v j) (0, 0) := by
 have hr := hb (i + j) (by omega) hi; refine Ev.step (fun _ => rfl) ?_; simp only [spec_l1char.l0]; simp (disch := omega) only [wrap64_id]; refine ev_pos hj (ev_pos (by omega) (ev_pos (by omega) (ev_ite (fun e => Ev.now _) (fun e => ?_)))); exact ev_pos (by omega) (Ev.now _)
theorem l1char_go {R : Int × Int} (l : List Int) (hb : Bytes l) (i n v j : Int) (h0 : 0 ≤ i) (j0 : 0 ≤ j) (hj : j < n) (hi : i + j < l.length) (hl : l.length ≤ 9000000000) (hc : rd l (i + j) / 64 = 2) (v0 : 0 ≤ v) (v1 : v ≤ 99999999)
  (h : Ev (fun k => spec_l1char.l0 k l i n (v * 64 + rd l (i + j) % 64) (j + 1)) R) (hn : n ≤ 10) : Ev (fun k => spec_l1char.l0 k l i n v j) R := by
 have hr := hb (i + j) (by omega) hi; refine Ev.step (fun _ => rfl) ?_; simp only [spec_l1char.l0]; simp (disch := omega) only [wrap64_id]; refine ev_pos hj (ev_pos (by omega) (ev_pos (by omega) (ev_neg (by omega) (ev_neg (by omega) ?_)))); rw [show v * 64 + rd l (i + j) - 128 = v * 64 + rd l (i + j) % 64 by omega]; exact h
theorem spec_l1char_ev (l : List Int) (hb : Bytes l) (hl : l.length ≤ 9000000000) (i : Int) (h0 : 0 ≤ i) (h1 : i < l.length) : Ev (fun k => spec_l1char.f k l i) (chr l i) := by
 rw [chr_eq hb h0 h1]; have r0 := hb i h0 h1; simp only [spec_l1char.f]; simp (disch := omega) only [wrap64_id]; refine ev_pos h0 (ev_pos h1 ?_); unfold chrZ; refine ev_ite (fun c0 => ?_) (fun c0 => ?_)
 ·rw [if_pos c0]; exact Ev.now _
 rw [if_neg c0]; have three : ∀ n v R, (n = 0 ∨ i + n > l.length → Ev (fun _ => some (0, 0)) R) → (¬ (n = 0 ∨ i + n > l.length) → Ev (fun k => spec_l1char.l0 k l i n v 1) R) → 0 ≤ n → n ≤ 4 → Ev (fun k => spec_l1char.j2 k l i n v) R := by
  intro n v R hA hB n0 n4; have ja : (n = 0 ∨ i + n > l.length) → Ev (fun k => spec_l1char.j3 k l i n v true) R := by
   intro h; refine Ev.step (fun _ => rfl) ?_; simp only [spec_l1char.j3]; exact ev_pos (by trivial) (hA h)
  refine Ev.step (fun _ => rfl) ?_; simp only [spec_l1char.j2]; simp (disch := omega) only [wrap64_id]; refine ev_ite (fun c => ja (.inl c)) (fun c => ?_)
  by_cases d : i + n > l.length
  ·rw [decide_eq_true d]; exact ja (.inr d)
  ·rw [decide_eq_false d]; refine Ev.step (fun _ => rfl) ?_; simp only [spec_l1char.j3]; exact ev_neg (by simp) (hB (by omega))
 refine ev_ite (fun c1 => ?_) (fun c1 => ?_)
 ·by_cases c2 : rd l i < 224
  ·rw [decide_eq_true c2]; refine Ev.step (fun _ => rfl) ?_; simp only [spec_l1char.j0]; refine ev_pos (by trivial) ?_; simp (disch := omega) only [wrap64_id]; refine three 2 _ _ (fun h => ?_) (fun h => ?_) (by omega) (by omega)
   ·rw [if_neg (by omega), if_neg (by omega), if_neg (by omega)]; exact Ev.now _
   ·by_cases d : rd l (i + 1) / 64 = 2
    ·rw [if_pos (by omega)]; refine l1char_go l hb i 2 _ 1 h0 (by omega) (by omega) (by omega) hl d (by omega) (by omega) ?_ (by omega); have := l1char_end l i 2 ((rd l i - 192) * 64 + rd l (i + 1) % 64) (1 + 1) (by omega); rw [show (rd l i - 192) * 64 + rd l (i + 1) % 64 = rd l i % 32 * 64 + rd l (i + 1) % 64 by omega] at this ⊢
     by_cases q : rd l i % 32 * 64 + rd l (i + 1) % 64 ≥ 128
     ·rw [if_pos q]
      rwa [if_pos ⟨by omega, by unfold ulen; rw [if_neg (by omega), if_pos (by omega)]⟩] at this
     ·rw [if_neg q]
      rwa [if_neg (fun h => by have := h.2; unfold ulen at this; rw [if_pos (by omega)] at this; omega)] at this
    ·rw [if_neg (by omega), if_neg (by omega), if_neg (by omega)]; exact l1char_bad l hb i 2 _ 1 h0 (by omega) (by omega) (by omega) hl d
  ·rw [decide_eq_false c2]; refine Ev.step (fun _ => rfl) ?_; simp only [spec_l1char.j0]; refine ev_neg (by simp) (ev_pos (by omega) ?_)
   by_cases c3 : rd l i < 240
   ·rw [decide_eq_true c3]; refine Ev.step (fun _ => rfl) ?_; simp only [spec_l1char.j1]; refine ev_pos (by trivial) ?_; simp (disch := omega) only [wrap64_id]; refine three 3 _ _ (fun h => ?_) (fun h => ?_) (by omega) (by omega)
    ·rw [if_neg (by omega), if_neg (by omega), if_neg (by omega)]; exact Ev.now _
    ·rw [if_neg (by omega)]
     by_cases d : rd l (i + 1) / 64 = 2
     ·refine l1char_go l hb i 3 _ 1 h0 (by omega) (by omega) (by omega) hl d (by omega) (by omega) ?_ (by omega); rw [show (1 : Int) + 1 = 2 by omega]
      by_cases d2 : rd l (i + 2) / 64 = 2
      ·rw [if_pos (by omega)]; refine l1char_go l hb i 3 _ 2 h0 (by omega) (by omega) (by omega) hl d2 (by omega) (by omega) ?_ (by omega); have := l1char_end l i 3 (((rd l i - 224) * 64 + rd l (i + 1) % 64) * 64 + rd l (i + 2) % 64) (2 + 1) (by omega); rw [show ((rd l i - 224) * 64 + rd l (i + 1) % 64) * 64 + rd l (i + 2) % 64 = rd l i % 16 * 4096 + rd l (i + 1) % 64 * 64 + rd l (i + 2) % 64 by omega] at this ⊢
       by_cases q : rd l i % 16 * 4096 + rd l (i + 1) % 64 * 64 + rd l (i + 2) % 64 ≥ 2048 ∧ (rd l i % 16 * 4096 + rd l (i + 1) % 64 * 64 + rd l (i + 2) % 64 < 55296 ∨ 57344 ≤ rd l i % 16 * 4096 + rd l (i + 1) % 64 * 64 + rd l (i + 2) % 64)
       ·rw [if_pos q]
        rwa [if_pos ⟨by omega, by unfold ulen; rw [if_neg (by omega), if_neg (by omega), if_pos (by omega)]⟩] at this
       ·rw [if_neg q]
        rwa [if_neg (fun h => by have h2 := h.2; have h1 := h.1; unfold ulen at h2; split at h2; omega; split at h2 <;> omega)] at this
      ·rw [if_neg (by omega), if_neg (by omega)]; exact l1char_bad l hb i 3 _ 2 h0 (by omega) (by omega) (by omega) hl d2
     ·rw [if_neg (by omega), if_neg (by omega)]; exact l1char_bad l hb i 3 _ 1 h0 (by omega) (by omega) (by omega) hl d
   ·rw [decide_eq_false c3]; refine Ev.step (fun _ => rfl) ?_; simp only [spec_l1char.j1]; refine ev_neg (by simp) (ev_pos (by omega) (ev_ite (fun c4 => ?_) (fun c4 => ?_)))
    ·simp (disch := omega) only [wrap64_id]; rw [if_neg (by omega), if_neg (by omega)]; refine three 4 _ _ (fun h => ?_) (fun h => ?_) (by omega) (by omega)
     ·rw [if_neg (by omega)]; exact Ev.now _
     ·by_cases d : rd l (i + 1) / 64 = 2
      ·refine l1char_go l hb i 4 _ 1 h0 (by omega) (by omega) (by omega) hl d (by omega) (by omega) ?_ (by omega); rw [show (1 : Int) + 1 = 2 by omega]
       by_cases d2 : rd l (i + 2) / 64 = 2
       ·refine l1char_go l hb i 4 _ 2 h0 (by omega) (by omega) (by omega) hl d2 (by omega) (by omega) ?_ (by omega); rw [show (2 : Int) + 1 = 3 by omega]
        by_cases d3 : rd l (i + 3) / 64 = 2
        ·rw [if_pos (by omega)]; refine l1char_go l hb i 4 _ 3 h0 (by omega) (by omega) (by omega) hl d3 (by omega) (by omega) ?_ (by omega); have := l1char_end l i 4 ((((rd l i - 240) * 64 + rd l (i + 1) % 64) * 64 + rd l (i + 2) % 64) * 64 + rd l (i + 3) % 64) (3 + 1) (by omega); rw [show (((rd l i - 240) * 64 + rd l (i + 1) % 64) * 64 + rd l (i + 2) % 64) * 64 + rd l (i + 3) % 64 = rd l i % 8 * 262144 + rd l (i + 1) % 64 * 4096 + rd l (i + 2) % 64 * 64 + rd l (i + 3) % 64 by omega] at this ⊢
         by_cases q : rd l i % 8 * 262144 + rd l (i + 1) % 64 * 4096 + rd l (i + 2) % 64 * 64 + rd l (i + 3) % 64 ≥ 65536 ∧ rd l i % 8 * 262144 + rd l (i + 1) % 64 * 4096 + rd l (i + 2) % 64 * 64 + rd l (i + 3) % 64 ≤ 1114111
         ·rw [if_pos q]
          rwa [if_pos ⟨by omega, by unfold ulen; rw [if_neg (by omega), if_neg (by omega), if_neg (by omega)]⟩] at this
         ·rw [if_neg q]
          rwa [if_neg (fun h => by have h2 := h.2; have h1 := h.1; unfold ulen at h2; split at h2; omega; split at h2; omega; split at h2 <;> omega)] at this
        ·rw [if_neg (by omega)]; exact l1char_bad l hb i 4 _ 3 h0 (by omega) (by omega) (by omega) hl d3
       ·rw [if_neg (by omega)]; exact l1char_bad l hb i 4 _ 2 h0 (by omega) (by omega) (by omega) hl d2
      ·rw [if_neg (by omega)]; exact l1char_bad l hb i 4 _ 1 h0 (by omega) (by omega) (by omega) hl d
    ·rw [if_neg (by omega), if_neg (by omega), if_neg (by omega)]; exact three 0 0 _ (fun h => Ev.now _) (fun h => absurd (.inl rfl) h) (by omega) (by omega)
 ·refine Ev.step (fun _ => rfl) ?_; simp only [spec_l1char.j0]; refine ev_neg (by simp) (ev_neg (by omega) ?_); refine Ev.step (fun _ => rfl) ?_; simp only [spec_l1char.j1]; refine ev_neg (by simp) (ev_neg (by omega) ?_); rw [if_neg (by omega), if_neg (by omega), if_neg (by omega)]; exact three 0 0 _ (fun h => Ev.now _) (fun h => absurd (.inl rfl) h) (by omega) (by omega)

theorem DecodeRune_at {l : List Int} (hb : Bytes l) {i : Int} (h0 : 0 ≤ i) (h1 : i < l.length) : utf8_DecodeRune.f (l.drop i.toNat) = some (decI (l.drop i.toNat)) := by
 unfold utf8_DecodeRune.f; rw [if_neg (by rw [List.length_drop]; omega), if_pos (bytesB_of (hb.drop _))]
theorem chr_pos {l : List Int} (hb : Bytes l) {i : Int} (h0 : 0 ≤ i) (h1 : i < l.length) (h : ¬ (chr l i).1 = 0) : 1 ≤ (chr l i).1 ∧ (chr l i).1 ≤ 4 ∧ i + (chr l i).1 ≤ l.length := by
 rw [chr_eq hb h0 h1] at h ⊢; unfold chrZ at h ⊢
 split at h
 ·rename_i c; rw [if_pos c]; simp only; omega
 ·rename_i c; rw [if_neg c]
  split at h
  ·rename_i c; rw [if_pos c]
   split at h
   ·rename_i c2; rw [if_pos c2]; simp only; omega
   ·simp at h
  ·rename_i c; rw [if_neg c]
   split at h
   ·rename_i c; rw [if_pos c]
    split at h
    ·rename_i c2; rw [if_pos c2]; simp only; omega
    ·simp at h
   ·rename_i c; rw [if_neg c]
    split at h
    ·rename_i c; rw [if_pos c]
     split at h
     ·rename_i c2; rw [if_pos c2]; simp only; omega
     ·simp at h
    ·simp at h

def checkFrom (l : List Int) : Nat → Int → Int × Int
 | 0, _ => (0, 0)
 | d + 1, i => if i < l.length then (if (chr l i).1 = 0 then (2, i) else checkFrom l d (i + (chr l i).1)) else (0, 0)
def checkRes (l : List Int) : Int × Int := checkFrom l (l.length + 1) 0
theorem spec_check_loop (l : List Int) (hb : Bytes l) (hl : l.length ≤ 9000000000) (d : Nat) : ∀ i : Int, 0 ≤ i → i ≤ l.length → (l.length : Int) - i < d → Ev (fun k => spec_CheckText.l0 k l i) (checkFrom l d i) := by
 induction d with
 | zero => intro i h0 h1 hd; omega
 | succ d ih =>
  intro i h0 h1 hd; refine Ev.step (fun _ => rfl) ?_; simp only [spec_CheckText.l0, checkFrom]; refine ev_ite (fun c => ?_) (fun c => ?_)
  ·rw [if_pos c]; refine Ev.bind (spec_l1char_ev l hb hl i h0 c) (ev_ite (fun e => ?_) (fun e => ?_))
   ·rw [if_pos e]; exact Ev.now _
   ·have := chr_pos hb h0 c e; rw [if_neg e, wrap64_id (by omega) (by omega)]; exact ih _ (by omega) (by omega) (by omega)
  ·rw [if_neg c]; exact Ev.now _
theorem spec_CheckText_ev (l : List Int) (hb : Bytes l) (hl : l.length ≤ 9000000000) : Ev (fun k => spec_CheckText.f k l) (checkRes l) := by
 simp only [spec_CheckText.f]; exact spec_check_loop l hb hl (l.length + 1) 0 (by omega) (by omega) (by omega)

theorem impl_check_loop (l : List Int) (hb : Bytes l) (hl : l.length ≤ 9000000000) (d : Nat) : ∀ i : Int, 0 ≤ i → i ≤ l.length → (l.length : Int) - i < d → Ev (fun k => impl_CheckText.l0 k l i) (checkFrom l d i) := by
 induction d with
 | zero => intro i h0 h1 hd; omega
 | succ d ih =>
  intro i h0 h1 hd; refine Ev.step (fun _ => rfl) ?_; simp only [impl_CheckText.l0, checkFrom]; refine ev_ite (fun c => ?_) (fun c => ?_)
  ·rw [if_pos c]; refine ev_pos h0 (ev_pos h1 ?_); rw [DecodeRune_at hb h0 c]; refine ev_letv ?_; have hgo : ¬ ((decI (l.drop i.toNat)).1 = 65533 ∧ (decI (l.drop i.toNat)).2 ≤ 1) → Ev (fun k => impl_CheckText.l0 k l (wrap64 (i + (decI (l.drop i.toNat)).2))) (if (chr l i).1 = 0 then (2, i) else checkFrom l d (i + (chr l i).1)) := by
    intro hn; have e : (chr l i).1 = (decI (l.drop i.toNat)).2 := by unfold chr; rw [if_neg hn]
    have hz : ¬ (chr l i).1 = 0 := by
     intro hz; have hq := chr_eq hb h0 c; rw [decI_drop h0 c] at hn; have hw := chrZ_nat (l.length - i.toNat) (rd l i).toNat (rd l (i + 1)).toNat (rd l (i + 2)).toNat (rd l (i + 3)).toNat; rw [if_neg hn] at hw; rw [e, decI_drop h0 c] at hz; simp only at hz; unfold Lib.decodeN at hz; repeat' split at hz
     all_goals simp at hz
    have := chr_pos hb h0 c hz; rw [if_neg hz, ← e, wrap64_id (by omega) (by omega)]; exact ih _ (by omega) (by omega) (by omega)
   refine ev_ite (fun e1 => ev_ite (fun e2 => ?_) (fun e2 => hgo (fun h => e2 h.2))) (fun e1 => hgo (fun h => e1 h.1)); have e : (chr l i).1 = 0 := by unfold chr; rw [if_pos ⟨e1, e2⟩]
   rw [if_pos e]; exact Ev.now _
  ·rw [if_neg c]; exact Ev.now _
theorem impl_CheckText_ev (l : List Int) (hb : Bytes l) (hl : l.length ≤ 9000000000) : Ev (fun k => impl_CheckText.f k l) (checkRes l) := by
 simp only [impl_CheckText.f]; exact impl_check_loop l hb hl (l.length + 1) 0 (by omega) (by omega) (by omega)

def esc (x : Int) : List Int := if x = 34 ∨ x = 92 then [92, x] else if x < 32 ∨ x = 127 then [92, 117, 123] ++ impl_QuoteText.hexL x ++ [125] else [x]
def quoteRes (l : List Int) : List Int := if (checkRes l).1 = 0 then [34] ++ l.flatMap esc ++ [34] else []
theorem esc_len (x : Int) : (esc x).length ≤ 6 := by
 have := impl_QuoteText.hexl x; unfold esc
 split
 ·simp
 ·split
  ·simp; omega
  ·simp
theorem esc_bytes {x : Int} (h : 0 ≤ x ∧ x ≤ 255) : ∀ y ∈ esc x, 0 ≤ y ∧ y ≤ 255 := by
 intro y hy; unfold esc at hy
 split at hy
 ·simp at hy; rcases hy with rfl | rfl <;> omega
 ·split at hy
  ·simp at hy
   rcases hy with rfl | rfl | rfl | hy | rfl
   ·omega
   ·omega
   ·omega
   ·exact impl_QuoteText.hexb x y hy
   ·omega
  ·simp at hy; subst hy; exact h
theorem esc_high {x : Int} (h : 128 ≤ x) : esc x = [x] := by
 unfold esc; rw [if_neg (by omega), if_neg (by omega)]
theorem flat_len (l : List Int) : (l.flatMap esc).length ≤ 6 * l.length := by
 induction l with
 | nil => simp
 | cons x l ih => have := esc_len x; simp only [List.flatMap_cons, List.length_append, List.length_cons]; omega
theorem flat_high : ∀ l : List Int, (∀ x ∈ l, 128 ≤ x) → l.flatMap esc = l
 | [], _ => rfl
 | x :: l, h => by
  rw [List.flatMap_cons, esc_high (h x (by simp)), flat_high l (fun y hy => h y (by simp [hy]))]; rfl
theorem drop_rd {l : List Int} {i : Nat} (h : i < l.length) : l.drop i = rd l i :: l.drop (i + 1) := by
 rw [List.drop_eq_getElem_cons h, rd_get (by omega) (by simpa using h)]
 rfl
theorem digs : ∀ n : Nat, n < 16 → bt (⟨#[48, 49, 50, 51, 52, 53, 54, 55, 56, 57, 97, 98, 99, 100, 101, 102]⟩ : ByteArray) (n : Int) = impl_QuoteText.dgi (n : Int) := by decide
theorem dig (x : Int) (h0 : 0 ≤ x) (h1 : x < 16) : bt (⟨#[48, 49, 50, 51, 52, 53, 54, 55, 56, 57, 97, 98, 99, 100, 101, 102]⟩ : ByteArray) x = impl_QuoteText.dgi x := by
 have := digs x.toNat (by omega)
 rwa [Int.toNat_of_nonneg h0] at this
theorem l1hex_ev (x : Int) (h0 : 0 ≤ x) (h1 : x < 256) : Ev (fun k => spec_l1hex.f k x) (impl_QuoteText.hexL x) := by
 have small : ∀ y : Int, 0 ≤ y → y < 16 → Ev (fun k => spec_l1hex.f k y) [impl_QuoteText.dgi y] := by
  intro y a b; refine Ev.step (fun _ => rfl) ?_; simp only [spec_l1hex.f]; refine ev_pos b (ev_pos a ?_); rw [dig y a b]; exact Ev.now _
 unfold impl_QuoteText.hexL
 split
 ·exact small x h0 ‹_›
 ·refine Ev.step (fun _ => rfl) ?_; simp only [spec_l1hex.f]; rw [tdiv_nn h0, tmod_nn h0, wrap64_id (by omega) (by omega)]; refine ev_neg ‹_› (Ev.bind (small (x / 16) (by omega) (by omega)) (ev_pos (by omega) (ev_pos (by omega) ?_))); rw [dig _ (by omega) (by omega)]; exact ev_letv (ev_pos (by simp) (Ev.now _))
theorem spec_quote_loop (l : List Int) (hb : Bytes l) (hl : l.length ≤ 1048576) (d : Nat) : ∀ (i : Nat) (acc : List Int), i + d = l.length → acc.length + 6 * d ≤ 10000000 → Ev (fun k => spec_QuoteText.l0 k l acc (i : Int)) (acc ++ (l.drop i).flatMap esc ++ [34]) := by
 induction d with
 | zero =>
  intro i acc hi ha; refine Ev.step (fun _ => rfl) ?_; simp only [spec_QuoteText.l0]; refine ev_neg (by omega) (ev_pos (by omega) ?_); rw [List.drop_of_length_le (by omega)]; simp only [List.flatMap_nil, List.append_nil]; exact Ev.now _
 | succ d ih =>
  intro i acc hi ha; have r := hb i (by omega) (by omega); have hdc := drop_rd (l := l) (i := i) (by omega); have hx := l1hex_ev (rd l i) r.1 (by omega); have hxl := impl_QuoteText.hexl (rd l i); have go : ∀ (w : List Int), w = esc (rd l i) → Ev (fun k => spec_QuoteText.l0 k l (acc ++ w) (wrap64 ((i : Int) + 1))) (acc ++ (l.drop i).flatMap esc ++ [34]) := by
   intro w hw; have h6 := esc_len (rd l i); rw [← hw] at h6; rw [wrap64_id (by omega) (by omega)]; have := ih (i + 1) (acc ++ w) (by omega) (by rw [List.length_append]; omega); rw [hdc, List.flatMap_cons, ← hw]; rw [List.append_assoc acc w] at this; exact this
  have jt : (rd l i = 34 ∨ rd l i = 92) → Ev (fun k => spec_QuoteText.j1 k l acc (i : Int) (rd l i) true) (acc ++ (l.drop i).flatMap esc ++ [34]) := by
   intro c; refine Ev.step (fun _ => rfl) ?_; simp only [spec_QuoteText.j1]; refine ev_pos (by trivial) (ev_letv (ev_pos (by simp; omega) ?_)); exact go _ (by unfold esc; rw [if_pos c])
  have jh : ¬ (rd l i = 34 ∨ rd l i = 92) → (rd l i < 32 ∨ rd l i = 127) → Ev (fun k => (some (([92, 117, 123] : List Int) : List Int)).bind fun y => (if acc.length + y.length < 140737488355328 then ((some (acc ++ y : List Int)).bind fun y2 => ((spec_l1hex.f k (wrap64 (rd l i))).bind fun Bf => (if y2.length + Bf.length < 140737488355328 then ((some (y2 ++ Bf : List Int)).bind fun y3 => (if y3.length < 140737488355328 then (spec_QuoteText.l0 k l (y3 ++ [125]) (wrap64 ((i : Int) + 1))) else (none))) else (none)))) else (none))) (acc ++ (l.drop i).flatMap esc ++ [34]) := by
   intro c c2; rw [wrap64_id (by omega) (by omega)]; refine ev_letv (ev_pos (by simp; omega) (ev_letv (Ev.bind hx (ev_pos (by simp; omega) (ev_letv (ev_pos (by simp; omega) ?_)))))); have := go ([92, 117, 123] ++ impl_QuoteText.hexL (rd l i) ++ [125]) (by unfold esc; rw [if_neg c, if_pos c2])
   simpa only [List.append_assoc] using this
  have jf : ¬ (rd l i = 34 ∨ rd l i = 92) → Ev (fun k => spec_QuoteText.j1 k l acc (i : Int) (rd l i) false) (acc ++ (l.drop i).flatMap esc ++ [34]) := by
   intro c; refine Ev.step (fun _ => rfl) ?_; simp only [spec_QuoteText.j1]; refine ev_neg (by simp) (ev_ite (fun c1 => jh c (.inl c1)) (fun c1 => ev_ite (fun c2 => jh c (.inr c2)) (fun c2 => ev_pos (by omega) ?_))); exact go _ (by unfold esc; rw [if_neg c, if_neg (by omega)])
  refine Ev.step (fun _ => rfl) ?_; simp only [spec_QuoteText.l0]; refine ev_pos (by omega) (ev_pos (by omega) (ev_ite (fun c => jt (.inl c)) (fun c => ?_)))
  by_cases c2 : rd l i = 92
  ·rw [show (rd l i == 92) = true from beq_iff_eq.2 c2]; exact jt (.inr c2)
  ·rw [show (rd l i == 92) = false from beq_eq_false_iff_ne.2 c2]; exact jf (by omega)
theorem spec_QuoteText_ev (l : List Int) (hb : Bytes l) (hl : l.length ≤ 1048576) : Ev (fun k => spec_QuoteText.f k l) (quoteRes l) := by
 simp only [spec_QuoteText.f, spec_l1good.f]; refine Ev.bind (Ev.bind (spec_CheckText_ev l hb (by omega)) (Ev.now _)) ?_; unfold quoteRes
 by_cases c : (checkRes l).1 = 0
 ·rw [if_pos c]; refine ev_pos (beq_iff_eq.2 c) ?_; have := spec_quote_loop l hb hl l.length 0 [34] (by omega) (by simp; omega)
  simpa using this
 ·rw [if_neg c]; exact ev_neg (by simpa using c) (Ev.now _)
theorem str_get (l : List Int) (j : Nat) (hb : Bytes l) : (((strOfNums l).get! j).toNat : Int) = rd l j := by
 have e : (strOfNums l).get! j = (strOfNums l).data[j]! := rfl; rw [e]
 by_cases h : j < l.length
 ·have hs : j < (strOfNums l).data.size := by have : (strOfNums l).data.size = l.length := strOfNums_size l; omega
  rw [getElem!_pos (strOfNums l).data j hs]; have r := hb j (by omega) (by omega); simp only [strOfNums, List.getElem_toArray, List.getElem_map, UInt8.toNat_ofNat']; rw [rd_get (by omega) (by simpa using h)] at r ⊢; simp only [Int.toNat_natCast] at r ⊢
  omega
 ·rw [rd_out (by omega), getElem!_neg _ _ (by have : (strOfNums l).data.size = l.length := strOfNums_size l; omega)]
  rfl
theorem dec_at {l : List Int} (hb : Bytes l) {i : Nat} (h1 : i < l.length) : decI (l.drop i) = (((Utf8.decode (strOfNums l) i).1 : Int), ((Utf8.decode (strOfNums l) i).2 : Int)) := by
 have h := decI_drop (l := l) (i := (i : Int)) (by omega) (by omega); rw [Int.toNat_natCast] at h; rw [h, Lib.decode_at, strOfNums_size]; have g : ∀ j : Nat, (rd l (j : Int)).toNat = ((strOfNums l).get! j).toNat := fun j => by rw [← str_get l j hb]; simp
 have g0 := g i; have g1 := g (i + 1); have g2 := g (i + 2); have g3 := g (i + 3); simp only [Int.natCast_add, Int.cast_ofNat_Int] at g1 g2 g3; rw [g0, show (rd l ((i : Int) + 1)).toNat = _ from g1, show (rd l ((i : Int) + 2)).toNat = _ from g2, show (rd l ((i : Int) + 3)).toNat = _ from g3]
theorem chr_enc {l : List Int} (hb : Bytes l) {i : Nat} (h1 : i < l.length) (hz : ¬ (chr l i).1 = 0) :
  ((chr l i).1 = 1 ∧ (chr l i).2 = rd l i ∧ rd l i < 128) ∨ (128 ≤ (chr l i).2 ∧ (chr l i).2 ≤ 1114111 ∧ Lib.encodeRuneZ (chr l i).2 = (l.drop i).take (chr l i).1.toNat ∧ ∀ x ∈ (l.drop i).take (chr l i).1.toNat, 128 ≤ x) := by
 have r0 := hb.rd (show 0 ≤ (i : Int) by omega); have r1 := hb.rd (show 0 ≤ (i : Int) + 1 by omega); have r2 := hb.rd (show 0 ≤ (i : Int) + 2 by omega); have r3 := hb.rd (show 0 ≤ (i : Int) + 3 by omega); have t1 : ∀ n, (l.drop i).take (n + 1) = rd l i :: (l.drop (i + 1)).take n := fun n => by rw [drop_rd h1]; rfl
 have t2 : i + 1 < l.length → ∀ n, (l.drop (i + 1)).take (n + 1) = rd l ((i : Int) + 1) :: (l.drop (i + 2)).take n := fun h n => by rw [drop_rd h]; rfl
 have t3 : i + 2 < l.length → ∀ n, (l.drop (i + 2)).take (n + 1) = rd l ((i : Int) + 2) :: (l.drop (i + 3)).take n := fun h n => by rw [drop_rd h]; rfl
 have t4 : i + 3 < l.length → ∀ n, (l.drop (i + 3)).take (n + 1) = rd l ((i : Int) + 3) :: (l.drop (i + 4)).take n := fun h n => by rw [drop_rd h]; rfl
 rw [chr_eq hb (by omega) (by omega)] at hz ⊢; unfold chrZ at hz ⊢
 by_cases c0 : rd l i < 128
 ·rw [if_pos c0]; exact .inl ⟨rfl, rfl, c0⟩
 rw [if_neg c0] at hz ⊢
 right
 split at hz
 ·rename_i c; rw [if_pos c]
  split at hz
  ·rename_i q; rw [if_pos q]; simp only; refine ⟨by omega, by omega, ?_, ?_⟩
   ·rw [show ((2 : Int).toNat) = 1 + 1 from rfl, t1, t2 (by omega), Lib.encodeRuneZ_two (by omega) (by omega)]; simp only [List.take_zero, List.cons.injEq, and_true]
    omega
   ·rw [show ((2 : Int).toNat) = 1 + 1 from rfl, t1, t2 (by omega)]; simp only [List.take_zero, List.mem_cons, List.not_mem_nil, or_false]
    omega
  ·exact absurd rfl hz
 ·rename_i c; rw [if_neg c]
  split at hz
  ·rename_i c; rw [if_pos c]
   split at hz
   ·rename_i q; rw [if_pos q]; simp only; refine ⟨by omega, by omega, ?_, ?_⟩
    ·rw [show ((3 : Int).toNat) = 2 + 1 from rfl, t1, t2 (by omega), t3 (by omega)]; unfold Lib.encodeRuneZ; rw [if_neg (by omega), if_neg (by omega), if_pos (by omega)]; simp only [List.take_zero, List.cons.injEq, and_true]
     omega
    ·rw [show ((3 : Int).toNat) = 2 + 1 from rfl, t1, t2 (by omega), t3 (by omega)]; simp only [List.take_zero, List.mem_cons, List.not_mem_nil, or_false]
     omega
   ·exact absurd rfl hz
  ·rename_i c; rw [if_neg c]
   split at hz
   ·rename_i c; rw [if_pos c]
    split at hz
    ·rename_i q; rw [if_pos q]; simp only; refine ⟨by omega, by omega, ?_, ?_⟩
     ·rw [show ((4 : Int).toNat) = 3 + 1 from rfl, t1, t2 (by omega), t3 (by omega), t4 (by omega)]; unfold Lib.encodeRuneZ; rw [if_neg (by omega), if_neg (by omega), if_neg (by omega), if_pos (by omega)]; simp only [List.take_zero, List.cons.injEq, and_true]
      omega
     ·rw [show ((4 : Int).toNat) = 3 + 1 from rfl, t1, t2 (by omega), t3 (by omega), t4 (by omega)]; simp only [List.take_zero, List.mem_cons, List.not_mem_nil, or_false]
      omega
    ·exact absurd rfl hz
   ·exact absurd rfl hz
theorem lq_eq (l : List Int) (hb : Bytes l) (d : Nat) : ∀ (i : Nat) (acc : List Int), i ≤ l.length → l.length - i < d → (checkFrom l d i).1 = 0 → acc.length + 6 * (l.length - i) ≤ 50000000000 →
  impl_QuoteText.lq (strOfNums l) d i acc = some (acc ++ (l.drop i).flatMap esc) := by
 induction d with
 | zero => intro i acc hi hd; omega
 | succ d ih =>
  intro i acc hi hd hc ha; rw [impl_QuoteText.lq, strOfNums_size]; unfold checkFrom at hc
  by_cases h : i < l.length
  ·rw [if_pos h]; rw [if_pos (by omega)] at hc; have hz : ¬ (chr l i).1 = 0 := fun e => by rw [if_pos e] at hc; exact absurd hc (by simp)
   rw [if_neg hz] at hc; have hp := chr_pos hb (show 0 ≤ (i : Int) by omega) (by omega) hz; have he := chr_enc hb h hz; have hd1 := dec_at hb h; have hch : chr l i = (((Utf8.decode (strOfNums l) i).2 : Int), ((Utf8.decode (strOfNums l) i).1 : Int)) := by
    unfold chr at hz ⊢; rw [Int.toNat_natCast] at hz ⊢
    split
    ·rename_i c; rw [if_pos c] at hz; exact absurd rfl hz
    ·rw [hd1]
   have hn : ((chr l i).1) = ((Utf8.decode (strOfNums l) i).2 : Int) := by rw [hch]
   have hr : ((Utf8.decode (strOfNums l) i).1 : Int) = (chr l i).2 := by rw [hch]
   generalize hN : (Utf8.decode (strOfNums l) i).2 = n at hn ⊢; rw [show ((i : Int) + (chr l i).1) = ((i + n : Nat) : Int) by omega] at hc; have hdr : (l.drop i).flatMap esc = ((l.drop i).take n).flatMap esc ++ (l.drop (i + n)).flatMap esc := by
    rw [← List.flatMap_append]
    congr 1
    rw [← List.drop_drop, List.take_append_drop]
   have htl : ((l.drop i).take n).length = n := by rw [List.length_take, List.length_drop]; omega
   have next : ∀ w, w = ((l.drop i).take n).flatMap esc → impl_QuoteText.lq (strOfNums l) d (i + n) (acc ++ w) = some (acc ++ (l.drop i).flatMap esc) := by
    intro w hw; have hwl := flat_len ((l.drop i).take n); rw [← hw, htl] at hwl; rw [ih (i + n) (acc ++ w) (by omega) (by omega) hc (by rw [List.length_append]; omega), hdr, ← hw, List.append_assoc]
   rw [if_pos ⟨by omega, by rcases he with ⟨_, e, _⟩ | ⟨_, e, _⟩ <;> omega⟩]; rw [hr]
   rcases he with ⟨e1, e2, e3⟩ | ⟨e1, e2, e3, e4⟩
   ·have n1 : n = 1 := by omega
    have hw : ((l.drop i).take n).flatMap esc = esc (rd l i) := by
     rw [n1, drop_rd h]; simp
    rw [e2]
    by_cases c : rd l i = 34 ∨ rd l i = 92
    ·rw [if_pos c]; exact next _ (by rw [hw]; unfold esc; rw [if_pos c])
    ·rw [if_neg c]
     by_cases c2 : rd l i < 32 ∨ rd l i = 127
     ·rw [if_pos c2]; exact next _ (by rw [hw]; unfold esc; rw [if_neg c, if_pos c2])
     ·rw [if_neg c2]; have r := hb i (by omega) (by omega); exact next _ (by rw [hw, Lib.encodeRuneZ_one r.1 (by omega)]; unfold esc; rw [if_neg c, if_neg c2])
   ·rw [if_neg (by omega), if_neg (by omega)]; have en : (chr l i).1.toNat = n := by omega
    rw [en] at e3 e4; exact next _ (by rw [e3, flat_high _ e4])
  ·rw [if_neg h, List.drop_of_length_le (by omega)]; simp
theorem impl_QuoteText_ev (l : List Int) (hb : Bytes l) (hl : l.length ≤ 1048576) : Ev (fun k => impl_QuoteText.f k l) (quoteRes l) := by
 simp only [impl_QuoteText.f, impl_wellFormed.f]; refine Ev.bind (Ev.bind (impl_CheckText_ev l hb (by omega)) (Ev.now _)) ?_; unfold quoteRes
 by_cases c : (checkRes l).1 = 0
 ·rw [if_pos c]; refine ev_pos (beq_iff_eq.2 c) (ev_pos (by omega) ?_); have h := lq_eq l hb (l.length + 1) 0 [34] (by omega) (by omega) c (by simp; omega); rw [h, List.drop_zero]; refine ev_letv (ev_pos ⟨?_, ?_⟩ (Ev.now _))
  ·have := flat_len l; simp only [List.length_append, List.length_cons, List.length_nil]; omega
  ·rw [List.all_eq_true]; intro x hx
   rcases List.mem_append.1 hx with h | h
   ·simp at h; subst h; decide
   ·obtain ⟨y, hy, hx⟩ := List.mem_flatMap.1 h; obtain ⟨j, hj, rfl⟩ := List.getElem_of_mem hy; have r := hb (j : Int) (by omega) (by omega); rw [rd_get (by omega) (by simpa using hj)] at r; simp only [Int.toNat_natCast] at r
    simpa using esc_bytes r x hx
 ·rw [if_neg c]; exact ev_neg (by simpa using c) (Ev.now _)
theorem quoteRes_len (l : List Int) : (quoteRes l).length ≤ 6 * l.length + 2 := by
 have := flat_len l; unfold quoteRes
 split
 ·simp only [List.length_append, List.length_cons, List.length_nil]; omega
 ·simp

theorem FnExactQuoteText : laws_FnExactQuoteText.Pure := by
 intro l0 w0; have hm : l0.length ≤ 9223372036854775807 := w0.1; have hb := Bytes.of w0; refine Ev.rounds (g := fun k => laws_FnExactQuoteText.f k l0) ?_; simp only [laws_FnExactQuoteText.f]; refine ev_ite (fun _ => Ev.now _) (fun hc => ?_); have e1 := toByteS_ev l0 (by omega); have e2 := spec_QuoteText_ev l0 hb (by omega); have e3 := impl_QuoteText_ev l0 hb (by omega); have ql := quoteRes_len l0; have e4 := eqByteS_self (quoteRes l0) (by omega); have e5 := eqByteS_self l0 (by omega); have e6 := markByteS_ev l0 1 (by omega) (by omega); have e7 := markByteS_ev (quoteRes l0) 1 (by omega) (by omega); have e8 := heldByteS_ev (quoteRes l0).length 1 (by omega) (by omega); refine Ev.bind e1 (Ev.bind e2 (Ev.bind e1 (Ev.bind e3 (Ev.bind e4 (ev_pos (by trivial) (Ev.bind e1 (Ev.bind e5 (ev_pos (by trivial) (Ev.bind e6 (ev_neg (by simp only; omega) (Ev.bind e4 ?_))))))))))); refine Ev.step (fun _ => rfl) ?_; simp only [laws_FnExactQuoteText.j0]; exact ev_neg (by simp) (Ev.bind e7 (Ev.bind e8 (ev_neg (by omega) (ev_pos (by trivial) (Ev.bind e1 (Ev.bind e3 (Ev.bind e4 (ev_pos (by trivial) (Ev.bind e8 (ev_neg (by omega) (ev_pos (by trivial) (Ev.now _))))))))))))

end Go.Proofs.YtiboccbaaphbhaaDoor.Pure
