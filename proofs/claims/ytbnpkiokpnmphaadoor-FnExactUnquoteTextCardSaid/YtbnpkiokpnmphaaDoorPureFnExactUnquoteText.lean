/- The program's UnquoteText returns what the reference's returns, for all bytes: the library's tables of UTF-8 hold what their initialisers lay. -/
import Derived.Test.YtbnpkiokpnmphaaDoorQFnExactUnquoteText
namespace Go.Proofs.YtbnpkiokpnmphaaDoor.Pure
set_option linter.unusedVariables false
set_option linter.unusedSimpArgs false
set_option linter.unusedSectionVars false
open Go.RowKit Go.Proofs.YtbnpkiokpnmphaaDoor.PFnExactUnquoteText Go.Proofs.YtbnpkiokpnmphaaDoorW.PrintWords Go.Proofs.YtbnpkiokpnmphaaDoorW.PrintLast Go.Proofs.YtbnpkiokpnmphaaDoorW.PrintMore
section EvLib
variable {α β : Type}
theorem ev_pos {c : Prop} [Decidable c] {A B : Nat → Option α} {r : α} (h : c) (k : Ev A r) : Ev (fun n => if c then A n else B n) r :=
  Ev.congr (fun _ => if_pos h) k
theorem ev_neg {c : Prop} [Decidable c] {A B : Nat → Option α} {r : α} (h : ¬ c) (k : Ev B r) : Ev (fun n => if c then A n else B n) r :=
  Ev.congr (fun _ => if_neg h) k
theorem ev_ite {c : Prop} [Decidable c] {A B : Nat → Option α} {r : α} (h1 : c → Ev A r) (h2 : ¬ c → Ev B r) : Ev (fun n => if c then A n else B n) r := by
  by_cases h : c
  · exact ev_pos h (h1 h)
  · exact ev_neg h (h2 h)
theorem ev_letv {a : α} {f : Nat → α → Option β} {r : β} (k : Ev (fun n => f n a) r) : Ev (fun n => (some a).bind (f n)) r := Ev.bind (Ev.now a) k
end EvLib
theorem wrap64_id {x : Int} (h0 : -9223372036854775808 ≤ x) (h1 : x ≤ 9223372036854775807) : wrap64 x = x := by unfold wrap64; omega
theorem tdiv_nn {x y : Int} (h0 : 0 ≤ x) : Int.tdiv x y = x / y := Int.tdiv_eq_ediv_of_nonneg h0
theorem tmod_nn {x y : Int} (h0 : 0 ≤ x) : Int.tmod x y = x % y := Int.tmod_eq_emod_of_nonneg h0
theorem rd_nat (l : List Int) (i : Nat) : rd l (i : Int) = l.getD i 0 := by simp [rd]
theorem rd_get {l : List Int} {i : Int} (h0 : 0 ≤ i) (h1 : i.toNat < l.length) : rd l i = l[i.toNat] := by
  unfold rd; rw [List.getD_eq_getElem?_getD, List.getElem?_eq_getElem h1]; rfl
theorem rd_mem {l : List Int} {i : Int} (h0 : 0 ≤ i) (h1 : i < l.length) : rd l i ∈ l := by
  have h : i.toNat < l.length := by omega
  rw [rd_get h0 h]; exact List.getElem_mem h
theorem rd_set_eq {l : List Int} {i : Int} {v : Int} (h0 : 0 ≤ i) (h1 : i < l.length) : rd (l.set i.toNat v) i = v := by
  have h : i.toNat < l.length := by omega
  unfold rd; rw [List.getD_eq_getElem?_getD, List.getElem?_set_self h]; rfl
theorem rd_set_ne {l : List Int} {i j : Int} {v : Int} (h0 : 0 ≤ i) (h1 : 0 ≤ j) (h : i ≠ j) : rd (l.set i.toNat v) j = rd l j := by
  unfold rd; rw [List.getD_eq_getElem?_getD, List.getElem?_set_ne (by omega), ← List.getD_eq_getElem?_getD]
theorem rd_ext {l m : List Int} (h : l.length = m.length) (e : ∀ i : Int, 0 ≤ i → i < l.length → rd l i = rd m i) : l = m := by
  apply List.ext_getElem h; intro i h1 h2; have := e i (by omega) (by omega); rw [rd_get (by omega) (by simpa using h1), rd_get (by omega) (by simpa using h2)] at this
  simpa using this

theorem wf_u8 {x : Int} (h : (Lit.int .u8 x).wf = true) : 0 ≤ x ∧ x ≤ 255 := by
  simp [Lit.wf, IntKind.min, IntKind.max, IntKind.signed, IntKind.bits] at h; omega
theorem bytes_of {l : List Int} (h : ∀ x ∈ l, (Lit.int .u8 x).wf = true) : ∀ i : Int, 0 ≤ i → i < l.length → 0 ≤ rd l i ∧ rd l i ≤ 255 :=
  fun i h0 h1 => wf_u8 (h _ (rd_mem h0 h1))
theorem rd_drop (l : List Int) (i : Nat) (j : Int) (h : 0 ≤ j) : rd (l.drop i) j = rd l (i + j) := by
  unfold rd; rw [List.getD_eq_getElem?_getD, List.getElem?_drop, List.getD_eq_getElem?_getD, show ((i : Int) + j).toNat = i + j.toNat by omega]
theorem decI_drop {l : List Int} {i : Int} (h0 : 0 ≤ i) (h1 : i < l.length) : decI (l.drop i.toNat) =
    ((((Lib.decodeN (l.length - i.toNat) (rd l i).toNat (rd l (i + 1)).toNat (rd l (i + 2)).toNat (rd l (i + 3)).toNat).1 : Nat) : Int), (((Lib.decodeN (l.length - i.toNat) (rd l i).toNat (rd l (i + 1)).toNat (rd l (i + 2)).toNat (rd l (i + 3)).toNat).2 : Nat) : Int)) := by
  unfold decI; rw [List.length_drop, if_neg (by omega)]; rw [rd_drop _ _ _ (by omega), rd_drop _ _ _ (by omega), rd_drop _ _ _ (by omega), rd_drop _ _ _ (by omega), show ((i.toNat : Nat) : Int) = i by omega, Int.add_zero]
def chr (l : List Int) (i : Int) : Int × Int :=
  if (decI (l.drop i.toNat)).1 = 65533 ∧ (decI (l.drop i.toNat)).2 ≤ 1 then (0, 0) else ((decI (l.drop i.toNat)).2, (decI (l.drop i.toNat)).1)
def Bytes (l : List Int) : Prop := ∀ i : Int, 0 ≤ i → i < l.length → 0 ≤ rd l i ∧ rd l i ≤ 255
theorem rd_out {l : List Int} {i : Int} (h : (l.length : Int) ≤ i) : rd l i = 0 := by
  unfold rd; rw [List.getD_eq_getElem?_getD, List.getElem?_eq_none (by omega)]; rfl
theorem Bytes.rd {l : List Int} (hb : Bytes l) {i : Int} (h0 : 0 ≤ i) : 0 ≤ rd l i ∧ rd l i ≤ 255 := by
  by_cases h : i < l.length
  · exact hb i h0 h
  · rw [rd_out (by omega)]; omega
theorem bytesB_of {l : List Int} (hb : Bytes l) : bytesB l = true := by
  unfold bytesB; rw [List.all_eq_true]; intro x hx; obtain ⟨j, hj, e⟩ := List.getElem_of_mem hx; have := hb (j : Int) (by omega) (by omega); rw [rd_get (by omega) (by simpa using hj)] at this; simp only [Int.toNat_natCast] at this; rw [e] at this; simp only [Bool.and_eq_true, decide_eq_true_eq]; exact this
theorem Bytes.drop {l : List Int} (hb : Bytes l) (i : Nat) : Bytes (l.drop i) := by
  intro j h0 h1; rw [List.length_drop] at h1; rw [rd_drop _ _ _ h0]; exact hb _ (by omega) (by omega)
def chrZ (n b0 b1 b2 b3 : Int) : Int × Int :=
  if b0 < 128 then (1, b0)
      else if b0 / 32 = 6 ∧ (1 < n ∧ b1 / 64 = 2) then (if b0 % 32 * 64 + b1 % 64 ≥ 128 then (2, b0 % 32 * 64 + b1 % 64) else (0, 0))
      else if b0 / 16 = 14 ∧ (1 < n ∧ b1 / 64 = 2) ∧ (2 < n ∧ b2 / 64 = 2) then
        (if b0 % 16 * 4096 + b1 % 64 * 64 + b2 % 64 ≥ 2048 ∧ (b0 % 16 * 4096 + b1 % 64 * 64 + b2 % 64 < 55296 ∨ 57344 ≤ b0 % 16 * 4096 + b1 % 64 * 64 + b2 % 64) then (3, b0 % 16 * 4096 + b1 % 64 * 64 + b2 % 64) else (0, 0))
      else if b0 / 8 = 30 ∧ (1 < n ∧ b1 / 64 = 2) ∧ (2 < n ∧ b2 / 64 = 2) ∧ (3 < n ∧ b3 / 64 = 2) then
        (if b0 % 8 * 262144 + b1 % 64 * 4096 + b2 % 64 * 64 + b3 % 64 ≥ 65536 ∧ b0 % 8 * 262144 + b1 % 64 * 4096 + b2 % 64 * 64 + b3 % 64 ≤ 1114111 then (4, b0 % 8 * 262144 + b1 % 64 * 4096 + b2 % 64 * 64 + b3 % 64) else (0, 0))
      else (0, 0)
theorem chrZ_nat (n c0 c1 c2 c3 : Nat) : (if (((Lib.decodeN n c0 c1 c2 c3).1 : Nat) : Int) = 65533 ∧ (((Lib.decodeN n c0 c1 c2 c3).2 : Nat) : Int) ≤ 1 then ((0 : Int), (0 : Int)) else ((((Lib.decodeN n c0 c1 c2 c3).2 : Nat) : Int), (((Lib.decodeN n c0 c1 c2 c3).1 : Nat) : Int)))
    = chrZ n c0 c1 c2 c3 := by
  by_cases h1 : c0 < 128
  · have hd : Lib.decodeN n c0 c1 c2 c3 = (c0, 1) := by unfold Lib.decodeN; rw [if_pos h1]
    rw [hd, if_neg (by simp only; omega)]; unfold chrZ; rw [if_pos (by omega)]; rfl
  by_cases h2 : c0 / 32 = 6 ∧ (1 < n ∧ c1 / 64 = 2)
  · by_cases h3 : c0 % 32 * 64 + c1 % 64 ≥ 128
    · have hd : Lib.decodeN n c0 c1 c2 c3 = (c0 % 32 * 64 + c1 % 64, 2) := by unfold Lib.decodeN; rw [if_neg h1, if_pos h2, if_pos h3]
      rw [hd, if_neg (by simp only; omega)]; unfold chrZ; rw [if_neg (by omega), if_pos (by omega), if_pos (by omega)]; simp
    · have hd : Lib.decodeN n c0 c1 c2 c3 = (65533, 1) := by unfold Lib.decodeN; rw [if_neg h1, if_pos h2, if_neg h3]
      rw [hd, if_pos (by simp)]; unfold chrZ; rw [if_neg (by omega), if_pos (by omega), if_neg (by omega)]
  by_cases h4 : c0 / 16 = 14 ∧ (1 < n ∧ c1 / 64 = 2) ∧ (2 < n ∧ c2 / 64 = 2)
  · by_cases h5 : c0 % 16 * 4096 + c1 % 64 * 64 + c2 % 64 ≥ 2048 ∧ (c0 % 16 * 4096 + c1 % 64 * 64 + c2 % 64 < 55296 ∨ (57344 ≤ c0 % 16 * 4096 + c1 % 64 * 64 + c2 % 64 ∧ c0 % 16 * 4096 + c1 % 64 * 64 + c2 % 64 ≤ 1114111))
    · have hd : Lib.decodeN n c0 c1 c2 c3 = (c0 % 16 * 4096 + c1 % 64 * 64 + c2 % 64, 3) := by unfold Lib.decodeN; rw [if_neg h1, if_neg h2, if_pos h4, if_pos h5]
      rw [hd, if_neg (by simp only; omega)]; unfold chrZ; rw [if_neg (by omega), if_neg (by omega), if_pos (by omega), if_pos (by omega)]; simp
    · have hd : Lib.decodeN n c0 c1 c2 c3 = (65533, 1) := by unfold Lib.decodeN; rw [if_neg h1, if_neg h2, if_pos h4, if_neg h5]
      rw [hd, if_pos (by simp)]; unfold chrZ; rw [if_neg (by omega), if_neg (by omega), if_pos (by omega), if_neg (by omega)]
  by_cases h6 : c0 / 8 = 30 ∧ (1 < n ∧ c1 / 64 = 2) ∧ (2 < n ∧ c2 / 64 = 2) ∧ (3 < n ∧ c3 / 64 = 2)
  · by_cases h7 : c0 % 8 * 262144 + c1 % 64 * 4096 + c2 % 64 * 64 + c3 % 64 ≥ 65536 ∧ (c0 % 8 * 262144 + c1 % 64 * 4096 + c2 % 64 * 64 + c3 % 64 < 55296 ∨ (57344 ≤ c0 % 8 * 262144 + c1 % 64 * 4096 + c2 % 64 * 64 + c3 % 64 ∧ c0 % 8 * 262144 + c1 % 64 * 4096 + c2 % 64 * 64 + c3 % 64 ≤ 1114111))
    · have hd : Lib.decodeN n c0 c1 c2 c3 = (c0 % 8 * 262144 + c1 % 64 * 4096 + c2 % 64 * 64 + c3 % 64, 4) := by unfold Lib.decodeN; rw [if_neg h1, if_neg h2, if_neg h4, if_pos h6, if_pos h7]
      rw [hd, if_neg (by simp only; omega)]; unfold chrZ; rw [if_neg (by omega), if_neg (by omega), if_neg (by omega), if_pos (by omega), if_pos (by omega)]; simp
    · have hd : Lib.decodeN n c0 c1 c2 c3 = (65533, 1) := by unfold Lib.decodeN; rw [if_neg h1, if_neg h2, if_neg h4, if_pos h6, if_neg h7]
      rw [hd, if_pos (by simp)]; unfold chrZ; rw [if_neg (by omega), if_neg (by omega), if_neg (by omega), if_pos (by omega), if_neg (by omega)]
  have hd : Lib.decodeN n c0 c1 c2 c3 = (65533, 1) := by unfold Lib.decodeN; rw [if_neg h1, if_neg h2, if_neg h4, if_neg h6]
  rw [hd, if_pos (by simp)]; unfold chrZ; rw [if_neg (by omega), if_neg (by omega), if_neg (by omega), if_neg (by omega)]
theorem chr_eq {l : List Int} (hb : Bytes l) {i : Int} (h0 : 0 ≤ i) (h1 : i < l.length) : chr l i = chrZ ((l.length : Int) - i) (rd l i) (rd l (i + 1)) (rd l (i + 2)) (rd l (i + 3)) := by
  have r0 := hb.rd h0; have r1 := hb.rd (show 0 ≤ i + 1 by omega); have r2 := hb.rd (show 0 ≤ i + 2 by omega); have r3 := hb.rd (show 0 ≤ i + 3 by omega); unfold chr; rw [decI_drop h0 h1]; simp only; rw [chrZ_nat, Int.toNat_of_nonneg r0.1, Int.toNat_of_nonneg r1.1, Int.toNat_of_nonneg r2.1, Int.toNat_of_nonneg r3.1, show ((l.length - i.toNat : Nat) : Int) = (l.length : Int) - i by omega]

theorem Bytes.of {l : List Int} (h : Open.wfL (Open.wfI .u8) l) : Bytes l := bytes_of h.2

theorem toByteS_loop (x0 : List Int) (hb : x0.length ≤ 281474976710656) (d : Nat) : ∀ (x3 : List Int) (i : Int), 0 ≤ i → x3.length = x0.length → (x0.length : Int) - i = d →
    (∀ j : Int, 0 ≤ j → j < i → rd x3 j = rd x0 j) → Ev (fun k => laws_toByteS.l0 k x0 x3 i) x0 := by
  induction d with
  | zero =>
    intro x3 i h0 hl hd he; refine Ev.step (fun _ => rfl) ?_; simp only [laws_toByteS.l0]; refine ev_neg (by omega) ?_; have : x3 = x0 := rd_ext hl (fun j a b => he j a (by omega)); rw [this]; exact Ev.now _
  | succ d ih =>
    intro x3 i h0 hl hd he; refine Ev.step (fun _ => rfl) ?_; simp only [laws_toByteS.l0]; refine ev_pos (by omega) (ev_pos (by omega) (ev_pos (by omega) ?_)); rw [wrap64_id (by omega) (by omega)]; refine ih _ _ (by omega) (by simpa using hl) (by omega) ?_; intro j a b
    by_cases e : j = i
    · subst e; exact rd_set_eq (by omega) (by omega)
    · rw [rd_set_ne (by omega) (by omega) (by omega)]; exact he j a (by omega)
theorem toByteS_ev (l : List Int) (hb : l.length ≤ 281474976710656) : Ev (fun k => laws_toByteS.f k l) l := by
  simp only [laws_toByteS.f]; refine ev_pos (by omega) (ev_pos (by omega) ?_); exact toByteS_loop l hb l.length _ 0 (by omega) (by simp) (by omega) (fun j a b => by omega)

theorem eqByteS_loop (a b : List Int) (hl : a.length = b.length) (hb : a.length ≤ 9223372036854775800) (d : Nat) : ∀ (i : Int), 0 ≤ i → (a.length : Int) - i = d →
    (∀ j : Int, 0 ≤ j → j < i → rd a j = rd b j) → Ev (fun k => laws_eqByteS.l0 k a b i) (decide (a = b)) := by
  induction d with
  | zero =>
    intro i h0 hd he; refine Ev.step (fun _ => rfl) ?_; simp only [laws_eqByteS.l0]; refine ev_neg (by omega) ?_; have : a = b := rd_ext hl (fun j p q => he j p (by omega)); rw [decide_eq_true this]; exact Ev.now _
  | succ d ih =>
    intro i h0 hd he; refine Ev.step (fun _ => rfl) ?_; simp only [laws_eqByteS.l0]; refine ev_pos (by omega) (ev_pos (by omega) (ev_pos (by omega) (ev_ite (fun e => ?_) (fun e => ?_))))
    · rw [wrap64_id (by omega) (by omega)]; refine ih _ (by omega) (by omega) ?_; intro j p q
      by_cases e' : j = i
      · subst e'; exact e
      · exact he j p (by omega)
    · have : a ≠ b := fun h => e (by rw [h])
      rw [decide_eq_false this]; exact Ev.now _
theorem eqByteS_ev (a b : List Int) (hb : a.length ≤ 9223372036854775800) : Ev (fun k => laws_eqByteS.f k a b) (decide (a = b)) := by
  simp only [laws_eqByteS.f]; refine ev_ite (fun e => ?_) (fun e => ?_)
  · exact eqByteS_loop a b (by omega) hb a.length 0 (by omega) (by omega) (fun j p q => by omega)
  · have : a ≠ b := fun h => e (by rw [h])
    rw [decide_eq_false this]; exact Ev.now _
theorem eqByteS_self (a : List Int) (hb : a.length ≤ 9223372036854775800) : Ev (fun k => laws_eqByteS.f k a a) true := by
  have := eqByteS_ev a a hb
  rwa [decide_eq_true rfl] at this

def upbyte (a : Int) (n : Nat) : List Int := (List.range n).map (fun (j : Nat) => (a + (j : Int)) % 256)
theorem upbyte_length (a : Int) (n : Nat) : (upbyte a n).length = n := by simp [upbyte]
theorem upbyte_rd {a : Int} {n : Nat} {i : Int} (h0 : 0 ≤ i) (h1 : i < n) : rd (upbyte a n) i = (a + i) % 256 := by
  rw [rd_get h0 (by rw [upbyte_length]; omega)]; simp only [upbyte, List.getElem_map, List.getElem_range]; omega

theorem markByteS_loop (n : Nat) (a : Int) (ha : 0 ≤ a) (hn : a + n ≤ 9223372036854775807) (d : Nat) : ∀ (x : List Int) (i : Int), 0 ≤ i → x.length = n → (n : Int) - i = d →
    (∀ j : Int, 0 ≤ j → j < i → rd x j = (a + j) % 256) → Ev (fun k => laws_markByteS.l0 k x (a + i) i) (a + n, upbyte a n) := by
  induction d with
  | zero =>
    intro x i h0 hl hd he; refine Ev.step (fun _ => rfl) ?_; simp only [laws_markByteS.l0]; refine ev_neg (by omega) ?_; have e1 : x = upbyte a n := rd_ext (by rw [hl, upbyte_length]) (fun j p q => by rw [he j p (by omega), upbyte_rd p (by omega)]); have e2 : i = n := by omega
    rw [e1, e2]; exact Ev.now _
  | succ d ih =>
    intro x i h0 hl hd he; refine Ev.step (fun _ => rfl) ?_; simp only [laws_markByteS.l0]; refine ev_pos (by omega) (ev_pos (by omega) ?_); rw [wrap64_id (by omega) (by omega), wrap64_id (by omega) (by omega), show a + i + 1 = a + (i + 1) by omega]; refine ih _ _ (by omega) (by simpa using hl) (by omega) ?_; intro j p q
    by_cases e : j = i
    · subst e; exact rd_set_eq (by omega) (by omega)
    · rw [rd_set_ne (by omega) (by omega) (by omega)]; exact he j p (by omega)
theorem markByteS_ev (l : List Int) (a : Int) (ha : 0 ≤ a) (hn : a + l.length ≤ 9223372036854775807) : Ev (fun k => laws_markByteS.f k l a) (a + l.length, upbyte a l.length) := by
  have := markByteS_loop l.length a ha hn l.length l 0 (by omega) rfl (by omega) (fun j p q => by omega)
  simpa only [laws_markByteS.f, Int.add_zero] using this

theorem heldByteS_loop (n : Nat) (a : Int) (ha : 0 ≤ a) (hn : a + n ≤ 9223372036854775807) (d : Nat) : ∀ (i : Int), 0 ≤ i → (n : Int) - i = d →
    Ev (fun k => laws_heldByteS.l0 k (upbyte a n) (a + i) i) (a + n) := by
  induction d with
  | zero =>
    intro i h0 hd; refine Ev.step (fun _ => rfl) ?_; simp only [laws_heldByteS.l0, upbyte_length]; refine ev_neg (by omega) ?_; have e2 : i = n := by omega
    rw [e2]; exact Ev.now _
  | succ d ih =>
    intro i h0 hd; refine Ev.step (fun _ => rfl) ?_; simp only [laws_heldByteS.l0, upbyte_length]; refine ev_pos (by omega) (ev_pos (by omega) (ev_pos (upbyte_rd h0 (by omega)) ?_)); rw [wrap64_id (by omega) (by omega), wrap64_id (by omega) (by omega), show a + i + 1 = a + (i + 1) by omega]; exact ih _ (by omega) (by omega)
theorem heldByteS_ev (n : Nat) (a : Int) (ha : 0 ≤ a) (hn : a + n ≤ 9223372036854775807) : Ev (fun k => laws_heldByteS.f k (upbyte a n) a) (a + n) := by
  have := heldByteS_loop n a ha hn n 0 (by omega) (by omega)
  simpa only [laws_heldByteS.f, Int.add_zero] using this

theorem DecodeRune_at {l : List Int} (hb : Bytes l) {i : Int} (h0 : 0 ≤ i) (h1 : i < l.length) : utf8_DecodeRune.f (l.drop i.toNat) = some (decI (l.drop i.toNat)) := by
  unfold utf8_DecodeRune.f; rw [if_neg (by rw [List.length_drop]; omega), if_pos (bytesB_of (hb.drop _))]
theorem chr_pos {l : List Int} (hb : Bytes l) {i : Int} (h0 : 0 ≤ i) (h1 : i < l.length) (h : ¬ (chr l i).1 = 0) : 1 ≤ (chr l i).1 ∧ (chr l i).1 ≤ 4 ∧ i + (chr l i).1 ≤ l.length := by
  rw [chr_eq hb h0 h1] at h ⊢; unfold chrZ at h ⊢
  split at h
  · rename_i c; rw [if_pos c]; simp only; omega
  · rename_i c; rw [if_neg c]
    split at h
    · rename_i c; rw [if_pos c]
      split at h
      · rename_i c2; rw [if_pos c2]; simp only; omega
      · simp at h
    · rename_i c; rw [if_neg c]
      split at h
      · rename_i c; rw [if_pos c]
        split at h
        · rename_i c2; rw [if_pos c2]; simp only; omega
        · simp at h
      · rename_i c; rw [if_neg c]
        split at h
        · rename_i c; rw [if_pos c]
          split at h
          · rename_i c2; rw [if_pos c2]; simp only; omega
          · simp at h
        · simp at h

theorem drop_rd {l : List Int} {i : Nat} (h : i < l.length) : l.drop i = rd l i :: l.drop (i + 1) := by
  rw [List.drop_eq_getElem_cons h, rd_get (by omega) (by simpa using h)]
  rfl
theorem str_get (l : List Int) (j : Nat) (hb : Bytes l) : (((strOfNums l).get! j).toNat : Int) = rd l j := by
  have e : (strOfNums l).get! j = (strOfNums l).data[j]! := rfl; rw [e]
  by_cases h : j < l.length
  · have hs : j < (strOfNums l).data.size := by have : (strOfNums l).data.size = l.length := strOfNums_size l; omega
    rw [getElem!_pos (strOfNums l).data j hs]; have r := hb j (by omega) (by omega); simp only [strOfNums, List.getElem_toArray, List.getElem_map, UInt8.toNat_ofNat']; rw [rd_get (by omega) (by simpa using h)] at r ⊢; simp only [Int.toNat_natCast] at r ⊢
    omega
  · rw [rd_out (by omega), getElem!_neg _ _ (by have : (strOfNums l).data.size = l.length := strOfNums_size l; omega)]
    rfl
theorem dec_at {l : List Int} (hb : Bytes l) {i : Nat} (h1 : i < l.length) : decI (l.drop i) = (((Utf8.decode (strOfNums l) i).1 : Int), ((Utf8.decode (strOfNums l) i).2 : Int)) := by
  have h := decI_drop (l := l) (i := (i : Int)) (by omega) (by omega); rw [Int.toNat_natCast] at h; rw [h, Lib.decode_at, strOfNums_size]; have g : ∀ j : Nat, (rd l (j : Int)).toNat = ((strOfNums l).get! j).toNat := fun j => by rw [← str_get l j hb]; simp
  have g0 := g i; have g1 := g (i + 1); have g2 := g (i + 2); have g3 := g (i + 3); simp only [Int.natCast_add, Int.cast_ofNat_Int] at g1 g2 g3; rw [g0, show (rd l ((i : Int) + 1)).toNat = _ from g1, show (rd l ((i : Int) + 2)).toNat = _ from g2, show (rd l ((i : Int) + 3)).toNat = _ from g3]
theorem chr_enc {l : List Int} (hb : Bytes l) {i : Nat} (h1 : i < l.length) (hz : ¬ (chr l i).1 = 0) :
    ((chr l i).1 = 1 ∧ (chr l i).2 = rd l i ∧ rd l i < 128) ∨ (128 ≤ (chr l i).2 ∧ (chr l i).2 ≤ 1114111 ∧ Lib.encodeRuneZ (chr l i).2 = (l.drop i).take (chr l i).1.toNat ∧ ∀ x ∈ (l.drop i).take (chr l i).1.toNat, 128 ≤ x) := by
  have r0 := hb.rd (show 0 ≤ (i : Int) by omega); have r1 := hb.rd (show 0 ≤ (i : Int) + 1 by omega); have r2 := hb.rd (show 0 ≤ (i : Int) + 2 by omega); have r3 := hb.rd (show 0 ≤ (i : Int) + 3 by omega); have t1 : ∀ n, (l.drop i).take (n + 1) = rd l i :: (l.drop (i + 1)).take n := fun n => by rw [drop_rd h1]; rfl
  have t2 : i + 1 < l.length → ∀ n, (l.drop (i + 1)).take (n + 1) = rd l ((i : Int) + 1) :: (l.drop (i + 2)).take n := fun h n => by rw [drop_rd h]; rfl
  have t3 : i + 2 < l.length → ∀ n, (l.drop (i + 2)).take (n + 1) = rd l ((i : Int) + 2) :: (l.drop (i + 3)).take n := fun h n => by rw [drop_rd h]; rfl
  have t4 : i + 3 < l.length → ∀ n, (l.drop (i + 3)).take (n + 1) = rd l ((i : Int) + 3) :: (l.drop (i + 4)).take n := fun h n => by rw [drop_rd h]; rfl
  rw [chr_eq hb (by omega) (by omega)] at hz ⊢; unfold chrZ at hz ⊢
  by_cases c0 : rd l i < 128
  · rw [if_pos c0]; exact .inl ⟨rfl, rfl, c0⟩
  rw [if_neg c0] at hz ⊢
  right
  split at hz
  · rename_i c; rw [if_pos c]
    split at hz
    · rename_i q; rw [if_pos q]; simp only; refine ⟨by omega, by omega, ?_, ?_⟩
      · rw [show ((2 : Int).toNat) = 1 + 1 from rfl, t1, t2 (by omega), Lib.encodeRuneZ_two (by omega) (by omega)]; simp only [List.take_zero, List.cons.injEq, and_true]
        omega
      · rw [show ((2 : Int).toNat) = 1 + 1 from rfl, t1, t2 (by omega)]; simp only [List.take_zero, List.mem_cons, List.not_mem_nil, or_false]
        omega
    · exact absurd rfl hz
  · rename_i c; rw [if_neg c]
    split at hz
    · rename_i c; rw [if_pos c]
      split at hz
      · rename_i q; rw [if_pos q]; simp only; refine ⟨by omega, by omega, ?_, ?_⟩
        · rw [show ((3 : Int).toNat) = 2 + 1 from rfl, t1, t2 (by omega), t3 (by omega)]; unfold Lib.encodeRuneZ; rw [if_neg (by omega), if_neg (by omega), if_pos (by omega)]; simp only [List.take_zero, List.cons.injEq, and_true]
          omega
        · rw [show ((3 : Int).toNat) = 2 + 1 from rfl, t1, t2 (by omega), t3 (by omega)]; simp only [List.take_zero, List.mem_cons, List.not_mem_nil, or_false]
          omega
      · exact absurd rfl hz
    · rename_i c; rw [if_neg c]
      split at hz
      · rename_i c; rw [if_pos c]
        split at hz
        · rename_i q; rw [if_pos q]; simp only; refine ⟨by omega, by omega, ?_, ?_⟩
          · rw [show ((4 : Int).toNat) = 3 + 1 from rfl, t1, t2 (by omega), t3 (by omega), t4 (by omega)]; unfold Lib.encodeRuneZ; rw [if_neg (by omega), if_neg (by omega), if_neg (by omega), if_pos (by omega)]; simp only [List.take_zero, List.cons.injEq, and_true]
            omega
          · rw [show ((4 : Int).toNat) = 3 + 1 from rfl, t1, t2 (by omega), t3 (by omega), t4 (by omega)]; simp only [List.take_zero, List.mem_cons, List.not_mem_nil, or_false]
            omega
        · exact absurd rfl hz
      · exact absurd rfl hz

theorem l1point_eq (v : Int) : spec_l1point.f v = some (decide (0 ≤ v ∧ v ≤ 1114111 ∧ (v < 55296 ∨ v > 57343))) := by
  unfold spec_l1point.f
  by_cases h1 : v ≥ 0
  · rw [if_pos h1]
    by_cases h2 : v ≤ 1114111
    · rw [if_pos h2]
      by_cases h3 : v < 55296
      · rw [if_pos h3, decide_eq_true (by omega)]
      · rw [if_neg h3]; congr 1; rw [decide_eq_decide]; omega
    · rw [if_neg h2, decide_eq_false (by omega)]
  · rw [if_neg h1, decide_eq_false (by omega)]
def ulen (v : Int) : Int := if v < 128 then 1 else if v < 2048 then 2 else if v < 65536 then 3 else 4
theorem l1utf8_len (v : Int) : ∃ u, spec_l1utf8.f v = some u ∧ (u.length : Int) = ulen v := by
  unfold spec_l1utf8.f ulen
  by_cases h1 : v < 128
  · rw [if_pos h1, if_pos h1]; exact ⟨_, rfl, rfl⟩
  rw [if_neg h1, if_neg h1]
  by_cases h2 : v < 2048
  · rw [if_pos h2, if_pos h2]; exact ⟨_, rfl, rfl⟩
  rw [if_neg h2, if_neg h2]
  by_cases h3 : v < 65536
  · rw [if_pos h3, if_pos h3]; exact ⟨_, rfl, rfl⟩
  rw [if_neg h3, if_neg h3]; exact ⟨_, rfl, rfl⟩
theorem l1char_end (l : List Int) (i n v j : Int) (hj : ¬ j < n) : Ev (fun k => spec_l1char.l0 k l i n v j) (if (0 ≤ v ∧ v ≤ 1114111 ∧ (v < 55296 ∨ v > 57343)) ∧ ulen v = n then (n, v) else (0, 0)) := by
  refine Ev.step (fun _ => rfl) ?_; simp only [spec_l1char.l0]; refine ev_neg hj ?_; rw [l1point_eq]; refine ev_letv (ev_ite (fun e => ?_) (fun e => ?_))
  · have e := of_decide_eq_true e; obtain ⟨u, hu, hl⟩ := l1utf8_len v; rw [hu]; refine ev_letv (ev_ite (fun f => ?_) (fun f => ?_))
    · rw [if_pos ⟨e, by omega⟩]; exact Ev.now _
    · rw [if_neg (fun h => f (by omega))]; exact Ev.now _
  · have e := of_decide_eq_false (Bool.eq_false_iff.2 e); rw [if_neg (fun h => e h.1)]; exact Ev.now _
theorem l1char_bad (l : List Int) (hb : Bytes l) (i n v j : Int) (h0 : 0 ≤ i) (j0 : 0 ≤ j) (hj : j < n) (hi : i + j < l.length) (hl : l.length ≤ 9000000000) (hc : rd l (i + j) / 64 ≠ 2) : Ev (fun k => spec_l1char.l0 k l i n v j) (0, 0) := by
  have hr := hb (i + j) (by omega) hi; refine Ev.step (fun _ => rfl) ?_; simp only [spec_l1char.l0]; simp (disch := omega) only [wrap64_id]; refine ev_pos hj (ev_pos (by omega) (ev_pos (by omega) (ev_ite (fun e => Ev.now _) (fun e => ?_)))); exact ev_pos (by omega) (Ev.now _)
theorem l1char_go {R : Int × Int} (l : List Int) (hb : Bytes l) (i n v j : Int) (h0 : 0 ≤ i) (j0 : 0 ≤ j) (hj : j < n) (hi : i + j < l.length) (hl : l.length ≤ 9000000000) (hc : rd l (i + j) / 64 = 2) (v0 : 0 ≤ v) (v1 : v ≤ 99999999)
    (h : Ev (fun k => spec_l1char.l0 k l i n (v * 64 + rd l (i + j) % 64) (j + 1)) R) (hn : n ≤ 10) : Ev (fun k => spec_l1char.l0 k l i n v j) R := by
  have hr := hb (i + j) (by omega) hi; refine Ev.step (fun _ => rfl) ?_; simp only [spec_l1char.l0]; simp (disch := omega) only [wrap64_id]; refine ev_pos hj (ev_pos (by omega) (ev_pos (by omega) (ev_neg (by omega) (ev_neg (by omega) ?_)))); rw [show v * 64 + rd l (i + j) - 128 = v * 64 + rd l (i + j) % 64 by omega]; exact h
theorem spec_l1char_ev (l : List Int) (hb : Bytes l) (hl : l.length ≤ 9000000000) (i : Int) (h0 : 0 ≤ i) (h1 : i < l.length) : Ev (fun k => spec_l1char.f k l i) (chr l i) := by
  rw [chr_eq hb h0 h1]; have r0 := hb i h0 h1; simp only [spec_l1char.f]; simp (disch := omega) only [wrap64_id]; refine ev_pos h0 (ev_pos h1 ?_); unfold chrZ; refine ev_ite (fun c0 => ?_) (fun c0 => ?_)
  · rw [if_pos c0]; exact Ev.now _
  rw [if_neg c0]; have three : ∀ n v R, (n = 0 ∨ i + n > l.length → Ev (fun _ => some (0, 0)) R) → (¬ (n = 0 ∨ i + n > l.length) → Ev (fun k => spec_l1char.l0 k l i n v 1) R) → 0 ≤ n → n ≤ 4 → Ev (fun k => spec_l1char.j2 k l i n v) R := by
    intro n v R hA hB n0 n4; have ja : (n = 0 ∨ i + n > l.length) → Ev (fun k => spec_l1char.j3 k l i n v true) R := by
      intro h; refine Ev.step (fun _ => rfl) ?_; simp only [spec_l1char.j3]; exact ev_pos (by trivial) (hA h)
    refine Ev.step (fun _ => rfl) ?_; simp only [spec_l1char.j2]; simp (disch := omega) only [wrap64_id]; refine ev_ite (fun c => ja (.inl c)) (fun c => ?_)
    by_cases d : i + n > l.length
    · rw [decide_eq_true d]; exact ja (.inr d)
    · rw [decide_eq_false d]; refine Ev.step (fun _ => rfl) ?_; simp only [spec_l1char.j3]; exact ev_neg (by simp) (hB (by omega))
  refine ev_ite (fun c1 => ?_) (fun c1 => ?_)
  · by_cases c2 : rd l i < 224
    · rw [decide_eq_true c2]; refine Ev.step (fun _ => rfl) ?_; simp only [spec_l1char.j0]; refine ev_pos (by trivial) ?_; simp (disch := omega) only [wrap64_id]; refine three 2 _ _ (fun h => ?_) (fun h => ?_) (by omega) (by omega)
      · rw [if_neg (by omega), if_neg (by omega), if_neg (by omega)]; exact Ev.now _
      · by_cases d : rd l (i + 1) / 64 = 2
        · rw [if_pos (by omega)]; refine l1char_go l hb i 2 _ 1 h0 (by omega) (by omega) (by omega) hl d (by omega) (by omega) ?_ (by omega); have := l1char_end l i 2 ((rd l i - 192) * 64 + rd l (i + 1) % 64) (1 + 1) (by omega); rw [show (rd l i - 192) * 64 + rd l (i + 1) % 64 = rd l i % 32 * 64 + rd l (i + 1) % 64 by omega] at this ⊢
          by_cases q : rd l i % 32 * 64 + rd l (i + 1) % 64 ≥ 128
          · rw [if_pos q]
            rwa [if_pos ⟨by omega, by unfold ulen; rw [if_neg (by omega), if_pos (by omega)]⟩] at this
          · rw [if_neg q]
            rwa [if_neg (fun h => by have := h.2; unfold ulen at this; rw [if_pos (by omega)] at this; omega)] at this
        · rw [if_neg (by omega), if_neg (by omega), if_neg (by omega)]; exact l1char_bad l hb i 2 _ 1 h0 (by omega) (by omega) (by omega) hl d
    · rw [decide_eq_false c2]; refine Ev.step (fun _ => rfl) ?_; simp only [spec_l1char.j0]; refine ev_neg (by simp) (ev_pos (by omega) ?_)
      by_cases c3 : rd l i < 240
      · rw [decide_eq_true c3]; refine Ev.step (fun _ => rfl) ?_; simp only [spec_l1char.j1]; refine ev_pos (by trivial) ?_; simp (disch := omega) only [wrap64_id]; refine three 3 _ _ (fun h => ?_) (fun h => ?_) (by omega) (by omega)
        · rw [if_neg (by omega), if_neg (by omega), if_neg (by omega)]; exact Ev.now _
        · rw [if_neg (by omega)]
          by_cases d : rd l (i + 1) / 64 = 2
          · refine l1char_go l hb i 3 _ 1 h0 (by omega) (by omega) (by omega) hl d (by omega) (by omega) ?_ (by omega); rw [show (1 : Int) + 1 = 2 by omega]
            by_cases d2 : rd l (i + 2) / 64 = 2
            · rw [if_pos (by omega)]; refine l1char_go l hb i 3 _ 2 h0 (by omega) (by omega) (by omega) hl d2 (by omega) (by omega) ?_ (by omega); have := l1char_end l i 3 (((rd l i - 224) * 64 + rd l (i + 1) % 64) * 64 + rd l (i + 2) % 64) (2 + 1) (by omega); rw [show ((rd l i - 224) * 64 + rd l (i + 1) % 64) * 64 + rd l (i + 2) % 64 = rd l i % 16 * 4096 + rd l (i + 1) % 64 * 64 + rd l (i + 2) % 64 by omega] at this ⊢
              by_cases q : rd l i % 16 * 4096 + rd l (i + 1) % 64 * 64 + rd l (i + 2) % 64 ≥ 2048 ∧ (rd l i % 16 * 4096 + rd l (i + 1) % 64 * 64 + rd l (i + 2) % 64 < 55296 ∨ 57344 ≤ rd l i % 16 * 4096 + rd l (i + 1) % 64 * 64 + rd l (i + 2) % 64)
              · rw [if_pos q]
                rwa [if_pos ⟨by omega, by unfold ulen; rw [if_neg (by omega), if_neg (by omega), if_pos (by omega)]⟩] at this
              · rw [if_neg q]
                rwa [if_neg (fun h => by have h2 := h.2; have h1 := h.1; unfold ulen at h2; split at h2; omega; split at h2 <;> omega)] at this
            · rw [if_neg (by omega), if_neg (by omega)]; exact l1char_bad l hb i 3 _ 2 h0 (by omega) (by omega) (by omega) hl d2
          · rw [if_neg (by omega), if_neg (by omega)]; exact l1char_bad l hb i 3 _ 1 h0 (by omega) (by omega) (by omega) hl d
      · rw [decide_eq_false c3]; refine Ev.step (fun _ => rfl) ?_; simp only [spec_l1char.j1]; refine ev_neg (by simp) (ev_pos (by omega) (ev_ite (fun c4 => ?_) (fun c4 => ?_)))
        · simp (disch := omega) only [wrap64_id]; rw [if_neg (by omega), if_neg (by omega)]; refine three 4 _ _ (fun h => ?_) (fun h => ?_) (by omega) (by omega)
          · rw [if_neg (by omega)]; exact Ev.now _
          · by_cases d : rd l (i + 1) / 64 = 2
            · refine l1char_go l hb i 4 _ 1 h0 (by omega) (by omega) (by omega) hl d (by omega) (by omega) ?_ (by omega); rw [show (1 : Int) + 1 = 2 by omega]
              by_cases d2 : rd l (i + 2) / 64 = 2
              · refine l1char_go l hb i 4 _ 2 h0 (by omega) (by omega) (by omega) hl d2 (by omega) (by omega) ?_ (by omega); rw [show (2 : Int) + 1 = 3 by omega]
                by_cases d3 : rd l (i + 3) / 64 = 2
                · rw [if_pos (by omega)]; refine l1char_go l hb i 4 _ 3 h0 (by omega) (by omega) (by omega) hl d3 (by omega) (by omega) ?_ (by omega); have := l1char_end l i 4 ((((rd l i - 240) * 64 + rd l (i + 1) % 64) * 64 + rd l (i + 2) % 64) * 64 + rd l (i + 3) % 64) (3 + 1) (by omega); rw [show (((rd l i - 240) * 64 + rd l (i + 1) % 64) * 64 + rd l (i + 2) % 64) * 64 + rd l (i + 3) % 64 = rd l i % 8 * 262144 + rd l (i + 1) % 64 * 4096 + rd l (i + 2) % 64 * 64 + rd l (i + 3) % 64 by omega] at this ⊢
                  by_cases q : rd l i % 8 * 262144 + rd l (i + 1) % 64 * 4096 + rd l (i + 2) % 64 * 64 + rd l (i + 3) % 64 ≥ 65536 ∧ rd l i % 8 * 262144 + rd l (i + 1) % 64 * 4096 + rd l (i + 2) % 64 * 64 + rd l (i + 3) % 64 ≤ 1114111
                  · rw [if_pos q]
                    rwa [if_pos ⟨by omega, by unfold ulen; rw [if_neg (by omega), if_neg (by omega), if_neg (by omega)]⟩] at this
                  · rw [if_neg q]
                    rwa [if_neg (fun h => by have h2 := h.2; have h1 := h.1; unfold ulen at h2; split at h2; omega; split at h2; omega; split at h2 <;> omega)] at this
                · rw [if_neg (by omega)]; exact l1char_bad l hb i 4 _ 3 h0 (by omega) (by omega) (by omega) hl d3
              · rw [if_neg (by omega)]; exact l1char_bad l hb i 4 _ 2 h0 (by omega) (by omega) (by omega) hl d2
            · rw [if_neg (by omega)]; exact l1char_bad l hb i 4 _ 1 h0 (by omega) (by omega) (by omega) hl d
        · rw [if_neg (by omega), if_neg (by omega), if_neg (by omega)]; exact three 0 0 _ (fun h => Ev.now _) (fun h => absurd (.inl rfl) h) (by omega) (by omega)
  · refine Ev.step (fun _ => rfl) ?_; simp only [spec_l1char.j0]; refine ev_neg (by simp) (ev_neg (by omega) ?_); refine Ev.step (fun _ => rfl) ?_; simp only [spec_l1char.j1]; refine ev_neg (by simp) (ev_neg (by omega) ?_); rw [if_neg (by omega), if_neg (by omega), if_neg (by omega)]; exact three 0 0 _ (fun h => Ev.now _) (fun h => absurd (.inl rfl) h) (by omega) (by omega)

def checkFrom (l : List Int) : Nat → Int → Int × Int
  | 0, _ => (0, 0)
  | d + 1, i => if i < l.length then (if (chr l i).1 = 0 then (2, i) else checkFrom l d (i + (chr l i).1)) else (0, 0)
def checkRes (l : List Int) : Int × Int := checkFrom l (l.length + 1) 0
theorem spec_check_loop (l : List Int) (hb : Bytes l) (hl : l.length ≤ 9000000000) (d : Nat) : ∀ i : Int, 0 ≤ i → i ≤ l.length → (l.length : Int) - i < d → Ev (fun k => spec_CheckText.l0 k l i) (checkFrom l d i) := by
  induction d with
  | zero => intro i h0 h1 hd; omega
  | succ d ih =>
    intro i h0 h1 hd; refine Ev.step (fun _ => rfl) ?_; simp only [spec_CheckText.l0, checkFrom]; refine ev_ite (fun c => ?_) (fun c => ?_)
    · rw [if_pos c]; refine Ev.bind (spec_l1char_ev l hb hl i h0 c) (ev_ite (fun e => ?_) (fun e => ?_))
      · rw [if_pos e]; exact Ev.now _
      · have := chr_pos hb h0 c e; rw [if_neg e, wrap64_id (by omega) (by omega)]; exact ih _ (by omega) (by omega) (by omega)
    · rw [if_neg c]; exact Ev.now _
theorem spec_CheckText_ev (l : List Int) (hb : Bytes l) (hl : l.length ≤ 9000000000) : Ev (fun k => spec_CheckText.f k l) (checkRes l) := by
  simp only [spec_CheckText.f]; exact spec_check_loop l hb hl (l.length + 1) 0 (by omega) (by omega) (by omega)

theorem impl_check_loop (l : List Int) (hb : Bytes l) (hl : l.length ≤ 9000000000) (d : Nat) : ∀ i : Int, 0 ≤ i → i ≤ l.length → (l.length : Int) - i < d → Ev (fun k => impl_CheckText.l0 k l i) (checkFrom l d i) := by
  induction d with
  | zero => intro i h0 h1 hd; omega
  | succ d ih =>
    intro i h0 h1 hd; refine Ev.step (fun _ => rfl) ?_; simp only [impl_CheckText.l0, checkFrom]; refine ev_ite (fun c => ?_) (fun c => ?_)
    · rw [if_pos c]; refine ev_pos h0 (ev_pos h1 ?_); rw [DecodeRune_at hb h0 c]; refine ev_letv ?_; have hgo : ¬ ((decI (l.drop i.toNat)).1 = 65533 ∧ (decI (l.drop i.toNat)).2 ≤ 1) → Ev (fun k => impl_CheckText.l0 k l (wrap64 (i + (decI (l.drop i.toNat)).2))) (if (chr l i).1 = 0 then (2, i) else checkFrom l d (i + (chr l i).1)) := by
        intro hn; have e : (chr l i).1 = (decI (l.drop i.toNat)).2 := by unfold chr; rw [if_neg hn]
        have hz : ¬ (chr l i).1 = 0 := by
          intro hz; have hq := chr_eq hb h0 c; rw [decI_drop h0 c] at hn; have hw := chrZ_nat (l.length - i.toNat) (rd l i).toNat (rd l (i + 1)).toNat (rd l (i + 2)).toNat (rd l (i + 3)).toNat; rw [if_neg hn] at hw; rw [e, decI_drop h0 c] at hz; simp only at hz; unfold Lib.decodeN at hz; repeat' split at hz
          all_goals simp at hz
        have := chr_pos hb h0 c hz; rw [if_neg hz, ← e, wrap64_id (by omega) (by omega)]; exact ih _ (by omega) (by omega) (by omega)
      refine ev_ite (fun e1 => ev_ite (fun e2 => ?_) (fun e2 => hgo (fun h => e2 h.2))) (fun e1 => hgo (fun h => e1 h.1)); have e : (chr l i).1 = 0 := by unfold chr; rw [if_pos ⟨e1, e2⟩]
      rw [if_pos e]; exact Ev.now _
    · rw [if_neg c]; exact Ev.now _
theorem impl_CheckText_ev (l : List Int) (hb : Bytes l) (hl : l.length ≤ 9000000000) : Ev (fun k => impl_CheckText.f k l) (checkRes l) := by
  simp only [impl_CheckText.f]; exact impl_check_loop l hb hl (l.length + 1) 0 (by omega) (by omega) (by omega)

def runL (q : List Int) : List Int := ((q.drop 3).take 7).takeWhile impl_literal.hexd
def escL (q : List Int) : Option (Int × Int) :=
  if rd q 1 = 34 ∨ rd q 1 = 92 then some (rd q 1, 2)
  else if rd q 1 = 117 ∧ rd q 2 = 123 ∧ (1 ≤ (runL q).length ∧ (runL q).length ≤ 6) ∧ rd q (3 + (runL q).length : Nat) = 125 ∧ (0 ≤ impl_literal.val (runL q) ∧ impl_literal.val (runL q) ≤ 1114111 ∧ (impl_literal.val (runL q) < 55296 ∨ impl_literal.val (runL q) > 57343)) then some (impl_literal.val (runL q), ((runL q).length : Int) + 4)
  else none
def litR (l : List Int) : Nat → Nat → List Int → List Int × Int
  | 0, _, _ => ([], 0)
  | d + 1, i, out => if i < l.length then (if rd l i = 34 then (out, (i : Int) + 1) else if rd l i = 10 then ([], 0) else if rd l i = 92 then (match escL (l.drop i) with | none => ([], 0) | some c => litR l d (i + c.2.toNat) (out ++ Lib.encodeRuneZ c.1)) else litR l d (i + 1) (out ++ [rd l i])) else ([], 0)
theorem hexd_iff {c : Int} : impl_literal.hexd c = true ↔ (48 ≤ c ∧ c ≤ 57) ∨ (97 ≤ c ∧ c ≤ 102) ∨ (65 ≤ c ∧ c ≤ 70) := by unfold impl_literal.hexd; exact decide_eq_true_iff
theorem run_take (q : List Int) : runL q = (q.drop 3).take (runL q).length := by
  have h : runL q <+: (q.drop 3).take 7 := List.takeWhile_prefix _; have h2 : runL q <+: q.drop 3 := h.trans (List.take_prefix _ _); exact List.prefix_iff_eq_take.1 h2
theorem run_hex (q : List Int) : ∀ x ∈ runL q, impl_literal.hexd x = true := fun x hx => by
  have := List.all_takeWhile (p := impl_literal.hexd) (l := (q.drop 3).take 7); exact List.all_eq_true.1 this x hx
theorem run_le (q : List Int) : (runL q).length ≤ 7 := by
  have := (List.takeWhile_prefix impl_literal.hexd (l := (q.drop 3).take 7)).length_le; rw [List.length_take] at this; show (((q.drop 3).take 7).takeWhile impl_literal.hexd).length ≤ 7
  omega
theorem rd_ne0 {q : List Int} {i : Nat} (h : rd q i ≠ 0) : i < q.length := by
  refine Nat.lt_of_not_le (fun c => h (rd_out (by omega)))
theorem run_rd (q : List Int) (j : Nat) (hj : j < (runL q).length) : impl_literal.hexd (rd q ((3 + j : Nat) : Int)) = true := by
  have e := run_take q; have hm : rd (runL q) (j : Int) ∈ runL q := rd_mem (by omega) (by omega); have hr : rd (runL q) (j : Int) = rd q ((3 + j : Nat) : Int) := by
    rw [e]; have := congrArg List.length e; rw [List.length_take, List.length_drop] at this; unfold rd; rw [List.getD_eq_getElem?_getD, List.getD_eq_getElem?_getD, Int.toNat_natCast, Int.toNat_natCast, List.getElem?_take, if_pos (by omega), List.getElem?_drop]
  rw [← hr]; exact run_hex q _ hm
theorem esc_bd {q : List Int} {c : Int × Int} (h : escL q = some c) (h0 : rd q 0 = 92) : 2 ≤ c.2 ∧ c.2 ≤ 10 ∧ c.2 ≤ q.length ∧ 0 ≤ c.1 ∧ c.1 ≤ 1114111 ∧ (∀ j : Nat, (j : Int) < c.2 → rd q j < 128) ∧ (Lib.encodeRuneZ c.1).length ≤ 4 := by
  have he : ∀ v, (Lib.encodeRuneZ v).length ≤ 4 := by
    intro v; unfold Lib.encodeRuneZ; repeat' split
    all_goals simp
  unfold escL at h
  split at h
  · rename_i a; have e := (Option.some.inj h).symm; subst e; have := rd_ne0 (q := q) (i := 1) (by simp only [Int.natCast_one]; omega); refine ⟨by simp, by simp, by simp only; omega, by simp only; omega, by simp only; omega, ?_, he _⟩; intro j hj; have : j = 0 ∨ j = 1 := by simp only at hj; omega
    rcases this with rfl | rfl
    · have : rd q ((0 : Nat) : Int) = 92 := h0
      omega
    · have : rd q ((1 : Nat) : Int) = rd q 1 := rfl
      omega
  · split at h
    · rename_i a b; have e := (Option.some.inj h).symm; subst e; obtain ⟨b1, b2, b3, b4, b5⟩ := b; have := rd_ne0 (q := q) (i := 3 + (runL q).length) (by rw [b4]; decide); refine ⟨by simp only; omega, by simp only; omega, by simp only; omega, b5.1, b5.2.1, ?_, he _⟩; intro j hj; simp only at hj; have : j = 0 ∨ j = 1 ∨ j = 2 ∨ (3 ≤ j ∧ j < 3 + (runL q).length) ∨ j = 3 + (runL q).length := by omega
      rcases this with rfl | rfl | rfl | h | rfl
      · have : rd q ((0 : Nat) : Int) = 92 := h0
        omega
      · have : rd q ((1 : Nat) : Int) = 117 := b1
        omega
      · have : rd q ((2 : Nat) : Int) = 123 := b2
        omega
      · have := hexd_iff.1 (run_rd q (j - 3) (by omega)); rw [show 3 + (j - 3) = j by omega] at this
        omega
      · rw [b4]; decide
    · cases h
theorem l1digit_ev (c : Int) (h : 0 ≤ c ∧ c ≤ 255) : Ev (fun k => spec_l1digit.f k c) (if impl_literal.hexd c = true then impl_literal.hx c else -1) := by
  have j1 : ∀ b : Bool, (b = true → 97 ≤ c ∧ c ≤ 102) → (b = false → c < 97 ∨ 102 < c) → ¬ (48 ≤ c ∧ c ≤ 57) → Ev (fun k => spec_l1digit.j1 k c b) (if impl_literal.hexd c = true then impl_literal.hx c else -1) := by
    intro b hb1 hb2 hn; refine Ev.step (fun _ => rfl) ?_; simp only [spec_l1digit.j1]; refine ev_ite (fun e => ?_) (fun e => ?_)
    · have := hb1 e; rw [if_pos (hexd_iff.2 (by omega))]; unfold impl_literal.hx; rw [if_neg (by omega), if_neg (by omega), show (c - 97) % 256 + 10 = c - 87 by omega]; exact Ev.now _
    · have := hb2 (Bool.eq_false_iff.2 e); refine ev_ite (fun e1 => ev_ite (fun e2 => ?_) (fun e2 => ?_)) (fun e1 => ?_)
      · rw [if_pos (hexd_iff.2 (by omega))]; unfold impl_literal.hx; rw [if_neg (by omega), if_pos (by omega), show (c - 65) % 256 + 10 = c - 55 by omega]; exact Ev.now _
      · rw [if_neg (fun a => by have := hexd_iff.1 a; omega)]; exact Ev.now _
      · rw [if_neg (fun a => by have := hexd_iff.1 a; omega)]; exact Ev.now _
  have j0f : ¬ (48 ≤ c ∧ c ≤ 57) → Ev (fun k => spec_l1digit.j0 k c false) (if impl_literal.hexd c = true then impl_literal.hx c else -1) := by
    intro hn; refine Ev.step (fun _ => rfl) ?_; simp only [spec_l1digit.j0]; refine ev_neg (by simp) (ev_ite (fun e => ?_) (fun e => ?_))
    · exact j1 _ (fun a => by have := of_decide_eq_true a; omega) (fun a => by have := of_decide_eq_false a; omega) hn
    · exact j1 _ (fun a => by cases a) (fun _ => by omega) hn
  simp only [spec_l1digit.f]; refine ev_ite (fun e => ?_) (fun e => j0f (by omega))
  by_cases e2 : c ≤ 57
  · rw [decide_eq_true e2]; refine Ev.step (fun _ => rfl) ?_; simp only [spec_l1digit.j0]; refine ev_pos (by trivial) ?_; rw [if_pos (hexd_iff.2 (by omega))]; unfold impl_literal.hx; rw [if_pos e2, show (c - 48) % 256 = c - 48 by omega]; exact Ev.now _
  · rw [decide_eq_false e2]; exact j0f (by omega)
theorem l1utf8_eq {v : Int} (h : 0 ≤ v ∧ v ≤ 1114111 ∧ (v < 55296 ∨ v > 57343)) : spec_l1utf8.f v = some (Lib.encodeRuneZ v) := by
  unfold spec_l1utf8.f; simp only [tdiv_nn h.1, tmod_nn h.1]; rw [wrap64_id (x := v / 64) (by omega) (by omega), wrap64_id (x := v / 4096) (by omega) (by omega), tmod_nn (show 0 ≤ v / 64 by omega), tmod_nn (show 0 ≤ v / 4096 by omega)]; rw [wrap64_id (x := v / 262144) (by omega) (by omega)]; simp (disch := omega) only [wrap64_id]
  by_cases c1 : v < 128
  · rw [if_pos c1, Lib.encodeRuneZ_one (by omega) (by omega)]; simp only [Option.some.injEq, List.cons.injEq, and_true]; omega
  rw [if_neg c1]
  by_cases c2 : v < 2048
  · rw [if_pos c2, Lib.encodeRuneZ_two (by omega) (by omega)]; simp only [Option.some.injEq, List.cons.injEq, and_true]; omega
  rw [if_neg c2]
  by_cases c3 : v < 65536
  · rw [if_pos c3, Lib.encodeRuneZ_three (by omega)]; simp only [Option.some.injEq, List.cons.injEq, and_true]; omega
  rw [if_neg c3, Lib.encodeRuneZ_four (by omega) (by omega)]; simp only [Option.some.injEq, List.cons.injEq, and_true]; omega
def tk (q : List Int) (n : Nat) : List Int := ((q.drop (3 + n)).take (7 - n)).takeWhile impl_literal.hexd
def escJ (q : List Int) (ds : List Int) (v n : Int) : List Int × Int :=
  if (1 ≤ n ∧ n ≤ 6) ∧ rd q (3 + n) = 125 ∧ (0 ≤ v ∧ v ≤ 1114111 ∧ (v < 55296 ∨ v > 57343)) then (Lib.encodeRuneZ v, n + 3) else ([], 0)
theorem escJ_ev (l : List Int) (hl : l.length ≤ 1048576) (i : Nat) (hi : i < l.length) (v n : Int) (hn : 0 ≤ n ∧ n ≤ 7) : Ev (fun k => spec_l1escape.j3 k l ((i : Int) + 1) v n) (escJ (l.drop i) [] v n) := by
  have hr : rd (l.drop i) (3 + n) = rd l ((i : Int) + (3 + n)) := rd_drop l i _ (by omega); unfold escJ; rw [hr]; refine Ev.step (fun _ => rfl) ?_; simp only [spec_l1escape.j3]; simp (disch := omega) only [wrap64_id]; rw [show (i : Int) + 1 + 2 + n = (i : Int) + (3 + n) by omega]; refine ev_ite (fun e => ?_) (fun e1 => ev_ite (fun e => ?_) (fun e2 => ev_ite (fun e => ?_) (fun e3 => ev_pos (by omega) (ev_pos (by omega) (ev_ite (fun e4 => ?_) (fun e4 => ?_))))))
  · rw [if_neg (by omega)]; exact Ev.now _
  · rw [if_neg (by omega)]; exact Ev.now _
  · rw [rd_out (by omega), if_neg (by omega)]; exact Ev.now _
  · rw [l1point_eq]; refine ev_letv (ev_ite (fun e => ?_) (fun e => ?_))
    · have e := of_decide_eq_true e; rw [if_pos ⟨by omega, e4, e⟩, l1utf8_eq e]; exact Ev.now _
    · have e := of_decide_eq_false (Bool.eq_false_iff.2 e); rw [if_neg (fun a => e a.2.2)]; exact Ev.now _
  · rw [if_neg (fun a => e4 a.2.1)]; exact Ev.now _
theorem tk_step (q : List Int) (n : Nat) (hn : n < 7) : tk q n = if impl_literal.hexd (rd q ((3 + n : Nat) : Int)) = true ∧ 3 + n < q.length then rd q ((3 + n : Nat) : Int) :: tk q (n + 1) else [] := by
  unfold tk
  by_cases h : 3 + n < q.length
  · rw [drop_rd h, show 7 - n = (7 - (n + 1)) + 1 by omega, List.take_succ_cons, List.takeWhile_cons]
    by_cases hx : impl_literal.hexd (rd q ((3 + n : Nat) : Int)) = true
    · rw [if_pos hx, if_pos ⟨hx, h⟩]; rfl
    · rw [if_neg hx, if_neg (fun a => hx a.1)]
  · rw [if_neg (fun a => h a.2), List.drop_of_length_le (by omega)]; simp
theorem esc_loop (l : List Int) (hb : Bytes l) (hl : l.length ≤ 1048576) (i : Nat) (hi : i < l.length) (d : Nat) : ∀ (n : Nat) (v : Int), n + d = 7 → 0 ≤ v → v < 16 ^ n →
    Ev (fun k => spec_l1escape.l0 k l ((i : Int) + 1) v (n : Int)) (escJ (l.drop i) [] ((tk (l.drop i) n).foldl (fun a c => a * 16 + impl_literal.hx c) v) ((n : Int) + (tk (l.drop i) n).length)) := by
  induction d with
  | zero =>
    intro n v hn v0 v1; have : n = 7 := by omega
    subst this; have ht : tk (l.drop i) 7 = [] := by unfold tk; simp
    rw [ht]; simp only [List.foldl_nil, List.length_nil, Int.natCast_zero, Int.add_zero]; refine Ev.step (fun _ => rfl) ?_; simp only [spec_l1escape.l0]; have := escJ_ev l hl i hi v 7 (by omega); exact ev_ite (fun _ => ev_neg (by decide) this) (fun _ => this)
  | succ d ih =>
    intro n v hn v0 v1; have hp : (16 : Int) ^ n ≤ 16 ^ 6 := by
      have : n = 0 ∨ n = 1 ∨ n = 2 ∨ n = 3 ∨ n = 4 ∨ n = 5 ∨ n = 6 := by omega
      rcases this with rfl | rfl | rfl | rfl | rfl | rfl | rfl <;> decide
    have hv : v < 16777216 := by have : (16 : Int) ^ 6 = 16777216 := by decide
                                 omega
    have hr : rd (l.drop i) ((3 + n : Nat) : Int) = rd l ((i : Int) + ((3 + n : Nat) : Int)) := rd_drop l i _ (by omega); have hx := hb.rd (i := (i : Int) + ((3 + n : Nat) : Int)) (by omega); have hj := escJ_ev l hl i hi v n (by omega); rw [tk_step _ _ (by omega), hr, List.length_drop]; refine Ev.step (fun _ => rfl) ?_; simp only [spec_l1escape.l0]; simp (disch := omega) only [wrap64_id]; rw [show (i : Int) + 1 + 2 + n = (i : Int) + ((3 + n : Nat) : Int) by omega]; refine ev_ite (fun e => ev_pos (by omega) (ev_pos (by omega) (Ev.bind (l1digit_ev _ hx) (ev_ite (fun e2 => ?_) (fun e2 => ?_))))) (fun e => ?_)
    · have h1 : impl_literal.hexd (rd l ((i : Int) + ((3 + n : Nat) : Int))) = true := by
        by_cases c : impl_literal.hexd (rd l ((i : Int) + ((3 + n : Nat) : Int))) = true
        · exact c
        · rw [if_neg c] at e2; omega
      have hxx := impl_literal.hx_le _ h1; rw [if_pos ⟨h1, by omega⟩]; refine Ev.bind (l1digit_ev _ hx) ?_; rw [if_pos h1]; simp (disch := omega) only [wrap64_id]; have := ih (n + 1) (v * 16 + impl_literal.hx (rd l ((i : Int) + ((3 + n : Nat) : Int)))) (by omega) (by omega) (by rw [Int.pow_succ]; omega); rw [List.foldl_cons, List.length_cons, show ((n : Int) + ((tk (List.drop i l) (n + 1)).length + 1 : Nat)) = ((n + 1 : Nat) : Int) + ((tk (List.drop i l) (n + 1)).length : Int) by omega]; exact this
    · have h1 : ¬ impl_literal.hexd (rd l ((i : Int) + ((3 + n : Nat) : Int))) = true := by
        intro c; have hxx := impl_literal.hx_le _ c; rw [if_pos c] at e2; omega
      rw [if_neg (fun a => h1 a.1)]
      simpa using hj
    · rw [if_neg (by omega)]
      simpa using hj
def escS (q : List Int) : List Int × Int := match escL q with | none => ([], 0) | some c => (Lib.encodeRuneZ c.1, c.2 - 1)
theorem spec_l1escape_ev (l : List Int) (hb : Bytes l) (hl : l.length ≤ 1048576) (i : Nat) (hi : i < l.length) : Ev (fun k => spec_l1escape.f k l ((i : Int) + 1)) (escS (l.drop i)) := by
  have r1 : rd (l.drop i) 1 = rd l ((i : Int) + 1) := rd_drop l i _ (by omega); have r2 : rd (l.drop i) 2 = rd l ((i : Int) + 2) := rd_drop l i _ (by omega); have hb1 := hb.rd (i := (i : Int) + 1) (by omega); have hE : ∀ (h : ¬ (rd (l.drop i) 1 = 34 ∨ rd (l.drop i) 1 = 92)), escS (l.drop i) = if rd (l.drop i) 1 = 117 ∧ rd (l.drop i) 2 = 123 then escJ (l.drop i) [] (impl_literal.val (runL (l.drop i))) (runL (l.drop i)).length else ([], 0) := by
    intro h; unfold escS escL escJ; rw [if_neg h]
    by_cases c : rd (l.drop i) 1 = 117 ∧ rd (l.drop i) 2 = 123
    · rw [if_pos c]
      by_cases c2 : (1 ≤ ((runL (l.drop i)).length : Int) ∧ ((runL (l.drop i)).length : Int) ≤ 6) ∧ rd (l.drop i) (3 + (runL (l.drop i)).length) = 125 ∧ (0 ≤ impl_literal.val (runL (l.drop i)) ∧ impl_literal.val (runL (l.drop i)) ≤ 1114111 ∧ (impl_literal.val (runL (l.drop i)) < 55296 ∨ impl_literal.val (runL (l.drop i)) > 57343))
      · rw [if_pos c2, if_pos ⟨c.1, c.2, by omega, c2.2.1, c2.2.2⟩]; simp only [Prod.mk.injEq, true_and]; omega
      · rw [if_neg c2, if_neg (fun a => c2 ⟨by omega, a.2.2.2.1, a.2.2.2.2⟩)]
    · rw [if_neg c, if_neg (fun a => c ⟨a.1, a.2.1⟩)]
  have j1t : ¬ (rd l ((i : Int) + 1) = 34 ∨ rd l ((i : Int) + 1) = 92) → ¬ (rd l ((i : Int) + 1) = 117 ∧ rd l ((i : Int) + 2) = 123) → Ev (fun k => spec_l1escape.j1 k l ((i : Int) + 1) true) (escS (l.drop i)) := by
    intro h h2; refine Ev.step (fun _ => rfl) ?_; simp only [spec_l1escape.j1]; rw [hE (by rw [r1]; exact h), if_neg (by rw [r1, r2]; exact h2)]; exact ev_pos (by trivial) (Ev.now _)
  have j0f : (i : Int) + 1 < l.length → ¬ (rd l ((i : Int) + 1) = 34 ∨ rd l ((i : Int) + 1) = 92) → Ev (fun k => spec_l1escape.j0 k l ((i : Int) + 1) false) (escS (l.drop i)) := by
    intro hlt h; refine Ev.step (fun _ => rfl) ?_; simp only [spec_l1escape.j0]; simp (disch := omega) only [wrap64_id]; rw [show (i : Int) + 1 + 1 = (i : Int) + 2 by omega]; refine ev_neg (by simp) (ev_pos (by omega) (ev_pos hlt (ev_ite (fun e => ev_ite (fun e2 => ?_) (fun e2 => ev_pos (by omega) (ev_pos (by omega) ?_))) (fun e => j1t h (fun a => e a.1)))))
    · exact j1t h (fun a => by have a2 := a.2; rw [rd_out (by omega)] at a2; omega)
    · by_cases e3 : rd l ((i : Int) + 2) = 123
      · rw [show (rd l ((i : Int) + 2) != 123) = false by rw [e3]; rfl]; refine Ev.step (fun _ => rfl) ?_; simp only [spec_l1escape.j1]; refine ev_neg (by simp) ?_; rw [hE (by rw [r1]; exact h), if_pos (by rw [r1, r2]; exact ⟨e, e3⟩)]; have := esc_loop l hb hl i hi 7 0 0 rfl (by omega) (by decide); have ht : tk (l.drop i) 0 = runL (l.drop i) := rfl; rw [ht, Int.natCast_zero, Int.zero_add] at this; exact this
      · rw [show (rd l ((i : Int) + 2) != 123) = true from bne_iff_ne.2 e3]; exact j1t h (fun a => e3 a.2)
  have j0t : (i : Int) + 1 < l.length → (rd l ((i : Int) + 1) = 34 ∨ rd l ((i : Int) + 1) = 92) → Ev (fun k => spec_l1escape.j0 k l ((i : Int) + 1) true) (escS (l.drop i)) := by
    intro hlt h; refine Ev.step (fun _ => rfl) ?_; simp only [spec_l1escape.j0]; refine ev_pos (by trivial) (ev_pos (by omega) (ev_pos hlt ?_)); unfold escS escL; rw [r1, if_pos h]; simp only; rw [Lib.encodeRuneZ_one (by omega) (by omega)]; exact Ev.now _
  simp only [spec_l1escape.f]; refine ev_ite (fun e => ?_) (fun e => ev_pos (by omega) (ev_pos (by omega) (ev_ite (fun e2 => j0t (by omega) (.inl e2)) (fun e2 => ?_))))
  · rw [hE (by rw [r1, rd_out (by omega)]; decide), if_neg (fun a => by have a1 := a.1; rw [r1, rd_out (by omega)] at a1; omega)]; exact Ev.now _
  · by_cases e3 : rd l ((i : Int) + 1) = 92
    · rw [show (rd l ((i : Int) + 1) == 92) = true from beq_iff_eq.2 e3]; exact j0t (by omega) (.inr e3)
    · rw [show (rd l ((i : Int) + 1) == 92) = false from beq_eq_false_iff_ne.2 e3]; exact j0f (by omega) (by omega)
theorem spec_lit_loop (l : List Int) (hb : Bytes l) (hl : l.length ≤ 1048576) (d : Nat) : ∀ (i : Nat) (out : List Int), i ≤ l.length → l.length - i < d → out.length ≤ 4 * i → Ev (fun k => spec_l1literal.l0 k l 0 out (i : Int)) (litR l d i out) := by
  induction d with
  | zero => intro i out hi hd; omega
  | succ d ih =>
    intro i out hi hd ho; have hr := hb.rd (show 0 ≤ (i : Int) by omega); refine Ev.step (fun _ => rfl) ?_; simp only [spec_l1literal.l0, litR]; refine ev_ite (fun e => ev_pos (by omega) ?_) (fun e => ?_)
    · have e' : i < l.length := by omega
      rw [if_pos e']
      by_cases c1 : rd l i = 34
      · rw [show (rd l i != 34) = false by rw [c1]; rfl, if_pos c1]; refine Ev.step (fun _ => rfl) ?_; simp only [spec_l1literal.j2]; simp (disch := omega) only [wrap64_id]; rw [Int.sub_zero]; exact ev_neg (by simp) (ev_neg (by omega) (Ev.now _))
      · rw [show (rd l i != 34) = true from bne_iff_ne.2 c1, if_neg c1]; refine Ev.step (fun _ => rfl) ?_; simp only [spec_l1literal.j2]; simp (disch := omega) only [wrap64_id]; refine ev_pos (by trivial) (ev_pos (by omega) (ev_pos (by omega) (ev_ite (fun c2 => ?_) (fun c2 => ?_))))
        · rw [if_pos c2]; exact Ev.now _
        rw [if_neg c2]; refine ev_ite (fun c3 => ?_) (fun c3 => ev_pos (by omega) ?_)
        · rw [if_pos c3]; refine Ev.bind (spec_l1escape_ev l hb hl i e') ?_; have h0 : rd (l.drop i) 0 = 92 := by have := rd_drop l i 0 (by omega); rw [this, Int.add_zero, c3]
          unfold escS; cases h : escL (l.drop i) with
          | none => exact ev_pos rfl (Ev.now _)
          | some c =>
            have hc := esc_bd h h0; rw [List.length_drop] at hc; simp only; refine ev_neg (by omega) (ev_pos (by omega) ?_); simp (disch := omega) only [wrap64_id]; have := ih (i + c.2.toNat) (out ++ Lib.encodeRuneZ c.1) (by omega) (by omega) (by rw [List.length_append]; omega); rw [show ((i + c.2.toNat : Nat) : Int) = (i : Int) + (1 + (c.2 - 1)) by omega] at this; exact this
        · rw [if_neg c3]; exact ih (i + 1) _ (by omega) (by omega) (by rw [List.length_append, List.length_singleton]; omega)
    · rw [if_neg (by omega)]; refine Ev.step (fun _ => rfl) ?_; simp only [spec_l1literal.j2]; exact ev_neg (by simp) (ev_pos (by omega) (Ev.now _))
theorem ext_str (l : List Int) (a b : Nat) : (strOfNums l).extract a b = strOfNums ((l.drop a).take (b - a)) := by
  apply ByteArray.ext; apply Array.ext'; rw [Lib.extract_data, strOfNums_data, strOfNums_data, ← List.map_drop, ← List.map_take]
theorem bytesOf_str {q : List Int} (hb : Bytes q) : bytesOf (strOfNums q) = q := by
  unfold bytesOf; rw [strOfNums_data, List.map_map]; apply List.ext_getElem (by simp); intro j h1 h2; have r := hb (j : Int) (by omega) (by omega); rw [rd_get (by omega) (by simpa using h2)] at r; simp only [Int.toNat_natCast] at r; simp only [List.getElem_map, Function.comp, UInt8.toNat_ofNat']
  omega
theorem bt_str {q : List Int} (hb : Bytes q) (i : Int) : bt (strOfNums q) i = rd q i := by
  refine Eq.trans ?_ (congrArg (fun x => rd x i) (bytesOf_str hb)); unfold rd bt bytesOf; rw [List.getD_eq_getElem?_getD, List.getElem?_map]
  by_cases h : i.toNat < (strOfNums q).size
  · have hl : i.toNat < (strOfNums q).data.toList.length := by rw [← Lib.size_eq]; exact h
    rw [dif_pos h, List.getElem?_eq_getElem hl]; rfl
  · rw [dif_neg h, List.getElem?_eq_none (by rw [← Lib.size_eq]; omega)]; rfl
theorem Bytes.take {l : List Int} (hb : Bytes l) (n : Nat) : Bytes (l.take n) := by
  intro i h0 h1; rw [List.length_take] at h1; have := hb i h0 (by omega); rw [rd_get h0 (by omega)] at this; rw [rd_get h0 (by rw [List.length_take]; omega), List.getElem_take]; exact this
theorem dec_lt {q : List Int} (hb : Bytes q) {i : Nat} (h : i < q.length) : (rd q i < 128 ∧ Utf8.decode (strOfNums q) i = ((rd q i).toNat, 1)) ∨ (128 ≤ rd q i ∧ 128 ≤ (Utf8.decode (strOfNums q) i).1) := by
  have hr := hb.rd (show 0 ≤ (i : Int) by omega); rw [Lib.decode_at]; have g0 : ((strOfNums q).get! i).toNat = (rd q i).toNat := by have := str_get q i hb; omega
  rw [g0]
  by_cases c : rd q i < 128
  · left; refine ⟨c, ?_⟩; unfold Lib.decodeN; rw [if_pos (by omega)]
  · right; refine ⟨by omega, ?_⟩; unfold Lib.decodeN; rw [if_neg (by omega)]
    repeat' split
    all_goals (simp only; omega)
theorem rl_eq (q : List Int) (hb : Bytes q) (m : Nat) : ∀ pos : Nat, pos ≤ q.length → q.length - pos < m → impl_literal.rl (strOfNums q) m pos = some ((q.drop pos).all impl_literal.hexd) := by
  induction m with
  | zero => intro pos hp hm; omega
  | succ m ih =>
    intro pos hp hm; rw [impl_literal.rl, strOfNums_size]
    by_cases c : pos < q.length
    · have hr := hb.rd (show 0 ≤ (pos : Int) by omega); rw [if_pos c, drop_rd c, List.all_cons]
      rcases dec_lt hb c with ⟨a, e⟩ | ⟨a, e⟩
      · rw [e]; simp only; rw [Int.toNat_of_nonneg hr.1]
        by_cases z : impl_literal.hexd (rd q pos) = true
        · rw [if_pos z, z, ih (pos + 1) (by omega) (by omega)]; rfl
        · rw [if_neg z, Bool.eq_false_iff.2 z]; rfl
      · rw [if_neg (fun z => by have := hexd_iff.1 z; omega), show impl_literal.hexd (rd q pos) = false from Bool.eq_false_iff.2 (fun z => by have := hexd_iff.1 z; omega)]; rfl
    · rw [if_neg c, List.drop_of_length_le (by omega)]; rfl
def idxI : List Int → Int
  | [] => -1
  | b :: l => if b = 125 then 0 else if idxI l = -1 then -1 else idxI l + 1
theorem idx_eq : ∀ (q : List Int), Bytes q → Lib.indexByte (strOfNums q).data.toList 125 = idxI q := by
  intro q; rw [strOfNums_data]
  induction q with
  | nil => intro _; rfl
  | cons b q ih =>
    intro hb; have h0 := hb 0 (by omega) (by simp); have e0 : rd (b :: q) 0 = b := rfl; rw [e0] at h0; have := ih (by have := hb.drop 1; exact this); rw [List.map_cons, Lib.indexByte, idxI, this]
    by_cases c : b = 125
    · subst c; rfl
    · rw [if_neg c]; have : (UInt8.ofNat b.toNat == 125) = false := by
        rw [beq_eq_false_iff_ne]; intro h; have := congrArg UInt8.toNat h; rw [UInt8.toNat_ofNat'] at this; have h2 : (125 : UInt8).toNat = 125 := rfl; rw [h2] at this
        omega
      rw [this]; simp
theorem idx_ge : ∀ q : List Int, -1 ≤ idxI q
  | [] => by simp [idxI]
  | b :: q => by have := idx_ge q; unfold idxI; split; omega; split <;> omega
theorem idx_at : ∀ (q : List Int) (e : Nat), idxI q = e → e < q.length ∧ rd q e = 125 ∧ ∀ j : Nat, j < e → rd q j ≠ 125
  | [], e, h => by simp [idxI] at h
  | b :: q, e, h => by
    unfold idxI at h
    split at h
    · rename_i c; have : e = 0 := by omega
      subst this; exact ⟨by simp, c, fun j hj => by omega⟩
    · rename_i c
      split at h
      · omega
      · rename_i c2; have hg := idx_ge q; obtain ⟨e', rfl⟩ : ∃ e', e = e' + 1 := ⟨e - 1, by omega⟩; have := idx_at q e' (by omega); refine ⟨by simp; exact this.1, ?_, ?_⟩
        · have h2 := this.2.1; rw [rd_nat] at h2 ⊢; simpa using h2
        · intro j hj; cases j with
          | zero => exact c
          | succ j => have h2 := this.2.2 j (by omega); rw [rd_nat] at h2 ⊢; simpa using h2
theorem idx_of : ∀ (q : List Int) (e : Nat), e < q.length → rd q e = 125 → (∀ j : Nat, j < e → rd q j ≠ 125) → idxI q = e
  | [], e, h, _, _ => by simp at h
  | b :: q, 0, _, h, _ => by have h : b = 125 := h; unfold idxI; rw [if_pos h]; rfl
  | b :: q, e + 1, h, h1, h2 => by
    have c : b ≠ 125 := h2 0 (by omega); have := idx_of q e (by simpa using h) (by rw [rd_nat] at h1 ⊢; simpa using h1) (fun j hj => by have h3 := h2 (j + 1) (by omega); rw [rd_nat] at h3 ⊢; simpa using h3); unfold idxI; rw [if_neg c, this, if_neg (by omega)]
    omega
theorem pre_eq (q : List Int) (hb : Bytes q) : Lib.hasPrefix (strOfNums q).data.toList [92, 117, 123] = decide (rd q 0 = 92 ∧ rd q 1 = 117 ∧ rd q 2 = 123) := by
  have hu : ∀ (x : Int) (n : Nat), 0 ≤ x → x ≤ 255 → n ≤ 255 → ((UInt8.ofNat n == UInt8.ofNat x.toNat) = decide (x = n)) := by
    intro x n h0 h1 hn
    by_cases c : x = n
    · subst c; simp
    · rw [decide_eq_false c, beq_eq_false_iff_ne]; intro h; have := congrArg UInt8.toNat h; rw [UInt8.toNat_ofNat', UInt8.toNat_ofNat'] at this
      omega
  have h0 := hb.rd (show (0 : Int) ≤ 0 by omega); have h1 := hb.rd (show (0 : Int) ≤ 1 by omega); have h2 := hb.rd (show (0 : Int) ≤ 2 by omega); rw [strOfNums_data]; unfold Lib.hasPrefix
  match q with
  | [] => rfl
  | [a] =>
    have e1 : rd [a] 1 = 0 := rfl; rw [e1]; simp [List.isPrefixOf]
  | [a, b] =>
    have e1 : rd [a, b] 2 = 0 := rfl; rw [e1]; simp [List.isPrefixOf]
  | a :: b :: c :: t =>
    have e0 : rd (a :: b :: c :: t) 0 = a := rfl; have e1 : rd (a :: b :: c :: t) 1 = b := rfl; have e2 : rd (a :: b :: c :: t) 2 = c := rfl; rw [e0, e1, e2] at *; simp only [List.map_cons, List.isPrefixOf]; rw [show ((92 : UInt8) == UInt8.ofNat a.toNat) = decide (a = 92) from hu a 92 h0.1 h0.2 (by omega), show ((117 : UInt8) == UInt8.ofNat b.toNat) = decide (b = 117) from hu b 117 h1.1 h1.2 (by omega), show ((123 : UInt8) == UInt8.ofNat c.toNat) = decide (c = 123) from hu c 123 h2.1 h2.2 (by omega)]; simp [Bool.decide_and]
theorem run_idx {q : List Int} (h0 : rd q 0 = 92) (h1 : rd q 1 = 117) (h2 : rd q 2 = 123) (h : rd q (3 + (runL q).length : Nat) = 125) : idxI q = ((3 + (runL q).length : Nat) : Int) := by
  refine idx_of q _ (rd_ne0 (by rw [h]; decide)) h (fun j hj => ?_); have : j = 0 ∨ j = 1 ∨ j = 2 ∨ (3 ≤ j ∧ j < 3 + (runL q).length) := by omega
  rcases this with rfl | rfl | rfl | g
  · have : rd q ((0 : Nat) : Int) = 92 := h0
    omega
  · have : rd q ((1 : Nat) : Int) = 117 := h1
    omega
  · have : rd q ((2 : Nat) : Int) = 123 := h2
    omega
  · have := hexd_iff.1 (run_rd q (j - 3) (by omega)); rw [show 3 + (j - 3) = j by omega] at this
    omega
theorem esc_eq (q : List Int) (hb : Bytes q) (h0 : rd q 0 = 92) : impl_literal.esc (strOfNums q) = some ((escL q).getD (0, -1)) := by
  unfold impl_literal.esc; rw [strOfNums_size, bt_str hb, pre_eq q hb]
  by_cases c1 : rd q 1 = 34 ∨ rd q 1 = 92
  · have := rd_ne0 (q := q) (i := 1) (by simp only [Int.natCast_one]; omega); rw [if_pos ⟨by omega, c1⟩]; unfold escL; rw [if_pos c1]; rfl
  rw [if_neg (fun a => c1 a.2)]; unfold escL; rw [if_neg c1]
  by_cases c2 : rd q 1 = 117 ∧ rd q 2 = 123
  · rw [if_pos (decide_eq_true ⟨h0, c2.1, c2.2⟩), show Lib.indexByte (strOfNums q).data.toList 125 = idxI q from idx_eq q hb]; have hrl := run_le q; have key : rd q (3 + (runL q).length : Nat) = 125 → idxI q = ((3 + (runL q).length : Nat) : Int) := run_idx h0 c2.1 c2.2; have hge := idx_ge q; unfold impl_literal.escB
    by_cases e1 : idxI q < 4
    · rw [if_pos e1, if_neg (fun a => by have := key a.2.2.2.1; omega)]; rfl
    rw [if_neg e1]
    by_cases e2 : 9 < idxI q
    · rw [if_pos e2, if_neg (fun a => by have := key a.2.2.2.1; omega)]; rfl
    rw [if_neg e2]; obtain ⟨e, he⟩ : ∃ e : Nat, idxI q = e := ⟨(idxI q).toNat, by omega⟩; have hat := idx_at q e he; rw [he, Int.toNat_natCast, strOfNums_size, if_pos (by omega), ext_str]; have hbd : Bytes ((q.drop 3).take (e - 3)) := (hb.drop 3).take _; have hlen : ((q.drop 3).take (e - 3)).length = e - 3 := by rw [List.length_take, List.length_drop]; omega
    rw [rl_eq _ hbd 8 0 (by omega) (by omega), List.drop_zero]; simp only [Option.bind_some]; unfold impl_literal.escC; rw [strOfNums_size, bytesOf_str hbd, hlen]
    by_cases z : ((q.drop 3).take (e - 3)).all impl_literal.hexd = true
    · have hall : ∀ x ∈ (q.drop 3).take (e - 3), impl_literal.hexd x = true := List.all_eq_true.1 z; have hsplit : (q.drop 3).take 7 = (q.drop 3).take (e - 3) ++ (rd q e :: (q.drop (e + 1)).take (7 - (e - 3) - 1)) := by
        rw [show (7 : Nat) = (e - 3) + (7 - (e - 3)) by omega, List.take_add, List.drop_drop, show 3 + (e - 3) = e by omega, drop_rd hat.1, show (e - 3) + (7 - (e - 3)) - (e - 3) - 1 = (7 - (e - 3)) - 1 by omega]
        congr 1
        obtain ⟨m, hm⟩ : ∃ m, 7 - (e - 3) = m + 1 := ⟨7 - (e - 3) - 1, by omega⟩; rw [hm]; rfl
      have hrun : runL q = (q.drop 3).take (e - 3) := by
        unfold runL; rw [hsplit, List.takeWhile_append_of_pos hall, List.takeWhile_cons_of_neg (by rw [hat.2.1]; decide), List.append_nil]
      have hrl2 : (runL q).length = e - 3 := by rw [hrun, hlen]
      rw [if_pos z, if_pos ⟨by omega, by omega, hall⟩, ← hrun]; have hv := impl_literal.val_lt (runL q) (run_hex q) (by omega)
      by_cases k1 : 1114111 < impl_literal.val (runL q)
      · rw [if_pos k1, if_neg (fun a => by omega)]; rfl
      rw [if_neg k1]; have hpos : rd q (3 + (runL q).length : Nat) = 125 := by rw [hrl2, show 3 + (e - 3) = e by omega]; exact hat.2.1
      by_cases k2 : Lib.validRune (impl_literal.val (runL q)) = true
      · rw [if_pos k2]; have k2 := of_decide_eq_true k2; rw [if_pos ⟨c2.1, c2.2, by omega, hpos, by omega⟩, hrl2]; simp only [Option.getD_some, Option.some.injEq, Prod.mk.injEq, true_and]
        omega
      · rw [if_neg k2]; have k2 := of_decide_eq_false (Bool.eq_false_iff.2 k2); rw [if_neg (fun a => by omega)]; rfl
    · rw [if_neg z, if_neg]
      · rfl
      · intro a; have hk := key a.2.2.2.1; have : e = 3 + (runL q).length := by omega
        apply z; rw [List.all_eq_true, show e - 3 = (runL q).length by omega, ← run_take]; exact run_hex q
  · rw [if_neg (by simp only [decide_eq_true_eq]; exact fun a => c2 a.2), if_neg (fun a => c2 ⟨a.1, a.2.1⟩)]; rfl
theorem check_low {l : List Int} (hb : Bytes l) {d i : Nat} (h : i < l.length) (c : rd l i < 128) : checkFrom l (d + 1) i = checkFrom l d ((i + 1 : Nat) : Int) := by
  rw [checkFrom]; have e : chr l i = (1, rd l i) := by rw [chr_eq hb (by omega) (by omega)]; unfold chrZ; rw [if_pos c]
  rw [if_pos (by omega), e, if_neg (show ¬ ((1, rd l i) : Int × Int).1 = 0 from by simp)]; rfl
theorem check_lows {l : List Int} (hb : Bytes l) (n : Nat) : ∀ (d i : Nat), i + n ≤ l.length → (∀ j : Nat, j < n → rd l ((i + j : Nat) : Int) < 128) → checkFrom l (d + n) i = checkFrom l d ((i + n : Nat) : Int) := by
  induction n with
  | zero => intro d i _ _; rfl
  | succ n ih =>
    intro d i hi hj; rw [show d + (n + 1) = (d + n) + 1 by omega, check_low hb (by omega) (by simpa using hj 0 (by omega)), ih d (i + 1) (by omega) (fun j h => by have := hj (j + 1) (by omega); rw [show i + (j + 1) = i + 1 + j by omega] at this; exact this), show i + 1 + n = i + (n + 1) by omega]
theorem lit_high {l : List Int} (n : Nat) : ∀ (D i : Nat) (out : List Int), i + n ≤ l.length → (∀ x ∈ (l.drop i).take n, 128 ≤ x) → litR l (D + n) i out = litR l D (i + n) (out ++ (l.drop i).take n) := by
  induction n with
  | zero => intro D i out _ _; simp
  | succ n ih =>
    intro D i out hi hx; have ht : (l.drop i).take (n + 1) = rd l i :: (l.drop (i + 1)).take n := by rw [drop_rd (by omega)]; rfl
    rw [ht] at hx ⊢; have h1 := hx (rd l i) (by simp); rw [show D + (n + 1) = (D + n) + 1 by omega, litR, if_pos (by omega), if_neg (by omega), if_neg (by omega), if_neg (by omega)]; rw [ih D (i + 1) _ (by omega) (fun x h => hx x (by simp [h])), show i + 1 + n = i + (n + 1) by omega, List.append_assoc]; rfl
def cv (p : List Int × Int) : List Int × Int := if p.2 = 0 then ([], -1) else p
theorem dec_bd (s : ByteArray) (i : Nat) (h : i < s.size) : 1 ≤ (Utf8.decode s i).2 ∧ i + (Utf8.decode s i).2 ≤ s.size := by
  rw [Lib.decode_at]; unfold Lib.decodeN; repeat' split
  all_goals (simp only; omega)
theorem ll_all (l : List Int) (hb : Bytes l) (hl : l.length ≤ 1048576) (m : Nat) : ∀ (i : Nat) (out : List Int), i ≤ l.length → l.length - i < m → out.length ≤ 4 * i →
    ∃ r, impl_literal.ll (strOfNums l) m i out = some r ∧ ∀ d D : Nat, l.length - i < d → l.length - i < D → (checkFrom l d i).1 = 0 → r = cv (litR l D i out) := by
  induction m with
  | zero => intro i out hi hm; omega
  | succ m ih =>
    intro i out hi hm ho; rw [impl_literal.ll, strOfNums_size]
    by_cases c : i < l.length
    case neg =>
      rw [if_neg c]; refine ⟨_, rfl, fun d D hd hD _ => ?_⟩; obtain ⟨D', rfl⟩ : ∃ D', D = D' + 1 := ⟨D - 1, by omega⟩; rw [litR, if_neg c]; rfl
    rw [if_pos c]; have hr := hb.rd (show 0 ≤ (i : Int) by omega); have hbd := dec_bd (strOfNums l) i (by rw [strOfNums_size]; exact c); rw [strOfNums_size] at hbd; have hd1 := dec_at hb c; have hlw := dec_lt hb c; have lit1 : ∀ D : Nat, l.length - i < D → ∃ D', D = D' + 1 ∧ l.length - (i + 1) < D' + 1 := fun D h => ⟨D - 1, by omega, by omega⟩
    have hext : (strOfNums l).extract i l.length = strOfNums (l.drop i) := by rw [ext_str, List.take_of_length_le (by rw [List.length_drop]; omega)]
    have hchr : ∀ d : Nat, l.length - i < d → (checkFrom l d i).1 = 0 → ¬ ((decI (l.drop i)).1 = 65533 ∧ (decI (l.drop i)).2 ≤ 1) ∧ chr l i = ((decI (l.drop i)).2, (decI (l.drop i)).1) ∧ ¬ (chr l i).1 = 0 ∧ (∃ d', d = d' + 1 ∧ (checkFrom l d' ((i : Int) + (chr l i).1)).1 = 0) := by
      intro d hd hc; obtain ⟨d', rfl⟩ : ∃ d', d = d' + 1 := ⟨d - 1, by omega⟩; rw [checkFrom, if_pos (by omega)] at hc; have hz : ¬ (chr l i).1 = 0 := fun e => by rw [if_pos e] at hc; exact absurd hc (by simp)
      rw [if_neg hz] at hc; have hnn : ¬ ((decI (l.drop i)).1 = 65533 ∧ (decI (l.drop i)).2 ≤ 1) := fun e => hz (by unfold chr; rw [Int.toNat_natCast, if_pos e])
      exact ⟨hnn, by unfold chr; rw [Int.toNat_natCast, if_neg hnn], hz, d', rfl, hc⟩
    rw [hd1] at hchr; simp only at hchr; generalize hN : (Utf8.decode (strOfNums l) i).2 = n at hbd hchr hlw ⊢; generalize hR : ((Utf8.decode (strOfNums l) i).1 : Int) = rr at hchr ⊢; have hlw2 : (rd l i < 128 ∧ rr = rd l i ∧ n = 1) ∨ (128 ≤ rd l i ∧ 128 ≤ rr) := by
      rcases hlw with ⟨a, b⟩ | ⟨a, b⟩
      · rw [b] at hN hR; simp only at hN hR
        left; exact ⟨a, by omega, hN.symm⟩
      · right; exact ⟨a, by omega⟩
    by_cases c1 : rr = 34
    · rw [if_pos c1]; refine ⟨_, rfl, fun d D hd hD _ => ?_⟩; obtain ⟨D', rfl, _⟩ := lit1 D hD; rw [litR, if_pos c, if_pos (by omega)]; unfold cv; rw [if_neg (by simp only; omega)]
    rw [if_neg c1]
    by_cases c2 : rr = 10
    · rw [if_pos c2]; refine ⟨_, rfl, fun d D hd hD _ => ?_⟩; obtain ⟨D', rfl, _⟩ := lit1 D hD; rw [litR, if_pos c, if_neg (by omega), if_pos (by omega)]; rfl
    rw [if_neg c2]
    by_cases c3 : rr = 65533 ∧ (n : Int) ≤ 1
    · rw [if_pos c3]; exact ⟨_, rfl, fun d D hd hD hc => absurd c3 (hchr d hd hc).1⟩
    rw [if_neg c3]
    by_cases c4 : rr = 92
    · rw [if_pos c4, hext]; have h92 : rd l i = 92 := by omega
      have h0 : rd (l.drop i) 0 = 92 := by have := rd_drop l i 0 (by omega); rw [this, Int.add_zero, h92]
      rw [esc_eq _ (hb.drop i) h0]; simp only [Option.bind_some]; cases h : escL (l.drop i) with
      | none =>
        simp only [Option.getD_none]; rw [if_pos (by decide)]; refine ⟨_, rfl, fun d D hd hD _ => ?_⟩; obtain ⟨D', rfl, _⟩ := lit1 D hD; rw [litR, if_pos c, if_neg (by omega), if_neg (by omega), if_pos h92, h]; rfl
      | some e =>
        have hc := esc_bd h h0; rw [List.length_drop] at hc; obtain ⟨q1, q2, q3, q4, q5, q6, q7⟩ := hc; simp only [Option.getD_some]; rw [if_neg (by omega), if_pos ⟨by omega, by omega, by omega⟩]; obtain ⟨r, h1, h2⟩ := ih (i + e.2.toNat) (out ++ Lib.encodeRuneZ e.1) (by omega) (by omega) (by rw [List.length_append]; omega); refine ⟨r, h1, fun d D hd hD hk => ?_⟩; obtain ⟨D', rfl, _⟩ := lit1 D hD; rw [litR, if_pos c, if_neg (by omega), if_neg (by omega), if_pos h92, h]; refine h2 (d - e.2.toNat) D' (by omega) (by omega) ?_
        have := check_lows hb e.2.toNat (d - e.2.toNat) i (by omega) (fun j hj => by
          have hh := q6 j (by omega); rw [rd_drop l i _ (by omega)] at hh
          rw [show ((i + j : Nat) : Int) = (i : Int) + (j : Int) by omega]; exact hh)
        rw [show d - e.2.toNat + e.2.toNat = d by omega] at this; rw [← this]; exact hk
    · rw [if_neg c4, if_pos ⟨by omega, by omega⟩]; have hb2 : bytesOf ((strOfNums l).extract i (i + n)) = (l.drop i).take n := by rw [ext_str, show i + n - i = n by omega, bytesOf_str ((hb.drop i).take n)]
      rw [hb2]; obtain ⟨r, h1, h2⟩ := ih (i + n) (out ++ (l.drop i).take n) (by omega) (by omega) (by rw [List.length_append, List.length_take]; omega); refine ⟨r, h1, fun d D hd hD hk => ?_⟩; obtain ⟨_, k2, k3, d', rfl, k5⟩ := hchr d hd hk; have he := chr_enc hb c k3; have ek1 : (chr l i).1 = (n : Int) := by rw [k2]
      have ek2 : (chr l i).2 = rr := by rw [k2]
      rw [ek1, ek2, Int.toNat_natCast] at he; rw [ek1] at k5; have hlit : litR l D i out = litR l (D - n) (i + n) (out ++ (l.drop i).take n) := by
        rcases he with ⟨a1, a2, a3⟩ | ⟨a1, a2, a3, a4⟩
        · obtain ⟨D', rfl, _⟩ := lit1 D hD; have : n = 1 := by omega
          subst this; rw [litR, if_pos c, if_neg (by omega), if_neg (by omega), if_neg (by omega), show D' + 1 - 1 = D' by omega, drop_rd c]; rfl
        · have := lit_high (l := l) n (D - n) i out (by omega) a4
          rwa [show D - n + n = D by omega] at this
      rw [hlit]; exact h2 d' (D - n) (by omega) (by omega) (by rw [show ((i + n : Nat) : Int) = (i : Int) + n by omega]; exact k5)
def unqR (l : List Int) : List Int × Int :=
  if (checkRes l).1 = 0 ∧ rd l 0 = 34 ∧ (litR l (l.length + 1) 1 []).2 = l.length then ((litR l (l.length + 1) 1 []).1, 0) else ([], 2)
theorem lit_len (l : List Int) (D : Nat) : ∀ (i : Nat) (out : List Int), out.length ≤ 4 * i → i ≤ l.length → ((litR l D i out).1.length : Int) ≤ 4 * l.length := by
  induction D with
  | zero => intro i out h _; simp [litR]; omega
  | succ D ih =>
    intro i out h hi; rw [litR]
    by_cases c : i < l.length
    · rw [if_pos c]
      split
      · simp only; omega
      · split
        · simp; omega
        · split
          · rename_i c3; cases he : escL (l.drop i) with
            | none => simp; omega
            | some e =>
              have h0 : rd (l.drop i) 0 = 92 := by have := rd_drop l i 0 (by omega); rw [this, Int.add_zero, c3]
              have hc := esc_bd he h0; rw [List.length_drop] at hc; exact ih _ _ (by rw [List.length_append]; omega) (by omega)
          · exact ih _ _ (by rw [List.length_append, List.length_singleton]; omega) (by omega)
    · rw [if_neg c]; simp; omega
theorem spec_UnquoteText_ev (l : List Int) (hb : Bytes l) (hl : l.length ≤ 1048576) : Ev (fun k => spec_UnquoteText.f k l) (unqR l) := by
  simp only [spec_UnquoteText.f, spec_l1good.f]; refine Ev.bind (Ev.bind (spec_CheckText_ev l hb (by omega)) (Ev.now _)) ?_; have hn : ¬ ((checkRes l).1 = 0 ∧ rd l 0 = 34 ∧ (litR l (l.length + 1) 1 []).2 = l.length) → unqR l = ([], 2) := fun h => if_neg h
  have hy : ((checkRes l).1 = 0 ∧ rd l 0 = 34 ∧ (litR l (l.length + 1) 1 []).2 = l.length) → unqR l = ((litR l (l.length + 1) 1 []).1, 0) := fun h => if_pos h
  by_cases c : (checkRes l).1 = 0
  case neg => rw [hn (fun a => c a.1)]; exact ev_neg (by simpa using c) (Ev.now _)
  refine ev_pos (beq_iff_eq.2 c) ?_; have hlit : Ev (fun k => spec_l1literal.f k l 0) (if rd l 0 = 34 then litR l (l.length + 1) 1 [] else ([], 0)) := by
    have j0 : ¬ rd l 0 = 34 → Ev (fun k => spec_l1literal.j0 k l 0 true) (if rd l 0 = 34 then litR l (l.length + 1) 1 [] else ([], 0)) := by
      intro h; refine Ev.step (fun _ => rfl) ?_; simp only [spec_l1literal.j0]; rw [if_neg h]; exact ev_pos (by trivial) (Ev.now _)
    simp only [spec_l1literal.f]; refine ev_ite (fun e => j0 (by rw [rd_out (by omega)]; decide)) (fun e => ev_pos (by omega) (ev_pos (by omega) ?_))
    by_cases c2 : rd l 0 = 34
    · rw [show (rd l 0 != 34) = false by rw [c2]; rfl, if_pos c2]; refine Ev.step (fun _ => rfl) ?_; simp only [spec_l1literal.j0]; refine ev_neg (by simp) ?_; rw [show wrap64 (0 + 1) = ((1 : Nat) : Int) by unfold wrap64; omega]; exact spec_lit_loop l hb hl (l.length + 1) 1 [] (by omega) (by omega) (by simp)
    · rw [show (rd l 0 != 34) = true from bne_iff_ne.2 c2]; exact j0 c2
  refine Ev.bind hlit ?_
  by_cases c2 : rd l 0 = 34
  · rw [if_pos c2]; refine ev_ite (fun e => ?_) (fun e => ev_ite (fun e2 => ?_) (fun e2 => ?_))
    · rw [hn (fun a => by have a2 := a.2.2; rw [e] at a2; have : l.length = 0 := by omega
                          rw [rd_out (by omega)] at c2; exact absurd c2 (by decide))]; exact Ev.now _
    · rw [hy ⟨c, c2, e2⟩]; exact Ev.now _
    · rw [hn (fun a => e2 a.2.2)]; exact Ev.now _
  · rw [if_neg c2, hn (fun a => c2 a.2.1)]; exact ev_pos rfl (Ev.now _)
theorem impl_UnquoteText_ev (l : List Int) (hb : Bytes l) (hl : l.length ≤ 1048576) : Ev (fun k => impl_UnquoteText.f k l) (unqR l) := by
  have hlit : ∃ r, (∀ k, impl_literal.f k (strOfNums l) = some r) ∧ ((checkRes l).1 = 0 → (rd l 0 = 34 → r = cv (litR l (l.length + 1) 1 [])) ∧ (¬ rd l 0 = 34 → r = ([], -1))) := by
    unfold impl_literal.f; rw [strOfNums_size, if_pos (by omega), bt_str hb]
    by_cases c : rd l 0 = 34
    · have h0 := rd_ne0 (q := l) (i := 0) (by show rd l 0 ≠ 0; rw [c]; decide); rw [if_pos ⟨h0, c⟩]; obtain ⟨r, h1, h2⟩ := ll_all l hb hl (l.length + 1) 1 [] (by omega) (by omega) (by simp); refine ⟨r, fun _ => h1, fun hk => ⟨fun _ => ?_, fun h => absurd c h⟩⟩; have := check_low (d := l.length) hb h0 (by show rd l 0 < 128; rw [c]; decide); exact h2 l.length (l.length + 1) (by omega) (by omega) (by rw [← this]; exact hk)
    · rw [if_neg (fun a => c a.2)]; exact ⟨_, fun _ => rfl, fun _ => ⟨fun h => absurd h c, fun _ => rfl⟩⟩
  obtain ⟨r, h1, h2⟩ := hlit; simp only [impl_UnquoteText.f, impl_wellFormed.f, h1]; refine ev_letv (Ev.bind (Ev.bind (impl_CheckText_ev l hb (by omega)) (Ev.now _)) ?_); have hn : ¬ ((checkRes l).1 = 0 ∧ rd l 0 = 34 ∧ (litR l (l.length + 1) 1 []).2 = l.length) → unqR l = ([], 2) := fun h => if_neg h
  have hy : ((checkRes l).1 = 0 ∧ rd l 0 = 34 ∧ (litR l (l.length + 1) 1 []).2 = l.length) → unqR l = ((litR l (l.length + 1) 1 []).1, 0) := fun h => if_pos h
  by_cases c : (checkRes l).1 = 0
  case neg => rw [hn (fun a => c a.1)]; exact ev_neg (by simpa using c) (Ev.now _)
  refine ev_pos (beq_iff_eq.2 c) ?_
  by_cases c2 : rd l 0 = 34
  · have hr := (h2 c).1 c2; have h0 := rd_ne0 (q := l) (i := 0) (by show rd l 0 ≠ 0; rw [c2]; decide)
    by_cases c3 : (litR l (l.length + 1) 1 []).2 = 0
    · have : r = ([], -1) := by rw [hr]; unfold cv; rw [if_pos c3]
      rw [this, hn (fun a => by have := a.2.2; omega)]; exact ev_neg (by simp only; omega) (Ev.now _)
    · have : r = litR l (l.length + 1) 1 [] := by rw [hr]; unfold cv; rw [if_neg c3]
      rw [this]; refine ev_ite (fun e => ?_) (fun e => ?_)
      · rw [hy ⟨c, c2, e⟩]; exact Ev.now _
      · rw [hn (fun a => e a.2.2)]; exact Ev.now _
  · rw [(h2 c).2 c2, hn (fun a => c2 a.2.1)]; exact ev_neg (by simp only; omega) (Ev.now _)
theorem unqR_len (l : List Int) : (unqR l).1.length ≤ 4 * l.length := by
  unfold unqR
  split
  · rename_i a; have h0 := rd_ne0 (q := l) (i := 0) (by show rd l 0 ≠ 0; rw [a.2.1]; decide); have := lit_len l (l.length + 1) 1 [] (by simp) (by omega); simp only; omega
  · simp

theorem FnExactUnquoteText : laws_FnExactUnquoteText.Pure := by
  intro l0 w0; have hm : l0.length ≤ 9223372036854775807 := w0.1; have hb := Bytes.of w0; refine Ev.rounds (g := fun k => laws_FnExactUnquoteText.f k l0) ?_; simp only [laws_FnExactUnquoteText.f]; refine ev_ite (fun _ => Ev.now _) (fun hc => ?_); have e1 := toByteS_ev l0 (by omega); have e2 := spec_UnquoteText_ev l0 hb (by omega); have e3 := impl_UnquoteText_ev l0 hb (by omega); have ql := unqR_len l0; have e4 := eqByteS_self (unqR l0).1 (by omega); have e5 := eqByteS_self l0 (by omega); have e6 := markByteS_ev l0 1 (by omega) (by omega); have e7 := markByteS_ev (unqR l0).1 1 (by omega) (by omega); have e8 := heldByteS_ev (unqR l0).1.length 1 (by omega) (by omega); refine Ev.bind e1 (Ev.bind e2 (Ev.bind e1 (Ev.bind e3 (Ev.bind e4 (ev_pos (by trivial) ?_))))); have hne : ((unqR l0).2 != (unqR l0).2) = false := by simp
  rw [hne]; refine Ev.step (fun _ => rfl) ?_; simp only [laws_FnExactUnquoteText.j0]; refine ev_neg (by simp) (Ev.bind e1 (Ev.bind e5 (ev_pos (by trivial) (Ev.bind e6 (ev_neg (by simp only; omega) (Ev.bind e4 (ev_pos (by trivial) ?_))))))); rw [hne]; refine Ev.step (fun _ => rfl) ?_; simp only [laws_FnExactUnquoteText.j1]; refine ev_neg (by simp) (Ev.bind e7 (Ev.bind e8 (ev_neg (by omega) (ev_pos (by trivial) (Ev.bind e1 (Ev.bind e3 (Ev.bind e4 (ev_pos (by trivial) ?_)))))))); rw [hne]; refine Ev.step (fun _ => rfl) ?_; simp only [laws_FnExactUnquoteText.j2]; exact ev_neg (by simp) (Ev.bind e8 (ev_neg (by omega) (ev_pos (by trivial) (Ev.now _))))

end Go.Proofs.YtbnpkiokpnmphaaDoor.Pure
