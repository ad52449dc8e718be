/- Of all bytes: the drawn hops packed and unpacked are the same, and the drawn bytes are taken where the reference takes them: no condition. -/
import Derived.Test.YtbeheecjemdcdaaPFnHopsx5
import Derived.OpenShut
namespace Go.Proofs.Ytbeheecjemdcdaa.Pure
set_option linter.unusedVariables false
set_option linter.unusedSimpArgs false
set_option linter.unusedSectionVars false
open Go.RowKit Go.Proofs.Ytbeheecjemdcdaa.PFnHops Go.Proofs.YtbeheecjemdcdaaW.PrintWords Go.Proofs.YtbeheecjemdcdaaW.PrintLast Go.Proofs.YtbeheecjemdcdaaW.PrintMore
section EvLib
variable {α β : Type}
theorem ev_pos {c : Prop} [Decidable c] {A B : Nat → Option α} {r : α} (h : c) (k : Ev A r) : Ev (fun n => if c then A n else B n) r :=
 Ev.congr (fun _ => if_pos h) k
theorem ev_neg {c : Prop} [Decidable c] {A B : Nat → Option α} {r : α} (h : ¬ c) (k : Ev B r) : Ev (fun n => if c then A n else B n) r :=
 Ev.congr (fun _ => if_neg h) k
theorem ev_ite {c : Prop} [Decidable c] {A B : Nat → Option α} {r : α} (h1 : c → Ev A r) (h2 : ¬ c → Ev B r) : Ev (fun n => if c then A n else B n) r := by
 by_cases h : c
 ·exact ev_pos h (h1 h)
 ·exact ev_neg h (h2 h)
theorem ev_letv {a : α} {f : Nat → α → Option β} {r : β} (k : Ev (fun n => f n a) r) : Ev (fun n => (some a).bind (f n)) r := Ev.bind (Ev.now a) k
end EvLib
theorem wrap64_id {x : Int} (h0 : -9223372036854775808 ≤ x) (h1 : x ≤ 9223372036854775807) : wrap64 x = x := by unfold wrap64; omega
theorem tdiv_nn {x y : Int} (h0 : 0 ≤ x) : Int.tdiv x y = x / y := Int.tdiv_eq_ediv_of_nonneg h0
theorem tmod_nn {x y : Int} (h0 : 0 ≤ x) : Int.tmod x y = x % y := Int.tmod_eq_emod_of_nonneg h0
theorem rd_get {l : List Int} {i : Int} (h0 : 0 ≤ i) (h1 : i.toNat < l.length) : rd l i = l[i.toNat] := by
 unfold rd; rw [List.getD_eq_getElem?_getD, List.getElem?_eq_getElem h1]; rfl
theorem rd_mem {l : List Int} {i : Int} (h0 : 0 ≤ i) (h1 : i < l.length) : rd l i ∈ l := by
 have h : i.toNat < l.length := by omega
 rw [rd_get h0 h]; exact List.getElem_mem h
theorem rd_set_eq {l : List Int} {i : Int} {v : Int} (h0 : 0 ≤ i) (h1 : i < l.length) : rd (l.set i.toNat v) i = v := by
 have h : i.toNat < l.length := by omega
 unfold rd; rw [List.getD_eq_getElem?_getD, List.getElem?_set_self h]; rfl
theorem rd_set_ne {l : List Int} {i j : Int} {v : Int} (h0 : 0 ≤ i) (h1 : 0 ≤ j) (h : i ≠ j) : rd (l.set i.toNat v) j = rd l j := by
 unfold rd; rw [List.getD_eq_getElem?_getD, List.getElem?_set_ne (by omega), ← List.getD_eq_getElem?_getD]
theorem rd_ext {l m : List Int} (h : l.length = m.length) (e : ∀ i : Int, 0 ≤ i → i < l.length → rd l i = rd m i) : l = m := by
 apply List.ext_getElem h
 intro i h1 h2
 have := e i (by omega) (by omega)
 rw [rd_get (by omega) (by simpa using h1), rd_get (by omega) (by simpa using h2)] at this
 simpa using this

theorem wf_u8 {x : Int} (h : (Lit.int .u8 x).wf = true) : 0 ≤ x ∧ x ≤ 255 := by
 simp [Lit.wf, IntKind.min, IntKind.max, IntKind.signed, IntKind.bits] at h; omega
def byt (f : Nat → Int) (j : Nat) : Int := f (8*j) + f (8*j+1) * 2 + f (8*j+2) * 4 + f (8*j+3) * 8 + f (8*j+4) * 16 + f (8*j+5) * 32 + f (8*j+6) * 64 + f (8*j+7) * 128
def hcode (v : Int) : Int := if v < 0 then 4 else v
def hbit (hops : List Int) (t : Nat) : Int := hcode (rd hops (t / 3 : Nat)) / 2 ^ (t % 3) % 2
def upto (hops : List Int) (m t : Nat) : Int := if t < m then hbit hops t else 0
def packed (hops : List Int) (m : Nat) : List Int := (List.range ((3 * hops.length + 7) / 8)).map (byt (upto hops m))
theorem hbit_01 (hops : List Int) (t : Nat) : 0 ≤ hbit hops t ∧ hbit hops t ≤ 1 := by unfold hbit; omega
theorem upto_01 (hops : List Int) (m t : Nat) : 0 ≤ upto hops m t ∧ upto hops m t ≤ 1 := by
 unfold upto; split
 ·exact hbit_01 _ _
 ·omega
theorem byt_range {f : Nat → Int} (h : ∀ t, 0 ≤ f t ∧ f t ≤ 1) (j : Nat) : 0 ≤ byt f j ∧ byt f j ≤ 255 := by
 have h0 := h (8*j); have h1 := h (8*j+1); have h2 := h (8*j+2); have h3 := h (8*j+3); have h4 := h (8*j+4); have h5 := h (8*j+5); have h6 := h (8*j+6); have h7 := h (8*j+7)
 unfold byt; omega
theorem byt_bit {f : Nat → Int} (h : ∀ t, 0 ≤ f t ∧ f t ≤ 1) (j s : Nat) (hs : s < 8) : byt f j / 2 ^ s % 2 = f (8 * j + s) := by
 have h0 := h (8*j); have h1 := h (8*j+1); have h2 := h (8*j+2); have h3 := h (8*j+3); have h4 := h (8*j+4); have h5 := h (8*j+5); have h6 := h (8*j+6); have h7 := h (8*j+7)
 unfold byt
 have e : s = 0 ∨ s = 1 ∨ s = 2 ∨ s = 3 ∨ s = 4 ∨ s = 5 ∨ s = 6 ∨ s = 7 := by omega
 rcases e with rfl | rfl | rfl | rfl | rfl | rfl | rfl | rfl <;> (try simp only [Nat.add_zero, Int.pow_zero]) <;> omega
theorem byt_congr {f g : Nat → Int} (j : Nat) (h : ∀ s, s < 8 → g (8 * j + s) = f (8 * j + s)) : byt g j = byt f j := by
 have h0 := h 0 (by omega); have h1 := h 1 (by omega); have h2 := h 2 (by omega); have h3 := h 3 (by omega); have h4 := h 4 (by omega); have h5 := h 5 (by omega); have h6 := h 6 (by omega); have h7 := h 7 (by omega)
 simp only [Nat.add_zero] at h0
 unfold byt; rw [h0, h1, h2, h3, h4, h5, h6, h7]
theorem byt_upd {f g : Nat → Int} (j s : Nat) (hs : s < 8) (h : ∀ t, t ≠ 8 * j + s → g t = f t) (hf : f (8 * j + s) = 0) : byt g j = byt f j + g (8 * j + s) * 2 ^ s := by
 have e : s = 0 ∨ s = 1 ∨ s = 2 ∨ s = 3 ∨ s = 4 ∨ s = 5 ∨ s = 6 ∨ s = 7 := by omega
 unfold byt
 rcases e with rfl | rfl | rfl | rfl | rfl | rfl | rfl | rfl
 ·rw [h (8*j+1) (by omega), h (8*j+2) (by omega), h (8*j+3) (by omega), h (8*j+4) (by omega), h (8*j+5) (by omega), h (8*j+6) (by omega), h (8*j+7) (by omega)]; simp only [Nat.add_zero] at hf ⊢; rw [hf]; omega
 ·rw [h (8*j) (by omega), h (8*j+2) (by omega), h (8*j+3) (by omega), h (8*j+4) (by omega), h (8*j+5) (by omega), h (8*j+6) (by omega), h (8*j+7) (by omega), hf]; omega
 ·rw [h (8*j) (by omega), h (8*j+1) (by omega), h (8*j+3) (by omega), h (8*j+4) (by omega), h (8*j+5) (by omega), h (8*j+6) (by omega), h (8*j+7) (by omega), hf]; omega
 ·rw [h (8*j) (by omega), h (8*j+1) (by omega), h (8*j+2) (by omega), h (8*j+4) (by omega), h (8*j+5) (by omega), h (8*j+6) (by omega), h (8*j+7) (by omega), hf]; omega
 ·rw [h (8*j) (by omega), h (8*j+1) (by omega), h (8*j+2) (by omega), h (8*j+3) (by omega), h (8*j+5) (by omega), h (8*j+6) (by omega), h (8*j+7) (by omega), hf]; omega
 ·rw [h (8*j) (by omega), h (8*j+1) (by omega), h (8*j+2) (by omega), h (8*j+3) (by omega), h (8*j+4) (by omega), h (8*j+6) (by omega), h (8*j+7) (by omega), hf]; omega
 ·rw [h (8*j) (by omega), h (8*j+1) (by omega), h (8*j+2) (by omega), h (8*j+3) (by omega), h (8*j+4) (by omega), h (8*j+5) (by omega), h (8*j+7) (by omega), hf]; omega
 ·rw [h (8*j) (by omega), h (8*j+1) (by omega), h (8*j+2) (by omega), h (8*j+3) (by omega), h (8*j+4) (by omega), h (8*j+5) (by omega), h (8*j+6) (by omega), hf]; omega
theorem packed_length (hops : List Int) (m : Nat) : (packed hops m).length = (3 * hops.length + 7) / 8 := by simp [packed]
theorem packed_rd (hops : List Int) (m : Nat) {i : Int} (h0 : 0 ≤ i) (h1 : i < (((3 * hops.length + 7) / 8 : Nat) : Int)) : rd (packed hops m) i = byt (upto hops m) i.toNat := by
 rw [rd_get h0 (by rw [packed_length]; omega)]
 simp only [packed, List.getElem_map, List.getElem_range]
theorem packed_zero (hops : List Int) : packed hops 0 = List.replicate ((3 * hops.length + 7) / 8) 0 := by
 apply rd_ext (by simp [packed])
 intro i h0 h1
 rw [packed_length] at h1
 rw [packed_rd _ _ h0 h1, rd_get h0 (by simp; omega)]
 simp [byt, upto]
theorem packed_step (hops : List Int) (m : Nat) (hm : m < 3 * hops.length) {i : Int} (hi : i = (m / 8 : Nat)) {v : Int}
  (hv : v = rd (packed hops m) i + hbit hops m * 2 ^ (m % 8)) : (packed hops m).set i.toNat v = packed hops (m + 1) := by
 have hj : m / 8 < (3 * hops.length + 7) / 8 := by omega
 apply rd_ext (by simp [packed])
 intro q q0 q1
 rw [List.length_set, packed_length] at q1
 rw [packed_rd _ (m + 1) q0 q1]
 by_cases e : q = i
 ·subst e
  rw [rd_set_eq q0 (by rw [packed_length]; exact q1), hv, packed_rd _ _ q0 q1]
  have hq : q.toNat = m / 8 := by omega
  rw [hq, byt_upd (f := upto hops m) (g := upto hops (m+1)) (m / 8) (m % 8) (by omega) ?_ ?_]
  ·rw [show 8 * (m / 8) + m % 8 = m by omega]; unfold upto; rw [if_pos (by omega)]
  ·intro t ht; unfold upto
   by_cases h1 : t < m
   ·rw [if_pos h1, if_pos (by omega)]
   ·rw [if_neg h1, if_neg (by omega)]
  ·unfold upto; rw [if_neg (by omega)]
 ·rw [rd_set_ne (by omega) q0 (by omega), packed_rd _ _ q0 q1]
  refine (byt_congr _ (fun s hs => ?_)).symm
  unfold upto
  have : 8 * q.toNat + s ≠ m := by omega
  by_cases h1 : 8 * q.toNat + s < m
  ·rw [if_pos h1, if_pos (by omega)]
  ·rw [if_neg h1, if_neg (by omega)]
theorem packed_same (hops : List Int) (m : Nat) (h : hbit hops m = 0) : packed hops (m + 1) = packed hops m := by
 apply rd_ext (by simp [packed])
 intro q q0 q1
 rw [packed_length] at q1
 rw [packed_rd _ _ q0 q1, packed_rd _ _ q0 q1]
 refine byt_congr _ (fun s hs => ?_)
 unfold upto
 by_cases h1 : 8 * q.toNat + s < m
 ·rw [if_pos h1, if_pos (by omega)]
 ·by_cases h2 : 8 * q.toNat + s = m
  ·rw [h2, if_pos (by omega), if_neg (by omega), h]
  ·rw [if_neg h1, if_neg (by omega)]
theorem packed_byte (hops : List Int) (m : Nat) {i : Int} (h0 : 0 ≤ i) (h1 : i < (((3 * hops.length + 7) / 8 : Nat) : Int)) : 0 ≤ rd (packed hops m) i ∧ rd (packed hops m) i ≤ 255 := by
 rw [packed_rd _ _ h0 h1]; exact byt_range (upto_01 _ _) _
theorem or_bit_nat : ∀ x, x < 256 → ∀ s, s < 8 → x / 2 ^ s % 2 = 0 → x ||| 2 ^ s = x + 2 ^ s := by decide +kernel
theorem u8_or_bit {x b : Int} {s : Nat} (hx0 : 0 ≤ x) (hx1 : x ≤ 255) (hs : s < 8) (hb0 : 0 ≤ b) (hb1 : b ≤ 1) (hz : x / 2 ^ s % 2 = 0) : Go.bits .or .u8 x (b * 2 ^ s) = x + b * 2 ^ s := by
 obtain ⟨a, rfl⟩ := Int.eq_ofNat_of_zero_le hx0
 have e : b = 0 ∨ b = 1 := by omega
 have hp : 2 ^ s < 2 ^ 8 := Nat.pow_lt_pow_right (by decide) hs
 rcases e with rfl | rfl
 ·have := (bits_nat .u8 8 (by decide) wraps_u8 a 0 (by omega) (by decide)).2
  simpa using this
 ·have h1 := (bits_nat .u8 8 (by decide) wraps_u8 a (2 ^ s) (by omega) hp).2
  have h2 : a / 2 ^ s % 2 = 0 := by exact_mod_cast hz
  rw [or_bit_nat a (by omega) s hs h2] at h1
  have h3 : ((2 ^ s : Nat) : Int) = 1 * 2 ^ s := by simp
  rw [← h3, h1]; simp
theorem i64_and_one {x : Int} (h0 : 0 ≤ x) (h1 : x < 2 ^ 62) : Go.bits .and .i64 x 1 = x % 2 := by
 have := bits_mask .i64 62 (by decide) (fun n a b => by rw [IntKind.wrap_i64]; omega) 1 (by decide) x h0 h1
 simpa using this
theorem u8_and_one {x : Int} (h0 : 0 ≤ x) (h1 : x < 256) : Go.bits .and .u8 x 1 = x % 2 := by
 have := bits_mask .u8 8 (by decide) wraps_u8 1 (by decide) x h0 h1
 simpa using this
theorem shl_u8 {x y : Int} (h0 : 0 ≤ y) (h1 : y < 8) (hx0 : 0 ≤ x) (hx : x ≤ 1) : shl .u8 x y = x * 2 ^ y.toNat := by
 unfold shl
 rw [show min y.toNat IntKind.u8.bits = y.toNat by simp only [IntKind.bits]; omega, IntKind.wrap_u8]
 obtain ⟨n, rfl⟩ := Int.eq_ofNat_of_zero_le h0
 have e : n = 0 ∨ n = 1 ∨ n = 2 ∨ n = 3 ∨ n = 4 ∨ n = 5 ∨ n = 6 ∨ n = 7 := by omega
 rcases e with rfl | rfl | rfl | rfl | rfl | rfl | rfl | rfl <;> simp <;> omega
theorem shr_small' {k : IntKind} {x y : Int} (hy : y.toNat ≤ k.bits) : shr k x y = x / 2 ^ y.toNat := by
 unfold shr; rw [Nat.min_eq_left hy]

def hopsOk (hops : List Int) : Prop := ∀ i : Int, 0 ≤ i → i < hops.length → -1 ≤ rd hops i ∧ rd hops i ≤ 3
open Classical in
noncomputable def packres (hops : List Int) : List Int × Int := if hopsOk hops then (packed hops (3 * hops.length), 0) else ([], 1)
theorem packres_ok {hops : List Int} (h : hopsOk hops) : packres hops = (packed hops (3 * hops.length), 0) := by unfold packres; rw [if_pos h]
theorem packres_bad {hops : List Int} (h : ¬ hopsOk hops) : packres hops = ([], 1) := by unfold packres; rw [if_neg h]
theorem u64_id {x : Int} (h0 : 0 ≤ x) (h1 : x < 18446744073709551616) : IntKind.u64.wrap x = x := by
 simp [IntKind.wrap, IntKind.bits, IntKind.signed]; omega
theorem hbit_at (hops : List Int) (i q : Nat) (hq : q < 3) : hbit hops (3 * i + q) = hcode (rd hops (i : Int)) / 2 ^ q % 2 := by
 unfold hbit; rw [show (3 * i + q) / 3 = i by omega, show (3 * i + q) % 3 = q by omega]
theorem hcode_next {v : Int} (q : Nat) : hcode v / 2 ^ q / 2 = hcode v / 2 ^ (q + 1) := by
 rw [Int.pow_succ, Int.ediv_ediv_of_nonneg (Int.pow_nonneg (by omega))]
theorem hcode_range {v : Int} (h : -1 ≤ v ∧ v ≤ 3) : 0 ≤ hcode v ∧ hcode v ≤ 4 := by unfold hcode; omega
theorem hcode_div {v : Int} (h : -1 ≤ v ∧ v ≤ 3) (q : Nat) (hq : q < 3) : 0 ≤ hcode v / 2 ^ q ∧ hcode v / 2 ^ q ≤ 4 := by
 have hc := hcode_range h
 have e : q = 0 ∨ q = 1 ∨ q = 2 := by omega
 rcases e with rfl | rfl | rfl <;> simp <;> omega
theorem packed_add (hops : List Int) (m : Nat) (hm : m < 3 * hops.length) {i : Int} (hi : i = (m / 8 : Nat)) :
  0 ≤ rd (packed hops m) i ∧ rd (packed hops m) i ≤ 255 ∧ rd (packed hops m) i / 2 ^ (m % 8) % 2 = 0 ∧ rd (packed hops m) i + hbit hops m * 2 ^ (m % 8) ≤ 255 := by
 have h1 := packed_byte hops m (i := i) (by omega) (by omega)
 have h2 := packed_byte hops (m + 1) (i := i) (by omega) (by omega)
 have h3 := packed_step hops m hm hi rfl
 have h4 : rd (packed hops (m + 1)) i = rd (packed hops m) i + hbit hops m * 2 ^ (m % 8) := by
  rw [← h3, rd_set_eq (by omega) (by rw [packed_length]; omega)]
 have h5 := byt_bit (upto_01 hops m) (m / 8) (m % 8) (by omega)
 rw [show 8 * (m / 8) + m % 8 = m by omega] at h5
 have h6 : upto hops m m = 0 := by unfold upto; rw [if_neg (by omega)]
 rw [h6] at h5
 have h7 : rd (packed hops m) i = byt (upto hops m) (m / 8) := by rw [packed_rd _ _ (by omega) (by omega)]; congr 1; omega
 rw [← h7] at h5
 exact ⟨h1.1, h1.2, h5, by omega⟩

def bitAt (b : List Int) (t : Nat) : Int := rd b (t / 8 : Nat) / 2 ^ (t % 8) % 2
def hopRaw (b : List Int) (i : Nat) : Int := bitAt b (3 * i) + bitAt b (3 * i + 1) * 2 + bitAt b (3 * i + 2) * 4
def hopAt (b : List Int) (i : Nat) : Int := if hopRaw b i = 4 then -1 else hopRaw b i
def unpacked (b : List Int) (n : Nat) : List Int := (List.range n).map (hopAt b)
theorem unpacked_length (b : List Int) (n : Nat) : (unpacked b n).length = n := by simp [unpacked]
theorem unpacked_succ (b : List Int) (n : Nat) : unpacked b (n + 1) = unpacked b n ++ [hopAt b n] := by simp [unpacked, List.range_succ]
theorem unpacked_rd (b : List Int) (n : Nat) {i : Int} (h0 : 0 ≤ i) (h1 : i < n) : rd (unpacked b n) i = hopAt b i.toNat := by
 rw [rd_get h0 (by rw [unpacked_length]; omega)]
 simp only [unpacked, List.getElem_map, List.getElem_range]
theorem bitAt_01 (b : List Int) (t : Nat) : 0 ≤ bitAt b t ∧ bitAt b t ≤ 1 := by unfold bitAt; omega
theorem bitAt_shr {b : List Int} (i q : Nat) {x : Int} (hx : x = (3 * (i : Int) + q) / 8) {s : Int} (hs : s = (3 * (i : Int) + q) % 8) : shr .u8 (rd b x) s % 2 = bitAt b (3 * i + q) := by
 rw [shr_small' (by simp only [IntKind.bits]; omega)]
 unfold bitAt
 rw [show s.toNat = (3 * i + q) % 8 by omega, show x = ((3 * i + q) / 8 : Nat) by omega]
theorem shr_u8_range {x s : Int} (h0 : 0 ≤ x) (h1 : x ≤ 255) : 0 ≤ shr .u8 x s ∧ shr .u8 x s ≤ 255 := by
 unfold shr
 have hp : (0 : Int) < 2 ^ min s.toNat IntKind.u8.bits := Int.pow_pos (by omega)
 refine ⟨Int.ediv_nonneg h0 (by omega), ?_⟩
 exact Int.le_trans (Int.ediv_le_self _ h0) h1
open Classical in
noncomputable def unpackres (b : List Int) (n : Nat) : List Int × Int :=
 if (packres (unpacked b n)).2 = 0 ∧ (strOfNums (packres (unpacked b n)).1).toList = (strOfNums b).toList then (unpacked b n, 0) else ([], 9)

theorem bitAt_packed (hops : List Int) (t : Nat) (h : t < 3 * hops.length) : bitAt (packed hops (3 * hops.length)) t = hbit hops t := by
 unfold bitAt
 rw [packed_rd _ _ (by omega) (by omega), show ((t / 8 : Nat) : Int).toNat = t / 8 by omega, byt_bit (upto_01 _ _) _ _ (by omega), show 8 * (t / 8) + t % 8 = t by omega]
 unfold upto; rw [if_pos h]
theorem hopAt_packed (hops : List Int) (ok : hopsOk hops) (i : Nat) (h : i < hops.length) : hopAt (packed hops (3 * hops.length)) i = rd hops (i : Int) := by
 have r := ok i (by omega) (by omega)
 have c := hcode_range r
 have e : hopRaw (packed hops (3 * hops.length)) i = hcode (rd hops (i : Int)) := by
  unfold hopRaw
  have h0 := hbit_at hops i 0 (by omega); have h1 := hbit_at hops i 1 (by omega); have h2 := hbit_at hops i 2 (by omega)
  simp only [Nat.add_zero] at h0
  rw [bitAt_packed _ _ (by omega), bitAt_packed _ _ (by omega), bitAt_packed _ _ (by omega), h0, h1, h2, show (2 : Int) ^ 0 = 1 from rfl, show (2 : Int) ^ 1 = 2 from rfl, show (2 : Int) ^ 2 = 4 from rfl]
  omega
 unfold hopAt; rw [e]; unfold hcode; split <;> split <;> omega
theorem unpacked_packed (hops : List Int) (ok : hopsOk hops) : unpacked (packed hops (3 * hops.length)) hops.length = hops := by
 apply rd_ext (unpacked_length _ _)
 intro i h0 h1
 rw [unpacked_length] at h1
 rw [unpacked_rd _ _ h0 h1, hopAt_packed hops ok _ (by omega), Int.toNat_of_nonneg h0]
theorem unpackres_packed (hops : List Int) (ok : hopsOk hops) : unpackres (packed hops (3 * hops.length)) hops.length = (hops, 0) := by
 unfold unpackres
 rw [unpacked_packed hops ok, packres_ok ok, if_pos ⟨rfl, rfl⟩]

theorem spec_pack_step {hops : List Int} {R : List Int × Int} (hb : hops.length ≤ 35184372088832) (i q : Nat) (hi : i < hops.length) (hq : q < 3) (hr : -1 ≤ rd hops i ∧ rd hops i ≤ 3)
  (h : Ev (fun k => spec_PackHops.l1 k hops (packed hops (3 * i + q + 1)) i (hcode (rd hops i) / 2 ^ (q + 1)) ((q : Int) + 1)) R) :
  Ev (fun k => spec_PackHops.l1 k hops (packed hops (3 * i + q)) i (hcode (rd hops i) / 2 ^ q) q) R := by
 have hc := hcode_range hr
 have hbit := hbit_at hops i q hq
 have hn := hcode_next (v := rd hops i) q
 have hc0 := hcode_div hr q hq
 have hl := packed_length hops (3 * i + q)
 refine Ev.step (fun _ => rfl) ?_
 simp only [spec_PackHops.l1]
 refine ev_pos (by omega) ?_
 generalize hcode (rd hops i) / 2 ^ q = c at *
 simp (disch := omega) only [wrap64_id, tdiv_nn, tmod_nn, u64_id]
 rw [hn]
 refine ev_ite (fun e => ?_) (fun e => ?_)
 ·refine ev_pos (by omega) (ev_pos (by omega) (ev_pos (by omega) ?_))
  rw [packed_step hops (3 * i + q) (by omega) (by omega) ?_]
  ·exact h
  ·have hs := packed_add hops (3 * i + q) (by omega) (i := (3 * (i : Int) + q) / 8) (by omega)
   have hp : (0 : Int) < 2 ^ ((3 * i + q) % 8) := Int.pow_pos (by omega)
   rw [hbit, e] at hs ⊢
   rw [shl_u8 (by omega) (by omega) (by omega) (by omega), show ((3 * (i : Int) + (q : Int)) % 8).toNat = (3 * i + q) % 8 by omega]
   omega
 ·rw [packed_same hops (3 * i + q) (by omega)] at h
  exact h
theorem spec_pack_loop (hops : List Int) (hb : hops.length ≤ 35184372088832) (d : Nat) : ∀ (i : Nat), i + d = hops.length →
  (∀ j : Int, 0 ≤ j → j < i → -1 ≤ rd hops j ∧ rd hops j ≤ 3) → Ev (fun k => spec_PackHops.l0 k hops (packed hops (3 * i)) i) (packres hops) := by
 induction d with
 | zero =>
  intro i hi ho
  refine Ev.step (fun _ => rfl) ?_
  simp only [spec_PackHops.l0]
  refine ev_neg (by omega) ?_
  rw [packres_ok (fun j a b => ho j a (by omega)), show i = hops.length by omega]
  exact Ev.now _
 | succ d ih =>
  intro i hi ho
  refine Ev.step (fun _ => rfl) ?_
  simp only [spec_PackHops.l0]
  refine ev_pos (by omega) (ev_pos (by omega) ?_)
  have bad : ¬ (-1 ≤ rd hops i ∧ rd hops i ≤ 3) → Ev (fun k => spec_PackHops.j1 k hops (packed hops (3 * i)) i (rd hops i) true) (packres hops) := by
   intro hn
   refine Ev.step (fun _ => rfl) ?_
   simp only [spec_PackHops.j1]
   rw [packres_bad (fun h => hn (h i (by omega) (by omega)))]
   exact ev_pos (by trivial) (Ev.now _)
  refine ev_ite (fun e => bad (by omega)) (fun e => ?_)
  by_cases e2 : rd hops i > 3
  ·rw [decide_eq_true e2]; exact bad (by omega)
  rw [decide_eq_false e2]
  have hr : -1 ≤ rd hops i ∧ rd hops i ≤ 3 := by omega
  have good : Ev (fun k => spec_PackHops.j2 k hops (packed hops (3 * i)) i (hcode (rd hops i))) (packres hops) := by
   refine Ev.step (fun _ => rfl) ?_
   simp only [spec_PackHops.j2]
   have s0 := fun h => spec_pack_step (R := packres hops) hb i 0 (by omega) (by omega) hr h
   have s1 := fun h => spec_pack_step (R := packres hops) hb i 1 (by omega) (by omega) hr h
   have s2 := fun h => spec_pack_step (R := packres hops) hb i 2 (by omega) (by omega) hr h
   simp only [Nat.add_zero, Int.pow_zero, Int.ediv_one, Int.natCast_zero, Nat.zero_add, Int.zero_add] at s0
   refine s0 (s1 (s2 ?_))
   refine Ev.step (fun _ => rfl) ?_
   simp only [spec_PackHops.l1]
   refine ev_neg (by omega) ?_
   rw [wrap64_id (by omega) (by omega)]
   have := ih (i + 1) (by omega) (fun j a b => by
    by_cases e : j = i
    ·rw [e]; exact hr
    ·exact ho j a (by omega))
   rw [show 3 * i + 2 + 1 = 3 * (i + 1) by omega]
   exact this
  refine Ev.step (fun _ => rfl) ?_
  simp only [spec_PackHops.j1]
  refine ev_neg (by simp) ?_
  unfold hcode at good
  refine ev_ite (fun e3 => ?_) (fun e3 => ?_)
  ·rw [if_pos e3] at good; exact good
  ·rw [if_neg e3] at good; exact good
theorem spec_PackHops_ev (hops : List Int) (hb : hops.length ≤ 35184372088832) : Ev (fun k => spec_PackHops.f k hops) (packres hops) := by
 simp only [spec_PackHops.f]
 simp (disch := omega) only [wrap64_id, tdiv_nn]
 refine ev_pos (by omega) (ev_pos (by omega) ?_)
 have := spec_pack_loop hops hb hops.length 0 (by omega) (fun j a b => by omega)
 rw [Nat.mul_zero, packed_zero] at this
 rw [show ((3 * (hops.length : Int) + 7) / 8).toNat = (3 * hops.length + 7) / 8 by omega]
 exact this

theorem impl_pack_step {hops : List Int} {R : List Int × Int} (hb : hops.length ≤ 35184372088832) (i q : Nat) (hi : i < hops.length) (hq : q < 3) (hr : -1 ≤ rd hops i ∧ rd hops i ≤ 3)
  (h : Ev (fun k => impl_PackHops.l1 k (packed hops (3 * i + q + 1)) i (hcode (rd hops i)) hops hops.length i ((q : Int) + 1)) R) :
  Ev (fun k => impl_PackHops.l1 k (packed hops (3 * i + q)) i (hcode (rd hops i)) hops hops.length i q) R := by
 have hc := hcode_range hr
 have hbq := hbit_at hops i q hq
 have hb01 := hbit_01 hops (3 * i + q)
 have hc0 := hcode_div hr q hq
 have hl := packed_length hops (3 * i + q)
 refine Ev.step (fun _ => rfl) ?_
 simp only [impl_PackHops.l1]
 refine ev_pos (by omega) ?_
 rw [shr_small' (by simp only [IntKind.bits]; omega), show ((q : Int)).toNat = q by omega]
 rw [i64_and_one hc0.1 (by omega), ← hbq]
 simp (disch := omega) only [wrap64_id, tdiv_nn, tmod_nn]
 refine ev_pos (by omega) (ev_pos (by omega) (ev_pos (by omega) (ev_pos (by omega) ?_)))
 have hs := packed_add hops (3 * i + q) (by omega) (i := (3 * (i : Int) + q) / 8) (by omega)
 rw [Int.emod_eq_of_lt hb01.1 (show hbit hops (3 * i + q) < 256 by omega), shl_u8 (by omega) (by omega) (by omega) (by omega),
  show ((3 * (i : Int) + (q : Int)) % 8).toNat = (3 * i + q) % 8 by omega,
  u8_or_bit hs.1 hs.2.1 (by omega) hb01.1 hb01.2 hs.2.2.1]
 rw [packed_step hops (3 * i + q) (by omega) (by omega) rfl]
 exact h
theorem impl_pack_loop (hops : List Int) (hb : hops.length ≤ 35184372088832) (d : Nat) : ∀ (i : Nat), i + d = hops.length →
  (∀ j : Int, 0 ≤ j → j < i → -1 ≤ rd hops j ∧ rd hops j ≤ 3) → Ev (fun k => impl_PackHops.l0 k (packed hops (3 * i)) hops hops.length i) (packres hops) := by
 induction d with
 | zero =>
  intro i hi ho
  refine Ev.step (fun _ => rfl) ?_
  simp only [impl_PackHops.l0]
  refine ev_neg (by omega) ?_
  rw [packres_ok (fun j a b => ho j a (by omega)), show i = hops.length by omega]
  exact Ev.now _
 | succ d ih =>
  intro i hi ho
  refine Ev.step (fun _ => rfl) ?_
  simp only [impl_PackHops.l0]
  refine ev_pos (by omega) (ev_pos (by omega) (ev_pos (by omega) ?_))
  have bad : ¬ (-1 ≤ rd hops i ∧ rd hops i ≤ 3) → Ev (fun k => impl_PackHops.j1 k (packed hops (3 * i)) i (rd hops i) hops hops.length i true) (packres hops) := by
   intro hn
   refine Ev.step (fun _ => rfl) ?_
   simp only [impl_PackHops.j1]
   rw [packres_bad (fun h => hn (h i (by omega) (by omega)))]
   exact ev_pos (by trivial) (Ev.now _)
  refine ev_ite (fun e => bad (by omega)) (fun e => ?_)
  by_cases e2 : rd hops i > 3
  ·rw [decide_eq_true e2]; exact bad (by omega)
  rw [decide_eq_false e2]
  have hr : -1 ≤ rd hops i ∧ rd hops i ≤ 3 := by omega
  have good : Ev (fun k => impl_PackHops.j2 k (packed hops (3 * i)) i (hcode (rd hops i)) hops hops.length i) (packres hops) := by
   refine Ev.step (fun _ => rfl) ?_
   simp only [impl_PackHops.j2]
   have s0 := fun h => impl_pack_step (R := packres hops) hb i 0 (by omega) (by omega) hr h
   have s1 := fun h => impl_pack_step (R := packres hops) hb i 1 (by omega) (by omega) hr h
   have s2 := fun h => impl_pack_step (R := packres hops) hb i 2 (by omega) (by omega) hr h
   simp only [Nat.add_zero, Int.natCast_zero, Int.zero_add] at s0
   refine s0 (s1 (s2 ?_))
   refine Ev.step (fun _ => rfl) ?_
   simp only [impl_PackHops.l1]
   refine ev_neg (by omega) ?_
   rw [wrap64_id (by omega) (by omega)]
   have := ih (i + 1) (by omega) (fun j a b => by
    by_cases e : j = i
    ·rw [e]; exact hr
    ·exact ho j a (by omega))
   rw [show 3 * i + 2 + 1 = 3 * (i + 1) by omega]
   exact this
  refine Ev.step (fun _ => rfl) ?_
  simp only [impl_PackHops.j1]
  refine ev_neg (by simp) ?_
  unfold hcode at good
  refine ev_ite (fun e3 => ?_) (fun e3 => ?_)
  ·rw [if_pos e3] at good; exact good
  ·rw [if_neg e3] at good; exact good
theorem impl_PackHops_ev (hops : List Int) (hb : hops.length ≤ 35184372088832) : Ev (fun k => impl_PackHops.f k hops) (packres hops) := by
 simp only [impl_PackHops.f]
 simp (disch := omega) only [wrap64_id, tdiv_nn]
 refine ev_pos (by omega) (ev_pos (by omega) ?_)
 have := impl_pack_loop hops hb hops.length 0 (by omega) (fun j a b => by omega)
 rw [Nat.mul_zero, packed_zero] at this
 rw [show ((3 * (hops.length : Int) + 7) / 8).toNat = (3 * hops.length + 7) / 8 by omega]
 exact this
theorem packres_length (hops : List Int) : (packres hops).1.length ≤ (3 * hops.length + 7) / 8 := by
 unfold packres; split
 ·simp only [packed_length]; omega
 ·simp

theorem spec_unpack_bits {R : List Int × Int} (b : List Int) (n : Int) (out : List Int) (i : Nat) (hi : 3 * i + 2 < 8 * b.length) (hb : b.length ≤ 1048576)
  (hl : ∀ i : Int, 0 ≤ i → i < b.length → 0 ≤ rd b i ∧ rd b i ≤ 255) (ho : out.length ≤ 9000000)
  (h : Ev (fun k => spec_UnpackHops.l0 k b n (out ++ [hopAt b i]) ((i : Int) + 1)) R) :
  Ev (fun k => spec_UnpackHops.l1 k b n out i 0 2) R := by
 have hr0 := bitAt_01 b (3 * i); have hr1 := bitAt_01 b (3 * i + 1); have hr2 := bitAt_01 b (3 * i + 2)
 have step : ∀ (q : Nat) (v : Int), q < 3 → 0 ≤ v → v ≤ 3 → Ev (fun k => spec_UnpackHops.l1 k b n out i (v * 2 + bitAt b (3 * i + q)) ((q : Int) - 1)) R → Ev (fun k => spec_UnpackHops.l1 k b n out i v q) R := by
  intro q v hq v0 v1 hR
  have hbq := bitAt_01 b (3 * i + q)
  refine Ev.step (fun _ => rfl) ?_
  simp only [spec_UnpackHops.l1]
  refine ev_pos (by omega) ?_
  have hrd := hl ((3 * (i : Int) + q) / 8) (by omega) (by omega)
  simp (disch := omega) only [wrap64_id, tdiv_nn, tmod_nn, u64_id]
  have hs := shr_u8_range (s := (3 * (i : Int) + q) % 8) hrd.1 hrd.2
  rw [tmod_nn hs.1, bitAt_shr i q rfl rfl]
  simp (disch := omega) only [wrap64_id]
  exact ev_pos (by omega) (ev_pos (by omega) (ev_pos (by omega) hR))
 have s2 := step 2 0 (by omega) (by omega) (by omega)
 have s1 := step 1 (bitAt b (3 * i + 2)) (by omega) (by omega) (by omega)
 have s0 := step 0 (bitAt b (3 * i + 2) * 2 + bitAt b (3 * i + 1)) (by omega) (by omega) (by omega)
 simp only [Int.zero_mul, Int.zero_add, Nat.add_zero] at s2 s1 s0
 refine s2 (s1 (s0 ?_))
 refine Ev.step (fun _ => rfl) ?_
 simp only [spec_UnpackHops.l1]
 refine ev_neg (by omega) ?_
 have e : (bitAt b (3 * i + 2) * 2 + bitAt b (3 * i + 1)) * 2 + bitAt b (3 * i) = hopRaw b i := by unfold hopRaw; omega
 rw [e, wrap64_id (by omega) (by omega)]
 unfold hopAt at h
 refine ev_ite (fun e => ev_pos (by omega) ?_) (fun e => ev_pos (by omega) ?_)
 ·rw [if_pos e] at h; exact h
 ·rw [if_neg e] at h; exact h
theorem spec_unpack_loop (b : List Int) (n : Nat) (hn : b.length = (3 * n + 7) / 8) (hb : b.length ≤ 1048576)
  (hl : ∀ i : Int, 0 ≤ i → i < b.length → 0 ≤ rd b i ∧ rd b i ≤ 255) (d : Nat) : ∀ i : Nat, i + d = n →
  Ev (fun k => spec_UnpackHops.l0 k b n (unpacked b i) i) (unpackres b n) := by
 induction d with
 | zero =>
  intro i hi
  obtain rfl : i = n := by omega
  refine Ev.step (fun _ => rfl) ?_
  simp only [spec_UnpackHops.l0]
  refine ev_neg (by omega) ?_
  have hlen := unpacked_length b i
  refine Ev.bind (spec_PackHops_ev (unpacked b i) (by omega)) ?_
  refine ev_ite (fun e1 => ev_ite (fun e2 => ?_) (fun e2 => ?_)) (fun e1 => ?_)
  ·unfold unpackres; rw [if_pos ⟨e1, e2⟩]; exact Ev.now _
  ·unfold unpackres; rw [if_neg (fun h => e2 h.2)]; exact Ev.now _
  ·unfold unpackres; rw [if_neg (fun h => e1 h.1)]; exact Ev.now _
 | succ d ih =>
  intro i hi
  have hlen := unpacked_length b i
  refine Ev.step (fun _ => rfl) ?_
  simp only [spec_UnpackHops.l0]
  refine ev_pos (by omega) ?_
  refine spec_unpack_bits b n _ i (by omega) hb hl (by omega) ?_
  have := ih (i + 1) (by omega)
  rw [unpacked_succ] at this
  exact this
theorem spec_UnpackHops_neg (b : List Int) (n : Int) (h : n < 0) : Ev (fun k => spec_UnpackHops.f k b n) ([], 1) := by
 simp only [spec_UnpackHops.f]
 exact ev_pos h (Ev.now _)
theorem spec_UnpackHops_bad (b : List Int) (n : Int) (h : 0 ≤ n) (hn : n ≤ 9223372036854775807) (hb : b.length ≤ 1048576) (hl : ¬ (b.length : Int) = (3 * n + 7) / 8) : Ev (fun k => spec_UnpackHops.f k b n) ([], 9) := by
 have bad : Ev (fun k => spec_UnpackHops.j0 k b n true) ([], 9) := by
  refine Ev.step (fun _ => rfl) ?_
  simp only [spec_UnpackHops.j0]
  exact ev_pos (by trivial) (Ev.now _)
 simp only [spec_UnpackHops.f]
 refine ev_neg (by omega) ?_
 rw [wrap64_id (x := 8 * (b.length : Int)) (by omega) (by omega)]
 refine ev_ite (fun _ => bad) (fun e => ?_)
 simp (disch := omega) only [wrap64_id, tdiv_nn]
 rw [show (((3 * n + 7) / 8) != (b.length : Int)) = true by rw [bne_iff_ne]; omega]
 exact bad
theorem spec_UnpackHops_ev (b : List Int) (n : Nat) (hn : b.length = (3 * n + 7) / 8) (hb : b.length ≤ 1048576)
  (hl : ∀ i : Int, 0 ≤ i → i < b.length → 0 ≤ rd b i ∧ rd b i ≤ 255) : Ev (fun k => spec_UnpackHops.f k b n) (unpackres b n) := by
 simp only [spec_UnpackHops.f]
 refine ev_neg (by omega) ?_
 simp (disch := omega) only [wrap64_id, tdiv_nn]
 refine ev_neg (by omega) ?_
 rw [show (((3 * (n : Int) + 7) / 8) != (b.length : Int)) = false by rw [bne_eq_false_iff_eq]; omega]
 refine Ev.step (fun _ => rfl) ?_
 simp only [spec_UnpackHops.j0]
 refine ev_neg (by simp) ?_
 exact spec_unpack_loop b n hn hb hl n 0 (by omega)

theorem or_bit_small : ∀ x, x < 4 → ∀ q, q < 3 → x < 2 ^ q → x ||| 2 ^ q = x + 2 ^ q := by decide +kernel
theorem i64_or_bit {x b : Int} {q : Nat} (hq : q < 3) (hx0 : 0 ≤ x) (hx1 : x < 2 ^ q) (hb0 : 0 ≤ b) (hb1 : b ≤ 1) : Go.bits .or .i64 x (b * 2 ^ q) = x + b * 2 ^ q := by
 obtain ⟨a, rfl⟩ := Int.eq_ofNat_of_zero_le hx0
 have hx2 : a < 2 ^ q := by exact_mod_cast hx1
 have hp : 2 ^ q ≤ 2 ^ 2 := Nat.pow_le_pow_right (by decide) (by omega)
 have e : b = 0 ∨ b = 1 := by omega
 have hk : ∀ n : Int, 0 ≤ n → n < 2 ^ 4 → IntKind.i64.wrap n = n := fun n a b => by rw [IntKind.wrap_i64]; omega
 rcases e with rfl | rfl
 ·have := (bits_nat .i64 4 (by decide) hk a 0 (by omega) (by decide)).2
  simpa using this
 ·have h1 := (bits_nat .i64 4 (by decide) hk a (2 ^ q) (by omega) (by omega)).2
  rw [or_bit_small a (by omega) q hq hx2] at h1
  have h3 : ((2 ^ q : Nat) : Int) = 1 * 2 ^ q := by simp
  rw [← h3, h1]; simp
theorem shl_i64_small {x : Int} {q : Nat} (hq : q < 3) (hx0 : 0 ≤ x) (hx : x ≤ 1) : shl .i64 x (q : Int) = x * 2 ^ q := by
 unfold shl
 rw [show min ((q : Int)).toNat IntKind.i64.bits = q by simp only [IntKind.bits]; omega, IntKind.wrap_i64]
 have e : q = 0 ∨ q = 1 ∨ q = 2 := by omega
 rcases e with rfl | rfl | rfl <;> simp <;> omega
theorem impl_unpack_bits {R : List Int × Int} (b : List Int) (n : Int) (out : List Int) (i : Nat) (hi : 3 * i + 2 < 8 * b.length) (hb : b.length ≤ 1048576)
  (hl : ∀ i : Int, 0 ≤ i → i < b.length → 0 ≤ rd b i ∧ rd b i ≤ 255) (ho : out.length ≤ 9000000)
  (h : Ev (fun k => impl_UnpackHops.l0 k b (out ++ [hopAt b i]) n ((i : Int) + 1)) R) :
  Ev (fun k => impl_UnpackHops.l1 k b out i 0 n i 0) R := by
 have hr0 := bitAt_01 b (3 * i); have hr1 := bitAt_01 b (3 * i + 1); have hr2 := bitAt_01 b (3 * i + 2)
 have step : ∀ (q : Nat) (v : Int), q < 3 → 0 ≤ v → v < 2 ^ q → Ev (fun k => impl_UnpackHops.l1 k b out i (v + bitAt b (3 * i + q) * 2 ^ q) n i ((q : Int) + 1)) R → Ev (fun k => impl_UnpackHops.l1 k b out i v n i q) R := by
  intro q v hq v0 v1 hR
  have hbq := bitAt_01 b (3 * i + q)
  refine Ev.step (fun _ => rfl) ?_
  simp only [impl_UnpackHops.l1]
  refine ev_pos (by omega) ?_
  have hrd := hl ((3 * (i : Int) + q) / 8) (by omega) (by omega)
  simp (disch := omega) only [wrap64_id, tdiv_nn, tmod_nn]
  have hs := shr_u8_range (s := (3 * (i : Int) + q) % 8) hrd.1 hrd.2
  rw [u8_and_one hs.1 (by omega), bitAt_shr i q rfl rfl, wrap64_id (by omega) (by omega), shl_i64_small hq hbq.1 hbq.2, i64_or_bit hq v0 v1 hbq.1 hbq.2]
  exact ev_pos (by omega) (ev_pos (by omega) (ev_pos (by omega) (ev_pos (by omega) hR)))
 have s0 := step 0 0 (by omega) (by omega) (by simp)
 have s1 := step 1 (bitAt b (3 * i)) (by omega) (by omega) (by simp; omega)
 have s2 := step 2 (bitAt b (3 * i) + bitAt b (3 * i + 1) * 2) (by omega) (by omega) (by simp; omega)
 simp only [Int.zero_add, Nat.add_zero, Int.pow_zero, Int.mul_one, Int.natCast_zero, Int.pow_succ, Int.one_mul] at s2 s1 s0
 refine s0 (s1 (s2 ?_))
 refine Ev.step (fun _ => rfl) ?_
 simp only [impl_UnpackHops.l1]
 refine ev_neg (by omega) ?_
 have e : bitAt b (3 * i) + bitAt b (3 * i + 1) * 2 + bitAt b (3 * i + 2) * (2 * 2) = hopRaw b i := by unfold hopRaw; omega
 rw [e, wrap64_id (by omega) (by omega)]
 unfold hopAt at h
 refine ev_ite (fun e => ev_pos (by omega) ?_) (fun e => ev_pos (by omega) ?_)
 ·rw [if_pos e] at h; exact h
 ·rw [if_neg e] at h; exact h
theorem impl_unpack_loop (b : List Int) (n : Nat) (hn : b.length = (3 * n + 7) / 8) (hb : b.length ≤ 1048576)
  (hl : ∀ i : Int, 0 ≤ i → i < b.length → 0 ≤ rd b i ∧ rd b i ≤ 255) (d : Nat) : ∀ i : Nat, i + d = n →
  Ev (fun k => impl_UnpackHops.l0 k b (unpacked b i) n i) (unpackres b n) := by
 induction d with
 | zero =>
  intro i hi
  obtain rfl : i = n := by omega
  refine Ev.step (fun _ => rfl) ?_
  simp only [impl_UnpackHops.l0]
  refine ev_neg (by omega) ?_
  have hlen := unpacked_length b i
  refine Ev.bind (impl_PackHops_ev (unpacked b i) (by omega)) ?_
  refine ev_ite (fun e1 => ?_) (fun e1 => ?_)
  ·simp only [bytes_Equal.f]
   refine ev_letv (ev_ite (fun e2 => ?_) (fun e2 => ?_))
   ·unfold unpackres; rw [if_pos ⟨e1, beq_iff_eq.1 e2⟩]; exact Ev.now _
   ·unfold unpackres; rw [if_neg (fun h => e2 (beq_iff_eq.2 h.2))]; exact Ev.now _
  ·unfold unpackres; rw [if_neg (fun h => e1 h.1)]; exact Ev.now _
 | succ d ih =>
  intro i hi
  have hlen := unpacked_length b i
  refine Ev.step (fun _ => rfl) ?_
  simp only [impl_UnpackHops.l0]
  refine ev_pos (by omega) ?_
  refine impl_unpack_bits b n _ i (by omega) hb hl (by omega) ?_
  have := ih (i + 1) (by omega)
  rw [unpacked_succ] at this
  exact this
theorem impl_UnpackHops_neg (b : List Int) (n : Int) (h : n < 0) : Ev (fun k => impl_UnpackHops.f k b n) ([], 1) := by
 simp only [impl_UnpackHops.f]
 exact ev_pos h (Ev.now _)
theorem impl_UnpackHops_bad (b : List Int) (n : Int) (h : 0 ≤ n) (hn : n ≤ 9223372036854775807) (hb : b.length ≤ 1048576) (hl : ¬ (b.length : Int) = (3 * n + 7) / 8) : Ev (fun k => impl_UnpackHops.f k b n) ([], 9) := by
 have bad : Ev (fun k => impl_UnpackHops.j0 k b n true) ([], 9) := by
  refine Ev.step (fun _ => rfl) ?_
  simp only [impl_UnpackHops.j0]
  exact ev_pos (by trivial) (Ev.now _)
 simp only [impl_UnpackHops.f]
 refine ev_neg (by omega) ?_
 rw [wrap64_id (x := 8 * (b.length : Int)) (by omega) (by omega)]
 refine ev_ite (fun _ => bad) (fun e => ?_)
 simp (disch := omega) only [wrap64_id, tdiv_nn]
 rw [show ((b.length : Int) != ((3 * n + 7) / 8)) = true by rw [bne_iff_ne]; omega]
 exact bad
theorem impl_UnpackHops_ev (b : List Int) (n : Nat) (hn : b.length = (3 * n + 7) / 8) (hb : b.length ≤ 1048576)
  (hl : ∀ i : Int, 0 ≤ i → i < b.length → 0 ≤ rd b i ∧ rd b i ≤ 255) : Ev (fun k => impl_UnpackHops.f k b n) (unpackres b n) := by
 simp only [impl_UnpackHops.f]
 refine ev_neg (by omega) ?_
 simp (disch := omega) only [wrap64_id, tdiv_nn]
 refine ev_neg (by omega) ?_
 rw [show ((b.length : Int) != ((3 * (n : Int) + 7) / 8)) = false by rw [bne_eq_false_iff_eq]; omega]
 refine Ev.step (fun _ => rfl) ?_
 simp only [impl_UnpackHops.j0]
 refine ev_neg (by simp) ?_
 exact impl_unpack_loop b n hn hb hl n 0 (by omega)

def isB (l : List Int) : Prop := ∀ x ∈ l, 0 ≤ x ∧ x ≤ 255
theorem isB_rd {l : List Int} (h : isB l) : ∀ i : Int, 0 ≤ i → i < l.length → 0 ≤ rd l i ∧ rd l i ≤ 255 := fun i h0 h1 => h _ (rd_mem h0 h1)
theorem wrap64_in (x : Int) : -9223372036854775808 ≤ wrap64 x ∧ wrap64 x ≤ 9223372036854775807 := by unfold wrap64; omega
theorem open_eq (l : List Int) : spec_l9open.f l = some (l.take 600, 0) := by
 unfold spec_l9open.f
 by_cases c : (l.length : Int) > 600
 ·rw [if_pos c, if_pos (by omega)]
 ·rw [if_neg c, if_pos (by omega), if_pos (by omega), Int.toNat_natCast, List.take_of_length_le (Nat.le_refl _), List.take_of_length_le (by omega)]
theorem next_some (a : List Int) (ha : isB a) (hl : a.length ≤ 600) (i : Int) (h0 : 0 ≤ i) (h1 : i ≤ a.length) : ∃ v j, spec_l9rd_next.f a i = some (v, j) ∧ 0 ≤ v ∧ v ≤ 255 ∧ 0 ≤ j ∧ j ≤ (a.length : Int) := by
 unfold spec_l9rd_next.f
 by_cases c : i ≥ (a.length : Int)
 ·rw [if_pos c]; exact ⟨0, i, rfl, by omega, by omega, h0, h1⟩
 ·have r := isB_rd ha i h0 (by omega)
  rw [if_neg c, if_pos h0, if_pos (by omega), wrap64_id (by omega) (by omega), wrap64_id (by omega) (by omega)]
  exact ⟨_, _, rfl, r.1, r.2, by omega, by omega⟩
theorem dph_tail (a : List Int) (x4 x5 x7 i : Int) (x6 : List Int) (hx : x6.length ≤ 50) (c : ¬ x7 < x5) : ∃ r, Ev (fun k => spec_DrawPackHops.l0 k x4 x5 x6 x7 a i) r ∧ r.length ≤ 100 := by
 by_cases c0 : Int.tmod x4 16 = 0
 ·refine ⟨x6 ++ [4], ?_, by rw [List.length_append, List.length_singleton]; omega⟩
  refine Ev.step (fun _ => rfl) ?_
  simp only [spec_DrawPackHops.l0]
  exact ev_neg c (ev_pos c0 (ev_pos (by omega) (ev_letv (ev_neg (by omega) (Ev.now _)))))
 ·by_cases c1 : Int.tmod x4 16 = 1
  ·refine ⟨x6 ++ [-2], ?_, by rw [List.length_append, List.length_singleton]; omega⟩
   refine Ev.step (fun _ => rfl) ?_
   simp only [spec_DrawPackHops.l0]
   exact ev_neg c (ev_neg c0 (ev_pos c1 (ev_pos (by omega) (Ev.now _))))
  ·refine ⟨x6, ?_, by omega⟩
   refine Ev.step (fun _ => rfl) ?_
   simp only [spec_DrawPackHops.l0]
   exact ev_neg c (ev_neg c0 (ev_neg c1 (Ev.now _)))
theorem dph_loop (a : List Int) (ha : isB a) (hl : a.length ≤ 600) (x4 x5 : Int) (h5 : x5 ≤ 39) (d : Nat) : ∀ (x7 : Int) (x6 : List Int) (i : Int), 0 ≤ x7 → x7 ≤ 39 → x5 - x7 ≤ d → (x6.length : Int) ≤ x7 → 0 ≤ i → i ≤ a.length →
  ∃ r, Ev (fun k => spec_DrawPackHops.l0 k x4 x5 x6 x7 a i) r ∧ r.length ≤ 100 := by
 induction d with
 | zero => intro x7 x6 i h7 h8 hd hx i0 i1; exact dph_tail a x4 x5 x7 i x6 (by omega) (by omega)
 | succ d ih =>
  intro x7 x6 i h7 h8 hd hx i0 i1
  by_cases c : x7 < x5
  ·obtain ⟨v, j, e, _, _, j0, j1⟩ := next_some a ha hl i i0 i1
   obtain ⟨r, er, hr⟩ := ih (x7 + 1) (x6 ++ [wrap64 (Int.tmod v 5 - 1)]) j (by omega) (by omega) (by omega) (by rw [List.length_append, List.length_singleton]; omega) j0 j1
   refine ⟨r, ?_, hr⟩
   refine Ev.step (fun _ => rfl) ?_
   simp only [spec_DrawPackHops.l0, e, Option.bind_some]
   rw [wrap64_id (x := x7 + 1) (by omega) (by omega)]
   exact ev_pos c (ev_pos (by omega) er)
  ·exact dph_tail a x4 x5 x7 i x6 (by omega) c
theorem dph_ev (l : List Int) (hb : isB l) : ∃ r, Ev (fun k => spec_DrawPackHops.f k l) r ∧ r.length ≤ 100 := by
 have ha : isB (l.take 600) := fun x hx => hb x (List.mem_of_mem_take hx)
 have hl : (l.take 600).length ≤ 600 := by rw [List.length_take]; omega
 obtain ⟨v1, j1, e1, a1, b1, p1, q1⟩ := next_some _ ha hl 0 (by omega) (by omega)
 obtain ⟨v2, j2, e2, a2, b2, p2, q2⟩ := next_some _ ha hl j1 p1 q1
 simp only [spec_DrawPackHops.f, open_eq, Option.bind_some, e1, e2]
 have m := tmod_nn (y := 40) a2
 exact dph_loop _ ha hl v1 (Int.tmod v2 40) (by omega) 100 0 [] j2 (by omega) (by omega) (by omega) (by simp) p2 q2
theorem packed_isB (hops : List Int) : isB (packed hops (3 * hops.length)) := by
 intro x hx
 unfold packed at hx
 obtain ⟨j, _, rfl⟩ := List.mem_map.1 hx
 exact byt_range (upto_01 _ _) j
theorem packres_isB (hops : List Int) : isB (packres hops).1 := by
 unfold packres; split
 ·exact packed_isB hops
 ·intro x hx; simp at hx
theorem xor8_range (a b : Int) : 0 ≤ Go.bits .xor .u8 a b ∧ Go.bits .xor .u8 a b ≤ 255 := wf_u8 (wf_bits .xor .u8 a b)
def drawn (r : List Int × Int) : Prop := isB r.1 ∧ r.1.length ≤ 1000 ∧ -9223372036854775808 ≤ r.2 ∧ r.2 ≤ 9223372036854775807
theorem duh_j2 (kk : Int) (b : List Int) (n : Int) (h : drawn (b, n)) : ∃ r, Ev (fun k => spec_DrawUnpackHops.j2 k kk b n) r ∧ drawn r := by
 obtain ⟨h1, h2, h3, h4⟩ := h
 by_cases c2 : kk = 2
 ·refine ⟨(b, -1), ?_, h1, h2, by simp only; omega, by simp only; omega⟩
  refine Ev.step (fun _ => rfl) ?_
  simp only [spec_DrawUnpackHops.j2]
  exact ev_pos c2 (ev_neg (by omega) (Ev.now _))
 ·by_cases c10 : kk = 10
  ·refine ⟨(b, 9223372036854775807), ?_, h1, h2, by simp only; omega, by simp only; omega⟩
   refine Ev.step (fun _ => rfl) ?_
   simp only [spec_DrawUnpackHops.j2]
   exact ev_neg c2 (ev_pos c10 (Ev.now _))
  ·refine ⟨(b, n), ?_, h1, h2, h3, h4⟩
   refine Ev.step (fun _ => rfl) ?_
   simp only [spec_DrawUnpackHops.j2]
   exact ev_neg c2 (ev_neg c10 (Ev.now _))
theorem duh_j1 (kk v : Int) (b : List Int) (n : Int) (h : drawn (b, n)) : ∃ r, Ev (fun k => spec_DrawUnpackHops.j1 k kk v b n) r ∧ drawn r := by
 by_cases c : Int.tmod kk 8 = 1
 ·obtain ⟨r, e, d⟩ := duh_j2 kk b (wrap64 (n + (wrap64 ((Int.tmod v 5) - 2)))) ⟨h.1, h.2.1, (wrap64_in _).1, (wrap64_in _).2⟩
  refine ⟨r, ?_, d⟩
  refine Ev.step (fun _ => rfl) ?_
  simp only [spec_DrawUnpackHops.j1]
  exact ev_pos c e
 ·obtain ⟨r, e, d⟩ := duh_j2 kk b n h
  refine ⟨r, ?_, d⟩
  refine Ev.step (fun _ => rfl) ?_
  simp only [spec_DrawUnpackHops.j1]
  exact ev_neg c e
theorem duh_j0 (kk v : Int) (k0 : 0 ≤ kk) (k1 : kk ≤ 255) (v0 : 0 ≤ v) (b : List Int) (n : Int) (x : Bool) (hx : x = true → 0 < b.length) (h : drawn (b, n)) : ∃ r, Ev (fun k => spec_DrawUnpackHops.j0 k kk v b n x) r ∧ drawn r := by
 by_cases c : x = true
 ·have hl := hx c
  have m := tmod_nn (y := (b.length : Int)) v0
  have m0 := Int.emod_nonneg v (b := (b.length : Int)) (by omega)
  have m1 := Int.emod_lt_of_pos v (b := (b.length : Int)) (by omega)
  have s : IntKind.u64.wrap (Int.tmod (wrap64 (Int.tdiv kk 8)) 8) = kk / 8 % 8 := by
   rw [tdiv_nn k0, wrap64_id (by omega) (by omega), tmod_nn (by omega), u64_id (by omega) (by omega)]
  have B : drawn (b.set (v % (b.length : Int)).toNat (Go.bits .xor .u8 (rd b (v % (b.length : Int))) (shl .u8 1 (kk / 8 % 8))), n) := by
   refine ⟨?_, by rw [List.length_set]; exact h.2.1, h.2.2.1, h.2.2.2⟩
   intro y hy
   rcases List.mem_or_eq_of_mem_set hy with q | q
   ·exact h.1 y q
   ·rw [q]; exact xor8_range _ _
  obtain ⟨r, e, d⟩ := duh_j1 kk v _ n B
  refine ⟨r, ?_, d⟩
  refine Ev.step (fun _ => rfl) ?_
  simp only [spec_DrawUnpackHops.j0, m, s]
  exact ev_pos c (ev_neg (by omega) (ev_pos m0 (ev_pos m1 (ev_pos (by omega) e))))
 ·obtain ⟨r, e, d⟩ := duh_j1 kk v b n h
  refine ⟨r, ?_, d⟩
  refine Ev.step (fun _ => rfl) ?_
  simp only [spec_DrawUnpackHops.j0]
  exact ev_neg c e
theorem duh_ev (l : List Int) (hb : isB l) : ∃ r, Ev (fun k => spec_DrawUnpackHops.f k l) r ∧ drawn r := by
 have ha : isB (l.take 600) := fun x hx => hb x (List.mem_of_mem_take hx)
 have hl : (l.take 600).length ≤ 600 := by rw [List.length_take]; omega
 obtain ⟨v1, j1, e1, a1, b1, p1, q1⟩ := next_some _ ha hl 0 (by omega) (by omega)
 obtain ⟨v2, j2, e2, a2, b2, p2, q2⟩ := next_some _ ha hl j1 p1 q1
 obtain ⟨hops, eh, hh⟩ := dph_ev ((l.take 600).drop j2.toNat) (fun x hx => ha x (List.mem_of_mem_drop hx))
 have ep := spec_PackHops_ev hops (by omega)
 have hp := packres_length hops
 have hB := packres_isB hops
 simp only [spec_DrawUnpackHops.f, open_eq, Option.bind_some, e1, e2]
 have D : drawn ((packres hops).1, (hops.length : Int)) := ⟨hB, by simp only; omega, by simp only; omega, by simp only; omega⟩
 by_cases c : Int.tmod v1 8 = 0
 ·obtain ⟨r, e, d⟩ := duh_j0 v1 v2 a1 b1 a2 (packres hops).1 hops.length (decide (((packres hops).1.length : Int) > 0)) (fun h => by have := of_decide_eq_true h; omega) D
  exact ⟨r, Ev.bind eh (Ev.bind ep (ev_pos c e)), d⟩
 ·obtain ⟨r, e, d⟩ := duh_j0 v1 v2 a1 b1 a2 (packres hops).1 hops.length false (fun h => by simp at h) D
  exact ⟨r, Ev.bind eh (Ev.bind ep (ev_neg c e)), d⟩
theorem str_inj {a b : List Int} (ha : isB a) (hb : isB b) (h : (strOfNums a).toList = (strOfNums b).toList) : a = b := by
 have e : a.map (fun n => UInt8.ofNat n.toNat) = b.map (fun n => UInt8.ofNat n.toNat) := by
  rw [← strOfNums_data, ← strOfNums_data, ← ByteArray.toList_eq, ← ByteArray.toList_eq, h]
 have hl : a.length = b.length := by simpa using congrArg List.length e
 apply List.ext_getElem hl
 intro i h1 h2
 have q : (a.map (fun n => UInt8.ofNat n.toNat))[i]'(by simpa using h1) = (b.map (fun n => UInt8.ofNat n.toNat))[i]'(by simpa using h2) := by simp only [e]
 rw [List.getElem_map, List.getElem_map] at q
 have x := ha _ (List.getElem_mem h1)
 have y := hb _ (List.getElem_mem h2)
 have z := congrArg UInt8.toNat q
 simp only [UInt8.toNat_ofNat'] at z
 omega
theorem unpack_back {b : List Int} (hb : isB b) {n : Nat} (h : (unpackres b n).2 = 0) : (unpackres b n).1.length = n ∧ packres (unpackres b n).1 = (b, 0) := by
 unfold unpackres at h ⊢
 split at h
 ·rename_i c
  rw [if_pos c]
  refine ⟨unpacked_length _ _, ?_⟩
  have e := str_inj (packres_isB _) hb c.2
  exact Prod.ext e c.1
 ·simp at h
theorem unpack_none {b : List Int} {n : Nat} (h : ¬ (unpackres b n).2 = 0) : (unpackres b n).1 = [] := by
 unfold unpackres at h ⊢
 split at h
 ·simp at h
 ·rename_i c
  rw [if_neg c]
theorem unpack_any (raw : List Int) (n : Int) (hb : isB raw) (hl : raw.length ≤ 1000) (hn : n ≤ 9223372036854775807) : ∃ r : List Int × Int, Ev (fun k => spec_UnpackHops.f k raw n) r ∧ Ev (fun k => impl_UnpackHops.f k raw n) r ∧ r.1.length ≤ 10000 ∧ (r.2 = 0 → (r.1.length : Int) = n ∧ packres r.1 = (raw, 0)) ∧ (¬ r.2 = 0 → r.1 = []) := by
 by_cases c : n < 0
 ·exact ⟨([], 1), spec_UnpackHops_neg _ _ c, impl_UnpackHops_neg _ _ c, by simp, fun h => by simp at h, fun _ => rfl⟩
 by_cases s : (raw.length : Int) = (3 * n + 7) / 8
 ·obtain ⟨m, rfl⟩ := Int.eq_ofNat_of_zero_le (show 0 ≤ n by omega)
  refine ⟨unpackres raw m, spec_UnpackHops_ev raw m (by omega) (by omega) (isB_rd hb), impl_UnpackHops_ev raw m (by omega) (by omega) (isB_rd hb), ?_, fun h => ?_, fun h => unpack_none h⟩
  ·unfold unpackres; split
   ·simp only [unpacked_length]; omega
   ·simp
  ·have := unpack_back hb h
   exact ⟨by omega, this.2⟩
 ·exact ⟨([], 9), spec_UnpackHops_bad _ _ (by omega) hn (by omega) s, impl_UnpackHops_bad _ _ (by omega) hn (by omega) s, by simp, fun h => by simp at h, fun _ => rfl⟩
theorem sameB_ev (a : List Int) (h : a.length ≤ 9000000) : Ev (fun k => laws_sameB.f k a a) true := by
 have go : ∀ d : Nat, ∀ i : Int, 0 ≤ i → (a.length : Int) - i ≤ d → Ev (fun k => laws_sameB.l0 k a a i) true := by
  intro d
  induction d with
  | zero =>
   intro i h0 h1
   refine Ev.step (fun _ => rfl) ?_
   simp only [laws_sameB.l0]
   exact ev_neg (by omega) (Ev.now _)
  | succ d ih =>
   intro i h0 h1
   refine Ev.step (fun _ => rfl) ?_
   simp only [laws_sameB.l0]
   by_cases c : i < (a.length : Int)
   ·rw [wrap64_id (by omega) (by omega)]
    exact ev_pos c (ev_pos h0 (ev_pos c (ev_pos trivial (ih (i + 1) (by omega) (by omega)))))
   ·exact ev_neg c (Ev.now _)
 simp only [laws_sameB.f]
 exact ev_pos trivial (go a.length 0 (by omega) (by omega))
theorem sameN_ev (a : List Int) (h : a.length ≤ 9000000) : Ev (fun k => laws_sameN.f k a a) true := by
 have go : ∀ d : Nat, ∀ i : Int, 0 ≤ i → (a.length : Int) - i ≤ d → Ev (fun k => laws_sameN.l0 k a a i) true := by
  intro d
  induction d with
  | zero =>
   intro i h0 h1
   refine Ev.step (fun _ => rfl) ?_
   simp only [laws_sameN.l0]
   exact ev_neg (by omega) (Ev.now _)
  | succ d ih =>
   intro i h0 h1
   refine Ev.step (fun _ => rfl) ?_
   simp only [laws_sameN.l0]
   by_cases c : i < (a.length : Int)
   ·rw [wrap64_id (by omega) (by omega)]
    exact ev_pos c (ev_pos h0 (ev_pos c (ev_pos trivial (ih (i + 1) (by omega) (by omega)))))
   ·exact ev_neg c (Ev.now _)
 simp only [laws_sameN.f]
 exact ev_pos trivial (go a.length 0 (by omega) (by omega))
theorem FnHops : laws_FnHops.Pure := by
 intro l0 h1 h2 h3
 have hb : isB l0 := fun x hx => wf_u8 (h3 x hx)
 refine Ev.rounds (g := fun k => laws_FnHops.f k l0) ?_
 simp only [laws_FnHops.f]
 by_cases hc : (l0.length : Int) > 1048576
 ·exact ev_pos hc (Ev.now _)
 obtain ⟨hops, eh, hh⟩ := dph_ev l0 hb
 have es := spec_PackHops_ev hops (by omega)
 have ei := impl_PackHops_ev hops (by omega)
 obtain ⟨⟨raw, n⟩, ed, d1, d2, d3, d4⟩ := duh_ev l0 hb
 dsimp only at d1 d2 d3 d4
 obtain ⟨⟨got, e3⟩, us, ui, ul, u0, u1⟩ := unpack_any raw n d1 d2 d4
 dsimp only at ul u0 u1
 have rest : Ev (fun k => laws_FnHops.j0 k l0) true := by
  refine Ev.step (fun _ => rfl) ?_
  simp only [laws_FnHops.j0]
  refine Ev.bind ed (Ev.bind us (Ev.bind ed (Ev.bind ui (ev_pos (by trivial) ?_))))
  refine Ev.step (fun _ => rfl) ?_
  simp only [laws_FnHops.j1]
  by_cases c : e3 = 0
  ·have u := u0 c
   have ep := impl_PackHops_ev got (by omega)
   rw [u.2] at ep
   have sb := sameB_ev raw (by omega)
   exact ev_neg (by simp [c]) (Ev.bind ep (ev_pos (by trivial) (ev_pos u.1 (Ev.bind sb (Ev.now _)))))
  ·have g := u1 c
   subst g
   exact ev_pos (by simp [c]) (ev_pos (by trivial) (Ev.now _))
 by_cases ok : hopsOk hops
 ·rw [packres_ok ok] at es ei
  have eu := impl_UnpackHops_ev (packed hops (3 * hops.length)) hops.length (packed_length _ _) (by rw [packed_length]; omega) (isB_rd (packed_isB hops))
  rw [unpackres_packed hops ok] at eu
  have sn := sameN_ev hops (by omega)
  refine ev_neg hc (Ev.bind eh (Ev.bind es (Ev.bind eh (Ev.bind ei (ev_pos (by trivial) (ev_pos (by trivial) (Ev.bind eu (ev_pos (by trivial) (Ev.bind sn (ev_pos (by trivial) (ev_pos ?_ rest)))))))))))
  rw [packed_length]
  simp (disch := omega) only [wrap64_id, tdiv_nn]
  omega
 ·rw [packres_bad ok] at es ei
  exact ev_neg hc (Ev.bind eh (Ev.bind es (Ev.bind eh (Ev.bind ei (ev_pos (by trivial) (ev_neg (by simp) (ev_pos (by simp) rest)))))))

end Go.Proofs.Ytbeheecjemdcdaa.Pure
