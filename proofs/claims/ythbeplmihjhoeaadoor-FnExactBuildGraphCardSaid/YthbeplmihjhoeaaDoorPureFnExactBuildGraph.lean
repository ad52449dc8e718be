/- The program's BuildGraph returns what the reference's returns, for all arguments whose texts are bytes: the library's two tables of UTF-8 hold what their initialisers lay. -/
import Derived.Test.YthbeplmihjhoeaaDoorQFnExactBuildGraph
import Derived.Lib.Bytes
import Derived.Lib.Bytealg
namespace Go.Proofs.YthbeplmihjhoeaaDoor.Pure
set_option linter.unusedVariables false
set_option linter.unusedSimpArgs false
open Go.RowKit Go.Proofs.YthbeplmihjhoeaaDoor.PFnExactBuildGraph Go.Proofs.YthbeplmihjhoeaaDoorW.PrintWords Go.Proofs.YthbeplmihjhoeaaDoorW.PrintLast Go.Proofs.YthbeplmihjhoeaaDoorW.PrintMore
section EvLib
variable {α β : Type}
theorem ev_pos {c : Prop} [Decidable c] {A B : Nat → Option α} {r : α} (h : c) (k : Ev A r) : Ev (fun n => if c then A n else B n) r :=
 Ev.congr (fun _ => if_pos h) k
theorem ev_neg {c : Prop} [Decidable c] {A B : Nat → Option α} {r : α} (h : ¬ c) (k : Ev B r) : Ev (fun n => if c then A n else B n) r :=
 Ev.congr (fun _ => if_neg h) k
theorem ev_ite {c : Prop} [Decidable c] {A B : Nat → Option α} {r : α} (h1 : c → Ev A r) (h2 : ¬ c → Ev B r) : Ev (fun n => if c then A n else B n) r := by
 by_cases h : c
 ·exact ev_pos h (h1 h)
 ·exact ev_neg h (h2 h)
theorem ev_letv {a : α} {f : Nat → α → Option β} {r : β} (k : Ev (fun n => f n a) r) : Ev (fun n => (some a).bind (f n)) r := Ev.bind (Ev.now a) k
end EvLib
theorem wrap64_id {x : Int} (h0 : -9223372036854775808 ≤ x) (h1 : x ≤ 9223372036854775807) : wrap64 x = x := by unfold wrap64; omega
theorem tdiv_nn {x y : Int} (h0 : 0 ≤ x) : Int.tdiv x y = x / y := Int.tdiv_eq_ediv_of_nonneg h0
theorem tmod_nn {x y : Int} (h0 : 0 ≤ x) : Int.tmod x y = x % y := Int.tmod_eq_emod_of_nonneg h0
theorem rd_get {l : List Int} {i : Int} (h0 : 0 ≤ i) (h1 : i.toNat < l.length) : rd l i = l[i.toNat] := by
 unfold rd; rw [List.getD_eq_getElem?_getD, List.getElem?_eq_getElem h1]; rfl
theorem rd_mem {l : List Int} {i : Int} (h0 : 0 ≤ i) (h1 : i < l.length) : rd l i ∈ l := by
 have h : i.toNat < l.length := by omega
 rw [rd_get h0 h]; exact List.getElem_mem h
theorem rd_set_eq {l : List Int} {i : Int} {v : Int} (h0 : 0 ≤ i) (h1 : i < l.length) : rd (l.set i.toNat v) i = v := by
 have h : i.toNat < l.length := by omega
 unfold rd; rw [List.getD_eq_getElem?_getD, List.getElem?_set_self h]; rfl
theorem rd_set_ne {l : List Int} {i j : Int} {v : Int} (h0 : 0 ≤ i) (h1 : 0 ≤ j) (h : i ≠ j) : rd (l.set i.toNat v) j = rd l j := by
 unfold rd; rw [List.getD_eq_getElem?_getD, List.getElem?_set_ne (by omega), ← List.getD_eq_getElem?_getD]
theorem rd_ext {l m : List Int} (h : l.length = m.length) (e : ∀ i : Int, 0 ≤ i → i < l.length → rd l i = rd m i) : l = m := by
 apply List.ext_getElem h
 intro i h1 h2
 have := e i (by omega) (by omega)
 rw [rd_get (by omega) (by simpa using h1), rd_get (by omega) (by simpa using h2)] at this
 simpa using this

theorem wf_u8 {x : Int} (h : (Lit.int .u8 x).wf = true) : 0 ≤ x ∧ x ≤ 255 := by
 simp [Lit.wf, IntKind.min, IntKind.max, IntKind.signed, IntKind.bits] at h; omega
theorem wf_i64 {x : Int} (h : (Lit.int .i64 x).wf = true) : -9223372036854775808 ≤ x ∧ x ≤ 9223372036854775807 := by
 simp [Lit.wf, IntKind.min, IntKind.max, IntKind.signed, IntKind.bits] at h; omega
theorem bytes_of {l : List Int} (h : ∀ x ∈ l, (Lit.int .u8 x).wf = true) : ∀ i : Int, 0 ≤ i → i < l.length → 0 ≤ rd l i ∧ rd l i ≤ 255 :=
 fun i h0 h1 => wf_u8 (h _ (rd_mem h0 h1))
theorem ints_of {l : List Int} (h : ∀ x ∈ l, (Lit.int .i64 x).wf = true) : ∀ i : Int, 0 ≤ i → i < l.length → -9223372036854775808 ≤ rd l i ∧ rd l i ≤ 9223372036854775807 :=
 fun i h0 h1 => wf_i64 (h _ (rd_mem h0 h1))

theorem rd_drop (l : List Int) (i : Nat) (j : Int) (h : 0 ≤ j) : rd (l.drop i) j = rd l (i + j) := by
 unfold rd
 rw [List.getD_eq_getElem?_getD, List.getElem?_drop, List.getD_eq_getElem?_getD, show ((i : Int) + j).toNat = i + j.toNat by omega]
theorem decI_drop {l : List Int} {i : Int} (h0 : 0 ≤ i) (h1 : i < l.length) : decI (l.drop i.toNat) =
  ((((Lib.decodeN (l.length - i.toNat) (rd l i).toNat (rd l (i + 1)).toNat (rd l (i + 2)).toNat (rd l (i + 3)).toNat).1 : Nat) : Int), (((Lib.decodeN (l.length - i.toNat) (rd l i).toNat (rd l (i + 1)).toNat (rd l (i + 2)).toNat (rd l (i + 3)).toNat).2 : Nat) : Int)) := by
 unfold decI
 rw [List.length_drop, if_neg (by omega)]
 rw [rd_drop _ _ _ (by omega), rd_drop _ _ _ (by omega), rd_drop _ _ _ (by omega), rd_drop _ _ _ (by omega), show ((i.toNat : Nat) : Int) = i by omega, Int.add_zero]
def chr (l : List Int) (i : Int) : Int × Int :=
 if (decI (l.drop i.toNat)).1 = 65533 ∧ (decI (l.drop i.toNat)).2 ≤ 1 then (0, 0) else ((decI (l.drop i.toNat)).2, (decI (l.drop i.toNat)).1)
def Bytes (l : List Int) : Prop := ∀ i : Int, 0 ≤ i → i < l.length → 0 ≤ rd l i ∧ rd l i ≤ 255
theorem rd_out {l : List Int} {i : Int} (h : (l.length : Int) ≤ i) : rd l i = 0 := by
 unfold rd; rw [List.getD_eq_getElem?_getD, List.getElem?_eq_none (by omega)]; rfl
theorem Bytes.rd {l : List Int} (hb : Bytes l) {i : Int} (h0 : 0 ≤ i) : 0 ≤ rd l i ∧ rd l i ≤ 255 := by
 by_cases h : i < l.length
 ·exact hb i h0 h
 ·rw [rd_out (by omega)]; omega
theorem bytesB_of {l : List Int} (hb : Bytes l) : bytesB l = true := by
 unfold bytesB
 rw [List.all_eq_true]
 intro x hx
 obtain ⟨j, hj, e⟩ := List.getElem_of_mem hx
 have := hb (j : Int) (by omega) (by omega)
 rw [rd_get (by omega) (by simpa using hj)] at this
 simp only [Int.toNat_natCast] at this
 rw [e] at this
 simp only [Bool.and_eq_true, decide_eq_true_eq]
 exact this
theorem Bytes.drop {l : List Int} (hb : Bytes l) (i : Nat) : Bytes (l.drop i) := by
 intro j h0 h1
 rw [List.length_drop] at h1
 rw [rd_drop _ _ _ h0]
 exact hb _ (by omega) (by omega)
def chrZ (n b0 b1 b2 b3 : Int) : Int × Int :=
 if b0 < 128 then (1, b0)
   else if b0 / 32 = 6 ∧ (1 < n ∧ b1 / 64 = 2) then (if b0 % 32 * 64 + b1 % 64 ≥ 128 then (2, b0 % 32 * 64 + b1 % 64) else (0, 0))
   else if b0 / 16 = 14 ∧ (1 < n ∧ b1 / 64 = 2) ∧ (2 < n ∧ b2 / 64 = 2) then
    (if b0 % 16 * 4096 + b1 % 64 * 64 + b2 % 64 ≥ 2048 ∧ (b0 % 16 * 4096 + b1 % 64 * 64 + b2 % 64 < 55296 ∨ 57344 ≤ b0 % 16 * 4096 + b1 % 64 * 64 + b2 % 64) then (3, b0 % 16 * 4096 + b1 % 64 * 64 + b2 % 64) else (0, 0))
   else if b0 / 8 = 30 ∧ (1 < n ∧ b1 / 64 = 2) ∧ (2 < n ∧ b2 / 64 = 2) ∧ (3 < n ∧ b3 / 64 = 2) then
    (if b0 % 8 * 262144 + b1 % 64 * 4096 + b2 % 64 * 64 + b3 % 64 ≥ 65536 ∧ b0 % 8 * 262144 + b1 % 64 * 4096 + b2 % 64 * 64 + b3 % 64 ≤ 1114111 then (4, b0 % 8 * 262144 + b1 % 64 * 4096 + b2 % 64 * 64 + b3 % 64) else (0, 0))
   else (0, 0)
theorem chrZ_nat (n c0 c1 c2 c3 : Nat) : (if (((Lib.decodeN n c0 c1 c2 c3).1 : Nat) : Int) = 65533 ∧ (((Lib.decodeN n c0 c1 c2 c3).2 : Nat) : Int) ≤ 1 then ((0 : Int), (0 : Int)) else ((((Lib.decodeN n c0 c1 c2 c3).2 : Nat) : Int), (((Lib.decodeN n c0 c1 c2 c3).1 : Nat) : Int)))
  = chrZ n c0 c1 c2 c3 := by
 by_cases h1 : c0 < 128
 ·have hd : Lib.decodeN n c0 c1 c2 c3 = (c0, 1) := by unfold Lib.decodeN; rw [if_pos h1]
  rw [hd, if_neg (by simp only; omega)]; unfold chrZ; rw [if_pos (by omega)]; rfl
 by_cases h2 : c0 / 32 = 6 ∧ (1 < n ∧ c1 / 64 = 2)
 ·by_cases h3 : c0 % 32 * 64 + c1 % 64 ≥ 128
  ·have hd : Lib.decodeN n c0 c1 c2 c3 = (c0 % 32 * 64 + c1 % 64, 2) := by unfold Lib.decodeN; rw [if_neg h1, if_pos h2, if_pos h3]
   rw [hd, if_neg (by simp only; omega)]; unfold chrZ; rw [if_neg (by omega), if_pos (by omega), if_pos (by omega)]; simp
  ·have hd : Lib.decodeN n c0 c1 c2 c3 = (65533, 1) := by unfold Lib.decodeN; rw [if_neg h1, if_pos h2, if_neg h3]
   rw [hd, if_pos (by simp)]; unfold chrZ; rw [if_neg (by omega), if_pos (by omega), if_neg (by omega)]
 by_cases h4 : c0 / 16 = 14 ∧ (1 < n ∧ c1 / 64 = 2) ∧ (2 < n ∧ c2 / 64 = 2)
 ·by_cases h5 : c0 % 16 * 4096 + c1 % 64 * 64 + c2 % 64 ≥ 2048 ∧ (c0 % 16 * 4096 + c1 % 64 * 64 + c2 % 64 < 55296 ∨ (57344 ≤ c0 % 16 * 4096 + c1 % 64 * 64 + c2 % 64 ∧ c0 % 16 * 4096 + c1 % 64 * 64 + c2 % 64 ≤ 1114111))
  ·have hd : Lib.decodeN n c0 c1 c2 c3 = (c0 % 16 * 4096 + c1 % 64 * 64 + c2 % 64, 3) := by unfold Lib.decodeN; rw [if_neg h1, if_neg h2, if_pos h4, if_pos h5]
   rw [hd, if_neg (by simp only; omega)]; unfold chrZ; rw [if_neg (by omega), if_neg (by omega), if_pos (by omega), if_pos (by omega)]; simp
  ·have hd : Lib.decodeN n c0 c1 c2 c3 = (65533, 1) := by unfold Lib.decodeN; rw [if_neg h1, if_neg h2, if_pos h4, if_neg h5]
   rw [hd, if_pos (by simp)]; unfold chrZ; rw [if_neg (by omega), if_neg (by omega), if_pos (by omega), if_neg (by omega)]
 by_cases h6 : c0 / 8 = 30 ∧ (1 < n ∧ c1 / 64 = 2) ∧ (2 < n ∧ c2 / 64 = 2) ∧ (3 < n ∧ c3 / 64 = 2)
 ·by_cases h7 : c0 % 8 * 262144 + c1 % 64 * 4096 + c2 % 64 * 64 + c3 % 64 ≥ 65536 ∧ (c0 % 8 * 262144 + c1 % 64 * 4096 + c2 % 64 * 64 + c3 % 64 < 55296 ∨ (57344 ≤ c0 % 8 * 262144 + c1 % 64 * 4096 + c2 % 64 * 64 + c3 % 64 ∧ c0 % 8 * 262144 + c1 % 64 * 4096 + c2 % 64 * 64 + c3 % 64 ≤ 1114111))
  ·have hd : Lib.decodeN n c0 c1 c2 c3 = (c0 % 8 * 262144 + c1 % 64 * 4096 + c2 % 64 * 64 + c3 % 64, 4) := by unfold Lib.decodeN; rw [if_neg h1, if_neg h2, if_neg h4, if_pos h6, if_pos h7]
   rw [hd, if_neg (by simp only; omega)]; unfold chrZ; rw [if_neg (by omega), if_neg (by omega), if_neg (by omega), if_pos (by omega), if_pos (by omega)]; simp
  ·have hd : Lib.decodeN n c0 c1 c2 c3 = (65533, 1) := by unfold Lib.decodeN; rw [if_neg h1, if_neg h2, if_neg h4, if_pos h6, if_neg h7]
   rw [hd, if_pos (by simp)]; unfold chrZ; rw [if_neg (by omega), if_neg (by omega), if_neg (by omega), if_pos (by omega), if_neg (by omega)]
 have hd : Lib.decodeN n c0 c1 c2 c3 = (65533, 1) := by unfold Lib.decodeN; rw [if_neg h1, if_neg h2, if_neg h4, if_neg h6]
 rw [hd, if_pos (by simp)]; unfold chrZ; rw [if_neg (by omega), if_neg (by omega), if_neg (by omega), if_neg (by omega)]
theorem chr_eq {l : List Int} (hb : Bytes l) {i : Int} (h0 : 0 ≤ i) (h1 : i < l.length) : chr l i = chrZ ((l.length : Int) - i) (rd l i) (rd l (i + 1)) (rd l (i + 2)) (rd l (i + 3)) := by
 have r0 := hb.rd h0; have r1 := hb.rd (show 0 ≤ i + 1 by omega); have r2 := hb.rd (show 0 ≤ i + 2 by omega); have r3 := hb.rd (show 0 ≤ i + 3 by omega)
 unfold chr
 rw [decI_drop h0 h1]
 simp only
 rw [chrZ_nat, Int.toNat_of_nonneg r0.1, Int.toNat_of_nonneg r1.1, Int.toNat_of_nonneg r2.1, Int.toNat_of_nonneg r3.1, show ((l.length - i.toNat : Nat) : Int) = (l.length : Int) - i by omega]

theorem Bytes.of {l : List Int} (h : Open.wfL (Open.wfI .u8) l) : Bytes l := bytes_of h.2

theorem szIntS_or {l : List Int} {left : Int} (h0 : 0 ≤ left) (h1 : left ≤ 1048576) (hm : l.length ≤ 9223372036854775807) :
  ∃ r, laws_szIntS.f l left = some r ∧ (r = -1 ∨ ((l.length : Int) ≤ left ∧ r = left - l.length)) := by
 simp only [laws_szIntS.f]
 rw [wrap64_id (by omega) (by omega)]
 by_cases h : left - (l.length : Int) < 0
 ·exact ⟨-1, if_pos h, .inl rfl⟩
 ·exact ⟨_, if_neg h, .inr ⟨by omega, rfl⟩⟩

theorem getD_lt {α : Type} {l : List α} {i : Int} {d : α} (h1 : i.toNat < l.length) : l.getD i.toNat d = l[i.toNat] := by
 rw [List.getD_eq_getElem?_getD, List.getElem?_eq_getElem h1]; rfl
theorem getD_mem {α : Type} {l : List α} {i : Int} {d : α} (h0 : 0 ≤ i) (h1 : i < l.length) : l.getD i.toNat d ∈ l := by
 rw [getD_lt (by omega)]; exact List.getElem_mem _
theorem getD_set_eq {α : Type} {l : List α} {i : Int} {v d : α} (h0 : 0 ≤ i) (h1 : i < l.length) : (l.set i.toNat v).getD i.toNat d = v := by
 rw [List.getD_eq_getElem?_getD, List.getElem?_set_self (by omega)]; rfl
theorem getD_set_ne {α : Type} {l : List α} {i j : Int} {v d : α} (h0 : 0 ≤ i) (h1 : 0 ≤ j) (h : i ≠ j) : (l.set i.toNat v).getD j.toNat d = l.getD j.toNat d := by
 rw [List.getD_eq_getElem?_getD, List.getElem?_set_ne (by omega), ← List.getD_eq_getElem?_getD]
theorem getD_ext {α : Type} {l m : List α} (d : α) (h : l.length = m.length) (e : ∀ i : Int, 0 ≤ i → i < l.length → l.getD i.toNat d = m.getD i.toNat d) : l = m := by
 apply List.ext_getElem h
 intro i h1 h2
 have := e i (by omega) (by omega)
 rw [getD_lt (by simpa using h1), getD_lt (by simpa using h2)] at this
 simpa using this
theorem getD_map {α β : Type} (f : α → β) {l : List α} {i : Int} {d : α} {d' : β} (h0 : 0 ≤ i) (h1 : i < l.length) : (l.map f).getD i.toNat d' = f (l.getD i.toNat d) := by
 rw [getD_lt (by rw [List.length_map]; omega), getD_lt (by omega), List.getElem_map]

theorem szByteS_or {l : List Int} {left : Int} (h0 : 0 ≤ left) (h1 : left ≤ 1048576) (hm : l.length ≤ 9223372036854775807) :
  ∃ r, laws_szByteS.f l left = some r ∧ (r = -1 ∨ ((l.length : Int) ≤ left ∧ r = left - l.length)) := by
 simp only [laws_szByteS.f]
 rw [wrap64_id (by omega) (by omega)]
 by_cases h : left - (l.length : Int) < 0
 ·exact ⟨-1, if_pos h, .inl rfl⟩
 ·exact ⟨_, if_neg h, .inr ⟨by omega, rfl⟩⟩
theorem szTarget_or {l : List Int} {a b left : Int} (h0 : 0 ≤ left) (h1 : left ≤ 1048576) (hm : l.length ≤ 9223372036854775807) :
  ∃ r, laws_szTarget.f l a b left = some r ∧ (r = -1 ∨ ((l.length : Int) ≤ left ∧ r = left - l.length)) := by
 simp only [laws_szTarget.f]
 obtain ⟨r, e, q⟩ := szByteS_or (l := l) h0 h1 hm
 rw [e]; simp only [Option.bind_some]
 rcases q with rfl | ⟨a1, rfl⟩
 ·exact ⟨-1, if_pos (by omega), .inl rfl⟩
 ·exact ⟨_, if_neg (by omega), .inr ⟨a1, rfl⟩⟩
theorem szTargetS_loop (x0 : List S185) (hm : ∀ x ∈ x0, x.f0.length ≤ 9223372036854775807) (hl : x0.length ≤ 1048576) (d : Nat) : ∀ (left i : Int), 0 ≤ left → left ≤ 1048576 → 0 ≤ i → (x0.length : Int) - i = d →
  ∃ r, Ev (fun k => laws_szTargetS.l0 k x0 left i) r ∧ (r = -1 ∨ (0 ≤ r ∧ r ≤ left ∧ ∀ j : Int, i ≤ j → j < x0.length → ((rd_T185 x0 j).f0.length : Int) ≤ 1048576)) := by
 induction d with
 | zero =>
  intro left i l0 l1 h0 hd
  refine ⟨left, Ev.step (fun _ => rfl) ?_, .inr ⟨l0, Int.le_refl _, fun j a b => by omega⟩⟩
  simp only [laws_szTargetS.l0]
  exact ev_neg (by omega) (Ev.now _)
 | succ d ih =>
  intro left i l0 l1 h0 hd
  obtain ⟨r, e, q⟩ := szTarget_or (l := (rd_T185 x0 i).f0) (a := (rd_T185 x0 i).f1) (b := (rd_T185 x0 i).f2) l0 l1 (hm _ (getD_mem h0 (by omega)))
  rcases q with rfl | ⟨q, rfl⟩
  ·refine ⟨-1, Ev.step (fun _ => rfl) ?_, .inl rfl⟩
   simp only [laws_szTargetS.l0]
   refine ev_pos (by omega) (ev_pos (by omega) ?_)
   rw [e]
   exact ev_letv (ev_pos (by omega) (Ev.now _))
  ·obtain ⟨r', e', q'⟩ := ih (left - ((rd_T185 x0 i).f0.length : Int)) (i + 1) (by omega) (by omega) (by omega) (by omega)
   refine ⟨r', Ev.step (fun _ => rfl) ?_, ?_⟩
   ·simp only [laws_szTargetS.l0]
    refine ev_pos (by omega) (ev_pos (by omega) ?_)
    rw [e, wrap64_id (by omega) (by omega)]
    exact ev_letv (ev_neg (by omega) e')
   ·rcases q' with rfl | ⟨a, b, c⟩
    ·exact .inl rfl
    ·refine .inr ⟨a, by omega, fun j h1 h2 => ?_⟩
     by_cases hj : j = i
     ·subst hj; omega
     ·exact c j (by omega) h2
theorem szTargetS_or (x0 : List S185) (hm : ∀ x ∈ x0, x.f0.length ≤ 9223372036854775807) (hl : x0.length ≤ 9223372036854775807) {left : Int} (h0 : 0 ≤ left) (h1 : left ≤ 1048576) :
  ∃ r, Ev (fun k => laws_szTargetS.f k x0 left) r ∧ (r = -1 ∨ (0 ≤ r ∧ r ≤ left ∧ x0.length ≤ 1048576 ∧ ∀ j : Int, 0 ≤ j → j < x0.length → ((rd_T185 x0 j).f0.length : Int) ≤ 1048576)) := by
 simp only [laws_szTargetS.f]
 rw [wrap64_id (by omega) (by omega)]
 by_cases h : left - (x0.length : Int) < 0
 ·exact ⟨-1, ev_pos h (Ev.now _), .inl rfl⟩
 ·obtain ⟨r, e, q⟩ := szTargetS_loop x0 hm (by omega) x0.length (left - x0.length) 0 (by omega) (by omega) (by omega) (by omega)
  refine ⟨r, ev_neg h e, ?_⟩
  rcases q with rfl | ⟨a, b, c⟩
  ·exact .inl rfl
  ·exact .inr ⟨a, by omega, by omega, c⟩

theorem toIntS_loop (x0 : List Int) (hb : x0.length ≤ 35184372088832) (d : Nat) : ∀ (x3 : List Int) (i : Int), 0 ≤ i → x3.length = x0.length → (x0.length : Int) - i = d →
  (∀ j : Int, 0 ≤ j → j < i → rd x3 j = rd x0 j) → Ev (fun k => laws_toIntS.l0 k x0 x3 i) x0 := by
 induction d with
 | zero =>
  intro x3 i h0 hl hd he
  refine Ev.step (fun _ => rfl) ?_
  simp only [laws_toIntS.l0]
  refine ev_neg (by omega) ?_
  have : x3 = x0 := rd_ext hl (fun j a b => he j a (by omega))
  rw [this]; exact Ev.now _
 | succ d ih =>
  intro x3 i h0 hl hd he
  refine Ev.step (fun _ => rfl) ?_
  simp only [laws_toIntS.l0]
  refine ev_pos (by omega) (ev_pos (by omega) (ev_pos (by omega) ?_))
  rw [wrap64_id (by omega) (by omega)]
  refine ih _ _ (by omega) (by simpa using hl) (by omega) ?_
  intro j a b
  by_cases e : j = i
  ·subst e; exact rd_set_eq (by omega) (by omega)
  ·rw [rd_set_ne (by omega) (by omega) (by omega)]; exact he j a (by omega)
theorem toIntS_ev (l : List Int) (hb : l.length ≤ 35184372088832) : Ev (fun k => laws_toIntS.f k l) l := by
 simp only [laws_toIntS.f]
 refine ev_pos (by omega) (ev_pos (by omega) ?_)
 exact toIntS_loop l hb l.length _ 0 (by omega) (by simp) (by omega) (fun j a b => by omega)

theorem toByteS_loop (x0 : List Int) (hb : x0.length ≤ 281474976710656) (d : Nat) : ∀ (x3 : List Int) (i : Int), 0 ≤ i → x3.length = x0.length → (x0.length : Int) - i = d →
  (∀ j : Int, 0 ≤ j → j < i → rd x3 j = rd x0 j) → Ev (fun k => laws_toByteS.l0 k x0 x3 i) x0 := by
 induction d with
 | zero =>
  intro x3 i h0 hl hd he
  refine Ev.step (fun _ => rfl) ?_
  simp only [laws_toByteS.l0]
  refine ev_neg (by omega) ?_
  have : x3 = x0 := rd_ext hl (fun j a b => he j a (by omega))
  rw [this]; exact Ev.now _
 | succ d ih =>
  intro x3 i h0 hl hd he
  refine Ev.step (fun _ => rfl) ?_
  simp only [laws_toByteS.l0]
  refine ev_pos (by omega) (ev_pos (by omega) (ev_pos (by omega) ?_))
  rw [wrap64_id (by omega) (by omega)]
  refine ih _ _ (by omega) (by simpa using hl) (by omega) ?_
  intro j a b
  by_cases e : j = i
  ·subst e; exact rd_set_eq (by omega) (by omega)
  ·rw [rd_set_ne (by omega) (by omega) (by omega)]; exact he j a (by omega)
theorem toByteS_ev (l : List Int) (hb : l.length ≤ 281474976710656) : Ev (fun k => laws_toByteS.f k l) l := by
 simp only [laws_toByteS.f]
 refine ev_pos (by omega) (ev_pos (by omega) ?_)
 exact toByteS_loop l hb l.length _ 0 (by omega) (by simp) (by omega) (fun j a b => by omega)

def convT (x : S185) : S120 := ⟨x.f0, x.f1, x.f2⟩
theorem toTarget_ev (l : List Int) (a b : Int) (hb : l.length ≤ 281474976710656) : Ev (fun k => laws_toTarget.f k l a b) (l, a, b) := by
 simp only [laws_toTarget.f]
 exact Ev.bind (toByteS_ev l hb) (Ev.now _)
theorem toTargetS_loop (x0 : List S185) (hl : x0.length ≤ 1048576) (hm : ∀ j : Int, 0 ≤ j → j < x0.length → ((rd_T185 x0 j).f0.length : Int) ≤ 1048576) (d : Nat) : ∀ (x3 : List S120) (i : Int), 0 ≤ i → x3.length = x0.length → (x0.length : Int) - i = d →
  (∀ j : Int, 0 ≤ j → j < i → rd_T120 x3 j = convT (rd_T185 x0 j)) → Ev (fun k => laws_toTargetS.l0 k x0 x3 i) (x0.map convT) := by
 induction d with
 | zero =>
  intro x3 i h0 hl' hd he
  refine Ev.step (fun _ => rfl) ?_
  simp only [laws_toTargetS.l0]
  refine ev_neg (by omega) ?_
  have : x3 = x0.map convT := getD_ext z120 (by rw [List.length_map]; omega) (fun j a b => by
   rw [getD_map convT (d := z185) a (by omega)]; exact he j a (by omega))
  rw [this]; exact Ev.now _
 | succ d ih =>
  intro x3 i h0 hl' hd he
  refine Ev.step (fun _ => rfl) ?_
  simp only [laws_toTargetS.l0]
  refine ev_pos (by omega) (ev_pos (by omega) (Ev.bind (toTarget_ev _ _ _ (by have := hm i h0 (by omega); omega)) (ev_pos (by omega) ?_)))
  rw [wrap64_id (by omega) (by omega)]
  refine ih _ _ (by omega) (by simpa using hl') (by omega) ?_
  intro j a b
  unfold rd_T120
  by_cases e : j = i
  ·subst e; rw [getD_set_eq (by omega) (by omega)]; rfl
  ·rw [getD_set_ne (by omega) (by omega) (by omega)]; exact he j a (by omega)
theorem toTargetS_ev (x0 : List S185) (hl : x0.length ≤ 1048576) (hm : ∀ j : Int, 0 ≤ j → j < x0.length → ((rd_T185 x0 j).f0.length : Int) ≤ 1048576) : Ev (fun k => laws_toTargetS.f k x0) (x0.map convT) := by
 simp only [laws_toTargetS.f]
 refine ev_pos (by omega) (ev_pos (by omega) ?_)
 exact toTargetS_loop x0 hl hm x0.length _ 0 (by omega) (by simp) (by omega) (fun j a b => by omega)

theorem eqIntS_loop (a b : List Int) (hl : a.length = b.length) (hb : a.length ≤ 9223372036854775800) (d : Nat) : ∀ (i : Int), 0 ≤ i → (a.length : Int) - i = d →
  (∀ j : Int, 0 ≤ j → j < i → rd a j = rd b j) → Ev (fun k => laws_eqIntS.l0 k a b i) (decide (a = b)) := by
 induction d with
 | zero =>
  intro i h0 hd he
  refine Ev.step (fun _ => rfl) ?_
  simp only [laws_eqIntS.l0]
  refine ev_neg (by omega) ?_
  have : a = b := rd_ext hl (fun j p q => he j p (by omega))
  rw [decide_eq_true this]; exact Ev.now _
 | succ d ih =>
  intro i h0 hd he
  refine Ev.step (fun _ => rfl) ?_
  simp only [laws_eqIntS.l0]
  refine ev_pos (by omega) (ev_pos (by omega) (ev_pos (by omega) (ev_ite (fun e => ?_) (fun e => ?_))))
  ·rw [wrap64_id (by omega) (by omega)]
   refine ih _ (by omega) (by omega) ?_
   intro j p q
   by_cases e' : j = i
   ·subst e'; exact e
   ·exact he j p (by omega)
  ·have : a ≠ b := fun h => e (by rw [h])
   rw [decide_eq_false this]; exact Ev.now _
theorem eqIntS_ev (a b : List Int) (hb : a.length ≤ 9223372036854775800) : Ev (fun k => laws_eqIntS.f k a b) (decide (a = b)) := by
 simp only [laws_eqIntS.f]
 refine ev_ite (fun e => ?_) (fun e => ?_)
 ·exact eqIntS_loop a b (by omega) hb a.length 0 (by omega) (by omega) (fun j p q => by omega)
 ·have : a ≠ b := fun h => e (by rw [h])
  rw [decide_eq_false this]; exact Ev.now _
theorem eqIntS_self (a : List Int) (hb : a.length ≤ 9223372036854775800) : Ev (fun k => laws_eqIntS.f k a a) true := by
 have := eqIntS_ev a a hb
 rwa [decide_eq_true rfl] at this

theorem eqByteS_loop (a b : List Int) (hl : a.length = b.length) (hb : a.length ≤ 9223372036854775800) (d : Nat) : ∀ (i : Int), 0 ≤ i → (a.length : Int) - i = d →
  (∀ j : Int, 0 ≤ j → j < i → rd a j = rd b j) → Ev (fun k => laws_eqByteS.l0 k a b i) (decide (a = b)) := by
 induction d with
 | zero =>
  intro i h0 hd he
  refine Ev.step (fun _ => rfl) ?_
  simp only [laws_eqByteS.l0]
  refine ev_neg (by omega) ?_
  have : a = b := rd_ext hl (fun j p q => he j p (by omega))
  rw [decide_eq_true this]; exact Ev.now _
 | succ d ih =>
  intro i h0 hd he
  refine Ev.step (fun _ => rfl) ?_
  simp only [laws_eqByteS.l0]
  refine ev_pos (by omega) (ev_pos (by omega) (ev_pos (by omega) (ev_ite (fun e => ?_) (fun e => ?_))))
  ·rw [wrap64_id (by omega) (by omega)]
   refine ih _ (by omega) (by omega) ?_
   intro j p q
   by_cases e' : j = i
   ·subst e'; exact e
   ·exact he j p (by omega)
  ·have : a ≠ b := fun h => e (by rw [h])
   rw [decide_eq_false this]; exact Ev.now _
theorem eqByteS_ev (a b : List Int) (hb : a.length ≤ 9223372036854775800) : Ev (fun k => laws_eqByteS.f k a b) (decide (a = b)) := by
 simp only [laws_eqByteS.f]
 refine ev_ite (fun e => ?_) (fun e => ?_)
 ·exact eqByteS_loop a b (by omega) hb a.length 0 (by omega) (by omega) (fun j p q => by omega)
 ·have : a ≠ b := fun h => e (by rw [h])
  rw [decide_eq_false this]; exact Ev.now _
theorem eqByteS_self (a : List Int) (hb : a.length ≤ 9223372036854775800) : Ev (fun k => laws_eqByteS.f k a a) true := by
 have := eqByteS_ev a a hb
 rwa [decide_eq_true rfl] at this

theorem eqTarget_self (l : List Int) (a b : Int) (hb : l.length ≤ 1048576) : Ev (fun k => laws_eqTarget.f k l a b l a b) true := by
 simp only [laws_eqTarget.f]
 exact Ev.bind (eqByteS_self l (by omega)) (ev_pos (by trivial) (ev_pos (by trivial) (ev_pos (by trivial) (Ev.now _))))
theorem eqTargetS_loop (x0 : List S120) (hl : x0.length ≤ 1048576) (hm : ∀ j : Int, 0 ≤ j → j < x0.length → ((rd_T120 x0 j).f0.length : Int) ≤ 1048576) (d : Nat) : ∀ (i : Int), 0 ≤ i → (x0.length : Int) - i = d → Ev (fun k => laws_eqTargetS.l0 k x0 x0 i) true := by
 induction d with
 | zero =>
  intro i h0 hd
  refine Ev.step (fun _ => rfl) ?_
  simp only [laws_eqTargetS.l0]
  exact ev_neg (by omega) (Ev.now _)
 | succ d ih =>
  intro i h0 hd
  refine Ev.step (fun _ => rfl) ?_
  simp only [laws_eqTargetS.l0]
  refine ev_pos (by omega) (ev_pos (by omega) (ev_pos (by omega) (Ev.bind (eqTarget_self _ _ _ (by have := hm i h0 (by omega); omega)) (ev_pos (by trivial) ?_))))
  rw [wrap64_id (by omega) (by omega)]
  exact ih _ (by omega) (by omega)
theorem eqTargetS_self (x0 : List S120) (hl : x0.length ≤ 1048576) (hm : ∀ j : Int, 0 ≤ j → j < x0.length → ((rd_T120 x0 j).f0.length : Int) ≤ 1048576) : Ev (fun k => laws_eqTargetS.f k x0 x0) true := by
 simp only [laws_eqTargetS.f]
 exact ev_pos (by trivial) (eqTargetS_loop x0 hl hm x0.length 0 (by omega) (by omega))

theorem szLayout_or (w h : Int) (cost ex : List Int) (ts : List S185) (m2 : cost.length ≤ 9223372036854775807) (m3 : ex.length ≤ 9223372036854775807) (m0 : ∀ x ∈ ts, x.f0.length ≤ 9223372036854775807) (m1 : ts.length ≤ 9223372036854775807) :
  ∃ r, Ev (fun k => laws_szLayout.f k w h cost ex ts 1048576) r ∧ (r = -1 ∨ ((0 ≤ r ∧ r ≤ 1048576) ∧ cost.length ≤ 1048576 ∧ ex.length ≤ 1048576 ∧ (ts.length ≤ 1048576 ∧ ∀ j : Int, 0 ≤ j → j < ts.length → ((rd_T185 ts j).f0.length : Int) ≤ 1048576))) := by
 simp only [laws_szLayout.f]
 obtain ⟨r1, e1, q1⟩ := szIntS_or (l := cost) (left := 1048576) (by omega) (by omega) m2
 have v1 : Ev (fun _ => laws_szIntS.f cost 1048576) r1 := by rw [e1]; exact Ev.now _
 rcases q1 with rfl | ⟨a1, b1⟩
 ·exact ⟨-1, Ev.bind v1 (ev_pos (by omega) (Ev.now _)), .inl rfl⟩
 obtain ⟨r2, e2, q2⟩ := szIntS_or (l := ex) (left := r1) (by omega) (by omega) m3
 have v2 : Ev (fun _ => laws_szIntS.f ex r1) r2 := by rw [e2]; exact Ev.now _
 rcases q2 with rfl | ⟨a2, b2⟩
 ·exact ⟨-1, Ev.bind v1 (ev_neg (by omega) (Ev.bind v2 (ev_pos (by omega) (Ev.now _)))), .inl rfl⟩
 obtain ⟨r3, e3, q3⟩ := szTargetS_or ts m0 m1 (left := r2) (by omega) (by omega)
 rcases q3 with rfl | ⟨a3, b3, c3⟩
 ·exact ⟨-1, Ev.bind v1 (ev_neg (by omega) (Ev.bind v2 (ev_neg (by omega) (Ev.bind e3 (ev_pos (by omega) (Ev.now _)))))), .inl rfl⟩
 exact ⟨r3, Ev.bind v1 (ev_neg (by omega) (Ev.bind v2 (ev_neg (by omega) (Ev.bind e3 (ev_neg (by omega) (Ev.now _)))))), .inr ⟨⟨a3, by omega⟩, by omega, by omega, c3⟩⟩
theorem toLayout_ev (w h : Int) (cost ex : List Int) (ts : List S185) (c1 : cost.length ≤ 1048576) (c2 : ex.length ≤ 1048576) (c3 : ts.length ≤ 1048576 ∧ ∀ j : Int, 0 ≤ j → j < ts.length → ((rd_T185 ts j).f0.length : Int) ≤ 1048576) :
  Ev (fun k => laws_toLayout.f k w h cost ex ts) (w, h, cost, ex, ts.map convT) := by
 simp only [laws_toLayout.f]
 exact Ev.bind (toIntS_ev cost (by omega)) (Ev.bind (toIntS_ev ex (by omega)) (Ev.bind (toTargetS_ev ts c3.1 c3.2) (Ev.now _)))
theorem eqLayout_self (w h : Int) (cost ex : List Int) (ts : List S120) (c1 : cost.length ≤ 1048576) (c2 : ex.length ≤ 1048576) (c3 : ts.length ≤ 1048576 ∧ ∀ j : Int, 0 ≤ j → j < ts.length → ((rd_T120 ts j).f0.length : Int) ≤ 1048576) :
  Ev (fun k => laws_eqLayout.f k w h cost ex ts w h cost ex ts) true := by
 simp only [laws_eqLayout.f]
 exact ev_pos (by trivial) (ev_pos (by trivial) (Ev.bind (eqIntS_self cost (by omega)) (ev_pos (by trivial) (Ev.bind (eqIntS_self ex (by omega)) (ev_pos (by trivial) (Ev.bind (eqTargetS_self ts c3.1 c3.2) (ev_pos (by trivial) (Ev.now _))))))))

open Classical in
noncomputable def allB (S : Int → Prop) (i n : Int) : Bool := decide (∀ j : Int, i ≤ j → j < n → S j)
open Classical in
theorem allB_end {S : Int → Prop} {i n : Int} (h : ¬ i < n) : allB S i n = true := by unfold allB; exact decide_eq_true (fun j a b => by omega)
open Classical in
theorem allB_no {S : Int → Prop} {i n : Int} (h0 : i < n) (h : ¬ S i) : allB S i n = false := by unfold allB; exact decide_eq_false (fun q => h (q i (by omega) h0))
open Classical in
theorem allB_yes {S : Int → Prop} {i n : Int} (h : S i) : allB S i n = allB S (i + 1) n := by
 unfold allB
 rw [decide_eq_decide]
 refine ⟨fun q j a b => q j (by omega) b, fun q j a b => ?_⟩
 by_cases e : j = i
 ·subst e; exact h
 ·exact q j (by omega) b
open Classical in
theorem allB_iff {S : Int → Prop} {i n : Int} : allB S i n = true ↔ ∀ j : Int, i ≤ j → j < n → S j := by unfold allB; exact decide_eq_true_iff
theorem cmp_ge : ∀ x y : List UInt8, decide (0 ≤ Lib.compareBytes x y) = !Op.bytesLess x y
 | [], [] => by simp [Lib.compareBytes, Op.bytesLess]
 | [], _ :: _ => by simp [Lib.compareBytes, Op.bytesLess]
 | _ :: _, [] => by simp [Lib.compareBytes, Op.bytesLess]
 | a :: x, b :: y => by
  rw [Lib.compareBytes, Op.bytesLess]
  by_cases h1 : a < b
  ·simp [h1]
  ·rw [if_neg h1]
   by_cases h2 : b < a
   ·rw [if_pos h2]
    have : (a == b) = false := by
     rw [beq_eq_false_iff_ne]; intro e; subst e; exact h1 h2
    simp [h1, this]
   ·rw [if_neg h2, cmp_ge x y]
    have : a = b := by
     have h1' : ¬ a.toNat < b.toNat := fun h => h1 (UInt8.lt_iff_toNat_lt.2 h)
     have h2' : ¬ b.toNat < a.toNat := fun h => h2 (UInt8.lt_iff_toNat_lt.2 h)
     exact UInt8.toNat_inj.1 (by omega)
    simp [h1, this]

theorem l1point_eq (v : Int) : spec_l1point.f v = some (decide (0 ≤ v ∧ v ≤ 1114111 ∧ (v < 55296 ∨ v > 57343))) := by
 unfold spec_l1point.f
 by_cases h1 : v ≥ 0
 ·rw [if_pos h1]
  by_cases h2 : v ≤ 1114111
  ·rw [if_pos h2]
   by_cases h3 : v < 55296
   ·rw [if_pos h3, decide_eq_true (by omega)]
   ·rw [if_neg h3]; congr 1; rw [decide_eq_decide]; omega
  ·rw [if_neg h2, decide_eq_false (by omega)]
 ·rw [if_neg h1, decide_eq_false (by omega)]
def ulen (v : Int) : Int := if v < 128 then 1 else if v < 2048 then 2 else if v < 65536 then 3 else 4
theorem l1utf8_len (v : Int) : ∃ u, spec_l1utf8.f v = some u ∧ (u.length : Int) = ulen v := by
 unfold spec_l1utf8.f ulen
 by_cases h1 : v < 128
 ·rw [if_pos h1, if_pos h1]; exact ⟨_, rfl, rfl⟩
 rw [if_neg h1, if_neg h1]
 by_cases h2 : v < 2048
 ·rw [if_pos h2, if_pos h2]; exact ⟨_, rfl, rfl⟩
 rw [if_neg h2, if_neg h2]
 by_cases h3 : v < 65536
 ·rw [if_pos h3, if_pos h3]; exact ⟨_, rfl, rfl⟩
 rw [if_neg h3, if_neg h3]; exact ⟨_, rfl, rfl⟩
theorem l1char_end (l : List Int) (i n v j : Int) (hj : ¬ j < n) : Ev (fun k => spec_l1char.l0 k l i n v j) (if (0 ≤ v ∧ v ≤ 1114111 ∧ (v < 55296 ∨ v > 57343)) ∧ ulen v = n then (n, v) else (0, 0)) := by
 refine Ev.step (fun _ => rfl) ?_
 simp only [spec_l1char.l0]
 refine ev_neg hj ?_
 rw [l1point_eq]
 refine ev_letv (ev_ite (fun e => ?_) (fun e => ?_))
 ·have e := of_decide_eq_true e
  obtain ⟨u, hu, hl⟩ := l1utf8_len v
  rw [hu]
  refine ev_letv (ev_ite (fun f => ?_) (fun f => ?_))
  ·rw [if_pos ⟨e, by omega⟩]; exact Ev.now _
  ·rw [if_neg (fun h => f (by omega))]; exact Ev.now _
 ·have e := of_decide_eq_false (Bool.eq_false_iff.2 e)
  rw [if_neg (fun h => e h.1)]; exact Ev.now _
theorem l1char_bad (l : List Int) (hb : Bytes l) (i n v j : Int) (h0 : 0 ≤ i) (j0 : 0 ≤ j) (hj : j < n) (hi : i + j < l.length) (hl : l.length ≤ 9000000000) (hc : rd l (i + j) / 64 ≠ 2) : Ev (fun k => spec_l1char.l0 k l i n v j) (0, 0) := by
 have hr := hb (i + j) (by omega) hi
 refine Ev.step (fun _ => rfl) ?_
 simp only [spec_l1char.l0]
 simp (disch := omega) only [wrap64_id]
 refine ev_pos hj (ev_pos (by omega) (ev_pos (by omega) (ev_ite (fun e => Ev.now _) (fun e => ?_))))
 exact ev_pos (by omega) (Ev.now _)
theorem l1char_go {R : Int × Int} (l : List Int) (hb : Bytes l) (i n v j : Int) (h0 : 0 ≤ i) (j0 : 0 ≤ j) (hj : j < n) (hi : i + j < l.length) (hl : l.length ≤ 9000000000) (hc : rd l (i + j) / 64 = 2) (v0 : 0 ≤ v) (v1 : v ≤ 99999999)
  (h : Ev (fun k => spec_l1char.l0 k l i n (v * 64 + rd l (i + j) % 64) (j + 1)) R) (hn : n ≤ 10) : Ev (fun k => spec_l1char.l0 k l i n v j) R := by
 have hr := hb (i + j) (by omega) hi
 refine Ev.step (fun _ => rfl) ?_
 simp only [spec_l1char.l0]
 simp (disch := omega) only [wrap64_id]
 refine ev_pos hj (ev_pos (by omega) (ev_pos (by omega) (ev_neg (by omega) (ev_neg (by omega) ?_))))
 rw [show v * 64 + rd l (i + j) - 128 = v * 64 + rd l (i + j) % 64 by omega]
 exact h
theorem spec_l1char_ev (l : List Int) (hb : Bytes l) (hl : l.length ≤ 9000000000) (i : Int) (h0 : 0 ≤ i) (h1 : i < l.length) : Ev (fun k => spec_l1char.f k l i) (chr l i) := by
 rw [chr_eq hb h0 h1]
 have r0 := hb i h0 h1
 simp only [spec_l1char.f]
 simp (disch := omega) only [wrap64_id]
 refine ev_pos h0 (ev_pos h1 ?_)
 unfold chrZ
 refine ev_ite (fun c0 => ?_) (fun c0 => ?_)
 ·rw [if_pos c0]; exact Ev.now _
 rw [if_neg c0]
 have three : ∀ n v R, (n = 0 ∨ i + n > l.length → Ev (fun _ => some (0, 0)) R) → (¬ (n = 0 ∨ i + n > l.length) → Ev (fun k => spec_l1char.l0 k l i n v 1) R) → 0 ≤ n → n ≤ 4 → Ev (fun k => spec_l1char.j2 k l i n v) R := by
  intro n v R hA hB n0 n4
  have ja : (n = 0 ∨ i + n > l.length) → Ev (fun k => spec_l1char.j3 k l i n v true) R := by
   intro h
   refine Ev.step (fun _ => rfl) ?_
   simp only [spec_l1char.j3]
   exact ev_pos (by trivial) (hA h)
  refine Ev.step (fun _ => rfl) ?_
  simp only [spec_l1char.j2]
  simp (disch := omega) only [wrap64_id]
  refine ev_ite (fun c => ja (.inl c)) (fun c => ?_)
  by_cases d : i + n > l.length
  ·rw [decide_eq_true d]; exact ja (.inr d)
  ·rw [decide_eq_false d]
   refine Ev.step (fun _ => rfl) ?_
   simp only [spec_l1char.j3]
   exact ev_neg (by simp) (hB (by omega))
 refine ev_ite (fun c1 => ?_) (fun c1 => ?_)
 ·by_cases c2 : rd l i < 224
  ·rw [decide_eq_true c2]
   refine Ev.step (fun _ => rfl) ?_
   simp only [spec_l1char.j0]
   refine ev_pos (by trivial) ?_
   simp (disch := omega) only [wrap64_id]
   refine three 2 _ _ (fun h => ?_) (fun h => ?_) (by omega) (by omega)
   ·rw [if_neg (by omega), if_neg (by omega), if_neg (by omega)]; exact Ev.now _
   ·by_cases d : rd l (i + 1) / 64 = 2
    ·rw [if_pos (by omega)]
     refine l1char_go l hb i 2 _ 1 h0 (by omega) (by omega) (by omega) hl d (by omega) (by omega) ?_ (by omega)
     have := l1char_end l i 2 ((rd l i - 192) * 64 + rd l (i + 1) % 64) (1 + 1) (by omega)
     rw [show (rd l i - 192) * 64 + rd l (i + 1) % 64 = rd l i % 32 * 64 + rd l (i + 1) % 64 by omega] at this ⊢
     by_cases q : rd l i % 32 * 64 + rd l (i + 1) % 64 ≥ 128
     ·rw [if_pos q]
      rwa [if_pos ⟨by omega, by unfold ulen; rw [if_neg (by omega), if_pos (by omega)]⟩] at this
     ·rw [if_neg q]
      rwa [if_neg (fun h => by have := h.2; unfold ulen at this; rw [if_pos (by omega)] at this; omega)] at this
    ·rw [if_neg (by omega), if_neg (by omega), if_neg (by omega)]
     exact l1char_bad l hb i 2 _ 1 h0 (by omega) (by omega) (by omega) hl d
  ·rw [decide_eq_false c2]
   refine Ev.step (fun _ => rfl) ?_
   simp only [spec_l1char.j0]
   refine ev_neg (by simp) (ev_pos (by omega) ?_)
   by_cases c3 : rd l i < 240
   ·rw [decide_eq_true c3]
    refine Ev.step (fun _ => rfl) ?_
    simp only [spec_l1char.j1]
    refine ev_pos (by trivial) ?_
    simp (disch := omega) only [wrap64_id]
    refine three 3 _ _ (fun h => ?_) (fun h => ?_) (by omega) (by omega)
    ·rw [if_neg (by omega), if_neg (by omega), if_neg (by omega)]; exact Ev.now _
    ·rw [if_neg (by omega)]
     by_cases d : rd l (i + 1) / 64 = 2
     ·refine l1char_go l hb i 3 _ 1 h0 (by omega) (by omega) (by omega) hl d (by omega) (by omega) ?_ (by omega)
      rw [show (1 : Int) + 1 = 2 by omega]
      by_cases d2 : rd l (i + 2) / 64 = 2
      ·rw [if_pos (by omega)]
       refine l1char_go l hb i 3 _ 2 h0 (by omega) (by omega) (by omega) hl d2 (by omega) (by omega) ?_ (by omega)
       have := l1char_end l i 3 (((rd l i - 224) * 64 + rd l (i + 1) % 64) * 64 + rd l (i + 2) % 64) (2 + 1) (by omega)
       rw [show ((rd l i - 224) * 64 + rd l (i + 1) % 64) * 64 + rd l (i + 2) % 64 = rd l i % 16 * 4096 + rd l (i + 1) % 64 * 64 + rd l (i + 2) % 64 by omega] at this ⊢
       by_cases q : rd l i % 16 * 4096 + rd l (i + 1) % 64 * 64 + rd l (i + 2) % 64 ≥ 2048 ∧ (rd l i % 16 * 4096 + rd l (i + 1) % 64 * 64 + rd l (i + 2) % 64 < 55296 ∨ 57344 ≤ rd l i % 16 * 4096 + rd l (i + 1) % 64 * 64 + rd l (i + 2) % 64)
       ·rw [if_pos q]
        rwa [if_pos ⟨by omega, by unfold ulen; rw [if_neg (by omega), if_neg (by omega), if_pos (by omega)]⟩] at this
       ·rw [if_neg q]
        rwa [if_neg (fun h => by have h2 := h.2; have h1 := h.1; unfold ulen at h2; split at h2; omega; split at h2 <;> omega)] at this
      ·rw [if_neg (by omega), if_neg (by omega)]
       exact l1char_bad l hb i 3 _ 2 h0 (by omega) (by omega) (by omega) hl d2
     ·rw [if_neg (by omega), if_neg (by omega)]
      exact l1char_bad l hb i 3 _ 1 h0 (by omega) (by omega) (by omega) hl d
   ·rw [decide_eq_false c3]
    refine Ev.step (fun _ => rfl) ?_
    simp only [spec_l1char.j1]
    refine ev_neg (by simp) (ev_pos (by omega) (ev_ite (fun c4 => ?_) (fun c4 => ?_)))
    ·simp (disch := omega) only [wrap64_id]
     rw [if_neg (by omega), if_neg (by omega)]
     refine three 4 _ _ (fun h => ?_) (fun h => ?_) (by omega) (by omega)
     ·rw [if_neg (by omega)]; exact Ev.now _
     ·by_cases d : rd l (i + 1) / 64 = 2
      ·refine l1char_go l hb i 4 _ 1 h0 (by omega) (by omega) (by omega) hl d (by omega) (by omega) ?_ (by omega)
       rw [show (1 : Int) + 1 = 2 by omega]
       by_cases d2 : rd l (i + 2) / 64 = 2
       ·refine l1char_go l hb i 4 _ 2 h0 (by omega) (by omega) (by omega) hl d2 (by omega) (by omega) ?_ (by omega)
        rw [show (2 : Int) + 1 = 3 by omega]
        by_cases d3 : rd l (i + 3) / 64 = 2
        ·rw [if_pos (by omega)]
         refine l1char_go l hb i 4 _ 3 h0 (by omega) (by omega) (by omega) hl d3 (by omega) (by omega) ?_ (by omega)
         have := l1char_end l i 4 ((((rd l i - 240) * 64 + rd l (i + 1) % 64) * 64 + rd l (i + 2) % 64) * 64 + rd l (i + 3) % 64) (3 + 1) (by omega)
         rw [show (((rd l i - 240) * 64 + rd l (i + 1) % 64) * 64 + rd l (i + 2) % 64) * 64 + rd l (i + 3) % 64 = rd l i % 8 * 262144 + rd l (i + 1) % 64 * 4096 + rd l (i + 2) % 64 * 64 + rd l (i + 3) % 64 by omega] at this ⊢
         by_cases q : rd l i % 8 * 262144 + rd l (i + 1) % 64 * 4096 + rd l (i + 2) % 64 * 64 + rd l (i + 3) % 64 ≥ 65536 ∧ rd l i % 8 * 262144 + rd l (i + 1) % 64 * 4096 + rd l (i + 2) % 64 * 64 + rd l (i + 3) % 64 ≤ 1114111
         ·rw [if_pos q]
          rwa [if_pos ⟨by omega, by unfold ulen; rw [if_neg (by omega), if_neg (by omega), if_neg (by omega)]⟩] at this
         ·rw [if_neg q]
          rwa [if_neg (fun h => by have h2 := h.2; have h1 := h.1; unfold ulen at h2; split at h2; omega; split at h2; omega; split at h2 <;> omega)] at this
        ·rw [if_neg (by omega)]
         exact l1char_bad l hb i 4 _ 3 h0 (by omega) (by omega) (by omega) hl d3
       ·rw [if_neg (by omega)]
        exact l1char_bad l hb i 4 _ 2 h0 (by omega) (by omega) (by omega) hl d2
      ·rw [if_neg (by omega)]
       exact l1char_bad l hb i 4 _ 1 h0 (by omega) (by omega) (by omega) hl d
    ·rw [if_neg (by omega), if_neg (by omega), if_neg (by omega)]
     exact three 0 0 _ (fun h => Ev.now _) (fun h => absurd (.inl rfl) h) (by omega) (by omega)
 ·refine Ev.step (fun _ => rfl) ?_
  simp only [spec_l1char.j0]
  refine ev_neg (by simp) (ev_neg (by omega) ?_)
  refine Ev.step (fun _ => rfl) ?_
  simp only [spec_l1char.j1]
  refine ev_neg (by simp) (ev_neg (by omega) ?_)
  rw [if_neg (by omega), if_neg (by omega), if_neg (by omega)]
  exact three 0 0 _ (fun h => Ev.now _) (fun h => absurd (.inl rfl) h) (by omega) (by omega)

theorem DecodeRune_at {l : List Int} (hb : Bytes l) {i : Int} (h0 : 0 ≤ i) (h1 : i < l.length) : utf8_DecodeRune.f (l.drop i.toNat) = some (decI (l.drop i.toNat)) := by
 unfold utf8_DecodeRune.f
 rw [if_neg (by rw [List.length_drop]; omega), if_pos (bytesB_of (hb.drop _))]
theorem chr_pos {l : List Int} (hb : Bytes l) {i : Int} (h0 : 0 ≤ i) (h1 : i < l.length) (h : ¬ (chr l i).1 = 0) : 1 ≤ (chr l i).1 ∧ (chr l i).1 ≤ 4 ∧ i + (chr l i).1 ≤ l.length := by
 rw [chr_eq hb h0 h1] at h ⊢
 unfold chrZ at h ⊢
 split at h
 ·rename_i c; rw [if_pos c]; simp only; omega
 ·rename_i c; rw [if_neg c]
  split at h
  ·rename_i c; rw [if_pos c]
   split at h
   ·rename_i c2; rw [if_pos c2]; simp only; omega
   ·simp at h
  ·rename_i c; rw [if_neg c]
   split at h
   ·rename_i c; rw [if_pos c]
    split at h
    ·rename_i c2; rw [if_pos c2]; simp only; omega
    ·simp at h
   ·rename_i c; rw [if_neg c]
    split at h
    ·rename_i c; rw [if_pos c]
     split at h
     ·rename_i c2; rw [if_pos c2]; simp only; omega
     ·simp at h
    ·simp at h

def checkFrom (l : List Int) : Nat → Int → Int × Int
 | 0, _ => (0, 0)
 | d + 1, i => if i < l.length then (if (chr l i).1 = 0 then (2, i) else checkFrom l d (i + (chr l i).1)) else (0, 0)
def checkRes (l : List Int) : Int × Int := checkFrom l (l.length + 1) 0
theorem spec_check_loop (l : List Int) (hb : Bytes l) (hl : l.length ≤ 9000000000) (d : Nat) : ∀ i : Int, 0 ≤ i → i ≤ l.length → (l.length : Int) - i < d → Ev (fun k => spec_CheckText.l0 k l i) (checkFrom l d i) := by
 induction d with
 | zero => intro i h0 h1 hd; omega
 | succ d ih =>
  intro i h0 h1 hd
  refine Ev.step (fun _ => rfl) ?_
  simp only [spec_CheckText.l0, checkFrom]
  refine ev_ite (fun c => ?_) (fun c => ?_)
  ·rw [if_pos c]
   refine Ev.bind (spec_l1char_ev l hb hl i h0 c) (ev_ite (fun e => ?_) (fun e => ?_))
   ·rw [if_pos e]; exact Ev.now _
   ·have := chr_pos hb h0 c e
    rw [if_neg e, wrap64_id (by omega) (by omega)]
    exact ih _ (by omega) (by omega) (by omega)
  ·rw [if_neg c]; exact Ev.now _
theorem spec_CheckText_ev (l : List Int) (hb : Bytes l) (hl : l.length ≤ 9000000000) : Ev (fun k => spec_CheckText.f k l) (checkRes l) := by
 simp only [spec_CheckText.f]
 exact spec_check_loop l hb hl (l.length + 1) 0 (by omega) (by omega) (by omega)

theorem impl_check_loop (l : List Int) (hb : Bytes l) (hl : l.length ≤ 9000000000) (d : Nat) : ∀ i : Int, 0 ≤ i → i ≤ l.length → (l.length : Int) - i < d → Ev (fun k => impl_CheckText.l0 k l i) (checkFrom l d i) := by
 induction d with
 | zero => intro i h0 h1 hd; omega
 | succ d ih =>
  intro i h0 h1 hd
  refine Ev.step (fun _ => rfl) ?_
  simp only [impl_CheckText.l0, checkFrom]
  refine ev_ite (fun c => ?_) (fun c => ?_)
  ·rw [if_pos c]
   refine ev_pos h0 (ev_pos h1 ?_)
   rw [DecodeRune_at hb h0 c]
   refine ev_letv ?_
   have hgo : ¬ ((decI (l.drop i.toNat)).1 = 65533 ∧ (decI (l.drop i.toNat)).2 ≤ 1) → Ev (fun k => impl_CheckText.l0 k l (wrap64 (i + (decI (l.drop i.toNat)).2))) (if (chr l i).1 = 0 then (2, i) else checkFrom l d (i + (chr l i).1)) := by
    intro hn
    have e : (chr l i).1 = (decI (l.drop i.toNat)).2 := by unfold chr; rw [if_neg hn]
    have hz : ¬ (chr l i).1 = 0 := by
     intro hz
     have hq := chr_eq hb h0 c
     rw [decI_drop h0 c] at hn
     have hw := chrZ_nat (l.length - i.toNat) (rd l i).toNat (rd l (i + 1)).toNat (rd l (i + 2)).toNat (rd l (i + 3)).toNat
     rw [if_neg hn] at hw
     rw [e, decI_drop h0 c] at hz
     simp only at hz
     unfold Lib.decodeN at hz
     repeat' split at hz
     all_goals simp at hz
    have := chr_pos hb h0 c hz
    rw [if_neg hz, ← e, wrap64_id (by omega) (by omega)]
    exact ih _ (by omega) (by omega) (by omega)
   refine ev_ite (fun e1 => ev_ite (fun e2 => ?_) (fun e2 => hgo (fun h => e2 h.2))) (fun e1 => hgo (fun h => e1 h.1))
   have e : (chr l i).1 = 0 := by unfold chr; rw [if_pos ⟨e1, e2⟩]
   rw [if_pos e]; exact Ev.now _
  ·rw [if_neg c]; exact Ev.now _
theorem impl_CheckText_ev (l : List Int) (hb : Bytes l) (hl : l.length ≤ 9000000000) : Ev (fun k => impl_CheckText.f k l) (checkRes l) := by
 simp only [impl_CheckText.f]
 exact impl_check_loop l hb hl (l.length + 1) 0 (by omega) (by omega) (by omega)

structure TOK1 (ts : List S120) (cells i : Int) : Prop where
 n1 : 1 ≤ ((rd_T120 ts i).f0.length : Int)
 n2 : ((rd_T120 ts i).f0.length : Int) ≤ 60
 good : (checkRes (rd_T120 ts i).f0).1 = 0
 k0 : 0 ≤ (rd_T120 ts i).f1
 k1 : (rd_T120 ts i).f1 ≤ 1
 c0 : 0 ≤ (rd_T120 ts i).f2
 c1 : (rd_T120 ts i).f2 < cells
 order : 0 < i → Op.bytesLess (Lib.bytesOf (rd_T120 ts (i - 1)).f0) (Lib.bytesOf (rd_T120 ts i).f0) = true
 once : ∀ j : Int, 0 ≤ j → j < i → (rd_T120 ts j).f2 ≠ (rd_T120 ts i).f2
noncomputable def tok (ts : List S120) (cells : Int) : Bool := decide ((ts.length : Int) ≤ 30) && allB (TOK1 ts cells) 0 ts.length
theorem tok_iff {ts : List S120} {cells : Int} : tok ts cells = true ↔ (ts.length : Int) ≤ 30 ∧ ∀ i : Int, 0 ≤ i → i < ts.length → TOK1 ts cells i := by
 unfold tok; rw [Bool.and_eq_true, decide_eq_true_eq, allB_iff]
def Names (ts : List S120) : Prop := ∀ i : Int, 0 ≤ i → i < ts.length → Bytes (rd_T120 ts i).f0 ∧ ((rd_T120 ts i).f0.length : Int) ≤ 1048576
theorem spec_l1good_ev (l : List Int) (hb : Bytes l) (hl : (l.length : Int) ≤ 1048576) : Ev (fun k => spec_l1good.f k l) ((checkRes l).1 == 0) := by
 simp only [spec_l1good.f]
 exact Ev.bind (spec_CheckText_ev l hb (by omega)) (Ev.now _)
theorem impl_wellFormed_ev (l : List Int) (hb : Bytes l) (hl : (l.length : Int) ≤ 1048576) : Ev (fun k => impl_wellFormed.f k l) ((checkRes l).1 == 0) := by
 simp only [impl_wellFormed.f]
 exact Ev.bind (impl_CheckText_ev l hb (by omega)) (Ev.now _)
theorem l4targets_loop (ts : List S120) (cells : Int) (hl : (ts.length : Int) ≤ 30) (nb : Names ts) (d : Nat) : ∀ i : Int, 0 ≤ i → (ts.length : Int) - i = d → Ev (fun k => spec_l4targetsOK.l0 k ts cells i) (allB (TOK1 ts cells) i ts.length) := by
 induction d with
 | zero =>
  intro i h0 hd
  refine Ev.step (fun _ => rfl) ?_
  simp only [spec_l4targetsOK.l0]
  refine ev_neg (by omega) ?_
  rw [allB_end (by omega)]; exact Ev.now _
 | succ d ih =>
  intro i h0 hd
  have hi : i < ts.length := by omega
  have bad : ¬ TOK1 ts cells i → ∀ a b c, Ev (fun k => spec_l4targetsOK.j1 k ts cells i true a b c) (allB (TOK1 ts cells) i ts.length) := by
   intro h a b c
   rw [allB_no hi h]
   refine Ev.step (fun _ => rfl) ?_
   simp only [spec_l4targetsOK.j1]
   exact ev_pos (by trivial) (Ev.now _)
  have dup : ∀ (e : Nat) (j : Int), 0 ≤ j → i - j = e → (∀ q : Int, 0 ≤ q → q < j → (rd_T120 ts q).f2 ≠ (rd_T120 ts i).f2) → ((∀ q : Int, 0 ≤ q → q < i → (rd_T120 ts q).f2 ≠ (rd_T120 ts i).f2) → TOK1 ts cells i) →
    ∀ a b, Ev (fun k => spec_l4targetsOK.l1 k ts cells i j a b (rd_T120 ts i).f2) (allB (TOK1 ts cells) i ts.length) := by
   intro e
   induction e with
   | zero =>
    intro j j0 he hq H a b
    refine Ev.step (fun _ => rfl) ?_
    simp only [spec_l4targetsOK.l1]
    refine ev_neg (by omega) ?_
    rw [wrap64_id (by omega) (by omega), allB_yes (H (fun q a b => hq q a (by omega)))]
    exact ih _ (by omega) (by omega)
   | succ e ihe =>
    intro j j0 he hq H a b
    refine Ev.step (fun _ => rfl) ?_
    simp only [spec_l4targetsOK.l1]
    refine ev_pos (by omega) (ev_pos (by omega) (ev_pos (by omega) (ev_ite (fun c => ?_) (fun c => ?_))))
    ·rw [allB_no hi (fun t => t.once j j0 (by omega) c)]; exact Ev.now _
    ·rw [wrap64_id (by omega) (by omega)]
     refine ihe (j + 1) (by omega) (by omega) (fun q q0 q1 => ?_) H a b
     by_cases h : q = j
     ·subst h; exact c
     ·exact hq q q0 (by omega)
  have j2t : ¬ TOK1 ts cells i → ∀ a b c, Ev (fun k => spec_l4targetsOK.j2 k ts cells i true a b c) (allB (TOK1 ts cells) i ts.length) := by
   intro h a b c
   rw [allB_no hi h]
   refine Ev.step (fun _ => rfl) ?_
   simp only [spec_l4targetsOK.j2]
   exact ev_pos (by trivial) (Ev.now _)
  have j2f : ((∀ q : Int, 0 ≤ q → q < i → (rd_T120 ts q).f2 ≠ (rd_T120 ts i).f2) → TOK1 ts cells i) → ∀ a b, Ev (fun k => spec_l4targetsOK.j2 k ts cells i false a b (rd_T120 ts i).f2) (allB (TOK1 ts cells) i ts.length) := by
   intro h a b
   refine Ev.step (fun _ => rfl) ?_
   simp only [spec_l4targetsOK.j2]
   exact ev_neg (by simp) (dup i.toNat 0 (by omega) (by omega) (fun q q0 q1 => by omega) h a b)
  have j1f : ((0 < i → Op.bytesLess (Lib.bytesOf (rd_T120 ts (i - 1)).f0) (Lib.bytesOf (rd_T120 ts i).f0) = true) → (∀ q : Int, 0 ≤ q → q < i → (rd_T120 ts q).f2 ≠ (rd_T120 ts i).f2) → TOK1 ts cells i) →
    ∀ b, Ev (fun k => spec_l4targetsOK.j1 k ts cells i false (rd_T120 ts i).f0 b (rd_T120 ts i).f2) (allB (TOK1 ts cells) i ts.length) := by
   intro H b
   refine Ev.step (fun _ => rfl) ?_
   simp only [spec_l4targetsOK.j1]
   refine ev_neg (by simp) (ev_ite (fun c => ?_) (fun c => ?_))
   ·rw [wrap64_id (by omega) (by omega)]
    refine ev_pos (by omega) (ev_pos (by omega) ?_)
    rw [Lib.strOfNums_toList, Lib.strOfNums_toList]
    by_cases q : Op.bytesLess (Lib.bytesOf (rd_T120 ts (i - 1)).f0) (Lib.bytesOf (rd_T120 ts i).f0) = true
    ·rw [q]; exact j2f (H (fun _ => q)) _ _
    ·rw [Bool.eq_false_iff.2 q]; exact j2t (fun t => q (t.order c)) _ _ _
   ·exact j2f (H (fun h => absurd h c)) _ _
  obtain ⟨nb1, nb2⟩ := nb i h0 hi
  refine Ev.step (fun _ => rfl) ?_
  simp only [spec_l4targetsOK.l0]
  refine ev_pos hi (ev_pos h0 (ev_ite (fun e => bad (fun t => by have := t.n1; omega) _ _ _) (fun e1 => ev_ite (fun e => bad (fun t => by have := t.n2; omega) _ _ _) (fun e2 => Ev.bind (spec_l1good_ev _ nb1 nb2) (ev_ite (fun e3 => ?_) (fun e3 => bad (fun t => e3 (by rw [beq_iff_eq]; exact t.good)) _ _ _))))))
  rw [beq_iff_eq] at e3
  refine ev_ite (fun e => bad (fun t => by have := t.k0; omega) _ _ _) (fun e4 => ev_ite (fun e => bad (fun t => by have := t.k1; omega) _ _ _) (fun e5 => ev_ite (fun e => bad (fun t => by have := t.c0; omega) _ _ _) (fun e6 => ?_)))
  by_cases e7 : (rd_T120 ts i).f2 ≥ cells
  ·rw [decide_eq_true e7]; exact bad (fun t => by have := t.c1; omega) _ _ _
  ·rw [decide_eq_false e7]
   exact j1f (fun o u => ⟨by omega, by omega, e3, by omega, by omega, by omega, by omega, o, u⟩) _
theorem spec_l4targetsOK_ev (ts : List S120) (cells : Int) (nb : Names ts) : Ev (fun k => spec_l4targetsOK.f k ts cells) (tok ts cells) := by
 simp only [spec_l4targetsOK.f]
 unfold tok
 refine ev_ite (fun c => ?_) (fun c => ?_)
 ·rw [decide_eq_false (by omega)]; exact Ev.now _
 ·rw [decide_eq_true (by omega), Bool.true_and]
  exact l4targets_loop ts cells (by omega) nb ts.length 0 (by omega) (by omega)
theorem bad_ev (n : List Int) (kd c cells : Int) (hb : Bytes n) (hn : (n.length : Int) ≤ 1048576) : (1 ≤ (n.length : Int) ∧ (n.length : Int) ≤ 60 ∧ (checkRes n).1 = 0 ∧ 0 ≤ kd ∧ kd ≤ 1 ∧ 0 ≤ c ∧ c < cells → Ev (fun k => impl_targetsOk.bad k cells n kd c) false) ∧
  (¬ (1 ≤ (n.length : Int) ∧ (n.length : Int) ≤ 60 ∧ (checkRes n).1 = 0 ∧ 0 ≤ kd ∧ kd ≤ 1 ∧ 0 ≤ c ∧ c < cells) → Ev (fun k => impl_targetsOk.bad k cells n kd c) true) := by
 unfold impl_targetsOk.bad
 refine ⟨fun h => ?_, fun h => ?_⟩
 ·refine ev_neg (by omega) (ev_neg (by omega) (Ev.bind (impl_wellFormed_ev n hb hn) ?_))
  have hg : ((checkRes n).1 == 0) = true := by rw [beq_iff_eq]; exact h.2.2.1
  have hk : kd = 0 ∨ kd = 1 := by omega
  have h1 : decide (c < 0) = false := decide_eq_false (by omega)
  have h2 : decide (c ≥ cells) = false := decide_eq_false (by omega)
  rw [hg, h1, h2]
  rcases hk with rfl | rfl <;> exact Ev.now _
 ·refine ev_ite (fun _ => Ev.now _) (fun c1 => ev_ite (fun _ => Ev.now _) (fun c2 => Ev.bind (impl_wellFormed_ev n hb hn) ?_))
  have : (!((checkRes n).1 == 0) || (!decide (kd = 0) && !decide (kd = 1)) || decide (c < 0) || decide (c ≥ cells)) = true := by
   rw [← Bool.not_eq_false]
   intro q
   simp only [Bool.or_eq_false_iff, Bool.not_eq_false', beq_iff_eq, decide_eq_false_iff_not, Bool.and_eq_false_iff, decide_eq_true_eq] at q
   exact h ⟨by omega, by omega, q.1.1.1, by omega, by omega, by omega, by omega⟩
  rw [this]; exact Ev.now _
theorem targetsOk_loop (ts : List S120) (cells : Int) (nb : Names ts) (d : Nat) : ∀ (i : Int) (m : List (Int × Int)), 0 ≤ i → (ts.length : Int) - i = d → (∀ c : Int, (mget m c).isSome = true ↔ ∃ j : Int, 0 ≤ j ∧ j < i ∧ (rd_T120 ts j).f2 = c) →
  Ev (fun k => impl_targetsOk.l k ts cells i m) (allB (TOK1 ts cells) i ts.length) := by
 induction d with
 | zero =>
  intro i m h0 hd hm
  refine Ev.step (fun _ => rfl) ?_
  simp only [impl_targetsOk.l]
  refine ev_neg (by omega) ?_
  rw [allB_end (by omega)]; exact Ev.now _
 | succ d ih =>
  intro i m h0 hd hm
  have hi : i < ts.length := by omega
  obtain ⟨nb1, nb2⟩ := nb i h0 hi
  refine Ev.step (fun _ => rfl) ?_
  simp only [impl_targetsOk.l]
  refine ev_pos hi ?_
  obtain ⟨b0, b1⟩ := bad_ev (rd_T120 ts i).f0 (rd_T120 ts i).f1 (rd_T120 ts i).f2 cells nb1 nb2
  by_cases F : 1 ≤ ((rd_T120 ts i).f0.length : Int) ∧ ((rd_T120 ts i).f0.length : Int) ≤ 60 ∧ (checkRes (rd_T120 ts i).f0).1 = 0 ∧ 0 ≤ (rd_T120 ts i).f1 ∧ (rd_T120 ts i).f1 ≤ 1 ∧ 0 ≤ (rd_T120 ts i).f2 ∧ (rd_T120 ts i).f2 < cells
  ·refine Ev.bind (b0 F) (ev_neg (by simp) ?_)
   have low : impl_targetsOk.low ts i (rd_T120 ts i).f0 = true ↔ ¬ (0 < i → Op.bytesLess (Lib.bytesOf (rd_T120 ts (i - 1)).f0) (Lib.bytesOf (rd_T120 ts i).f0) = true) := by
    unfold impl_targetsOk.low
    rw [Bool.and_eq_true, decide_eq_true_eq]
    have := cmp_ge (Lib.bytesOf (rd_T120 ts (i - 1)).f0) (Lib.bytesOf (rd_T120 ts i).f0)
    have e : decide (Lib.compareBytes (Lib.bytesOf (rd_T120 ts (i - 1)).f0) (Lib.bytesOf (rd_T120 ts i).f0) ≥ 0) = !Op.bytesLess (Lib.bytesOf (rd_T120 ts (i - 1)).f0) (Lib.bytesOf (rd_T120 ts i).f0) := this
    rw [e, Bool.not_eq_true', Classical.not_imp]
    constructor
    ·exact fun h => ⟨h.1, by rw [h.2]; simp⟩
    ·exact fun h => ⟨h.1, Bool.eq_false_iff.2 h.2⟩
   refine ev_ite (fun c => ?_) (fun c => ?_)
   ·rw [allB_no hi (fun t => low.1 c t.order)]; exact Ev.now _
   have ord := Classical.not_not.1 (fun q => c (low.2 q))
   refine ev_ite (fun c2 => ?_) (fun c2 => ?_)
   ·obtain ⟨j, j0, j1, e⟩ := (hm _).1 c2
    rw [allB_no hi (fun t => t.once j j0 j1 e)]; exact Ev.now _
   ·have once : ∀ j : Int, 0 ≤ j → j < i → (rd_T120 ts j).f2 ≠ (rd_T120 ts i).f2 := fun j j0 j1 e => c2 ((hm _).2 ⟨j, j0, j1, e⟩)
    rw [allB_yes ⟨F.1, F.2.1, F.2.2.1, F.2.2.2.1, F.2.2.2.2.1, F.2.2.2.2.2.1, F.2.2.2.2.2.2, ord, once⟩]
    refine ih (i + 1) _ (by omega) (by omega) (fun q => ?_)
    rw [mget_cons]
    by_cases e : (rd_T120 ts i).f2 = q
    ·rw [if_pos e]; exact ⟨fun _ => ⟨i, h0, by omega, e⟩, fun _ => rfl⟩
    ·rw [if_neg e, hm]
     exact ⟨fun ⟨j, a, b, g⟩ => ⟨j, a, by omega, g⟩, fun ⟨j, a, b, g⟩ => ⟨j, a, by
      by_cases ji : j = i
      ·subst ji; exact absurd g e
      ·omega, g⟩⟩
  ·refine Ev.bind (b1 F) (ev_pos (by trivial) ?_)
   rw [allB_no hi (fun t => F ⟨t.n1, t.n2, t.good, t.k0, t.k1, t.c0, t.c1⟩)]; exact Ev.now _
theorem impl_targetsOk_ev (ts : List S120) (cells : Int) (nb : Names ts) (hc : cells ≤ 4611686018427387904) : Ev (fun k => impl_targetsOk.f k ts cells) (tok ts cells) := by
 simp only [impl_targetsOk.f]
 unfold tok
 refine ev_ite (fun c => ?_) (fun c => ?_)
 ·rw [decide_eq_false (by omega)]; exact Ev.now _
 ·rw [decide_eq_true (by omega), Bool.true_and]
  refine ev_pos hc (targetsOk_loop ts cells nb ts.length 0 [] (by omega) (by omega) (fun c => ?_))
  rw [mget_nil]
  exact ⟨fun h => by simp at h, fun ⟨j, a, b, _⟩ => by omega⟩

theorem names_of {ts : List S185} (hb : ∀ x ∈ ts, Bytes x.f0) (hm : ∀ j : Int, 0 ≤ j → j < ts.length → ((rd_T185 ts j).f0.length : Int) ≤ 1048576) : Names (ts.map convT) := by
 intro i i0 i1
 rw [List.length_map] at i1
 have e : rd_T120 (ts.map convT) i = convT (rd_T185 ts i) := getD_map convT i0 i1
 rw [e]
 exact ⟨hb _ (getD_mem i0 i1), hm i i0 i1⟩
theorem map_small {ts : List S185} (c : ts.length ≤ 1048576 ∧ ∀ j : Int, 0 ≤ j → j < ts.length → ((rd_T185 ts j).f0.length : Int) ≤ 1048576) : (ts.map convT).length ≤ 1048576 ∧ ∀ j : Int, 0 ≤ j → j < (ts.map convT).length → ((rd_T120 (ts.map convT) j).f0.length : Int) ≤ 1048576 := by
 rw [List.length_map]
 refine ⟨c.1, fun j a b => ?_⟩
 have e : rd_T120 (ts.map convT) j = convT (rd_T185 ts j) := getD_map convT a b
 rw [e]; exact c.2 j a b

section Buckets
variable {α : Type}
def bk (key : α → Int) (es : List α) (c : Int) : List α := es.filter fun e => decide (key e = c)
def rowsOf (key : α → Int) (n : Nat) (es : List α) : List (List α) := (List.range n).map fun (c : Nat) => bk key es (c : Int)
theorem rowsOf_length (key : α → Int) (n : Nat) (es : List α) : (rowsOf key n es).length = n := by simp [rowsOf]
theorem rowsOf_get (key : α → Int) (n : Nat) (es : List α) {c : Nat} (h : c < n) : (rowsOf key n es)[c]'(by rw [rowsOf_length]; exact h) = bk key es (c : Int) := by simp [rowsOf]
theorem rowsOf_getD (key : α → Int) (n : Nat) (es : List α) {c : Int} (h0 : 0 ≤ c) (h : c < n) : (rowsOf key n es).getD c.toNat [] = bk key es c := by
 rw [List.getD_eq_getElem?_getD, List.getElem?_eq_getElem (by rw [rowsOf_length]; omega)]
 simp only [Option.getD_some]
 rw [rowsOf_get key n es (by omega), Int.toNat_of_nonneg h0]
theorem bk_snoc (key : α → Int) (es : List α) (e : α) (c : Int) : bk key (es ++ [e]) c = if key e = c then bk key es c ++ [e] else bk key es c := by
 unfold bk
 rw [List.filter_append]
 by_cases h : key e = c
 ·rw [if_pos h, List.filter_cons_of_pos (by simpa using h)]; rfl
 ·rw [if_neg h, List.filter_cons_of_neg (by simpa using h)]; simp
theorem bk_length_le (key : α → Int) (es : List α) (c : Int) : (bk key es c).length ≤ es.length := List.length_filter_le _ _
theorem rowsOf_set (key : α → Int) (n : Nat) (es : List α) (e : α) (h0 : 0 ≤ key e) (h1 : key e < n) : (rowsOf key n es).set (key e).toNat (bk key es (key e) ++ [e]) = rowsOf key n (es ++ [e]) := by
 apply List.ext_getElem
 ·rw [List.length_set, rowsOf_length, rowsOf_length]
 ·intro i a b
  rw [rowsOf_length] at b
  rw [rowsOf_get key n _ b, bk_snoc]
  by_cases q : (key e).toNat = i
  ·subst q
   rw [List.getElem_set_self, if_pos (by omega), Int.toNat_of_nonneg h0]
  ·rw [List.getElem_set_ne q, rowsOf_get key n _ b, if_neg (by omega)]
theorem rowsOf_nil (key : α → Int) (n : Nat) : rowsOf key n [] = List.replicate n [] := by
 apply List.ext_getElem
 ·rw [rowsOf_length, List.length_replicate]
 ·intro i a b
  rw [rowsOf_length] at a
  rw [rowsOf_get key n _ a]; simp [bk]
theorem bk_append (key : α → Int) (xs ys : List α) (c : Int) : bk key (xs ++ ys) c = bk key xs c ++ bk key ys c := List.filter_append _ _
theorem bk_all (key : α → Int) (xs : List α) (c : Int) (h : ∀ e ∈ xs, key e = c) : bk key xs c = xs := List.filter_eq_self.2 fun e he => by simpa using h e he
theorem bk_none (key : α → Int) (xs : List α) (c : Int) (h : ∀ e ∈ xs, key e ≠ c) : bk key xs c = [] := List.filter_eq_nil_iff.2 fun e he => by simpa using h e he
def flatTo (f : Nat → List α) : Nat → List α
 | 0 => []
 | n + 1 => flatTo f n ++ f n
theorem mem_flatTo {f : Nat → List α} {n : Nat} {e : α} : e ∈ flatTo f n ↔ ∃ c, c < n ∧ e ∈ f c := by
 induction n with
 | zero => simp [flatTo]
 | succ n ih =>
  simp only [flatTo, List.mem_append, ih]
  constructor
  ·rintro (⟨c, hc, h⟩ | h)
   ·exact ⟨c, by omega, h⟩
   ·exact ⟨n, by omega, h⟩
  ·rintro ⟨c, hc, h⟩
   by_cases q : c = n
   ·subst q; exact .inr h
   ·exact .inl ⟨c, by omega, h⟩
theorem bk_flatTo (key : α → Int) (f : Nat → List α) (h : ∀ c, ∀ e ∈ f c, key e = (c : Int)) (n : Nat) {c : Nat} (hc : c < n) : bk key (flatTo f n) c = f c := by
 induction n with
 | zero => omega
 | succ n ih =>
  rw [flatTo, bk_append]
  by_cases q : c = n
  ·subst q
   rw [bk_all _ _ _ (h c), bk_none, List.nil_append]
   intro e he
   obtain ⟨d, hd, hm⟩ := mem_flatTo.1 he
   rw [h d e hm]; omega
  ·rw [ih (by omega), bk_none key (f n), List.append_nil]
   intro e he
   rw [h n e he]; omega
theorem flatTo_length (f : Nat → List α) (m : Nat) (h : ∀ c, (f c).length ≤ m) (n : Nat) : (flatTo f n).length ≤ m * n := by
 induction n with
 | zero => simp [flatTo]
 | succ n ih => rw [flatTo, List.length_append, Nat.mul_succ]; have := h n; omega
theorem flatTo_congr {f g : Nat → List α} {n : Nat} (h : ∀ c, c < n → f c = g c) : flatTo f n = flatTo g n := by
 induction n with
 | zero => rfl
 | succ n ih => rw [flatTo, flatTo, ih (fun c hc => h c (by omega)), h n (by omega)]
theorem bk_total (key : α → Int) (n : Nat) : ∀ es : List α, (flatTo (fun c => bk key es (c : Int)) n).length ≤ es.length := by
 intro es
 induction n generalizing es with
 | zero => simp [flatTo]
 | succ n ih =>
  rw [flatTo, List.length_append]
  have e : ∀ c : Nat, c < n → bk key es (c : Int) = bk key (es.filter fun e => !decide (key e = (n : Int))) (c : Int) := by
   intro c hc
   unfold bk
   rw [List.filter_filter]
   apply List.filter_congr
   intro x _
   by_cases q : key x = (c : Int)
   ·simp [q]; omega
   ·simp [q]
  rw [flatTo_congr e]
  have a := ih (es.filter fun e => !decide (key e = (n : Int)))
  have b : (bk key es (n : Int)).length + (es.filter fun e => !decide (key e = (n : Int))).length = es.length := by
   unfold bk
   clear a e ih
   induction es with
   | nil => rfl
   | cons x xs ih =>
    by_cases q : key x = (n : Int)
    ·rw [List.filter_cons_of_pos (by simpa using q), List.filter_cons_of_neg (by simpa using q), List.length_cons, List.length_cons]; omega
    ·rw [List.filter_cons_of_neg (by simpa using q), List.filter_cons_of_pos (by simpa using q), List.length_cons, List.length_cons]; omega
  omega
def startsTo (f : Nat → List α) : Nat → List Int
 | 0 => []
 | n + 1 => startsTo f n ++ [((flatTo f n).length : Int)]
theorem startsTo_length (f : Nat → List α) (n : Nat) : (startsTo f n).length = n := by
 induction n with
 | zero => rfl
 | succ n ih => rw [startsTo, List.length_append, ih]; rfl
theorem startsTo_congr {f g : Nat → List α} {n : Nat} (h : ∀ c, c < n → f c = g c) : startsTo f n = startsTo g n := by
 induction n with
 | zero => rfl
 | succ n ih => rw [startsTo, startsTo, ih (fun c hc => h c (by omega)), flatTo_congr (fun c hc => h c (by omega))]
end Buckets

def eT (e : S99) : Int := e.f1
def eD (e : S99) : Int := e.f2
def eC (e : S99) : Int := e.f3
def eF (e : S99) : Int := e.f0
def gres (n : Nat) (f : Nat → List S99) : Int × List Int × List Int × List Int × List Int :=
 ((n : Int), startsTo f n ++ [((flatTo f n).length : Int)], (flatTo f n).map eT, (flatTo f n).map eD, (flatTo f n).map eC)
theorem gres_congr {f g : Nat → List S99} {n : Nat} (h : ∀ c, c < n → f c = g c) : gres n f = gres n g := by
 unfold gres; rw [startsTo_congr h, flatTo_congr h]
theorem rdE_lt {es : List S99} {i : Nat} (h : i < es.length) : rd_T99 es (i : Int) = es[i] := by
 unfold rd_T99
 rw [getD_lt (by rw [Int.toNat_natCast]; exact h)]
 simp only [Int.toNat_natCast]
theorem take_snoc' {α : Type} (l : List α) (i : Nat) (h : i < l.length) : l.take (i + 1) = l.take i ++ [l[i]] := by
 rw [List.take_succ_eq_append_getElem h]
theorem map_snoc {α β : Type} (f : α → β) (l : List α) (x : α) : (l ++ [x]).map f = l.map f ++ [f x] := by rw [List.map_append]; rfl
theorem l5row (n : Nat) (rows : List (List S99)) (c : Nat) (hc : c < rows.length) (L : List S99) (hL : rd_L7 rows (c : Int) = L) (st : List Int) (p : List S99) (R : Int × List Int × List Int × List Int × List Int)
  (hb : p.length + L.length ≤ 1000000) (H : Ev (fun k => spec_l5graph.l1 k n rows ((c : Int) + 1) n st ((p ++ L).map eT) ((p ++ L).map eD) ((p ++ L).map eC)) R) (hcn : c < 1000000) (m : Nat) : ∀ j : Nat, j + m = L.length →
  Ev (fun k => spec_l5graph.l2 k n rows c j n st ((p ++ L.take j).map eT) ((p ++ L.take j).map eD) ((p ++ L.take j).map eC)) R := by
 induction m with
 | zero =>
  intro j hj
  refine Ev.step (fun _ => rfl) ?_
  simp only [spec_l5graph.l2]
  refine ev_pos (by omega) (ev_pos (by omega) ?_)
  rw [hL]
  refine ev_neg (by omega) ?_
  rw [wrap64_id (by omega) (by omega), List.take_of_length_le (by omega)]
  exact H
 | succ m ih =>
  intro j hj
  have hjl : j < L.length := by omega
  have hlen : (p ++ L.take j).length ≤ 1000000 := by rw [List.length_append, List.length_take]; omega
  refine Ev.step (fun _ => rfl) ?_
  simp only [spec_l5graph.l2]
  refine ev_pos (by omega) (ev_pos (by omega) ?_)
  rw [hL]
  refine ev_pos (by omega) (ev_pos (by omega) (ev_pos (by rw [List.length_map]; omega) (ev_pos (by rw [List.length_map]; omega) (ev_pos (by rw [List.length_map]; omega) ?_))))
  have K := ih (j + 1) (by omega)
  rw [take_snoc' L j hjl, ← List.append_assoc, map_snoc, map_snoc, map_snoc] at K
  rw [rdE_lt hjl, wrap64_id (by omega) (by omega)]
  exact K
theorem l5rows (n : Nat) (hn : n ≤ 100000) (es : List S99) (he : es.length ≤ 500000) (m : Nat) : ∀ c : Nat, c + m = n →
  Ev (fun k => spec_l5graph.l1 k n (rowsOf eF n es) c n (startsTo (fun c => bk eF es (c : Int)) c) ((flatTo (fun c => bk eF es (c : Int)) c).map eT) ((flatTo (fun c => bk eF es (c : Int)) c).map eD) ((flatTo (fun c => bk eF es (c : Int)) c).map eC)) (gres n (fun c => bk eF es (c : Int))) := by
 induction m with
 | zero =>
  intro c hc
  obtain rfl : c = n := by omega
  refine Ev.step (fun _ => rfl) ?_
  simp only [spec_l5graph.l1]
  refine ev_neg (by omega) (ev_pos (by rw [startsTo_length]; omega) ?_)
  unfold gres
  rw [List.length_map]
  exact Ev.now _
 | succ m ih =>
  intro c hc
  refine Ev.step (fun _ => rfl) ?_
  simp only [spec_l5graph.l1]
  refine ev_pos (by omega) (ev_pos (by rw [startsTo_length]; omega) ?_)
  have K := ih (c + 1) (by omega)
  have t := bk_total eF (c + 1) es
  have hr : rd_L7 (rowsOf eF n es) (c : Int) = bk eF es (c : Int) := by
   unfold rd_L7
   exact rowsOf_getD eF n es (by omega) (by omega)
  rw [flatTo, List.length_append] at t
  have := l5row n (rowsOf eF n es) c (by rw [rowsOf_length]; omega) _ hr (startsTo (fun c => bk eF es (c : Int)) (c + 1)) (flatTo (fun c => bk eF es (c : Int)) c) _ (by omega) K (by omega) (bk eF es (c : Int)).length 0 (by omega)
  rw [List.take_zero, List.append_nil] at this
  rw [List.length_map]
  exact this
theorem l5fill (n : Nat) (hn : n ≤ 100000) (es : List S99) (he : es.length ≤ 500000) (hk : ∀ e ∈ es, 0 ≤ e.f0 ∧ e.f0 < n) (m : Nat) : ∀ i : Nat, i + m = es.length →
  Ev (fun k => spec_l5graph.l0 k n es (rowsOf eF n (es.take i)) i n) (gres n (fun c => bk eF es (c : Int))) := by
 induction m with
 | zero =>
  intro i hi
  refine Ev.step (fun _ => rfl) ?_
  simp only [spec_l5graph.l0]
  refine ev_neg (by omega) ?_
  rw [List.take_of_length_le (by omega)]
  exact l5rows n hn es he n 0 (by omega)
 | succ m ih =>
  intro i hi
  have hil : i < es.length := by omega
  have b := hk _ (List.getElem_mem hil)
  refine Ev.step (fun _ => rfl) ?_
  simp only [spec_l5graph.l0]
  have hr : rd_L7 (rowsOf eF n (es.take i)) es[i].f0 = bk eF (es.take i) es[i].f0 := by
   unfold rd_L7
   exact rowsOf_getD eF n _ b.1 b.2
  have hl := bk_length_le eF (es.take i) es[i].f0
  rw [List.length_take] at hl
  rw [rdE_lt hil, hr]
  refine ev_pos (by omega) (ev_pos (by omega) (ev_pos b.1 (ev_pos (by rw [rowsOf_length]; omega) (ev_pos (by omega) ?_))))
  rw [wrap64_id (by omega) (by omega)]
  have K := ih (i + 1) (by omega)
  rw [take_snoc' es i hil, ← rowsOf_set eF n (es.take i) es[i] b.1 b.2] at K
  exact K
theorem spec_l5graph_ev (n : Nat) (hn : n ≤ 100000) (es : List S99) (he : es.length ≤ 500000) (hk : ∀ e ∈ es, 0 ≤ e.f0 ∧ e.f0 < n) : Ev (fun k => spec_l5graph.f k n es) (gres n (fun c => bk eF es (c : Int))) := by
 simp only [spec_l5graph.f]
 refine ev_pos (by omega) (ev_pos (by omega) ?_)
 have := l5fill n hn es he hk es.length 0 (by omega)
 rw [List.take_zero, rowsOf_nil] at this
 exact this

theorem l4to_aux (w h X Y : Int) (w1 : 1 ≤ w) (w2 : w ≤ 40) (h2 : h ≤ 40) (x0 : -1 ≤ X) (x1 : X ≤ w) (y0 : -1 ≤ Y) (y1 : Y ≤ 1700) :
  (if X < 0 then some (-1) else if X ≥ w then some (-1) else if Y < 0 then some (-1) else if Y ≥ h then some (-1) else some (wrap64 (wrap64 (Y * w) + X))) = some (if X < 0 ∨ w ≤ X ∨ Y < 0 ∨ h ≤ Y then -1 else Y * w + X) := by
 by_cases a : X < 0
 ·rw [if_pos a, if_pos (.inl a)]
 rw [if_neg a]
 by_cases b : X ≥ w
 ·rw [if_pos b, if_pos (.inr (.inl b))]
 rw [if_neg b]
 by_cases c : Y < 0
 ·rw [if_pos c, if_pos (.inr (.inr (.inl c)))]
 rw [if_neg c]
 by_cases d : Y ≥ h
 ·rw [if_pos d, if_pos (.inr (.inr (.inr d)))]
 rw [if_neg d, if_neg (by omega)]
 have m0 : 0 ≤ Y * w := Int.mul_nonneg (by omega) (by omega)
 have m1 : Y * w ≤ 40 * 40 := Int.mul_le_mul (by omega) w2 (by omega) (by omega)
 rw [wrap64_id (x := Y * w) (by omega) (by omega), wrap64_id (by omega) (by omega)]
theorem spec_l4to_eq (w h c d : Int) (hs : sideIn w h c d) : spec_l4to.f w h c d = some (sideL w h c d) := by
 obtain ⟨w1, w2, h1, h2, c0, c1, d0, d1⟩ := hs
 have m0 : 0 ≤ c % w := Int.emod_nonneg _ (by omega)
 have m1 : c % w < w := Int.emod_lt_of_pos _ (by omega)
 have q0 : 0 ≤ c / w := Int.ediv_nonneg c0 (by omega)
 have q1 : c / w ≤ c := Int.ediv_le_self _ c0
 unfold spec_l4to.f sideL
 rw [if_neg (by omega), tdiv_nn c0, tmod_nn c0]
 have hd : d = 0 ∨ d = 1 ∨ d = 2 ∨ d = 3 := by omega
 rcases hd with rfl | rfl | rfl | rfl
 ·rw [if_pos rfl, wrap64_id (x := c / w) (by omega) (by omega), wrap64_id (x := c / w - 1) (by omega) (by omega)]
  have := l4to_aux w h (c % w) (c / w - 1) w1 w2 h2 (by omega) (by omega) (by omega) (by omega)
  rw [this, show dxz 0 = 0 by rfl, show dyz 0 = -1 by rfl, Int.add_zero, show c / w + -1 = c / w - 1 by omega]
 ·rw [if_neg (by omega), if_pos rfl, wrap64_id (x := c / w) (by omega) (by omega), wrap64_id (x := c % w + 1) (by omega) (by omega)]
  have := l4to_aux w h (c % w + 1) (c / w) w1 w2 h2 (by omega) (by omega) (by omega) (by omega)
  rw [this, show dxz 1 = 1 by rfl, show dyz 1 = 0 by rfl, Int.add_zero]
 ·rw [if_neg (by omega), if_neg (by omega), if_pos rfl, wrap64_id (x := c / w) (by omega) (by omega), wrap64_id (x := c / w + 1) (by omega) (by omega)]
  have := l4to_aux w h (c % w) (c / w + 1) w1 w2 h2 (by omega) (by omega) (by omega) (by omega)
  rw [this, show dxz 2 = 0 by rfl, show dyz 2 = 1 by rfl, Int.add_zero]
 ·rw [if_neg (by omega), if_neg (by omega), if_neg (by omega), wrap64_id (x := c / w) (by omega) (by omega), wrap64_id (x := c % w - 1) (by omega) (by omega)]
  have := l4to_aux w h (c % w - 1) (c / w) w1 w2 h2 (by omega) (by omega) (by omega) (by omega)
  rw [this, show dxz 3 = -1 by rfl, show dyz 3 = 0 by rfl, Int.add_zero, show c % w + -1 = c % w - 1 by omega]
theorem impl_side_eq (w h c d : Int) (hs : sideIn w h c d) : impl_side.f w h c d = some (sideL w h c d) := by
 unfold impl_side.f; rw [if_pos hs]
theorem sideL_lt {w h c d : Int} (hs : sideIn w h c d) : -1 ≤ sideL w h c d ∧ sideL w h c d < w * h := by
 obtain ⟨w1, w2, h1, h2, c0, c1, d0, d1⟩ := hs
 have wh : 0 < w * h := Int.mul_pos (by omega) (by omega)
 unfold sideL
 split
 ·omega
 ·rename_i q
  have a : 0 ≤ (c / w + dyz d) * w := Int.mul_nonneg (by omega) (by omega)
  have b : (c / w + dyz d) * w ≤ (h - 1) * w := Int.mul_le_mul_of_nonneg_right (by omega) (by omega)
  rw [Int.sub_mul, Int.one_mul, Int.mul_comm h w] at b
  omega

theorem wh_le {w h : Int} (w1 : 1 ≤ w) (w2 : w ≤ 40) (h1 : 1 ≤ h) (h2 : h ≤ 40) : 1 ≤ w * h ∧ w * h ≤ 1600 := by
 have a : 0 < w * h := Int.mul_pos (by omega) (by omega)
 have b : w * h ≤ 40 * 40 := Int.mul_le_mul w2 h2 (by omega) (by omega)
 omega
theorem sideOk_eq (x : Int) : impl_sideOk.f x = some (decide (1 ≤ x ∧ x ≤ 40)) := by
 unfold impl_sideOk.f
 by_cases a : x ≥ 1
 ·rw [if_pos a]; congr 1; rw [decide_eq_decide]; omega
 ·rw [if_neg a, decide_eq_false (by omega)]

theorem andNot_le {e f : Int} (e0 : 0 ≤ e) (e1 : e ≤ 9223372036854775807) (f0 : 0 ≤ f) (f1 : f ≤ 15) (h : Go.bits .andNot .i64 e f = 0) : e ≤ f := by
 have he : ((BitVec.ofInt 64 e).toNat : Int) = e := by rw [BitVec.toNat_ofInt]; omega
 have hf : ((BitVec.ofInt 64 f).toNat : Int) = f := by rw [BitVec.toNat_ofInt]; omega
 have hz : (BitVec.ofInt 64 e &&& ~~~BitVec.ofInt 64 f).toNat = 0 := by
  have lt := (BitVec.ofInt 64 e &&& ~~~BitVec.ofInt 64 f).isLt
  have h' : IntKind.wrap .i64 (((BitVec.ofInt 64 e &&& ~~~BitVec.ofInt 64 f).toNat : Nat) : Int) = 0 := h
  generalize (BitVec.ofInt 64 e &&& ~~~BitVec.ofInt 64 f).toNat = n at lt h'
  unfold IntKind.wrap at h'
  simp only [show IntKind.bits .i64 = 64 from rfl, show IntKind.signed .i64 = true from rfl, Bool.true_and, decide_eq_true_eq] at h'
  split at h' <;> omega
 have hb : BitVec.ofInt 64 e &&& ~~~BitVec.ofInt 64 f = 0#64 := BitVec.eq_of_toNat_eq hz
 have hc : BitVec.ofInt 64 e &&& BitVec.ofInt 64 f = BitVec.ofInt 64 e := by
  generalize BitVec.ofInt 64 e = a at hb
  generalize BitVec.ofInt 64 f = b at hb
  apply BitVec.eq_of_getLsbD_eq
  intro i hi
  have q : (a &&& ~~~b).getLsbD i = (0#64).getLsbD i := by rw [hb]
  rw [BitVec.getLsbD_and, BitVec.getLsbD_not, BitVec.getLsbD_zero, decide_eq_true hi, Bool.true_and] at q
  rw [BitVec.getLsbD_and]
  revert q
  cases a.getLsbD i <;> cases b.getLsbD i <;> simp
 have hd := congrArg BitVec.toNat hc
 rw [BitVec.toNat_and] at hd
 have hx : (BitVec.ofInt 64 e).toNat &&& (BitVec.ofInt 64 f).toNat ≤ (BitVec.ofInt 64 f).toNat := Nat.and_le_right
 omega
def fb (b0 b1 b2 b3 : Bool) : Int := (if b0 then 1 else 0) + (if b1 then 2 else 0) + (if b2 then 4 else 0) + (if b3 then 8 else 0)
theorem fb_le (b0 b1 b2 b3 : Bool) : 0 ≤ fb b0 b1 b2 b3 ∧ fb b0 b1 b2 b3 ≤ 15 := by cases b0 <;> cases b1 <;> cases b2 <;> cases b3 <;> decide
def bt (e d : Int) : Bool := if d = 0 then e % 2 == 1 else if d = 1 then e / 2 % 2 == 1 else if d = 2 then e / 2 / 2 % 2 == 1 else e / 2 / 2 / 2 % 2 == 1
theorem andNot16 : ∀ (e : Fin 16) (b0 b1 b2 b3 : Bool), Go.bits .andNot .i64 (e.val : Int) (fb b0 b1 b2 b3) = 0 ↔ ((bt e.val 0 = true → b0 = true) ∧ (bt e.val 1 = true → b1 = true) ∧ (bt e.val 2 = true → b2 = true) ∧ (bt e.val 3 = true → b3 = true)) := by decide
theorem andNot_iff {e : Int} (b0 b1 b2 b3 : Bool) (e0 : 0 ≤ e) (e1 : e ≤ 9223372036854775807) : Go.bits .andNot .i64 e (fb b0 b1 b2 b3) = 0 ↔ (e ≤ 15 ∧ (bt e 0 = true → b0 = true) ∧ (bt e 1 = true → b1 = true) ∧ (bt e 2 = true → b2 = true) ∧ (bt e 3 = true → b3 = true)) := by
 have b := fb_le b0 b1 b2 b3
 have key : e ≤ 15 → (Go.bits .andNot .i64 e (fb b0 b1 b2 b3) = 0 ↔ ((bt e 0 = true → b0 = true) ∧ (bt e 1 = true → b1 = true) ∧ (bt e 2 = true → b2 = true) ∧ (bt e 3 = true → b3 = true))) := by
  intro l
  have := andNot16 ⟨e.toNat, by omega⟩ b0 b1 b2 b3
  rw [show (((⟨e.toNat, by omega⟩ : Fin 16).val : Nat) : Int) = e from by show ((e.toNat : Nat) : Int) = e; omega] at this
  exact this
 constructor
 ·intro h
  have l := andNot_le e0 e1 b.1 b.2 h
  exact ⟨by omega, (key (by omega)).1 h⟩
 ·exact fun h => (key h.1).2 h.2

def wayB (w h : Int) (cost : List Int) (c d : Int) : Bool := decide (0 ≤ sideL w h c d ∧ 0 < rd cost (sideL w h c d))
structure CELL (w h : Int) (cost ex : List Int) (c : Int) : Prop where
 c0 : 0 ≤ rd cost c
 c9 : rd cost c ≤ 9
 e0 : 0 ≤ rd ex c
 e15 : rd ex c ≤ 15
 wall : rd cost c = 0 → rd ex c = 0
 ways : ∀ d : Int, 0 ≤ d → d < 4 → bt (rd ex c) d = true → 0 ≤ sideL w h c d ∧ rd cost (sideL w h c d) ≠ 0
def TC (cost : List Int) (ts : List S120) (j : Int) : Prop := rd cost (rd_T120 ts j).f2 ≠ 0
noncomputable def vl (w h : Int) (cost ex : List Int) (ts : List S120) : Bool :=
 decide (1 ≤ w ∧ w ≤ 40 ∧ 1 ≤ h ∧ h ≤ 40) && (decide ((cost.length : Int) = w * h ∧ (ex.length : Int) = w * h) && (tok ts (w * h) && (allB (CELL w h cost ex) 0 (w * h) && allB (TC cost ts) 0 ts.length)))
theorem tc_bounds {ts : List S120} {n : Int} (ht : tok ts n = true) : ∀ j : Int, 0 ≤ j → j < ts.length → 0 ≤ (rd_T120 ts j).f2 ∧ (rd_T120 ts j).f2 < n :=
 fun j j0 j1 => ⟨((tok_iff.1 ht).2 j j0 j1).c0, ((tok_iff.1 ht).2 j j0 j1).c1⟩
theorem l4bits_ev (e : Int) (e0 : 0 ≤ e) (e1 : e ≤ 15) : Ev (fun k => spec_l4bits.f k e) [bt e 0, bt e 1, bt e 2, bt e 3] := by
 simp only [spec_l4bits.f]
 have st : ∀ (x : Int) (l : List Bool) (d : Int) (r : List Bool), 0 ≤ x → x ≤ 15 → l.length < 100 → 0 ≤ d → d < 4 → Ev (fun k => spec_l4bits.l0 k (x / 2) (l ++ [x % 2 == 1]) (d + 1)) r → Ev (fun k => spec_l4bits.l0 k x l d) r := by
  intro x l d r x0 x1 hl d0 d1 H
  refine Ev.step (fun _ => rfl) ?_
  simp only [spec_l4bits.l0]
  refine ev_pos d1 (ev_pos (by omega) ?_)
  rw [tdiv_nn x0, tmod_nn x0, wrap64_id (x := x / 2) (by omega) (by omega), wrap64_id (x := d + 1) (by omega) (by omega)]
  exact H
 refine st e [] 0 _ e0 e1 (by simp) (by omega) (by omega) ?_
 refine st (e / 2) _ 1 _ (by omega) (by omega) (by simp) (by omega) (by omega) ?_
 refine st (e / 2 / 2) _ 2 _ (by omega) (by omega) (by simp) (by omega) (by omega) ?_
 refine st (e / 2 / 2 / 2) _ 3 _ (by omega) (by omega) (by simp) (by omega) (by omega) ?_
 refine Ev.step (fun _ => rfl) ?_
 simp only [spec_l4bits.l0]
 exact ev_neg (by omega) (Ev.now _)
theorem rdOf_bits (e d : Int) (d0 : 0 ≤ d) (d1 : d < 4) : rdOf false [bt e 0, bt e 1, bt e 2, bt e 3] d = bt e d := by
 have : d = 0 ∨ d = 1 ∨ d = 2 ∨ d = 3 := by omega
 rcases this with rfl | rfl | rfl | rfl <;> rfl
def WAY (w h : Int) (cost : List Int) (e c d : Int) : Prop := bt e d = true → 0 ≤ sideL w h c d ∧ rd cost (sideL w h c d) ≠ 0
theorem spec_vl_ways (w h : Int) (w1 : 1 ≤ w) (w2 : w ≤ 40) (h1 : 1 ≤ h) (h2 : h ≤ 40) (cost ex : List Int) (ts : List S120) (lc : (cost.length : Int) = w * h) (c e : Int) (c0 : 0 ≤ c) (c1 : c < w * h) (R : Bool)
  (H : Ev (fun k => spec_ValidLayout.l0 k (w * h) (c + 1) w h cost ex ts) R) (m : Nat) : ∀ d : Int, 0 ≤ d → 4 - d = m → Ev (fun k => spec_ValidLayout.l1 k (w * h) c [bt e 0, bt e 1, bt e 2, bt e 3] d w h cost ex ts) (allB (WAY w h cost e c) d 4 && R) := by
 have wh := wh_le w1 w2 h1 h2
 induction m with
 | zero =>
  intro d d0 hd
  refine Ev.step (fun _ => rfl) ?_
  simp only [spec_ValidLayout.l1]
  refine ev_neg (by omega) ?_
  rw [allB_end (by omega), Bool.true_and, wrap64_id (by omega) (by omega)]
  exact H
 | succ m ih =>
  intro d d0 hd
  have hs : sideIn w h c d := ⟨w1, w2, h1, h2, c0, by omega, d0, by omega⟩
  have sl := sideL_lt hs
  refine Ev.step (fun _ => rfl) ?_
  simp only [spec_ValidLayout.l1]
  refine ev_pos (by omega) ?_
  rw [spec_l4to_eq w h c d hs]
  refine ev_letv (ev_pos d0 (ev_pos (by show d < ((4 : Nat) : Int); omega) ?_))
  rw [rdOf_bits e d d0 (by omega)]
  have go : WAY w h cost e c d → Ev (fun k => spec_ValidLayout.l1 k (w * h) c [bt e 0, bt e 1, bt e 2, bt e 3] (wrap64 (d + 1)) w h cost ex ts) (allB (WAY w h cost e c) d 4 && R) := by
   intro q; rw [allB_yes q, wrap64_id (by omega) (by omega)]; exact ih _ (by omega) (by omega)
  have no : ¬ WAY w h cost e c d → Ev (fun _ => some false) (allB (WAY w h cost e c) d 4 && R) := by
   intro q; rw [allB_no (by omega) q, Bool.false_and]; exact Ev.now _
  refine ev_ite (fun b => ev_ite (fun s => no (fun q => by have := (q b).1; omega)) (fun s => ev_pos (by omega) (ev_pos (by omega) (ev_ite (fun z => no (fun q => (q b).2 z)) (fun z => go (fun _ => ⟨by omega, z⟩)))))) (fun b => go (fun q => absurd q b))
theorem spec_vl_targets (w h : Int) (cost ex : List Int) (ts : List S120) (lt : (ts.length : Int) ≤ 30) (tb : ∀ j : Int, 0 ≤ j → j < ts.length → 0 ≤ (rd_T120 ts j).f2 ∧ (rd_T120 ts j).f2 < cost.length) (m : Nat) : ∀ j : Int, 0 ≤ j → (ts.length : Int) - j = m →
  Ev (fun k => spec_ValidLayout.l2 k j w h cost ex ts) (allB (TC cost ts) j ts.length) := by
 induction m with
 | zero =>
  intro j j0 hd
  refine Ev.step (fun _ => rfl) ?_
  simp only [spec_ValidLayout.l2]
  refine ev_neg (by omega) ?_
  rw [allB_end (by omega)]; exact Ev.now _
 | succ m ih =>
  intro j j0 hd
  have b := tb j j0 (by omega)
  refine Ev.step (fun _ => rfl) ?_
  simp only [spec_ValidLayout.l2]
  refine ev_pos (by omega) (ev_pos j0 (ev_pos b.1 (ev_pos b.2 (ev_ite (fun z => ?_) (fun z => ?_)))))
  ·rw [allB_no (by omega) (fun q => q z)]; exact Ev.now _
  ·rw [allB_yes (S := TC cost ts) z, wrap64_id (by omega) (by omega)]; exact ih _ (by omega) (by omega)
theorem spec_vl_cells (w h : Int) (w1 : 1 ≤ w) (w2 : w ≤ 40) (h1 : 1 ≤ h) (h2 : h ≤ 40) (cost ex : List Int) (ts : List S120) (lc : (cost.length : Int) = w * h) (le : (ex.length : Int) = w * h) (ht : tok ts (w * h) = true) (m : Nat) : ∀ c : Int, 0 ≤ c → w * h - c = m →
  Ev (fun k => spec_ValidLayout.l0 k (w * h) c w h cost ex ts) (allB (CELL w h cost ex) c (w * h) && allB (TC cost ts) 0 ts.length) := by
 have wh := wh_le w1 w2 h1 h2
 have t30 := (tok_iff.1 ht).1
 induction m with
 | zero =>
  intro c c0 hd
  refine Ev.step (fun _ => rfl) ?_
  simp only [spec_ValidLayout.l0]
  refine ev_neg (by omega) ?_
  rw [allB_end (by omega), Bool.true_and]
  exact spec_vl_targets w h cost ex ts t30 (by rw [lc]; exact tc_bounds ht) ts.length 0 (by omega) (by omega)
 | succ m ih =>
  intro c c0 hd
  have j3t : ¬ CELL w h cost ex c → Ev (fun k => spec_ValidLayout.j3 k (w * h) c true w h cost ex ts) (allB (CELL w h cost ex) c (w * h) && allB (TC cost ts) 0 ts.length) := by
   intro q
   rw [allB_no (by omega) q, Bool.false_and]
   refine Ev.step (fun _ => rfl) ?_
   simp only [spec_ValidLayout.j3]
   exact ev_pos (by trivial) (Ev.now _)
  have j3f : 0 ≤ rd cost c → rd cost c ≤ 9 → 0 ≤ rd ex c → rd ex c ≤ 15 → (rd cost c = 0 → rd ex c = 0) → Ev (fun k => spec_ValidLayout.j3 k (w * h) c false w h cost ex ts) (allB (CELL w h cost ex) c (w * h) && allB (TC cost ts) 0 ts.length) := by
   intro q0 q1 q2 q3 q4
   refine Ev.step (fun _ => rfl) ?_
   simp only [spec_ValidLayout.j3]
   refine ev_neg (by simp) (ev_pos c0 (ev_pos (by omega) (Ev.bind (l4bits_ev _ q2 q3) ?_)))
   have L := spec_vl_ways w h w1 w2 h1 h2 cost ex ts lc c (rd ex c) c0 (by omega) _ (ih (c + 1) (by omega) (by omega)) 4 0 (by omega) (by omega)
   have e : (allB (WAY w h cost (rd ex c) c) 0 4 && (allB (CELL w h cost ex) (c + 1) (w * h) && allB (TC cost ts) 0 ts.length)) = (allB (CELL w h cost ex) c (w * h) && allB (TC cost ts) 0 ts.length) := by
    cases a : allB (WAY w h cost (rd ex c) c) 0 4 with
    | true => rw [Bool.true_and, allB_yes (S := CELL w h cost ex) (i := c) ⟨q0, q1, q2, q3, q4, fun d d0 d1 b => allB_iff.1 a d d0 d1 b⟩]
    | false =>
     rw [allB_no (S := CELL w h cost ex) (i := c) (by omega) (fun q => by rw [allB_iff (S := WAY w h cost (rd ex c) c) |>.2 (fun d d0 d1 b => q.ways d d0 d1 b)] at a; cases a)]
     rfl
   rw [e] at L
   exact L
  refine Ev.step (fun _ => rfl) ?_
  simp only [spec_ValidLayout.l0]
  refine ev_pos (by omega) (ev_pos c0 (ev_pos (by omega) (ev_ite (fun a => j3t (fun q => by have := q.c0; omega)) (fun a => ev_ite (fun b => j3t (fun q => by have := q.c9; omega)) (fun b => ev_pos (by omega) (ev_ite (fun a => j3t (fun q => by have := q.e0; omega)) (fun a => ev_ite (fun b => j3t (fun q => by have := q.e15; omega)) (fun b => ev_ite (fun z => ?_) (fun z => ?_)))))))))
  ·by_cases y : rd ex c = 0
   ·rw [y, show ((0 : Int) != 0) = false from rfl]; exact j3f (by omega) (by omega) (by omega) (by omega) (fun _ => y)
   ·rw [show (rd ex c != 0) = true from by rw [bne_iff_ne]; exact y]; exact j3t (fun q => y (q.wall z))
  ·exact j3f (by omega) (by omega) (by omega) (by omega) (fun q => absurd q z)
theorem spec_ValidLayout_ev (w h : Int) (cost ex : List Int) (ts : List S120) (nb : Names ts) : Ev (fun k => spec_ValidLayout.f k w h cost ex ts) (vl w h cost ex ts) := by
 simp only [spec_ValidLayout.f]
 have no : vl w h cost ex ts = false → Ev (fun k => spec_ValidLayout.j0 k true w h cost ex ts) (vl w h cost ex ts) := by
  intro q; rw [q]
  refine Ev.step (fun _ => rfl) ?_
  simp only [spec_ValidLayout.j0]
  exact ev_pos (by trivial) (Ev.now _)
 have nos : ¬ (1 ≤ w ∧ w ≤ 40 ∧ 1 ≤ h ∧ h ≤ 40) → Ev (fun k => spec_ValidLayout.j0 k true w h cost ex ts) (vl w h cost ex ts) := by
  intro q; refine no ?_; unfold vl; rw [decide_eq_false q, Bool.false_and]
 refine ev_ite (fun a => nos (by omega)) (fun a => ev_ite (fun b => nos (by omega)) (fun b => ev_ite (fun c => nos (by omega)) (fun c => ?_)))
 by_cases d : h > 40
 ·rw [decide_eq_true d]; exact nos (by omega)
 rw [decide_eq_false d]
 have wh := wh_le (w := w) (h := h) (by omega) (by omega) (by omega) (by omega)
 unfold vl
 rw [decide_eq_true (show 1 ≤ w ∧ w ≤ 40 ∧ 1 ≤ h ∧ h ≤ 40 by omega), Bool.true_and]
 have j1t : ∀ n, Ev (fun k => spec_ValidLayout.j1 k n true w h cost ex ts) false := by
  intro n
  refine Ev.step (fun _ => rfl) ?_
  simp only [spec_ValidLayout.j1]
  exact ev_pos (by trivial) (Ev.now _)
 refine Ev.step (fun _ => rfl) ?_
 simp only [spec_ValidLayout.j0]
 rw [wrap64_id (x := w * h) (by omega) (by omega)]
 refine ev_neg (by simp) (ev_ite (fun lc => ev_ite (fun le => Ev.bind (spec_l4targetsOK_ev ts (w * h) nb) ?_) (fun le => ?_)) (fun lc => ?_))
 ·rw [decide_eq_true (show (cost.length : Int) = w * h ∧ (ex.length : Int) = w * h from ⟨lc, le⟩), Bool.true_and]
  cases ht : tok ts (w * h) with
  | false => rw [Bool.false_and]; exact j1t _
  | true =>
   rw [Bool.true_and]
   refine Ev.step (fun _ => rfl) ?_
   simp only [spec_ValidLayout.j1]
   exact ev_neg (by simp) (spec_vl_cells w h (by omega) (by omega) (by omega) (by omega) cost ex ts lc le ht (w * h).toNat 0 (by omega) (by omega))
 ·rw [decide_eq_false (fun q => le q.2), Bool.false_and]; exact j1t _
 ·rw [decide_eq_false (fun q => lc q.1), Bool.false_and]; exact j1t _
theorem free_ev (w h : Int) (w1 : 1 ≤ w) (w2 : w ≤ 40) (h1 : 1 ≤ h) (h2 : h ≤ 40) (cost : List Int) (lc : (cost.length : Int) = w * h) (c : Int) (c0 : 0 ≤ c) (c1 : c < w * h) :
  Ev (fun k => impl_free.f k w h cost c) (fb (wayB w h cost c 0) (wayB w h cost c 1) (wayB w h cost c 2) (wayB w h cost c 3)) := by
 have wh := wh_le w1 w2 h1 h2
 simp only [impl_free.f]
 have st : ∀ (x d r : Int), 0 ≤ d → d < 4 → Ev (fun k => impl_free.l0 k w h cost c (if wayB w h cost c d = true then Go.bits .or .i64 x (shl .i64 1 d) else x) (d + 1)) r → Ev (fun k => impl_free.l0 k w h cost c x d) r := by
  intro x d r d0 d1 H
  have hs : sideIn w h c d := ⟨w1, w2, h1, h2, c0, by omega, d0, by omega⟩
  have sl := sideL_lt hs
  refine Ev.step (fun _ => rfl) ?_
  simp only [impl_free.l0]
  refine ev_pos d1 ?_
  rw [impl_side_eq w h c d hs, wrap64_id (x := d + 1) (by omega) (by omega)]
  refine ev_letv (ev_ite (fun a => ev_pos a (ev_pos (by omega) (ev_ite (fun b => ev_pos d0 ?_) (fun b => ?_)))) (fun a => ?_))
  ·rw [if_pos (show wayB w h cost c d = true from decide_eq_true ⟨a, b⟩)] at H; exact H
  ·rw [if_neg (show ¬ wayB w h cost c d = true from fun q => b (of_decide_eq_true q).2)] at H; exact H
  ·rw [if_neg (show ¬ wayB w h cost c d = true from fun q => a (of_decide_eq_true q).1)] at H; exact H
 refine st 0 0 _ (by omega) (by omega) ?_
 generalize wayB w h cost c 0 = b0
 have e0 : (if b0 = true then Go.bits .or .i64 0 (shl .i64 1 0) else 0) = fb b0 false false false := by cases b0 <;> rfl
 rw [e0]
 refine st _ (0 + 1) _ (by omega) (by omega) ?_
 rw [show (0 + 1 : Int) = 1 from rfl]
 generalize wayB w h cost c 1 = b1
 have e1 : (if b1 = true then Go.bits .or .i64 (fb b0 false false false) (shl .i64 1 1) else fb b0 false false false) = fb b0 b1 false false := by cases b0 <;> cases b1 <;> rfl
 rw [e1]
 refine st _ (1 + 1) _ (by omega) (by omega) ?_
 rw [show (1 + 1 : Int) = 2 from rfl]
 generalize wayB w h cost c 2 = b2
 have e2 : (if b2 = true then Go.bits .or .i64 (fb b0 b1 false false) (shl .i64 1 2) else fb b0 b1 false false) = fb b0 b1 b2 false := by cases b0 <;> cases b1 <;> cases b2 <;> rfl
 rw [e2]
 refine st _ (2 + 1) _ (by omega) (by omega) ?_
 rw [show (2 + 1 : Int) = 3 from rfl]
 generalize wayB w h cost c 3 = b3
 have e3 : (if b3 = true then Go.bits .or .i64 (fb b0 b1 b2 false) (shl .i64 1 3) else fb b0 b1 b2 false) = fb b0 b1 b2 b3 := by cases b0 <;> cases b1 <;> cases b2 <;> cases b3 <;> rfl
 rw [e3]
 refine Ev.step (fun _ => rfl) ?_
 simp only [impl_free.l0]
 exact ev_neg (by omega) (Ev.now _)
theorem any_eq (ts : List S120) (cost : List Int) (tb : ∀ j : Int, 0 ≤ j → j < ts.length → 0 ≤ (rd_T120 ts j).f2 ∧ (rd_T120 ts j).f2 < cost.length) (m : Nat) : ∀ j : Int, 0 ≤ j → (ts.length : Int) - j = m →
  ∃ r, impl_ValidLayout_any.at ts cost m j = some r ∧ (!decide (0 ≤ r)) = allB (TC cost ts) j ts.length := by
 induction m with
 | zero =>
  intro j j0 hd
  exact ⟨-1, rfl, by rw [allB_end (by omega)]; rfl⟩
 | succ m ih =>
  intro j j0 hd
  have b := tb j j0 (by omega)
  unfold impl_ValidLayout_any.at
  rw [if_pos (by omega), if_pos b]
  by_cases z : rd cost (rd_T120 ts j).f2 = 0
  ·rw [if_pos (by rw [beq_iff_eq]; exact z)]
   exact ⟨j, rfl, by rw [decide_eq_true j0, allB_no (by omega) (fun q => q z)]; rfl⟩
  ·rw [if_neg (by rw [beq_iff_eq]; exact z), allB_yes (S := TC cost ts) z]
   exact ih (j + 1) (by omega) (by omega)
def EXI (w h : Int) (cost ex : List Int) (c : Int) : Prop := 0 ≤ rd ex c ∧ Go.bits .andNot .i64 (rd ex c) (fb (wayB w h cost c 0) (wayB w h cost c 1) (wayB w h cost c 2) (wayB w h cost c 3)) = 0 ∧ (rd cost c = 0 → rd ex c = 0)
def COST (cost : List Int) (c : Int) : Prop := 0 ≤ rd cost c ∧ rd cost c ≤ 9
theorem cell_split (w h : Int) (w1 : 1 ≤ w) (w2 : w ≤ 40) (h1 : 1 ≤ h) (h2 : h ≤ 40) (cost ex : List Int) (hx : ∀ c : Int, 0 ≤ c → c < w * h → rd ex c ≤ 9223372036854775807) :
  (allB (COST cost) 0 (w * h) && allB (EXI w h cost ex) 0 (w * h)) = allB (CELL w h cost ex) 0 (w * h) := by
 have wh := wh_le w1 w2 h1 h2
 rw [Bool.eq_iff_iff, Bool.and_eq_true, allB_iff, allB_iff, allB_iff]
 constructor
 ·intro ⟨A, B⟩ c c0 c1
  obtain ⟨a0, a1⟩ := A c c0 c1
  obtain ⟨b0, b1, b2⟩ := B c c0 c1
  obtain ⟨k, k0, k1, k2, k3⟩ := (andNot_iff _ _ _ _ b0 (hx c c0 c1)).1 b1
  have cv : ∀ d, wayB w h cost c d = true → 0 ≤ sideL w h c d ∧ rd cost (sideL w h c d) ≠ 0 := fun d q => by
   have := of_decide_eq_true q; exact ⟨this.1, by omega⟩
  refine ⟨a0, a1, b0, k, b2, fun d d0 d1 b => ?_⟩
  have : d = 0 ∨ d = 1 ∨ d = 2 ∨ d = 3 := by omega
  rcases this with rfl | rfl | rfl | rfl
  ·exact cv _ (k0 b)
  ·exact cv _ (k1 b)
  ·exact cv _ (k2 b)
  ·exact cv _ (k3 b)
 ·intro C
  refine ⟨fun c c0 c1 => ⟨(C c c0 c1).c0, (C c c0 c1).c9⟩, fun c c0 c1 => ?_⟩
  have q := C c c0 c1
  have cv : ∀ d : Int, 0 ≤ d → d < 4 → bt (rd ex c) d = true → wayB w h cost c d = true := fun d d0 d1 b => by
   have s := q.ways d d0 d1 b
   have sl := sideL_lt (w := w) (h := h) (c := c) (d := d) ⟨w1, w2, h1, h2, c0, by omega, d0, by omega⟩
   have := (C (sideL w h c d) s.1 sl.2).c0
   exact decide_eq_true ⟨s.1, by omega⟩
  exact ⟨q.e0, (andNot_iff _ _ _ _ q.e0 (hx c c0 c1)).2 ⟨q.e15, cv 0 (by omega) (by omega), cv 1 (by omega) (by omega), cv 2 (by omega) (by omega), cv 3 (by omega) (by omega)⟩, q.wall⟩
theorem impl_vl_exits (w h : Int) (w1 : 1 ≤ w) (w2 : w ≤ 40) (h1 : 1 ≤ h) (h2 : h ≤ 40) (cost ex : List Int) (ts : List S120) (nb : Names ts) (lc : (cost.length : Int) = w * h) (le : (ex.length : Int) = w * h) (m : Nat) : ∀ c : Int, 0 ≤ c → w * h - c = m →
  Ev (fun k => impl_ValidLayout.l1 k ex (ex.length : Int) c w h cost ex ts) (allB (EXI w h cost ex) c (w * h) && (tok ts (w * h) && allB (TC cost ts) 0 ts.length)) := by
 have wh := wh_le w1 w2 h1 h2
 induction m with
 | zero =>
  intro c c0 hd
  refine Ev.step (fun _ => rfl) ?_
  simp only [impl_ValidLayout.l1]
  refine ev_neg (by omega) ?_
  rw [allB_end (by omega), Bool.true_and, wrap64_id (x := w * h) (by omega) (by omega)]
  refine Ev.bind (impl_targetsOk_ev ts (w * h) nb (by omega)) ?_
  cases ht : tok ts (w * h) with
  | false => exact ev_neg (by simp) (Ev.now _)
  | true =>
   have t30 := (tok_iff.1 ht).1
   refine ev_pos (by trivial) ?_
   obtain ⟨r, e, q⟩ := any_eq ts cost (by rw [lc]; exact tc_bounds ht) ts.length 0 (by omega) (by omega)
   rw [show impl_ValidLayout_any.f ts w h cost ex ts = some (decide (0 ≤ r)) from by unfold impl_ValidLayout_any.f; rw [if_pos (by omega), e]; rfl, ← q]
   exact ev_letv (Ev.now _)
 | succ m ih =>
  intro c c0 hd
  have no : ¬ EXI w h cost ex c → Ev (fun _ => some false) (allB (EXI w h cost ex) c (w * h) && (tok ts (w * h) && allB (TC cost ts) 0 ts.length)) := by
   intro q; rw [allB_no (by omega) q, Bool.false_and]; exact Ev.now _
  have go : EXI w h cost ex c → Ev (fun k => impl_ValidLayout.l1 k ex (ex.length : Int) (wrap64 (c + 1)) w h cost ex ts) (allB (EXI w h cost ex) c (w * h) && (tok ts (w * h) && allB (TC cost ts) 0 ts.length)) := by
   intro q; rw [allB_yes q, wrap64_id (by omega) (by omega)]; exact ih _ (by omega) (by omega)
  refine Ev.step (fun _ => rfl) ?_
  simp only [impl_ValidLayout.l1]
  refine ev_pos (by omega) (ev_pos c0 (ev_pos (by omega) (ev_ite (fun a => no (fun q => by have := q.1; omega)) (fun a => Ev.bind (free_ev w h w1 w2 h1 h2 cost lc c c0 (by omega)) (ev_ite (fun b => ev_pos (by omega) (ev_ite (fun z => ev_ite (fun y => go ⟨by omega, b, fun _ => y⟩) (fun y => no (fun q => y (q.2.2 z)))) (fun z => go ⟨by omega, b, fun q => absurd q z⟩))) (fun b => no (fun q => b q.2.1)))))))
theorem impl_vl_costs (w h : Int) (w1 : 1 ≤ w) (w2 : w ≤ 40) (h1 : 1 ≤ h) (h2 : h ≤ 40) (cost ex : List Int) (ts : List S120) (nb : Names ts) (lc : (cost.length : Int) = w * h) (le : (ex.length : Int) = w * h) (m : Nat) : ∀ c : Int, 0 ≤ c → w * h - c = m →
  Ev (fun k => impl_ValidLayout.l0 k cost (cost.length : Int) c w h cost ex ts) (allB (COST cost) c (w * h) && (allB (EXI w h cost ex) 0 (w * h) && (tok ts (w * h) && allB (TC cost ts) 0 ts.length))) := by
 have wh := wh_le w1 w2 h1 h2
 induction m with
 | zero =>
  intro c c0 hd
  refine Ev.step (fun _ => rfl) ?_
  simp only [impl_ValidLayout.l0]
  refine ev_neg (by omega) ?_
  rw [allB_end (by omega), Bool.true_and]
  exact impl_vl_exits w h w1 w2 h1 h2 cost ex ts nb lc le (w * h).toNat 0 (by omega) (by omega)
 | succ m ih =>
  intro c c0 hd
  have no : ¬ COST cost c → Ev (fun _ => some false) (allB (COST cost) c (w * h) && (allB (EXI w h cost ex) 0 (w * h) && (tok ts (w * h) && allB (TC cost ts) 0 ts.length))) := by
   intro q; rw [allB_no (by omega) q, Bool.false_and]; exact Ev.now _
  refine Ev.step (fun _ => rfl) ?_
  simp only [impl_ValidLayout.l0]
  refine ev_pos (by omega) (ev_pos c0 (ev_pos (by omega) (ev_ite (fun a => no (fun q => by have := q.1; omega)) (fun a => ev_ite (fun b => no (fun q => by have := q.2; omega)) (fun b => ?_)))))
  rw [allB_yes (S := COST cost) (i := c) ⟨by omega, by omega⟩, wrap64_id (by omega) (by omega)]
  exact ih _ (by omega) (by omega)
theorem impl_ValidLayout_ev (w h : Int) (cost ex : List Int) (ts : List S120) (nb : Names ts) (hx : ∀ c : Int, 0 ≤ c → c < ex.length → rd ex c ≤ 9223372036854775807) : Ev (fun k => impl_ValidLayout.f k w h cost ex ts) (vl w h cost ex ts) := by
 simp only [impl_ValidLayout.f]
 have no : vl w h cost ex ts = false → Ev (fun k => impl_ValidLayout.j0 k true w h cost ex ts) (vl w h cost ex ts) := by
  intro q; rw [q]
  refine Ev.step (fun _ => rfl) ?_
  simp only [impl_ValidLayout.j0]
  exact ev_pos (by trivial) (Ev.now _)
 have nos : ¬ (1 ≤ w ∧ w ≤ 40 ∧ 1 ≤ h ∧ h ≤ 40) → Ev (fun k => impl_ValidLayout.j0 k true w h cost ex ts) (vl w h cost ex ts) := by
  intro q; refine no ?_; unfold vl; rw [decide_eq_false q, Bool.false_and]
 rw [sideOk_eq, sideOk_eq]
 refine ev_letv (ev_ite (fun a => ev_letv (ev_ite (fun b => ?_) (fun b => nos (fun q => b (decide_eq_true (by omega)))))) (fun a => nos (fun q => a (decide_eq_true (by omega)))))
 have a := of_decide_eq_true a
 have b := of_decide_eq_true b
 have wh := wh_le (w := w) (h := h) (by omega) (by omega) (by omega) (by omega)
 rw [wrap64_id (x := w * h) (by omega) (by omega)]
 refine ev_ite (fun lc => ?_) (fun lc => no (by unfold vl; rw [decide_eq_false (fun q : (cost.length : Int) = w * h ∧ (ex.length : Int) = w * h => lc q.1), Bool.false_and, Bool.and_false]))
 by_cases le : (ex.length : Int) = w * h
 ·rw [show ((ex.length : Int) != w * h) = false from by rw [le]; simp]
  refine Ev.step (fun _ => rfl) ?_
  simp only [impl_ValidLayout.j0]
  refine ev_neg (by simp) ?_
  have L := impl_vl_costs w h a.1 a.2 b.1 b.2 cost ex ts nb lc le (w * h).toNat 0 (by omega) (by omega)
  have e : vl w h cost ex ts = (allB (COST cost) 0 (w * h) && (allB (EXI w h cost ex) 0 (w * h) && (tok ts (w * h) && allB (TC cost ts) 0 ts.length))) := by
   unfold vl
   rw [decide_eq_true (show 1 ≤ w ∧ w ≤ 40 ∧ 1 ≤ h ∧ h ≤ 40 by omega), decide_eq_true (show (cost.length : Int) = w * h ∧ (ex.length : Int) = w * h from ⟨lc, le⟩), ← cell_split w h a.1 a.2 b.1 b.2 cost ex (by rw [← le]; exact hx)]
   cases tok ts (w * h) <;> cases allB (COST cost) 0 (w * h) <;> cases allB (EXI w h cost ex) 0 (w * h) <;> cases allB (TC cost ts) 0 ts.length <;> rfl
  rw [e]
  exact L
 ·rw [show ((ex.length : Int) != w * h) = true from by rw [bne_iff_ne]; exact le]
  exact no (by unfold vl; rw [decide_eq_false (fun q : (cost.length : Int) = w * h ∧ (ex.length : Int) = w * h => le q.2), Bool.false_and, Bool.and_false])

theorem bit_at (e : Int) (e0 : 0 ≤ e) (e1 : e ≤ 15) (d : Int) (d0 : 0 ≤ d) (d1 : d < 4) : (Go.bits .and .i64 (shr .i64 e d) 1) = 1 ↔ bt e d = true := by
 have key : ∀ (a : Fin 16) (b : Fin 4), (Go.bits .and .i64 (shr .i64 (a.val : Int) (b.val : Int)) 1) = 1 ↔ bt a.val b.val = true := by decide
 have := key ⟨e.toNat, by omega⟩ ⟨d.toNat, by omega⟩
 rw [show (((⟨e.toNat, by omega⟩ : Fin 16).val : Nat) : Int) = e from by show ((e.toNat : Nat) : Int) = e; omega, show (((⟨d.toNat, by omega⟩ : Fin 4).val : Nat) : Int) = d from by show ((d.toNat : Nat) : Int) = d; omega] at this
 exact this
def cellE (w h : Int) (cost ex : List Int) (c : Int) : Nat → List S99
 | 0 => []
 | d + 1 => cellE w h cost ex c d ++ (if bt (rd ex c) d = true then [⟨c, sideL w h c d, d, rd cost (sideL w h c d)⟩] else [])
theorem cellE_from {w h : Int} {cost ex : List Int} {c : Int} : ∀ {m : Nat}, ∀ e ∈ cellE w h cost ex c m, e.f0 = c
 | 0, e, he => by simp [cellE] at he
 | m + 1, e, he => by
  rw [cellE, List.mem_append] at he
  rcases he with he | he
  ·exact cellE_from e he
  ·split at he
   ·rw [List.mem_singleton] at he; rw [he]
   ·simp at he
theorem cellE_length {w h : Int} {cost ex : List Int} {c : Int} : ∀ m : Nat, (cellE w h cost ex c m).length ≤ m
 | 0 => by simp [cellE]
 | m + 1 => by
  have := cellE_length (w := w) (h := h) (cost := cost) (ex := ex) (c := c) m
  rw [cellE, List.length_append]
  split
  ·rw [List.length_singleton]; omega
  ·rw [List.length_nil]; omega
structure VL (w h : Int) (cost ex : List Int) : Prop where
 w1 : 1 ≤ w
 w2 : w ≤ 40
 h1 : 1 ≤ h
 h2 : h ≤ 40
 lc : (cost.length : Int) = w * h
 le : (ex.length : Int) = w * h
 cell : ∀ c : Int, 0 ≤ c → c < w * h → CELL w h cost ex c
theorem vl_facts {w h : Int} {cost ex : List Int} {ts : List S120} (v : vl w h cost ex ts = true) : VL w h cost ex := by
 unfold vl at v
 rw [Bool.and_eq_true, Bool.and_eq_true, Bool.and_eq_true, Bool.and_eq_true, decide_eq_true_eq, decide_eq_true_eq, allB_iff] at v
 obtain ⟨⟨a, b, c, d⟩, ⟨e, f⟩, _, g, _⟩ := v
 exact ⟨a, b, c, d, e, f, g⟩
section
variable {w h : Int} {cost ex : List Int} {ts : List S120} (v : VL w h cost ex)
include v
theorem impl_bg_row (c : Nat) (hc : (c : Int) < w * h) (st : List Int) (p : List S99) (hp : p.length ≤ 100000) (R : Int × List Int × List Int × List Int × List Int × Int)
  (H : Ev (fun k => impl_BuildGraph.l0 k ex (ex.length : Int) ((c : Int) + 1) w h cost ex ts (w * h) st ((p ++ cellE w h cost ex c 4).map eT) ((p ++ cellE w h cost ex c 4).map eD) ((p ++ cellE w h cost ex c 4).map eC)) R) (m : Nat) : ∀ d : Nat, d + m = 4 →
  Ev (fun k => impl_BuildGraph.l1 k c (rd ex c) ex (ex.length : Int) c d w h cost ex ts (w * h) st ((p ++ cellE w h cost ex c d).map eT) ((p ++ cellE w h cost ex c d).map eD) ((p ++ cellE w h cost ex c d).map eC)) R := by
 have wh := wh_le v.w1 v.w2 v.h1 v.h2
 have C := v.cell c (by omega) hc
 induction m with
 | zero =>
  intro d hd
  obtain rfl : d = 4 := by omega
  refine Ev.step (fun _ => rfl) ?_
  simp only [impl_BuildGraph.l1]
  refine ev_neg (by omega) ?_
  rw [wrap64_id (x := (c : Int) + 1) (by omega) (by omega)]
  exact H
 | succ m ih =>
  intro d hd
  have hs : sideIn w h c d := ⟨v.w1, v.w2, v.h1, v.h2, by omega, by omega, by omega, by omega⟩
  have sl := sideL_lt hs
  have K := ih (d + 1) (by omega)
  have ln := cellE_length (w := w) (h := h) (cost := cost) (ex := ex) (c := c) d
  have ll : (p ++ cellE w h cost ex c d).length ≤ 200000 := by rw [List.length_append]; omega
  refine Ev.step (fun _ => rfl) ?_
  simp only [impl_BuildGraph.l1]
  refine ev_pos (by omega) (ev_pos (by omega) ?_)
  rw [wrap64_id (x := (d : Int) + 1) (by omega) (by omega)]
  rw [cellE] at K
  refine ev_ite (fun b => ?_) (fun b => ?_)
  ·have b := (bit_at _ C.e0 C.e15 d (by omega) (by omega)).1 b
   have s := C.ways d (by omega) (by omega) b
   rw [impl_side_eq w h c d hs]
   refine ev_letv (ev_pos s.1 (ev_pos (by rw [v.lc]; exact sl.2) (ev_pos (by rw [List.length_map]; omega) (ev_pos (by rw [List.length_map]; omega) (ev_pos (by rw [List.length_map]; omega) ?_)))))
   rw [if_pos b, ← List.append_assoc, map_snoc, map_snoc, map_snoc] at K
   exact K
  ·have b : ¬ bt (rd ex c) d = true := fun q => b ((bit_at _ C.e0 C.e15 d (by omega) (by omega)).2 q)
   rw [if_neg b, List.append_nil] at K
   exact K
theorem impl_bg_rows (n : Nat) (hn : (n : Int) = w * h) (m : Nat) : ∀ c : Nat, c + m = n →
  Ev (fun k => impl_BuildGraph.l0 k ex (ex.length : Int) c w h cost ex ts (w * h) (startsTo (fun c => cellE w h cost ex c 4) c) ((flatTo (fun c => cellE w h cost ex c 4) c).map eT) ((flatTo (fun c => cellE w h cost ex c 4) c).map eD) ((flatTo (fun c => cellE w h cost ex c 4) c).map eC))
   ((gres n (fun c => cellE w h cost ex c 4)).1, (gres n (fun c => cellE w h cost ex c 4)).2.1, (gres n (fun c => cellE w h cost ex c 4)).2.2.1, (gres n (fun c => cellE w h cost ex c 4)).2.2.2.1, (gres n (fun c => cellE w h cost ex c 4)).2.2.2.2, 0) := by
 have wh := wh_le v.w1 v.w2 v.h1 v.h2
 induction m with
 | zero =>
  intro c hc
  obtain rfl : c = n := by omega
  refine Ev.step (fun _ => rfl) ?_
  simp only [impl_BuildGraph.l0]
  refine ev_neg (by rw [v.le]; omega) (ev_pos (by rw [startsTo_length]; omega) ?_)
  unfold gres
  rw [List.length_map, hn]
  exact Ev.now _
 | succ m ih =>
  intro c hc
  refine Ev.step (fun _ => rfl) ?_
  simp only [impl_BuildGraph.l0]
  refine ev_pos (by rw [v.le]; omega) (ev_pos (by omega) (ev_pos (by rw [v.le]; omega) (ev_pos (by rw [startsTo_length]; omega) ?_)))
  have fl := flatTo_length (fun c => cellE w h cost ex (c : Nat) 4) 4 (fun c => cellE_length 4) c
  have := impl_bg_row v (ts := ts) c (by omega) (startsTo (fun c => cellE w h cost ex c 4) (c + 1)) (flatTo (fun c => cellE w h cost ex c 4) c) (by omega) _ (ih (c + 1) (by omega)) 4 0 (by omega)
  rw [cellE, List.append_nil] at this
  rw [List.length_map]
  exact this
theorem spec_bg_row (c : Nat) (hc : (c : Int) < w * h) (p : List S99) (hp : p.length ≤ 100000) (R : Int × List Int × List Int × List Int × List Int × Int)
  (H : Ev (fun k => spec_BuildGraph.l0 k (p ++ cellE w h cost ex c 4) ((c : Int) + 1) w h cost ex ts) R) (m : Nat) : ∀ d : Nat, d + m = 4 →
  Ev (fun k => spec_BuildGraph.l1 k (p ++ cellE w h cost ex c d) c [bt (rd ex c) 0, bt (rd ex c) 1, bt (rd ex c) 2, bt (rd ex c) 3] d w h cost ex ts) R := by
 have wh := wh_le v.w1 v.w2 v.h1 v.h2
 have C := v.cell c (by omega) hc
 induction m with
 | zero =>
  intro d hd
  obtain rfl : d = 4 := by omega
  refine Ev.step (fun _ => rfl) ?_
  simp only [spec_BuildGraph.l1]
  refine ev_neg (by omega) ?_
  rw [wrap64_id (x := (c : Int) + 1) (by omega) (by omega)]
  exact H
 | succ m ih =>
  intro d hd
  have hs : sideIn w h c d := ⟨v.w1, v.w2, v.h1, v.h2, by omega, by omega, by omega, by omega⟩
  have sl := sideL_lt hs
  have K := ih (d + 1) (by omega)
  have ln := cellE_length (w := w) (h := h) (cost := cost) (ex := ex) (c := c) d
  have ll : (p ++ cellE w h cost ex c d).length ≤ 200000 := by rw [List.length_append]; omega
  refine Ev.step (fun _ => rfl) ?_
  simp only [spec_BuildGraph.l1]
  refine ev_pos (by omega) (ev_pos (by omega) (ev_pos (by show (d : Int) < ((4 : Nat) : Int); omega) ?_))
  rw [wrap64_id (x := (d : Int) + 1) (by omega) (by omega), rdOf_bits _ _ (by omega) (by omega)]
  rw [cellE] at K
  refine ev_ite (fun b => ?_) (fun b => ?_)
  ·have s := C.ways d (by omega) (by omega) b
   rw [spec_l4to_eq w h c d hs]
   refine ev_letv (ev_pos s.1 (ev_pos (by rw [v.lc]; exact sl.2) (ev_pos (by omega) ?_)))
   rw [if_pos b, ← List.append_assoc] at K
   exact K
  ·rw [if_neg b, List.append_nil] at K
   exact K
theorem spec_bg_rows (n : Nat) (hn : (n : Int) = w * h) (m : Nat) : ∀ c : Nat, c + m = n →
  Ev (fun k => spec_BuildGraph.l0 k (flatTo (fun c => cellE w h cost ex c 4) c) c w h cost ex ts)
   ((gres n (fun c => cellE w h cost ex c 4)).1, (gres n (fun c => cellE w h cost ex c 4)).2.1, (gres n (fun c => cellE w h cost ex c 4)).2.2.1, (gres n (fun c => cellE w h cost ex c 4)).2.2.2.1, (gres n (fun c => cellE w h cost ex c 4)).2.2.2.2, 0) := by
 have wh := wh_le v.w1 v.w2 v.h1 v.h2
 induction m with
 | zero =>
  intro c hc
  obtain rfl : c = n := by omega
  refine Ev.step (fun _ => rfl) ?_
  simp only [spec_BuildGraph.l0]
  rw [wrap64_id (x := w * h) (by omega) (by omega)]
  refine ev_neg (by omega) ?_
  have fl := flatTo_length (fun c => cellE w h cost ex (c : Nat) 4) 4 (fun c => cellE_length 4) c
  rw [← hn]
  have := spec_l5graph_ev c (by omega) (flatTo (fun c => cellE w h cost ex c 4) c) (by omega) (fun e he => by
   obtain ⟨i, hi, hm⟩ := mem_flatTo.1 he
   have := cellE_from e hm
   omega)
  rw [gres_congr (fun i hi => bk_flatTo eF (fun c => cellE w h cost ex (c : Nat) 4) (fun i e he => cellE_from e he) c hi)] at this
  exact Ev.bind this (Ev.now _)
 | succ m ih =>
  intro c hc
  have C := v.cell c (by omega) (by omega)
  refine Ev.step (fun _ => rfl) ?_
  simp only [spec_BuildGraph.l0]
  rw [wrap64_id (x := w * h) (by omega) (by omega)]
  refine ev_pos (by omega) (ev_pos (by omega) (ev_pos (by rw [v.le]; omega) (Ev.bind (l4bits_ev _ C.e0 C.e15) ?_)))
  have fl := flatTo_length (fun c => cellE w h cost ex (c : Nat) 4) 4 (fun c => cellE_length 4) c
  have := spec_bg_row v (ts := ts) c (by omega) (flatTo (fun c => cellE w h cost ex c 4) c) (by omega) _ (ih (c + 1) (by omega)) 4 0 (by omega)
  rw [cellE, List.append_nil] at this
  exact this
end
theorem buildgraph_both (w h : Int) (cost ex : List Int) (ts : List S120) (nb : Names ts) (hx : ∀ c : Int, 0 ≤ c → c < ex.length → rd ex c ≤ 9223372036854775807) :
  ∃ r, Ev (fun k => spec_BuildGraph.f k w h cost ex ts) r ∧ Ev (fun k => impl_BuildGraph.f k w h cost ex ts) r ∧ r.2.1.length ≤ 10000 ∧ r.2.2.1.length ≤ 10000 ∧ r.2.2.2.1.length ≤ 10000 ∧ r.2.2.2.2.1.length ≤ 10000 := by
 have es := spec_ValidLayout_ev w h cost ex ts nb
 have ei := impl_ValidLayout_ev w h cost ex ts nb hx
 simp only [spec_BuildGraph.f, impl_BuildGraph.f]
 cases hv : vl w h cost ex ts with
 | false =>
  rw [hv] at es ei
  exact ⟨(0, [], [], [], [], 1), Ev.bind es (ev_neg (by simp) (Ev.now _)), Ev.bind ei (ev_neg (by simp) (Ev.now _)), by simp, by simp, by simp, by simp⟩
 | true =>
  rw [hv] at es ei
  have v := vl_facts hv
  have wh := wh_le v.w1 v.w2 v.h1 v.h2
  obtain ⟨n, hn⟩ := Int.eq_ofNat_of_zero_le (show 0 ≤ w * h by omega)
  have fl := flatTo_length (fun c => cellE w h cost ex (c : Nat) 4) 4 (fun c => cellE_length 4) n
  have s0 := startsTo_length (fun c => cellE w h cost ex (c : Nat) 4) n
  refine ⟨_, Ev.bind es (ev_pos (by trivial) (spec_bg_rows v n hn.symm n 0 (by omega))), Ev.bind ei (ev_pos (by trivial) ?_), ?_, ?_, ?_, ?_⟩
  ·rw [wrap64_id (x := w * h) (by omega) (by omega)]
   exact impl_bg_rows v n hn.symm n 0 (by omega)
  ·simp only [gres, List.length_append, List.length_singleton]; omega
  ·simp only [gres, List.length_map]; omega
  ·simp only [gres, List.length_map]; omega
  ·simp only [gres, List.length_map]; omega

def upfrom (a : Int) (n : Nat) : List Int := (List.range n).map (fun (j : Nat) => a + (j : Int))
theorem upfrom_length (a : Int) (n : Nat) : (upfrom a n).length = n := by simp [upfrom]
theorem upfrom_rd {a : Int} {n : Nat} {i : Int} (h0 : 0 ≤ i) (h1 : i < n) : rd (upfrom a n) i = a + i := by
 rw [rd_get h0 (by rw [upfrom_length]; omega)]
 simp only [upfrom, List.getElem_map, List.getElem_range]; omega

theorem markIntS_loop (n : Nat) (a : Int) (ha : 0 ≤ a) (hn : a + n ≤ 9223372036854775807) (d : Nat) : ∀ (x : List Int) (i : Int), 0 ≤ i → x.length = n → (n : Int) - i = d →
  (∀ j : Int, 0 ≤ j → j < i → rd x j = a + j) → Ev (fun k => laws_markIntS.l0 k x (a + i) i) (a + n, upfrom a n) := by
 induction d with
 | zero =>
  intro x i h0 hl hd he
  refine Ev.step (fun _ => rfl) ?_
  simp only [laws_markIntS.l0]
  refine ev_neg (by omega) ?_
  have e1 : x = upfrom a n := rd_ext (by rw [hl, upfrom_length]) (fun j p q => by rw [he j p (by omega), upfrom_rd p (by omega)])
  have e2 : i = n := by omega
  rw [e1, e2]; exact Ev.now _
 | succ d ih =>
  intro x i h0 hl hd he
  refine Ev.step (fun _ => rfl) ?_
  simp only [laws_markIntS.l0]
  refine ev_pos (by omega) (ev_pos (by omega) ?_)
  rw [wrap64_id (by omega) (by omega), wrap64_id (by omega) (by omega), show a + i + 1 = a + (i + 1) by omega]
  refine ih _ _ (by omega) (by simpa using hl) (by omega) ?_
  intro j p q
  by_cases e : j = i
  ·subst e; exact rd_set_eq (by omega) (by omega)
  ·rw [rd_set_ne (by omega) (by omega) (by omega)]; exact he j p (by omega)
theorem markIntS_ev (l : List Int) (a : Int) (ha : 0 ≤ a) (hn : a + l.length ≤ 9223372036854775807) : Ev (fun k => laws_markIntS.f k l a) (a + l.length, upfrom a l.length) := by
 have := markIntS_loop l.length a ha hn l.length l 0 (by omega) rfl (by omega) (fun j p q => by omega)
 simpa only [laws_markIntS.f, Int.add_zero] using this

theorem heldIntS_loop (n : Nat) (a : Int) (ha : 0 ≤ a) (hn : a + n ≤ 9223372036854775807) (d : Nat) : ∀ (i : Int), 0 ≤ i → (n : Int) - i = d →
  Ev (fun k => laws_heldIntS.l0 k (upfrom a n) (a + i) i) (a + n) := by
 induction d with
 | zero =>
  intro i h0 hd
  refine Ev.step (fun _ => rfl) ?_
  simp only [laws_heldIntS.l0, upfrom_length]
  refine ev_neg (by omega) ?_
  have e2 : i = n := by omega
  rw [e2]; exact Ev.now _
 | succ d ih =>
  intro i h0 hd
  refine Ev.step (fun _ => rfl) ?_
  simp only [laws_heldIntS.l0, upfrom_length]
  refine ev_pos (by omega) (ev_pos (by omega) (ev_pos (upfrom_rd h0 (by omega)) ?_))
  rw [wrap64_id (by omega) (by omega), wrap64_id (by omega) (by omega), show a + i + 1 = a + (i + 1) by omega]
  exact ih _ (by omega) (by omega)
theorem heldIntS_ev (n : Nat) (a : Int) (ha : 0 ≤ a) (hn : a + n ≤ 9223372036854775807) : Ev (fun k => laws_heldIntS.f k (upfrom a n) a) (a + n) := by
 have := heldIntS_loop n a ha hn n 0 (by omega) (by omega)
 simpa only [laws_heldIntS.f, Int.add_zero] using this

theorem markGraph_ev (n : Int) (a b c d : List Int) (ha : a.length ≤ 100000) (hb : b.length ≤ 100000) (hc : c.length ≤ 100000) (hd : d.length ≤ 100000) :
  Ev (fun k => laws_markGraph.f k n a b c d 1) (1 + a.length + b.length + c.length + d.length, upfrom 1 a.length, upfrom (1 + a.length) b.length, upfrom (1 + a.length + b.length) c.length, upfrom (1 + a.length + b.length + c.length) d.length) := by
 simp only [laws_markGraph.f]
 exact Ev.bind (markIntS_ev a 1 (by omega) (by omega)) (Ev.bind (markIntS_ev b (1 + a.length) (by omega) (by omega)) (Ev.bind (markIntS_ev c (1 + a.length + b.length) (by omega) (by omega)) (Ev.bind (markIntS_ev d (1 + a.length + b.length + c.length) (by omega) (by omega)) (Ev.now _))))
theorem heldGraph_ev (n : Int) (a b c d : Nat) (ha : a ≤ 100000) (hb : b ≤ 100000) (hc : c ≤ 100000) (hd : d ≤ 100000) :
  Ev (fun k => laws_heldGraph.f k n (upfrom 1 a) (upfrom (1 + a) b) (upfrom (1 + a + b) c) (upfrom (1 + a + b + c) d) 1) (1 + a + b + c + d) := by
 simp only [laws_heldGraph.f]
 exact Ev.bind (heldIntS_ev a 1 (by omega) (by omega)) (ev_neg (by omega) (Ev.bind (heldIntS_ev b (1 + a) (by omega) (by omega)) (ev_neg (by omega) (Ev.bind (heldIntS_ev c (1 + a + b) (by omega) (by omega)) (ev_neg (by omega) (Ev.bind (heldIntS_ev d (1 + a + b + c) (by omega) (by omega)) (ev_neg (by omega) (Ev.now _))))))))

theorem markLayout_some (w h : Int) (cost ex : List Int) (ts : List S120) (h1 : cost.length ≤ 1048576) (h2 : ex.length ≤ 1048576) (c3 : ts.length ≤ 1048576 ∧ ∀ j : Int, 0 ≤ j → j < ts.length → ((rd_T120 ts j).f0.length : Int) ≤ 1048576) :
  ∃ r, laws_markLayout.f w h cost ex ts 1 = some r ∧ 0 ≤ r := by
 have s2 : ∀ x ∈ ts, x.f0.length ≤ 1048576 := by
  intro x hx
  obtain ⟨j, hj, rfl⟩ := List.getElem_of_mem hx
  have := c3.2 (j : Int) (by omega) (by omega)
  unfold rd_T120 at this
  rw [List.getD_eq_getElem?_getD, Int.toNat_natCast, List.getElem?_eq_getElem hj] at this
  simp only [Option.getD_some] at this
  omega
 have t := totalT_le s2
 refine ⟨1 + cost.length + ex.length + totalT ts, ?_, by omega⟩
 unfold laws_markLayout.f laws_markTargetS.f
 rw [if_pos ⟨h1, h2, by omega, by omega⟩, if_pos ⟨smallT_iff.2 ⟨c3.1, s2⟩, by omega, by omega⟩]

theorem eqGraph_self (n : Int) (st tos dr co : List Int) (h : st.length + tos.length + dr.length + co.length ≤ 9000000000) : Ev (fun k => laws_eqGraph.f k n st tos dr co n st tos dr co) true := by
 simp only [laws_eqGraph.f]
 refine ev_pos (by trivial) (Ev.bind (eqIntS_self st (by omega)) (ev_pos (by trivial) (Ev.bind (eqIntS_self tos (by omega)) (ev_pos (by trivial) (Ev.bind (eqIntS_self dr (by omega)) (ev_pos (by trivial) (Ev.bind (eqIntS_self co (by omega)) ?_)))))))
 exact ev_pos (by trivial) (Ev.now _)

theorem FnExactBuildGraph : laws_FnExactBuildGraph.Pure := by
 intro w h cost ex ts ww wh w2 w3 w4
 have m0 : ∀ x ∈ ts, x.f0.length ≤ 9223372036854775807 := fun x hx => (w4.2 x hx).1.1
 have hb : ∀ x ∈ ts, Bytes x.f0 := fun x hx => Bytes.of (w4.2 x hx).1
 have hx : ∀ c : Int, 0 ≤ c → c < ex.length → rd ex c ≤ 9223372036854775807 := fun c c0 c1 => (ints_of w3.2 c c0 c1).2
 refine Ev.rounds (g := fun k => laws_FnExactBuildGraph.f k w h cost ex ts) ?_
 simp only [laws_FnExactBuildGraph.f]
 obtain ⟨r, e, q⟩ := szLayout_or w h cost ex ts w2.1 w3.1 m0 w4.1
 rcases q with rfl | ⟨q0, c1, c2, c3⟩
 ·exact Ev.bind e (ev_pos (by omega) (Ev.now _))
 have t := toLayout_ev w h cost ex ts c1 c2 c3
 have nb := names_of hb c3.2
 have cm := map_small c3
 obtain ⟨⟨gn, ga, gb, gc, gd, gx⟩, s, i, l1, l2, l3, l4⟩ := buildgraph_both w h cost ex (ts.map convT) nb hx
 dsimp only at l1 l2 l3 l4
 obtain ⟨kk, ek, k0⟩ := markLayout_some w h cost ex (ts.map convT) c1 c2 cm
 have eq := eqGraph_self gn ga gb gc gd (by omega)
 have em := markGraph_ev gn ga gb gc gd (by omega) (by omega) (by omega) (by omega)
 have eh := heldGraph_ev gn ga.length gb.length gc.length gd.length (by omega) (by omega) (by omega) (by omega)
 refine Ev.bind e (ev_neg (by omega) (Ev.bind t (Ev.bind s (Ev.bind t (Ev.bind i (Ev.bind eq (ev_pos (by trivial) ?_)))))))
 refine Ev.step (fun _ => rfl) ?_
 simp only [laws_FnExactBuildGraph.j0]
 refine ev_neg (by simp) (Ev.bind t (Ev.bind (eqLayout_self w h cost ex _ c1 c2 cm) (ev_pos (by trivial) ?_)))
 rw [ek]
 refine ev_letv (ev_neg (by omega) (Ev.bind eq (ev_pos (by trivial) ?_)))
 refine Ev.step (fun _ => rfl) ?_
 simp only [laws_FnExactBuildGraph.j1]
 refine ev_neg (by simp) (Ev.bind em (Ev.bind eh (ev_neg (by omega) (ev_pos (by trivial) (Ev.bind t (Ev.bind i (Ev.bind eq (ev_pos (by trivial) ?_))))))))
 refine Ev.step (fun _ => rfl) ?_
 simp only [laws_FnExactBuildGraph.j2]
 exact ev_neg (by simp) (Ev.bind eh (ev_neg (by omega) (ev_pos (by trivial) (Ev.now _))))

end Go.Proofs.YthbeplmihjhoeaaDoor.Pure
