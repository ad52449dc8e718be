/- The program's EncodeImage returns what the reference's returns, for all arguments whose texts are bytes: the library's two tables of UTF-8 hold what their initialisers lay. -/
import Derived.Test.YthbeplmihjhoeaaDoorQFnExactEncodeImage
import Derived.Lib.Bytes
import Derived.Lib.Bytealg
import Derived.OpenShut
namespace Go.Proofs.YthbeplmihjhoeaaDoor.Pure
set_option linter.unusedVariables false
set_option linter.unusedSimpArgs false
set_option linter.unusedSectionVars false
open Go.RowKit Go.Proofs.YthbeplmihjhoeaaDoor.PFnExactEncodeImage Go.Proofs.YthbeplmihjhoeaaDoorW.PrintWords Go.Proofs.YthbeplmihjhoeaaDoorW.PrintLast Go.Proofs.YthbeplmihjhoeaaDoorW.PrintMore
section EvLib
variable {α β : Type}
theorem ev_pos {c : Prop} [Decidable c] {A B : Nat → Option α} {r : α} (h : c) (k : Ev A r) : Ev (fun n => if c then A n else B n) r :=
 Ev.congr (fun _ => if_pos h) k
theorem ev_neg {c : Prop} [Decidable c] {A B : Nat → Option α} {r : α} (h : ¬ c) (k : Ev B r) : Ev (fun n => if c then A n else B n) r :=
 Ev.congr (fun _ => if_neg h) k
theorem ev_ite {c : Prop} [Decidable c] {A B : Nat → Option α} {r : α} (h1 : c → Ev A r) (h2 : ¬ c → Ev B r) : Ev (fun n => if c then A n else B n) r := by
 by_cases h : c
 ·exact ev_pos h (h1 h)
 ·exact ev_neg h (h2 h)
theorem ev_letv {a : α} {f : Nat → α → Option β} {r : β} (k : Ev (fun n => f n a) r) : Ev (fun n => (some a).bind (f n)) r := Ev.bind (Ev.now a) k
end EvLib
theorem wrap64_id {x : Int} (h0 : -9223372036854775808 ≤ x) (h1 : x ≤ 9223372036854775807) : wrap64 x = x := by unfold wrap64; omega
theorem tdiv_nn {x y : Int} (h0 : 0 ≤ x) : Int.tdiv x y = x / y := Int.tdiv_eq_ediv_of_nonneg h0
theorem tmod_nn {x y : Int} (h0 : 0 ≤ x) : Int.tmod x y = x % y := Int.tmod_eq_emod_of_nonneg h0
theorem rd_get {l : List Int} {i : Int} (h0 : 0 ≤ i) (h1 : i.toNat < l.length) : rd l i = l[i.toNat] := by
 unfold rd; rw [List.getD_eq_getElem?_getD, List.getElem?_eq_getElem h1]; rfl
theorem rd_mem {l : List Int} {i : Int} (h0 : 0 ≤ i) (h1 : i < l.length) : rd l i ∈ l := by
 have h : i.toNat < l.length := by omega
 rw [rd_get h0 h]; exact List.getElem_mem h
theorem rd_set_eq {l : List Int} {i : Int} {v : Int} (h0 : 0 ≤ i) (h1 : i < l.length) : rd (l.set i.toNat v) i = v := by
 have h : i.toNat < l.length := by omega
 unfold rd; rw [List.getD_eq_getElem?_getD, List.getElem?_set_self h]; rfl
theorem rd_set_ne {l : List Int} {i j : Int} {v : Int} (h0 : 0 ≤ i) (h1 : 0 ≤ j) (h : i ≠ j) : rd (l.set i.toNat v) j = rd l j := by
 unfold rd; rw [List.getD_eq_getElem?_getD, List.getElem?_set_ne (by omega), ← List.getD_eq_getElem?_getD]
theorem rd_ext {l m : List Int} (h : l.length = m.length) (e : ∀ i : Int, 0 ≤ i → i < l.length → rd l i = rd m i) : l = m := by
 apply List.ext_getElem h
 intro i h1 h2
 have := e i (by omega) (by omega)
 rw [rd_get (by omega) (by simpa using h1), rd_get (by omega) (by simpa using h2)] at this
 simpa using this

theorem wf_u8 {x : Int} (h : (Lit.int .u8 x).wf = true) : 0 ≤ x ∧ x ≤ 255 := by
 simp [Lit.wf, IntKind.min, IntKind.max, IntKind.signed, IntKind.bits] at h; omega
theorem bytes_of {l : List Int} (h : ∀ x ∈ l, (Lit.int .u8 x).wf = true) : ∀ i : Int, 0 ≤ i → i < l.length → 0 ≤ rd l i ∧ rd l i ≤ 255 :=
 fun i h0 h1 => wf_u8 (h _ (rd_mem h0 h1))
theorem rd_drop (l : List Int) (i : Nat) (j : Int) (h : 0 ≤ j) : rd (l.drop i) j = rd l (i + j) := by
 unfold rd
 rw [List.getD_eq_getElem?_getD, List.getElem?_drop, List.getD_eq_getElem?_getD, show ((i : Int) + j).toNat = i + j.toNat by omega]
theorem decI_drop {l : List Int} {i : Int} (h0 : 0 ≤ i) (h1 : i < l.length) : decI (l.drop i.toNat) =
  ((((Lib.decodeN (l.length - i.toNat) (rd l i).toNat (rd l (i + 1)).toNat (rd l (i + 2)).toNat (rd l (i + 3)).toNat).1 : Nat) : Int), (((Lib.decodeN (l.length - i.toNat) (rd l i).toNat (rd l (i + 1)).toNat (rd l (i + 2)).toNat (rd l (i + 3)).toNat).2 : Nat) : Int)) := by
 unfold decI
 rw [List.length_drop, if_neg (by omega)]
 rw [rd_drop _ _ _ (by omega), rd_drop _ _ _ (by omega), rd_drop _ _ _ (by omega), rd_drop _ _ _ (by omega), show ((i.toNat : Nat) : Int) = i by omega, Int.add_zero]
def chr (l : List Int) (i : Int) : Int × Int :=
 if (decI (l.drop i.toNat)).1 = 65533 ∧ (decI (l.drop i.toNat)).2 ≤ 1 then (0, 0) else ((decI (l.drop i.toNat)).2, (decI (l.drop i.toNat)).1)
def Bytes (l : List Int) : Prop := ∀ i : Int, 0 ≤ i → i < l.length → 0 ≤ rd l i ∧ rd l i ≤ 255
theorem rd_out {l : List Int} {i : Int} (h : (l.length : Int) ≤ i) : rd l i = 0 := by
 unfold rd; rw [List.getD_eq_getElem?_getD, List.getElem?_eq_none (by omega)]; rfl
theorem Bytes.rd {l : List Int} (hb : Bytes l) {i : Int} (h0 : 0 ≤ i) : 0 ≤ rd l i ∧ rd l i ≤ 255 := by
 by_cases h : i < l.length
 ·exact hb i h0 h
 ·rw [rd_out (by omega)]; omega
theorem bytesB_of {l : List Int} (hb : Bytes l) : bytesB l = true := by
 unfold bytesB
 rw [List.all_eq_true]
 intro x hx
 obtain ⟨j, hj, e⟩ := List.getElem_of_mem hx
 have := hb (j : Int) (by omega) (by omega)
 rw [rd_get (by omega) (by simpa using hj)] at this
 simp only [Int.toNat_natCast] at this
 rw [e] at this
 simp only [Bool.and_eq_true, decide_eq_true_eq]
 exact this
theorem Bytes.drop {l : List Int} (hb : Bytes l) (i : Nat) : Bytes (l.drop i) := by
 intro j h0 h1
 rw [List.length_drop] at h1
 rw [rd_drop _ _ _ h0]
 exact hb _ (by omega) (by omega)
def chrZ (n b0 b1 b2 b3 : Int) : Int × Int :=
 if b0 < 128 then (1, b0)
   else if b0 / 32 = 6 ∧ (1 < n ∧ b1 / 64 = 2) then (if b0 % 32 * 64 + b1 % 64 ≥ 128 then (2, b0 % 32 * 64 + b1 % 64) else (0, 0))
   else if b0 / 16 = 14 ∧ (1 < n ∧ b1 / 64 = 2) ∧ (2 < n ∧ b2 / 64 = 2) then
    (if b0 % 16 * 4096 + b1 % 64 * 64 + b2 % 64 ≥ 2048 ∧ (b0 % 16 * 4096 + b1 % 64 * 64 + b2 % 64 < 55296 ∨ 57344 ≤ b0 % 16 * 4096 + b1 % 64 * 64 + b2 % 64) then (3, b0 % 16 * 4096 + b1 % 64 * 64 + b2 % 64) else (0, 0))
   else if b0 / 8 = 30 ∧ (1 < n ∧ b1 / 64 = 2) ∧ (2 < n ∧ b2 / 64 = 2) ∧ (3 < n ∧ b3 / 64 = 2) then
    (if b0 % 8 * 262144 + b1 % 64 * 4096 + b2 % 64 * 64 + b3 % 64 ≥ 65536 ∧ b0 % 8 * 262144 + b1 % 64 * 4096 + b2 % 64 * 64 + b3 % 64 ≤ 1114111 then (4, b0 % 8 * 262144 + b1 % 64 * 4096 + b2 % 64 * 64 + b3 % 64) else (0, 0))
   else (0, 0)
theorem chrZ_nat (n c0 c1 c2 c3 : Nat) : (if (((Lib.decodeN n c0 c1 c2 c3).1 : Nat) : Int) = 65533 ∧ (((Lib.decodeN n c0 c1 c2 c3).2 : Nat) : Int) ≤ 1 then ((0 : Int), (0 : Int)) else ((((Lib.decodeN n c0 c1 c2 c3).2 : Nat) : Int), (((Lib.decodeN n c0 c1 c2 c3).1 : Nat) : Int)))
  = chrZ n c0 c1 c2 c3 := by
 by_cases h1 : c0 < 128
 ·have hd : Lib.decodeN n c0 c1 c2 c3 = (c0, 1) := by unfold Lib.decodeN; rw [if_pos h1]
  rw [hd, if_neg (by simp only; omega)]; unfold chrZ; rw [if_pos (by omega)]; rfl
 by_cases h2 : c0 / 32 = 6 ∧ (1 < n ∧ c1 / 64 = 2)
 ·by_cases h3 : c0 % 32 * 64 + c1 % 64 ≥ 128
  ·have hd : Lib.decodeN n c0 c1 c2 c3 = (c0 % 32 * 64 + c1 % 64, 2) := by unfold Lib.decodeN; rw [if_neg h1, if_pos h2, if_pos h3]
   rw [hd, if_neg (by simp only; omega)]; unfold chrZ; rw [if_neg (by omega), if_pos (by omega), if_pos (by omega)]; simp
  ·have hd : Lib.decodeN n c0 c1 c2 c3 = (65533, 1) := by unfold Lib.decodeN; rw [if_neg h1, if_pos h2, if_neg h3]
   rw [hd, if_pos (by simp)]; unfold chrZ; rw [if_neg (by omega), if_pos (by omega), if_neg (by omega)]
 by_cases h4 : c0 / 16 = 14 ∧ (1 < n ∧ c1 / 64 = 2) ∧ (2 < n ∧ c2 / 64 = 2)
 ·by_cases h5 : c0 % 16 * 4096 + c1 % 64 * 64 + c2 % 64 ≥ 2048 ∧ (c0 % 16 * 4096 + c1 % 64 * 64 + c2 % 64 < 55296 ∨ (57344 ≤ c0 % 16 * 4096 + c1 % 64 * 64 + c2 % 64 ∧ c0 % 16 * 4096 + c1 % 64 * 64 + c2 % 64 ≤ 1114111))
  ·have hd : Lib.decodeN n c0 c1 c2 c3 = (c0 % 16 * 4096 + c1 % 64 * 64 + c2 % 64, 3) := by unfold Lib.decodeN; rw [if_neg h1, if_neg h2, if_pos h4, if_pos h5]
   rw [hd, if_neg (by simp only; omega)]; unfold chrZ; rw [if_neg (by omega), if_neg (by omega), if_pos (by omega), if_pos (by omega)]; simp
  ·have hd : Lib.decodeN n c0 c1 c2 c3 = (65533, 1) := by unfold Lib.decodeN; rw [if_neg h1, if_neg h2, if_pos h4, if_neg h5]
   rw [hd, if_pos (by simp)]; unfold chrZ; rw [if_neg (by omega), if_neg (by omega), if_pos (by omega), if_neg (by omega)]
 by_cases h6 : c0 / 8 = 30 ∧ (1 < n ∧ c1 / 64 = 2) ∧ (2 < n ∧ c2 / 64 = 2) ∧ (3 < n ∧ c3 / 64 = 2)
 ·by_cases h7 : c0 % 8 * 262144 + c1 % 64 * 4096 + c2 % 64 * 64 + c3 % 64 ≥ 65536 ∧ (c0 % 8 * 262144 + c1 % 64 * 4096 + c2 % 64 * 64 + c3 % 64 < 55296 ∨ (57344 ≤ c0 % 8 * 262144 + c1 % 64 * 4096 + c2 % 64 * 64 + c3 % 64 ∧ c0 % 8 * 262144 + c1 % 64 * 4096 + c2 % 64 * 64 + c3 % 64 ≤ 1114111))
  ·have hd : Lib.decodeN n c0 c1 c2 c3 = (c0 % 8 * 262144 + c1 % 64 * 4096 + c2 % 64 * 64 + c3 % 64, 4) := by unfold Lib.decodeN; rw [if_neg h1, if_neg h2, if_neg h4, if_pos h6, if_pos h7]
   rw [hd, if_neg (by simp only; omega)]; unfold chrZ; rw [if_neg (by omega), if_neg (by omega), if_neg (by omega), if_pos (by omega), if_pos (by omega)]; simp
  ·have hd : Lib.decodeN n c0 c1 c2 c3 = (65533, 1) := by unfold Lib.decodeN; rw [if_neg h1, if_neg h2, if_neg h4, if_pos h6, if_neg h7]
   rw [hd, if_pos (by simp)]; unfold chrZ; rw [if_neg (by omega), if_neg (by omega), if_neg (by omega), if_pos (by omega), if_neg (by omega)]
 have hd : Lib.decodeN n c0 c1 c2 c3 = (65533, 1) := by unfold Lib.decodeN; rw [if_neg h1, if_neg h2, if_neg h4, if_neg h6]
 rw [hd, if_pos (by simp)]; unfold chrZ; rw [if_neg (by omega), if_neg (by omega), if_neg (by omega), if_neg (by omega)]
theorem chr_eq {l : List Int} (hb : Bytes l) {i : Int} (h0 : 0 ≤ i) (h1 : i < l.length) : chr l i = chrZ ((l.length : Int) - i) (rd l i) (rd l (i + 1)) (rd l (i + 2)) (rd l (i + 3)) := by
 have r0 := hb.rd h0; have r1 := hb.rd (show 0 ≤ i + 1 by omega); have r2 := hb.rd (show 0 ≤ i + 2 by omega); have r3 := hb.rd (show 0 ≤ i + 3 by omega)
 unfold chr
 rw [decI_drop h0 h1]
 simp only
 rw [chrZ_nat, Int.toNat_of_nonneg r0.1, Int.toNat_of_nonneg r1.1, Int.toNat_of_nonneg r2.1, Int.toNat_of_nonneg r3.1, show ((l.length - i.toNat : Nat) : Int) = (l.length : Int) - i by omega]

theorem Bytes.of {l : List Int} (h : Open.wfL (Open.wfI .u8) l) : Bytes l := bytes_of h.2

theorem getD_lt {α : Type} {l : List α} {i : Int} {d : α} (h1 : i.toNat < l.length) : l.getD i.toNat d = l[i.toNat] := by
 rw [List.getD_eq_getElem?_getD, List.getElem?_eq_getElem h1]; rfl
theorem getD_mem {α : Type} {l : List α} {i : Int} {d : α} (h0 : 0 ≤ i) (h1 : i < l.length) : l.getD i.toNat d ∈ l := by
 rw [getD_lt (by omega)]; exact List.getElem_mem _
theorem getD_set_eq {α : Type} {l : List α} {i : Int} {v d : α} (h0 : 0 ≤ i) (h1 : i < l.length) : (l.set i.toNat v).getD i.toNat d = v := by
 rw [List.getD_eq_getElem?_getD, List.getElem?_set_self (by omega)]; rfl
theorem getD_set_ne {α : Type} {l : List α} {i j : Int} {v d : α} (h0 : 0 ≤ i) (h1 : 0 ≤ j) (h : i ≠ j) : (l.set i.toNat v).getD j.toNat d = l.getD j.toNat d := by
 rw [List.getD_eq_getElem?_getD, List.getElem?_set_ne (by omega), ← List.getD_eq_getElem?_getD]
theorem getD_ext {α : Type} {l m : List α} (d : α) (h : l.length = m.length) (e : ∀ i : Int, 0 ≤ i → i < l.length → l.getD i.toNat d = m.getD i.toNat d) : l = m := by
 apply List.ext_getElem h
 intro i h1 h2
 have := e i (by omega) (by omega)
 rw [getD_lt (by simpa using h1), getD_lt (by simpa using h2)] at this
 simpa using this
theorem getD_map {α β : Type} (f : α → β) {l : List α} {i : Int} {d : α} {d' : β} (h0 : 0 ≤ i) (h1 : i < l.length) : (l.map f).getD i.toNat d' = f (l.getD i.toNat d) := by
 rw [getD_lt (by rw [List.length_map]; omega), getD_lt (by omega), List.getElem_map]

theorem szByteS_or {l : List Int} {left : Int} (h0 : 0 ≤ left) (h1 : left ≤ 1048576) (hm : l.length ≤ 9223372036854775807) :
  ∃ r, laws_szByteS.f l left = some r ∧ (r = -1 ∨ ((l.length : Int) ≤ left ∧ r = left - l.length)) := by
 simp only [laws_szByteS.f]
 rw [wrap64_id (by omega) (by omega)]
 by_cases h : left - (l.length : Int) < 0
 ·exact ⟨-1, if_pos h, .inl rfl⟩
 ·exact ⟨_, if_neg h, .inr ⟨by omega, rfl⟩⟩
theorem szTarget_or {l : List Int} {a b left : Int} (h0 : 0 ≤ left) (h1 : left ≤ 1048576) (hm : l.length ≤ 9223372036854775807) :
  ∃ r, laws_szTarget.f l a b left = some r ∧ (r = -1 ∨ ((l.length : Int) ≤ left ∧ r = left - l.length)) := by
 simp only [laws_szTarget.f]
 obtain ⟨r, e, q⟩ := szByteS_or (l := l) h0 h1 hm
 rw [e]; simp only [Option.bind_some]
 rcases q with rfl | ⟨a1, rfl⟩
 ·exact ⟨-1, if_pos (by omega), .inl rfl⟩
 ·exact ⟨_, if_neg (by omega), .inr ⟨a1, rfl⟩⟩
theorem szTargetS_loop (x0 : List S185) (hm : ∀ x ∈ x0, x.f0.length ≤ 9223372036854775807) (hl : x0.length ≤ 1048576) (d : Nat) : ∀ (left i : Int), 0 ≤ left → left ≤ 1048576 → 0 ≤ i → (x0.length : Int) - i = d →
  ∃ r, Ev (fun k => laws_szTargetS.l0 k x0 left i) r ∧ (r = -1 ∨ (0 ≤ r ∧ r ≤ left ∧ ∀ j : Int, i ≤ j → j < x0.length → ((rd_T185 x0 j).f0.length : Int) ≤ 1048576)) := by
 induction d with
 | zero =>
  intro left i l0 l1 h0 hd
  refine ⟨left, Ev.step (fun _ => rfl) ?_, .inr ⟨l0, Int.le_refl _, fun j a b => by omega⟩⟩
  simp only [laws_szTargetS.l0]
  exact ev_neg (by omega) (Ev.now _)
 | succ d ih =>
  intro left i l0 l1 h0 hd
  obtain ⟨r, e, q⟩ := szTarget_or (l := (rd_T185 x0 i).f0) (a := (rd_T185 x0 i).f1) (b := (rd_T185 x0 i).f2) l0 l1 (hm _ (getD_mem h0 (by omega)))
  rcases q with rfl | ⟨q, rfl⟩
  ·refine ⟨-1, Ev.step (fun _ => rfl) ?_, .inl rfl⟩
   simp only [laws_szTargetS.l0]
   refine ev_pos (by omega) (ev_pos (by omega) ?_)
   rw [e]
   exact ev_letv (ev_pos (by omega) (Ev.now _))
  ·obtain ⟨r', e', q'⟩ := ih (left - ((rd_T185 x0 i).f0.length : Int)) (i + 1) (by omega) (by omega) (by omega) (by omega)
   refine ⟨r', Ev.step (fun _ => rfl) ?_, ?_⟩
   ·simp only [laws_szTargetS.l0]
    refine ev_pos (by omega) (ev_pos (by omega) ?_)
    rw [e, wrap64_id (by omega) (by omega)]
    exact ev_letv (ev_neg (by omega) e')
   ·rcases q' with rfl | ⟨a, b, c⟩
    ·exact .inl rfl
    ·refine .inr ⟨a, by omega, fun j h1 h2 => ?_⟩
     by_cases hj : j = i
     ·subst hj; omega
     ·exact c j (by omega) h2
theorem szTargetS_or (x0 : List S185) (hm : ∀ x ∈ x0, x.f0.length ≤ 9223372036854775807) (hl : x0.length ≤ 9223372036854775807) {left : Int} (h0 : 0 ≤ left) (h1 : left ≤ 1048576) :
  ∃ r, Ev (fun k => laws_szTargetS.f k x0 left) r ∧ (r = -1 ∨ (0 ≤ r ∧ r ≤ left ∧ x0.length ≤ 1048576 ∧ ∀ j : Int, 0 ≤ j → j < x0.length → ((rd_T185 x0 j).f0.length : Int) ≤ 1048576)) := by
 simp only [laws_szTargetS.f]
 rw [wrap64_id (by omega) (by omega)]
 by_cases h : left - (x0.length : Int) < 0
 ·exact ⟨-1, ev_pos h (Ev.now _), .inl rfl⟩
 ·obtain ⟨r, e, q⟩ := szTargetS_loop x0 hm (by omega) x0.length (left - x0.length) 0 (by omega) (by omega) (by omega) (by omega)
  refine ⟨r, ev_neg h e, ?_⟩
  rcases q with rfl | ⟨a, b, c⟩
  ·exact .inl rfl
  ·exact .inr ⟨a, by omega, by omega, c⟩

theorem szIntS_or {l : List Int} {left : Int} (h0 : 0 ≤ left) (h1 : left ≤ 1048576) (hm : l.length ≤ 9223372036854775807) :
  ∃ r, laws_szIntS.f l left = some r ∧ (r = -1 ∨ ((l.length : Int) ≤ left ∧ r = left - l.length)) := by
 simp only [laws_szIntS.f]
 rw [wrap64_id (by omega) (by omega)]
 by_cases h : left - (l.length : Int) < 0
 ·exact ⟨-1, if_pos h, .inl rfl⟩
 ·exact ⟨_, if_neg h, .inr ⟨by omega, rfl⟩⟩

theorem szIntSS_loop (x0 : List (List Int)) (hm : ∀ x ∈ x0, x.length ≤ 9223372036854775807) (hl : x0.length ≤ 1048576) (d : Nat) : ∀ (left i : Int), 0 ≤ left → left ≤ 1048576 → 0 ≤ i → (x0.length : Int) - i = d →
  ∃ r, Ev (fun k => laws_szIntSS.l0 k x0 left i) r ∧ (r = -1 ∨ (0 ≤ r ∧ r ≤ left ∧ ∀ j : Int, i ≤ j → j < x0.length → ((rd_L4 x0 j).length : Int) ≤ 1048576)) := by
 induction d with
 | zero =>
  intro left i l0 l1 h0 hd
  refine ⟨left, Ev.step (fun _ => rfl) ?_, .inr ⟨l0, Int.le_refl _, fun j a b => by omega⟩⟩
  simp only [laws_szIntSS.l0]
  exact ev_neg (by omega) (Ev.now _)
 | succ d ih =>
  intro left i l0 l1 h0 hd
  obtain ⟨r, e, q⟩ := szIntS_or (l := rd_L4 x0 i) l0 l1 (hm _ (getD_mem h0 (by omega)))
  rcases q with rfl | ⟨q, rfl⟩
  ·refine ⟨-1, Ev.step (fun _ => rfl) ?_, .inl rfl⟩
   simp only [laws_szIntSS.l0]
   refine ev_pos (by omega) (ev_pos (by omega) ?_)
   rw [e]
   exact ev_letv (ev_pos (by omega) (Ev.now _))
  ·obtain ⟨r', e', q'⟩ := ih (left - ((rd_L4 x0 i).length : Int)) (i + 1) (by omega) (by omega) (by omega) (by omega)
   refine ⟨r', Ev.step (fun _ => rfl) ?_, ?_⟩
   ·simp only [laws_szIntSS.l0]
    refine ev_pos (by omega) (ev_pos (by omega) ?_)
    rw [e, wrap64_id (by omega) (by omega)]
    exact ev_letv (ev_neg (by omega) e')
   ·rcases q' with rfl | ⟨a, b, c⟩
    ·exact .inl rfl
    ·refine .inr ⟨a, by omega, fun j h1 h2 => ?_⟩
     by_cases hj : j = i
     ·subst hj; omega
     ·exact c j (by omega) h2
theorem szIntSS_or (x0 : List (List Int)) (hm : ∀ x ∈ x0, x.length ≤ 9223372036854775807) (hl : x0.length ≤ 9223372036854775807) {left : Int} (h0 : 0 ≤ left) (h1 : left ≤ 1048576) :
  ∃ r, Ev (fun k => laws_szIntSS.f k x0 left) r ∧ (r = -1 ∨ (0 ≤ r ∧ r ≤ left ∧ x0.length ≤ 1048576 ∧ ∀ j : Int, 0 ≤ j → j < x0.length → ((rd_L4 x0 j).length : Int) ≤ 1048576)) := by
 simp only [laws_szIntSS.f]
 rw [wrap64_id (by omega) (by omega)]
 by_cases h : left - (x0.length : Int) < 0
 ·exact ⟨-1, ev_pos h (Ev.now _), .inl rfl⟩
 ·obtain ⟨r, e, q⟩ := szIntSS_loop x0 hm (by omega) x0.length (left - x0.length) 0 (by omega) (by omega) (by omega) (by omega)
  refine ⟨r, ev_neg h e, ?_⟩
  rcases q with rfl | ⟨a, b, c⟩
  ·exact .inl rfl
  ·exact .inr ⟨a, by omega, by omega, c⟩

theorem szTables_or (w h : Int) (ts : List S185) (di ho : List (List Int)) (m0 : ∀ x ∈ ts, x.f0.length ≤ 9223372036854775807) (m1 : ts.length ≤ 9223372036854775807)
  (m2 : ∀ x ∈ di, x.length ≤ 9223372036854775807) (m3 : di.length ≤ 9223372036854775807) (m4 : ∀ x ∈ ho, x.length ≤ 9223372036854775807) (m5 : ho.length ≤ 9223372036854775807) :
  ∃ r, Ev (fun k => laws_szTables.f k w h ts di ho 1048576) r ∧ (r = -1 ∨ ((0 ≤ r ∧ r ≤ 1048576) ∧ (ts.length ≤ 1048576 ∧ ∀ j : Int, 0 ≤ j → j < ts.length → ((rd_T185 ts j).f0.length : Int) ≤ 1048576) ∧
   (di.length ≤ 1048576 ∧ ∀ j : Int, 0 ≤ j → j < di.length → ((rd_L4 di j).length : Int) ≤ 1048576) ∧ (ho.length ≤ 1048576 ∧ ∀ j : Int, 0 ≤ j → j < ho.length → ((rd_L4 ho j).length : Int) ≤ 1048576))) := by
 simp only [laws_szTables.f]
 obtain ⟨r1, e1, q1⟩ := szTargetS_or ts m0 m1 (left := 1048576) (by omega) (by omega)
 rcases q1 with rfl | ⟨a1, b1, c1⟩
 ·exact ⟨-1, Ev.bind e1 (ev_pos (by omega) (Ev.now _)), .inl rfl⟩
 obtain ⟨r2, e2, q2⟩ := szIntSS_or di m2 m3 a1 b1
 rcases q2 with rfl | ⟨a2, b2, c2⟩
 ·exact ⟨-1, Ev.bind e1 (ev_neg (by omega) (Ev.bind e2 (ev_pos (by omega) (Ev.now _)))), .inl rfl⟩
 obtain ⟨r3, e3, q3⟩ := szIntSS_or ho m4 m5 a2 (by omega)
 rcases q3 with rfl | ⟨a3, b3, c3⟩
 ·exact ⟨-1, Ev.bind e1 (ev_neg (by omega) (Ev.bind e2 (ev_neg (by omega) (Ev.bind e3 (ev_pos (by omega) (Ev.now _)))))), .inl rfl⟩
 exact ⟨r3, Ev.bind e1 (ev_neg (by omega) (Ev.bind e2 (ev_neg (by omega) (Ev.bind e3 (ev_neg (by omega) (Ev.now _)))))), .inr ⟨⟨a3, by omega⟩, c1, c2, c3⟩⟩

theorem toByteS_loop (x0 : List Int) (hb : x0.length ≤ 281474976710656) (d : Nat) : ∀ (x3 : List Int) (i : Int), 0 ≤ i → x3.length = x0.length → (x0.length : Int) - i = d →
  (∀ j : Int, 0 ≤ j → j < i → rd x3 j = rd x0 j) → Ev (fun k => laws_toByteS.l0 k x0 x3 i) x0 := by
 induction d with
 | zero =>
  intro x3 i h0 hl hd he
  refine Ev.step (fun _ => rfl) ?_
  simp only [laws_toByteS.l0]
  refine ev_neg (by omega) ?_
  have : x3 = x0 := rd_ext hl (fun j a b => he j a (by omega))
  rw [this]; exact Ev.now _
 | succ d ih =>
  intro x3 i h0 hl hd he
  refine Ev.step (fun _ => rfl) ?_
  simp only [laws_toByteS.l0]
  refine ev_pos (by omega) (ev_pos (by omega) (ev_pos (by omega) ?_))
  rw [wrap64_id (by omega) (by omega)]
  refine ih _ _ (by omega) (by simpa using hl) (by omega) ?_
  intro j a b
  by_cases e : j = i
  ·subst e; exact rd_set_eq (by omega) (by omega)
  ·rw [rd_set_ne (by omega) (by omega) (by omega)]; exact he j a (by omega)
theorem toByteS_ev (l : List Int) (hb : l.length ≤ 281474976710656) : Ev (fun k => laws_toByteS.f k l) l := by
 simp only [laws_toByteS.f]
 refine ev_pos (by omega) (ev_pos (by omega) ?_)
 exact toByteS_loop l hb l.length _ 0 (by omega) (by simp) (by omega) (fun j a b => by omega)

def convT (x : S185) : S120 := ⟨x.f0, x.f1, x.f2⟩
theorem toTarget_ev (l : List Int) (a b : Int) (hb : l.length ≤ 281474976710656) : Ev (fun k => laws_toTarget.f k l a b) (l, a, b) := by
 simp only [laws_toTarget.f]
 exact Ev.bind (toByteS_ev l hb) (Ev.now _)
theorem toTargetS_loop (x0 : List S185) (hl : x0.length ≤ 1048576) (hm : ∀ j : Int, 0 ≤ j → j < x0.length → ((rd_T185 x0 j).f0.length : Int) ≤ 1048576) (d : Nat) : ∀ (x3 : List S120) (i : Int), 0 ≤ i → x3.length = x0.length → (x0.length : Int) - i = d →
  (∀ j : Int, 0 ≤ j → j < i → rd_T120 x3 j = convT (rd_T185 x0 j)) → Ev (fun k => laws_toTargetS.l0 k x0 x3 i) (x0.map convT) := by
 induction d with
 | zero =>
  intro x3 i h0 hl' hd he
  refine Ev.step (fun _ => rfl) ?_
  simp only [laws_toTargetS.l0]
  refine ev_neg (by omega) ?_
  have : x3 = x0.map convT := getD_ext z120 (by rw [List.length_map]; omega) (fun j a b => by
   rw [getD_map convT (d := z185) a (by omega)]; exact he j a (by omega))
  rw [this]; exact Ev.now _
 | succ d ih =>
  intro x3 i h0 hl' hd he
  refine Ev.step (fun _ => rfl) ?_
  simp only [laws_toTargetS.l0]
  refine ev_pos (by omega) (ev_pos (by omega) (Ev.bind (toTarget_ev _ _ _ (by have := hm i h0 (by omega); omega)) (ev_pos (by omega) ?_)))
  rw [wrap64_id (by omega) (by omega)]
  refine ih _ _ (by omega) (by simpa using hl') (by omega) ?_
  intro j a b
  unfold rd_T120
  by_cases e : j = i
  ·subst e; rw [getD_set_eq (by omega) (by omega)]; rfl
  ·rw [getD_set_ne (by omega) (by omega) (by omega)]; exact he j a (by omega)
theorem toTargetS_ev (x0 : List S185) (hl : x0.length ≤ 1048576) (hm : ∀ j : Int, 0 ≤ j → j < x0.length → ((rd_T185 x0 j).f0.length : Int) ≤ 1048576) : Ev (fun k => laws_toTargetS.f k x0) (x0.map convT) := by
 simp only [laws_toTargetS.f]
 refine ev_pos (by omega) (ev_pos (by omega) ?_)
 exact toTargetS_loop x0 hl hm x0.length _ 0 (by omega) (by simp) (by omega) (fun j a b => by omega)

theorem toIntS_loop (x0 : List Int) (hb : x0.length ≤ 35184372088832) (d : Nat) : ∀ (x3 : List Int) (i : Int), 0 ≤ i → x3.length = x0.length → (x0.length : Int) - i = d →
  (∀ j : Int, 0 ≤ j → j < i → rd x3 j = rd x0 j) → Ev (fun k => laws_toIntS.l0 k x0 x3 i) x0 := by
 induction d with
 | zero =>
  intro x3 i h0 hl hd he
  refine Ev.step (fun _ => rfl) ?_
  simp only [laws_toIntS.l0]
  refine ev_neg (by omega) ?_
  have : x3 = x0 := rd_ext hl (fun j a b => he j a (by omega))
  rw [this]; exact Ev.now _
 | succ d ih =>
  intro x3 i h0 hl hd he
  refine Ev.step (fun _ => rfl) ?_
  simp only [laws_toIntS.l0]
  refine ev_pos (by omega) (ev_pos (by omega) (ev_pos (by omega) ?_))
  rw [wrap64_id (by omega) (by omega)]
  refine ih _ _ (by omega) (by simpa using hl) (by omega) ?_
  intro j a b
  by_cases e : j = i
  ·subst e; exact rd_set_eq (by omega) (by omega)
  ·rw [rd_set_ne (by omega) (by omega) (by omega)]; exact he j a (by omega)
theorem toIntS_ev (l : List Int) (hb : l.length ≤ 35184372088832) : Ev (fun k => laws_toIntS.f k l) l := by
 simp only [laws_toIntS.f]
 refine ev_pos (by omega) (ev_pos (by omega) ?_)
 exact toIntS_loop l hb l.length _ 0 (by omega) (by simp) (by omega) (fun j a b => by omega)

theorem toIntSS_loop (x0 : List (List Int)) (hl : x0.length ≤ 1048576) (hm : ∀ j : Int, 0 ≤ j → j < x0.length → ((rd_L4 x0 j).length : Int) ≤ 1048576) (d : Nat) : ∀ (x3 : List (List Int)) (i : Int), 0 ≤ i → x3.length = x0.length → (x0.length : Int) - i = d →
  (∀ j : Int, 0 ≤ j → j < i → rd_L4 x3 j = rd_L4 x0 j) → Ev (fun k => laws_toIntSS.l0 k x0 x3 i) x0 := by
 induction d with
 | zero =>
  intro x3 i h0 hl' hd he
  refine Ev.step (fun _ => rfl) ?_
  simp only [laws_toIntSS.l0]
  refine ev_neg (by omega) ?_
  have : x3 = x0 := getD_ext [] (by omega) (fun j a b => he j a (by omega))
  rw [this]; exact Ev.now _
 | succ d ih =>
  intro x3 i h0 hl' hd he
  refine Ev.step (fun _ => rfl) ?_
  simp only [laws_toIntSS.l0]
  refine ev_pos (by omega) (ev_pos (by omega) (Ev.bind (toIntS_ev _ (by have := hm i h0 (by omega); omega)) (ev_pos (by omega) ?_)))
  rw [wrap64_id (by omega) (by omega)]
  refine ih _ _ (by omega) (by simpa using hl') (by omega) ?_
  intro j a b
  unfold rd_L4
  by_cases e : j = i
  ·subst e; first | exact getD_set_eq (by omega) (by omega) | (rw [getD_set_eq (by omega) (by omega)]; rfl)
  ·rw [getD_set_ne (by omega) (by omega) (by omega)]; exact he j a (by omega)
theorem toIntSS_ev (x0 : List (List Int)) (hl : x0.length ≤ 1048576) (hm : ∀ j : Int, 0 ≤ j → j < x0.length → ((rd_L4 x0 j).length : Int) ≤ 1048576) : Ev (fun k => laws_toIntSS.f k x0) x0 := by
 simp only [laws_toIntSS.f]
 refine ev_pos (by omega) (ev_pos (by omega) ?_)
 exact toIntSS_loop x0 hl hm x0.length _ 0 (by omega) (by simp) (by omega) (fun j a b => by omega)

theorem toTables_ev (w h : Int) (ts : List S185) (di ho : List (List Int)) (c1 : ts.length ≤ 1048576 ∧ ∀ j : Int, 0 ≤ j → j < ts.length → ((rd_T185 ts j).f0.length : Int) ≤ 1048576)
  (c2 : di.length ≤ 1048576 ∧ ∀ j : Int, 0 ≤ j → j < di.length → ((rd_L4 di j).length : Int) ≤ 1048576) (c3 : ho.length ≤ 1048576 ∧ ∀ j : Int, 0 ≤ j → j < ho.length → ((rd_L4 ho j).length : Int) ≤ 1048576) :
  Ev (fun k => laws_toTables.f k w h ts di ho) (w, h, ts.map convT, di, ho) := by
 simp only [laws_toTables.f]
 exact Ev.bind (toTargetS_ev ts c1.1 c1.2) (Ev.bind (toIntSS_ev di c2.1 c2.2) (Ev.bind (toIntSS_ev ho c3.1 c3.2) (Ev.now _)))

theorem eqByteS_loop (a b : List Int) (hl : a.length = b.length) (hb : a.length ≤ 9223372036854775800) (d : Nat) : ∀ (i : Int), 0 ≤ i → (a.length : Int) - i = d →
  (∀ j : Int, 0 ≤ j → j < i → rd a j = rd b j) → Ev (fun k => laws_eqByteS.l0 k a b i) (decide (a = b)) := by
 induction d with
 | zero =>
  intro i h0 hd he
  refine Ev.step (fun _ => rfl) ?_
  simp only [laws_eqByteS.l0]
  refine ev_neg (by omega) ?_
  have : a = b := rd_ext hl (fun j p q => he j p (by omega))
  rw [decide_eq_true this]; exact Ev.now _
 | succ d ih =>
  intro i h0 hd he
  refine Ev.step (fun _ => rfl) ?_
  simp only [laws_eqByteS.l0]
  refine ev_pos (by omega) (ev_pos (by omega) (ev_pos (by omega) (ev_ite (fun e => ?_) (fun e => ?_))))
  ·rw [wrap64_id (by omega) (by omega)]
   refine ih _ (by omega) (by omega) ?_
   intro j p q
   by_cases e' : j = i
   ·subst e'; exact e
   ·exact he j p (by omega)
  ·have : a ≠ b := fun h => e (by rw [h])
   rw [decide_eq_false this]; exact Ev.now _
theorem eqByteS_ev (a b : List Int) (hb : a.length ≤ 9223372036854775800) : Ev (fun k => laws_eqByteS.f k a b) (decide (a = b)) := by
 simp only [laws_eqByteS.f]
 refine ev_ite (fun e => ?_) (fun e => ?_)
 ·exact eqByteS_loop a b (by omega) hb a.length 0 (by omega) (by omega) (fun j p q => by omega)
 ·have : a ≠ b := fun h => e (by rw [h])
  rw [decide_eq_false this]; exact Ev.now _
theorem eqByteS_self (a : List Int) (hb : a.length ≤ 9223372036854775800) : Ev (fun k => laws_eqByteS.f k a a) true := by
 have := eqByteS_ev a a hb
 rwa [decide_eq_true rfl] at this

theorem eqIntS_loop (a b : List Int) (hl : a.length = b.length) (hb : a.length ≤ 9223372036854775800) (d : Nat) : ∀ (i : Int), 0 ≤ i → (a.length : Int) - i = d →
  (∀ j : Int, 0 ≤ j → j < i → rd a j = rd b j) → Ev (fun k => laws_eqIntS.l0 k a b i) (decide (a = b)) := by
 induction d with
 | zero =>
  intro i h0 hd he
  refine Ev.step (fun _ => rfl) ?_
  simp only [laws_eqIntS.l0]
  refine ev_neg (by omega) ?_
  have : a = b := rd_ext hl (fun j p q => he j p (by omega))
  rw [decide_eq_true this]; exact Ev.now _
 | succ d ih =>
  intro i h0 hd he
  refine Ev.step (fun _ => rfl) ?_
  simp only [laws_eqIntS.l0]
  refine ev_pos (by omega) (ev_pos (by omega) (ev_pos (by omega) (ev_ite (fun e => ?_) (fun e => ?_))))
  ·rw [wrap64_id (by omega) (by omega)]
   refine ih _ (by omega) (by omega) ?_
   intro j p q
   by_cases e' : j = i
   ·subst e'; exact e
   ·exact he j p (by omega)
  ·have : a ≠ b := fun h => e (by rw [h])
   rw [decide_eq_false this]; exact Ev.now _
theorem eqIntS_ev (a b : List Int) (hb : a.length ≤ 9223372036854775800) : Ev (fun k => laws_eqIntS.f k a b) (decide (a = b)) := by
 simp only [laws_eqIntS.f]
 refine ev_ite (fun e => ?_) (fun e => ?_)
 ·exact eqIntS_loop a b (by omega) hb a.length 0 (by omega) (by omega) (fun j p q => by omega)
 ·have : a ≠ b := fun h => e (by rw [h])
  rw [decide_eq_false this]; exact Ev.now _
theorem eqIntS_self (a : List Int) (hb : a.length ≤ 9223372036854775800) : Ev (fun k => laws_eqIntS.f k a a) true := by
 have := eqIntS_ev a a hb
 rwa [decide_eq_true rfl] at this

theorem eqTarget_self (l : List Int) (a b : Int) (hb : l.length ≤ 1048576) : Ev (fun k => laws_eqTarget.f k l a b l a b) true := by
 simp only [laws_eqTarget.f]
 exact Ev.bind (eqByteS_self l (by omega)) (ev_pos (by trivial) (ev_pos (by trivial) (ev_pos (by trivial) (Ev.now _))))
theorem eqTargetS_loop (x0 : List S120) (hl : x0.length ≤ 1048576) (hm : ∀ j : Int, 0 ≤ j → j < x0.length → ((rd_T120 x0 j).f0.length : Int) ≤ 1048576) (d : Nat) : ∀ (i : Int), 0 ≤ i → (x0.length : Int) - i = d → Ev (fun k => laws_eqTargetS.l0 k x0 x0 i) true := by
 induction d with
 | zero =>
  intro i h0 hd
  refine Ev.step (fun _ => rfl) ?_
  simp only [laws_eqTargetS.l0]
  exact ev_neg (by omega) (Ev.now _)
 | succ d ih =>
  intro i h0 hd
  refine Ev.step (fun _ => rfl) ?_
  simp only [laws_eqTargetS.l0]
  refine ev_pos (by omega) (ev_pos (by omega) (ev_pos (by omega) (Ev.bind (eqTarget_self _ _ _ (by have := hm i h0 (by omega); omega)) (ev_pos (by trivial) ?_))))
  rw [wrap64_id (by omega) (by omega)]
  exact ih _ (by omega) (by omega)
theorem eqTargetS_self (x0 : List S120) (hl : x0.length ≤ 1048576) (hm : ∀ j : Int, 0 ≤ j → j < x0.length → ((rd_T120 x0 j).f0.length : Int) ≤ 1048576) : Ev (fun k => laws_eqTargetS.f k x0 x0) true := by
 simp only [laws_eqTargetS.f]
 exact ev_pos (by trivial) (eqTargetS_loop x0 hl hm x0.length 0 (by omega) (by omega))

theorem eqIntSS_loop (x0 : List (List Int)) (hl : x0.length ≤ 1048576) (hm : ∀ j : Int, 0 ≤ j → j < x0.length → ((rd_L4 x0 j).length : Int) ≤ 1048576) (d : Nat) : ∀ (i : Int), 0 ≤ i → (x0.length : Int) - i = d → Ev (fun k => laws_eqIntSS.l0 k x0 x0 i) true := by
 induction d with
 | zero =>
  intro i h0 hd
  refine Ev.step (fun _ => rfl) ?_
  simp only [laws_eqIntSS.l0]
  exact ev_neg (by omega) (Ev.now _)
 | succ d ih =>
  intro i h0 hd
  refine Ev.step (fun _ => rfl) ?_
  simp only [laws_eqIntSS.l0]
  refine ev_pos (by omega) (ev_pos (by omega) (ev_pos (by omega) (Ev.bind (eqIntS_self _ (by have := hm i h0 (by omega); omega)) (ev_pos (by trivial) ?_))))
  rw [wrap64_id (by omega) (by omega)]
  exact ih _ (by omega) (by omega)
theorem eqIntSS_self (x0 : List (List Int)) (hl : x0.length ≤ 1048576) (hm : ∀ j : Int, 0 ≤ j → j < x0.length → ((rd_L4 x0 j).length : Int) ≤ 1048576) : Ev (fun k => laws_eqIntSS.f k x0 x0) true := by
 simp only [laws_eqIntSS.f]
 exact ev_pos (by trivial) (eqIntSS_loop x0 hl hm x0.length 0 (by omega) (by omega))
theorem eqTables_self (w h : Int) (ts : List S120) (di ho : List (List Int)) (c1 : ts.length ≤ 1048576 ∧ ∀ j : Int, 0 ≤ j → j < ts.length → ((rd_T120 ts j).f0.length : Int) ≤ 1048576)
  (c2 : di.length ≤ 1048576 ∧ ∀ j : Int, 0 ≤ j → j < di.length → ((rd_L4 di j).length : Int) ≤ 1048576) (c3 : ho.length ≤ 1048576 ∧ ∀ j : Int, 0 ≤ j → j < ho.length → ((rd_L4 ho j).length : Int) ≤ 1048576) :
  Ev (fun k => laws_eqTables.f k w h ts di ho w h ts di ho) true := by
 simp only [laws_eqTables.f]
 exact ev_pos (by trivial) (ev_pos (by trivial) (Ev.bind (eqTargetS_self ts c1.1 c1.2) (ev_pos (by trivial) (Ev.bind (eqIntSS_self di c2.1 c2.2) (ev_pos (by trivial) (Ev.bind (eqIntSS_self ho c3.1 c3.2) (ev_pos (by trivial) (Ev.now _))))))))

open Classical in
noncomputable def allB (S : Int → Prop) (i n : Int) : Bool := decide (∀ j : Int, i ≤ j → j < n → S j)
open Classical in
theorem allB_end {S : Int → Prop} {i n : Int} (h : ¬ i < n) : allB S i n = true := by unfold allB; exact decide_eq_true (fun j a b => by omega)
open Classical in
theorem allB_no {S : Int → Prop} {i n : Int} (h0 : i < n) (h : ¬ S i) : allB S i n = false := by unfold allB; exact decide_eq_false (fun q => h (q i (by omega) h0))
open Classical in
theorem allB_yes {S : Int → Prop} {i n : Int} (h : S i) : allB S i n = allB S (i + 1) n := by
 unfold allB
 rw [decide_eq_decide]
 refine ⟨fun q j a b => q j (by omega) b, fun q j a b => ?_⟩
 by_cases e : j = i
 ·subst e; exact h
 ·exact q j (by omega) b
open Classical in
theorem allB_iff {S : Int → Prop} {i n : Int} : allB S i n = true ↔ ∀ j : Int, i ≤ j → j < n → S j := by unfold allB; exact decide_eq_true_iff
theorem cmp_ge : ∀ x y : List UInt8, decide (0 ≤ Lib.compareBytes x y) = !Op.bytesLess x y
 | [], [] => by simp [Lib.compareBytes, Op.bytesLess]
 | [], _ :: _ => by simp [Lib.compareBytes, Op.bytesLess]
 | _ :: _, [] => by simp [Lib.compareBytes, Op.bytesLess]
 | a :: x, b :: y => by
  rw [Lib.compareBytes, Op.bytesLess]
  by_cases h1 : a < b
  ·simp [h1]
  ·rw [if_neg h1]
   by_cases h2 : b < a
   ·rw [if_pos h2]
    have : (a == b) = false := by
     rw [beq_eq_false_iff_ne]; intro e; subst e; exact h1 h2
    simp [h1, this]
   ·rw [if_neg h2, cmp_ge x y]
    have : a = b := by
     have h1' : ¬ a.toNat < b.toNat := fun h => h1 (UInt8.lt_iff_toNat_lt.2 h)
     have h2' : ¬ b.toNat < a.toNat := fun h => h2 (UInt8.lt_iff_toNat_lt.2 h)
     exact UInt8.toNat_inj.1 (by omega)
    simp [h1, this]

theorem l1point_eq (v : Int) : spec_l1point.f v = some (decide (0 ≤ v ∧ v ≤ 1114111 ∧ (v < 55296 ∨ v > 57343))) := by
 unfold spec_l1point.f
 by_cases h1 : v ≥ 0
 ·rw [if_pos h1]
  by_cases h2 : v ≤ 1114111
  ·rw [if_pos h2]
   by_cases h3 : v < 55296
   ·rw [if_pos h3, decide_eq_true (by omega)]
   ·rw [if_neg h3]; congr 1; rw [decide_eq_decide]; omega
  ·rw [if_neg h2, decide_eq_false (by omega)]
 ·rw [if_neg h1, decide_eq_false (by omega)]
def ulen (v : Int) : Int := if v < 128 then 1 else if v < 2048 then 2 else if v < 65536 then 3 else 4
theorem l1utf8_len (v : Int) : ∃ u, spec_l1utf8.f v = some u ∧ (u.length : Int) = ulen v := by
 unfold spec_l1utf8.f ulen
 by_cases h1 : v < 128
 ·rw [if_pos h1, if_pos h1]; exact ⟨_, rfl, rfl⟩
 rw [if_neg h1, if_neg h1]
 by_cases h2 : v < 2048
 ·rw [if_pos h2, if_pos h2]; exact ⟨_, rfl, rfl⟩
 rw [if_neg h2, if_neg h2]
 by_cases h3 : v < 65536
 ·rw [if_pos h3, if_pos h3]; exact ⟨_, rfl, rfl⟩
 rw [if_neg h3, if_neg h3]; exact ⟨_, rfl, rfl⟩
theorem l1char_end (l : List Int) (i n v j : Int) (hj : ¬ j < n) : Ev (fun k => spec_l1char.l0 k l i n v j) (if (0 ≤ v ∧ v ≤ 1114111 ∧ (v < 55296 ∨ v > 57343)) ∧ ulen v = n then (n, v) else (0, 0)) := by
 refine Ev.step (fun _ => rfl) ?_
 simp only [spec_l1char.l0]
 refine ev_neg hj ?_
 rw [l1point_eq]
 refine ev_letv (ev_ite (fun e => ?_) (fun e => ?_))
 ·have e := of_decide_eq_true e
  obtain ⟨u, hu, hl⟩ := l1utf8_len v
  rw [hu]
  refine ev_letv (ev_ite (fun f => ?_) (fun f => ?_))
  ·rw [if_pos ⟨e, by omega⟩]; exact Ev.now _
  ·rw [if_neg (fun h => f (by omega))]; exact Ev.now _
 ·have e := of_decide_eq_false (Bool.eq_false_iff.2 e)
  rw [if_neg (fun h => e h.1)]; exact Ev.now _
theorem l1char_bad (l : List Int) (hb : Bytes l) (i n v j : Int) (h0 : 0 ≤ i) (j0 : 0 ≤ j) (hj : j < n) (hi : i + j < l.length) (hl : l.length ≤ 9000000000) (hc : rd l (i + j) / 64 ≠ 2) : Ev (fun k => spec_l1char.l0 k l i n v j) (0, 0) := by
 have hr := hb (i + j) (by omega) hi
 refine Ev.step (fun _ => rfl) ?_
 simp only [spec_l1char.l0]
 simp (disch := omega) only [wrap64_id]
 refine ev_pos hj (ev_pos (by omega) (ev_pos (by omega) (ev_ite (fun e => Ev.now _) (fun e => ?_))))
 exact ev_pos (by omega) (Ev.now _)
theorem l1char_go {R : Int × Int} (l : List Int) (hb : Bytes l) (i n v j : Int) (h0 : 0 ≤ i) (j0 : 0 ≤ j) (hj : j < n) (hi : i + j < l.length) (hl : l.length ≤ 9000000000) (hc : rd l (i + j) / 64 = 2) (v0 : 0 ≤ v) (v1 : v ≤ 99999999)
  (h : Ev (fun k => spec_l1char.l0 k l i n (v * 64 + rd l (i + j) % 64) (j + 1)) R) (hn : n ≤ 10) : Ev (fun k => spec_l1char.l0 k l i n v j) R := by
 have hr := hb (i + j) (by omega) hi
 refine Ev.step (fun _ => rfl) ?_
 simp only [spec_l1char.l0]
 simp (disch := omega) only [wrap64_id]
 refine ev_pos hj (ev_pos (by omega) (ev_pos (by omega) (ev_neg (by omega) (ev_neg (by omega) ?_))))
 rw [show v * 64 + rd l (i + j) - 128 = v * 64 + rd l (i + j) % 64 by omega]
 exact h
theorem spec_l1char_ev (l : List Int) (hb : Bytes l) (hl : l.length ≤ 9000000000) (i : Int) (h0 : 0 ≤ i) (h1 : i < l.length) : Ev (fun k => spec_l1char.f k l i) (chr l i) := by
 rw [chr_eq hb h0 h1]
 have r0 := hb i h0 h1
 simp only [spec_l1char.f]
 simp (disch := omega) only [wrap64_id]
 refine ev_pos h0 (ev_pos h1 ?_)
 unfold chrZ
 refine ev_ite (fun c0 => ?_) (fun c0 => ?_)
 ·rw [if_pos c0]; exact Ev.now _
 rw [if_neg c0]
 have three : ∀ n v R, (n = 0 ∨ i + n > l.length → Ev (fun _ => some (0, 0)) R) → (¬ (n = 0 ∨ i + n > l.length) → Ev (fun k => spec_l1char.l0 k l i n v 1) R) → 0 ≤ n → n ≤ 4 → Ev (fun k => spec_l1char.j2 k l i n v) R := by
  intro n v R hA hB n0 n4
  have ja : (n = 0 ∨ i + n > l.length) → Ev (fun k => spec_l1char.j3 k l i n v true) R := by
   intro h
   refine Ev.step (fun _ => rfl) ?_
   simp only [spec_l1char.j3]
   exact ev_pos (by trivial) (hA h)
  refine Ev.step (fun _ => rfl) ?_
  simp only [spec_l1char.j2]
  simp (disch := omega) only [wrap64_id]
  refine ev_ite (fun c => ja (.inl c)) (fun c => ?_)
  by_cases d : i + n > l.length
  ·rw [decide_eq_true d]; exact ja (.inr d)
  ·rw [decide_eq_false d]
   refine Ev.step (fun _ => rfl) ?_
   simp only [spec_l1char.j3]
   exact ev_neg (by simp) (hB (by omega))
 refine ev_ite (fun c1 => ?_) (fun c1 => ?_)
 ·by_cases c2 : rd l i < 224
  ·rw [decide_eq_true c2]
   refine Ev.step (fun _ => rfl) ?_
   simp only [spec_l1char.j0]
   refine ev_pos (by trivial) ?_
   simp (disch := omega) only [wrap64_id]
   refine three 2 _ _ (fun h => ?_) (fun h => ?_) (by omega) (by omega)
   ·rw [if_neg (by omega), if_neg (by omega), if_neg (by omega)]; exact Ev.now _
   ·by_cases d : rd l (i + 1) / 64 = 2
    ·rw [if_pos (by omega)]
     refine l1char_go l hb i 2 _ 1 h0 (by omega) (by omega) (by omega) hl d (by omega) (by omega) ?_ (by omega)
     have := l1char_end l i 2 ((rd l i - 192) * 64 + rd l (i + 1) % 64) (1 + 1) (by omega)
     rw [show (rd l i - 192) * 64 + rd l (i + 1) % 64 = rd l i % 32 * 64 + rd l (i + 1) % 64 by omega] at this ⊢
     by_cases q : rd l i % 32 * 64 + rd l (i + 1) % 64 ≥ 128
     ·rw [if_pos q]
      rwa [if_pos ⟨by omega, by unfold ulen; rw [if_neg (by omega), if_pos (by omega)]⟩] at this
     ·rw [if_neg q]
      rwa [if_neg (fun h => by have := h.2; unfold ulen at this; rw [if_pos (by omega)] at this; omega)] at this
    ·rw [if_neg (by omega), if_neg (by omega), if_neg (by omega)]
     exact l1char_bad l hb i 2 _ 1 h0 (by omega) (by omega) (by omega) hl d
  ·rw [decide_eq_false c2]
   refine Ev.step (fun _ => rfl) ?_
   simp only [spec_l1char.j0]
   refine ev_neg (by simp) (ev_pos (by omega) ?_)
   by_cases c3 : rd l i < 240
   ·rw [decide_eq_true c3]
    refine Ev.step (fun _ => rfl) ?_
    simp only [spec_l1char.j1]
    refine ev_pos (by trivial) ?_
    simp (disch := omega) only [wrap64_id]
    refine three 3 _ _ (fun h => ?_) (fun h => ?_) (by omega) (by omega)
    ·rw [if_neg (by omega), if_neg (by omega), if_neg (by omega)]; exact Ev.now _
    ·rw [if_neg (by omega)]
     by_cases d : rd l (i + 1) / 64 = 2
     ·refine l1char_go l hb i 3 _ 1 h0 (by omega) (by omega) (by omega) hl d (by omega) (by omega) ?_ (by omega)
      rw [show (1 : Int) + 1 = 2 by omega]
      by_cases d2 : rd l (i + 2) / 64 = 2
      ·rw [if_pos (by omega)]
       refine l1char_go l hb i 3 _ 2 h0 (by omega) (by omega) (by omega) hl d2 (by omega) (by omega) ?_ (by omega)
       have := l1char_end l i 3 (((rd l i - 224) * 64 + rd l (i + 1) % 64) * 64 + rd l (i + 2) % 64) (2 + 1) (by omega)
       rw [show ((rd l i - 224) * 64 + rd l (i + 1) % 64) * 64 + rd l (i + 2) % 64 = rd l i % 16 * 4096 + rd l (i + 1) % 64 * 64 + rd l (i + 2) % 64 by omega] at this ⊢
       by_cases q : rd l i % 16 * 4096 + rd l (i + 1) % 64 * 64 + rd l (i + 2) % 64 ≥ 2048 ∧ (rd l i % 16 * 4096 + rd l (i + 1) % 64 * 64 + rd l (i + 2) % 64 < 55296 ∨ 57344 ≤ rd l i % 16 * 4096 + rd l (i + 1) % 64 * 64 + rd l (i + 2) % 64)
       ·rw [if_pos q]
        rwa [if_pos ⟨by omega, by unfold ulen; rw [if_neg (by omega), if_neg (by omega), if_pos (by omega)]⟩] at this
       ·rw [if_neg q]
        rwa [if_neg (fun h => by have h2 := h.2; have h1 := h.1; unfold ulen at h2; split at h2; omega; split at h2 <;> omega)] at this
      ·rw [if_neg (by omega), if_neg (by omega)]
       exact l1char_bad l hb i 3 _ 2 h0 (by omega) (by omega) (by omega) hl d2
     ·rw [if_neg (by omega), if_neg (by omega)]
      exact l1char_bad l hb i 3 _ 1 h0 (by omega) (by omega) (by omega) hl d
   ·rw [decide_eq_false c3]
    refine Ev.step (fun _ => rfl) ?_
    simp only [spec_l1char.j1]
    refine ev_neg (by simp) (ev_pos (by omega) (ev_ite (fun c4 => ?_) (fun c4 => ?_)))
    ·simp (disch := omega) only [wrap64_id]
     rw [if_neg (by omega), if_neg (by omega)]
     refine three 4 _ _ (fun h => ?_) (fun h => ?_) (by omega) (by omega)
     ·rw [if_neg (by omega)]; exact Ev.now _
     ·by_cases d : rd l (i + 1) / 64 = 2
      ·refine l1char_go l hb i 4 _ 1 h0 (by omega) (by omega) (by omega) hl d (by omega) (by omega) ?_ (by omega)
       rw [show (1 : Int) + 1 = 2 by omega]
       by_cases d2 : rd l (i + 2) / 64 = 2
       ·refine l1char_go l hb i 4 _ 2 h0 (by omega) (by omega) (by omega) hl d2 (by omega) (by omega) ?_ (by omega)
        rw [show (2 : Int) + 1 = 3 by omega]
        by_cases d3 : rd l (i + 3) / 64 = 2
        ·rw [if_pos (by omega)]
         refine l1char_go l hb i 4 _ 3 h0 (by omega) (by omega) (by omega) hl d3 (by omega) (by omega) ?_ (by omega)
         have := l1char_end l i 4 ((((rd l i - 240) * 64 + rd l (i + 1) % 64) * 64 + rd l (i + 2) % 64) * 64 + rd l (i + 3) % 64) (3 + 1) (by omega)
         rw [show (((rd l i - 240) * 64 + rd l (i + 1) % 64) * 64 + rd l (i + 2) % 64) * 64 + rd l (i + 3) % 64 = rd l i % 8 * 262144 + rd l (i + 1) % 64 * 4096 + rd l (i + 2) % 64 * 64 + rd l (i + 3) % 64 by omega] at this ⊢
         by_cases q : rd l i % 8 * 262144 + rd l (i + 1) % 64 * 4096 + rd l (i + 2) % 64 * 64 + rd l (i + 3) % 64 ≥ 65536 ∧ rd l i % 8 * 262144 + rd l (i + 1) % 64 * 4096 + rd l (i + 2) % 64 * 64 + rd l (i + 3) % 64 ≤ 1114111
         ·rw [if_pos q]
          rwa [if_pos ⟨by omega, by unfold ulen; rw [if_neg (by omega), if_neg (by omega), if_neg (by omega)]⟩] at this
         ·rw [if_neg q]
          rwa [if_neg (fun h => by have h2 := h.2; have h1 := h.1; unfold ulen at h2; split at h2; omega; split at h2; omega; split at h2 <;> omega)] at this
        ·rw [if_neg (by omega)]
         exact l1char_bad l hb i 4 _ 3 h0 (by omega) (by omega) (by omega) hl d3
       ·rw [if_neg (by omega)]
        exact l1char_bad l hb i 4 _ 2 h0 (by omega) (by omega) (by omega) hl d2
      ·rw [if_neg (by omega)]
       exact l1char_bad l hb i 4 _ 1 h0 (by omega) (by omega) (by omega) hl d
    ·rw [if_neg (by omega), if_neg (by omega), if_neg (by omega)]
     exact three 0 0 _ (fun h => Ev.now _) (fun h => absurd (.inl rfl) h) (by omega) (by omega)
 ·refine Ev.step (fun _ => rfl) ?_
  simp only [spec_l1char.j0]
  refine ev_neg (by simp) (ev_neg (by omega) ?_)
  refine Ev.step (fun _ => rfl) ?_
  simp only [spec_l1char.j1]
  refine ev_neg (by simp) (ev_neg (by omega) ?_)
  rw [if_neg (by omega), if_neg (by omega), if_neg (by omega)]
  exact three 0 0 _ (fun h => Ev.now _) (fun h => absurd (.inl rfl) h) (by omega) (by omega)

theorem DecodeRune_at {l : List Int} (hb : Bytes l) {i : Int} (h0 : 0 ≤ i) (h1 : i < l.length) : utf8_DecodeRune.f (l.drop i.toNat) = some (decI (l.drop i.toNat)) := by
 unfold utf8_DecodeRune.f
 rw [if_neg (by rw [List.length_drop]; omega), if_pos (bytesB_of (hb.drop _))]
theorem chr_pos {l : List Int} (hb : Bytes l) {i : Int} (h0 : 0 ≤ i) (h1 : i < l.length) (h : ¬ (chr l i).1 = 0) : 1 ≤ (chr l i).1 ∧ (chr l i).1 ≤ 4 ∧ i + (chr l i).1 ≤ l.length := by
 rw [chr_eq hb h0 h1] at h ⊢
 unfold chrZ at h ⊢
 split at h
 ·rename_i c; rw [if_pos c]; simp only; omega
 ·rename_i c; rw [if_neg c]
  split at h
  ·rename_i c; rw [if_pos c]
   split at h
   ·rename_i c2; rw [if_pos c2]; simp only; omega
   ·simp at h
  ·rename_i c; rw [if_neg c]
   split at h
   ·rename_i c; rw [if_pos c]
    split at h
    ·rename_i c2; rw [if_pos c2]; simp only; omega
    ·simp at h
   ·rename_i c; rw [if_neg c]
    split at h
    ·rename_i c; rw [if_pos c]
     split at h
     ·rename_i c2; rw [if_pos c2]; simp only; omega
     ·simp at h
    ·simp at h

def checkFrom (l : List Int) : Nat → Int → Int × Int
 | 0, _ => (0, 0)
 | d + 1, i => if i < l.length then (if (chr l i).1 = 0 then (2, i) else checkFrom l d (i + (chr l i).1)) else (0, 0)
def checkRes (l : List Int) : Int × Int := checkFrom l (l.length + 1) 0
theorem spec_check_loop (l : List Int) (hb : Bytes l) (hl : l.length ≤ 9000000000) (d : Nat) : ∀ i : Int, 0 ≤ i → i ≤ l.length → (l.length : Int) - i < d → Ev (fun k => spec_CheckText.l0 k l i) (checkFrom l d i) := by
 induction d with
 | zero => intro i h0 h1 hd; omega
 | succ d ih =>
  intro i h0 h1 hd
  refine Ev.step (fun _ => rfl) ?_
  simp only [spec_CheckText.l0, checkFrom]
  refine ev_ite (fun c => ?_) (fun c => ?_)
  ·rw [if_pos c]
   refine Ev.bind (spec_l1char_ev l hb hl i h0 c) (ev_ite (fun e => ?_) (fun e => ?_))
   ·rw [if_pos e]; exact Ev.now _
   ·have := chr_pos hb h0 c e
    rw [if_neg e, wrap64_id (by omega) (by omega)]
    exact ih _ (by omega) (by omega) (by omega)
  ·rw [if_neg c]; exact Ev.now _
theorem spec_CheckText_ev (l : List Int) (hb : Bytes l) (hl : l.length ≤ 9000000000) : Ev (fun k => spec_CheckText.f k l) (checkRes l) := by
 simp only [spec_CheckText.f]
 exact spec_check_loop l hb hl (l.length + 1) 0 (by omega) (by omega) (by omega)

theorem impl_check_loop (l : List Int) (hb : Bytes l) (hl : l.length ≤ 9000000000) (d : Nat) : ∀ i : Int, 0 ≤ i → i ≤ l.length → (l.length : Int) - i < d → Ev (fun k => impl_CheckText.l0 k l i) (checkFrom l d i) := by
 induction d with
 | zero => intro i h0 h1 hd; omega
 | succ d ih =>
  intro i h0 h1 hd
  refine Ev.step (fun _ => rfl) ?_
  simp only [impl_CheckText.l0, checkFrom]
  refine ev_ite (fun c => ?_) (fun c => ?_)
  ·rw [if_pos c]
   refine ev_pos h0 (ev_pos h1 ?_)
   rw [DecodeRune_at hb h0 c]
   refine ev_letv ?_
   have hgo : ¬ ((decI (l.drop i.toNat)).1 = 65533 ∧ (decI (l.drop i.toNat)).2 ≤ 1) → Ev (fun k => impl_CheckText.l0 k l (wrap64 (i + (decI (l.drop i.toNat)).2))) (if (chr l i).1 = 0 then (2, i) else checkFrom l d (i + (chr l i).1)) := by
    intro hn
    have e : (chr l i).1 = (decI (l.drop i.toNat)).2 := by unfold chr; rw [if_neg hn]
    have hz : ¬ (chr l i).1 = 0 := by
     intro hz
     have hq := chr_eq hb h0 c
     rw [decI_drop h0 c] at hn
     have hw := chrZ_nat (l.length - i.toNat) (rd l i).toNat (rd l (i + 1)).toNat (rd l (i + 2)).toNat (rd l (i + 3)).toNat
     rw [if_neg hn] at hw
     rw [e, decI_drop h0 c] at hz
     simp only at hz
     unfold Lib.decodeN at hz
     repeat' split at hz
     all_goals simp at hz
    have := chr_pos hb h0 c hz
    rw [if_neg hz, ← e, wrap64_id (by omega) (by omega)]
    exact ih _ (by omega) (by omega) (by omega)
   refine ev_ite (fun e1 => ev_ite (fun e2 => ?_) (fun e2 => hgo (fun h => e2 h.2))) (fun e1 => hgo (fun h => e1 h.1))
   have e : (chr l i).1 = 0 := by unfold chr; rw [if_pos ⟨e1, e2⟩]
   rw [if_pos e]; exact Ev.now _
  ·rw [if_neg c]; exact Ev.now _
theorem impl_CheckText_ev (l : List Int) (hb : Bytes l) (hl : l.length ≤ 9000000000) : Ev (fun k => impl_CheckText.f k l) (checkRes l) := by
 simp only [impl_CheckText.f]
 exact impl_check_loop l hb hl (l.length + 1) 0 (by omega) (by omega) (by omega)

structure TOK1 (ts : List S120) (cells i : Int) : Prop where
 n1 : 1 ≤ ((rd_T120 ts i).f0.length : Int)
 n2 : ((rd_T120 ts i).f0.length : Int) ≤ 60
 good : (checkRes (rd_T120 ts i).f0).1 = 0
 k0 : 0 ≤ (rd_T120 ts i).f1
 k1 : (rd_T120 ts i).f1 ≤ 1
 c0 : 0 ≤ (rd_T120 ts i).f2
 c1 : (rd_T120 ts i).f2 < cells
 order : 0 < i → Op.bytesLess (Lib.bytesOf (rd_T120 ts (i - 1)).f0) (Lib.bytesOf (rd_T120 ts i).f0) = true
 once : ∀ j : Int, 0 ≤ j → j < i → (rd_T120 ts j).f2 ≠ (rd_T120 ts i).f2
noncomputable def tok (ts : List S120) (cells : Int) : Bool := decide ((ts.length : Int) ≤ 30) && allB (TOK1 ts cells) 0 ts.length
theorem tok_iff {ts : List S120} {cells : Int} : tok ts cells = true ↔ (ts.length : Int) ≤ 30 ∧ ∀ i : Int, 0 ≤ i → i < ts.length → TOK1 ts cells i := by
 unfold tok; rw [Bool.and_eq_true, decide_eq_true_eq, allB_iff]
def Names (ts : List S120) : Prop := ∀ i : Int, 0 ≤ i → i < ts.length → Bytes (rd_T120 ts i).f0 ∧ ((rd_T120 ts i).f0.length : Int) ≤ 1048576
theorem spec_l1good_ev (l : List Int) (hb : Bytes l) (hl : (l.length : Int) ≤ 1048576) : Ev (fun k => spec_l1good.f k l) ((checkRes l).1 == 0) := by
 simp only [spec_l1good.f]
 exact Ev.bind (spec_CheckText_ev l hb (by omega)) (Ev.now _)
theorem impl_wellFormed_ev (l : List Int) (hb : Bytes l) (hl : (l.length : Int) ≤ 1048576) : Ev (fun k => impl_wellFormed.f k l) ((checkRes l).1 == 0) := by
 simp only [impl_wellFormed.f]
 exact Ev.bind (impl_CheckText_ev l hb (by omega)) (Ev.now _)
theorem l4targets_loop (ts : List S120) (cells : Int) (hl : (ts.length : Int) ≤ 30) (nb : Names ts) (d : Nat) : ∀ i : Int, 0 ≤ i → (ts.length : Int) - i = d → Ev (fun k => spec_l4targetsOK.l0 k ts cells i) (allB (TOK1 ts cells) i ts.length) := by
 induction d with
 | zero =>
  intro i h0 hd
  refine Ev.step (fun _ => rfl) ?_
  simp only [spec_l4targetsOK.l0]
  refine ev_neg (by omega) ?_
  rw [allB_end (by omega)]; exact Ev.now _
 | succ d ih =>
  intro i h0 hd
  have hi : i < ts.length := by omega
  have bad : ¬ TOK1 ts cells i → ∀ a b c, Ev (fun k => spec_l4targetsOK.j1 k ts cells i true a b c) (allB (TOK1 ts cells) i ts.length) := by
   intro h a b c
   rw [allB_no hi h]
   refine Ev.step (fun _ => rfl) ?_
   simp only [spec_l4targetsOK.j1]
   exact ev_pos (by trivial) (Ev.now _)
  have dup : ∀ (e : Nat) (j : Int), 0 ≤ j → i - j = e → (∀ q : Int, 0 ≤ q → q < j → (rd_T120 ts q).f2 ≠ (rd_T120 ts i).f2) → ((∀ q : Int, 0 ≤ q → q < i → (rd_T120 ts q).f2 ≠ (rd_T120 ts i).f2) → TOK1 ts cells i) →
    ∀ a b, Ev (fun k => spec_l4targetsOK.l1 k ts cells i j a b (rd_T120 ts i).f2) (allB (TOK1 ts cells) i ts.length) := by
   intro e
   induction e with
   | zero =>
    intro j j0 he hq H a b
    refine Ev.step (fun _ => rfl) ?_
    simp only [spec_l4targetsOK.l1]
    refine ev_neg (by omega) ?_
    rw [wrap64_id (by omega) (by omega), allB_yes (H (fun q a b => hq q a (by omega)))]
    exact ih _ (by omega) (by omega)
   | succ e ihe =>
    intro j j0 he hq H a b
    refine Ev.step (fun _ => rfl) ?_
    simp only [spec_l4targetsOK.l1]
    refine ev_pos (by omega) (ev_pos (by omega) (ev_pos (by omega) (ev_ite (fun c => ?_) (fun c => ?_))))
    ·rw [allB_no hi (fun t => t.once j j0 (by omega) c)]; exact Ev.now _
    ·rw [wrap64_id (by omega) (by omega)]
     refine ihe (j + 1) (by omega) (by omega) (fun q q0 q1 => ?_) H a b
     by_cases h : q = j
     ·subst h; exact c
     ·exact hq q q0 (by omega)
  have j2t : ¬ TOK1 ts cells i → ∀ a b c, Ev (fun k => spec_l4targetsOK.j2 k ts cells i true a b c) (allB (TOK1 ts cells) i ts.length) := by
   intro h a b c
   rw [allB_no hi h]
   refine Ev.step (fun _ => rfl) ?_
   simp only [spec_l4targetsOK.j2]
   exact ev_pos (by trivial) (Ev.now _)
  have j2f : ((∀ q : Int, 0 ≤ q → q < i → (rd_T120 ts q).f2 ≠ (rd_T120 ts i).f2) → TOK1 ts cells i) → ∀ a b, Ev (fun k => spec_l4targetsOK.j2 k ts cells i false a b (rd_T120 ts i).f2) (allB (TOK1 ts cells) i ts.length) := by
   intro h a b
   refine Ev.step (fun _ => rfl) ?_
   simp only [spec_l4targetsOK.j2]
   exact ev_neg (by simp) (dup i.toNat 0 (by omega) (by omega) (fun q q0 q1 => by omega) h a b)
  have j1f : ((0 < i → Op.bytesLess (Lib.bytesOf (rd_T120 ts (i - 1)).f0) (Lib.bytesOf (rd_T120 ts i).f0) = true) → (∀ q : Int, 0 ≤ q → q < i → (rd_T120 ts q).f2 ≠ (rd_T120 ts i).f2) → TOK1 ts cells i) →
    ∀ b, Ev (fun k => spec_l4targetsOK.j1 k ts cells i false (rd_T120 ts i).f0 b (rd_T120 ts i).f2) (allB (TOK1 ts cells) i ts.length) := by
   intro H b
   refine Ev.step (fun _ => rfl) ?_
   simp only [spec_l4targetsOK.j1]
   refine ev_neg (by simp) (ev_ite (fun c => ?_) (fun c => ?_))
   ·rw [wrap64_id (by omega) (by omega)]
    refine ev_pos (by omega) (ev_pos (by omega) ?_)
    rw [Lib.strOfNums_toList, Lib.strOfNums_toList]
    by_cases q : Op.bytesLess (Lib.bytesOf (rd_T120 ts (i - 1)).f0) (Lib.bytesOf (rd_T120 ts i).f0) = true
    ·rw [q]; exact j2f (H (fun _ => q)) _ _
    ·rw [Bool.eq_false_iff.2 q]; exact j2t (fun t => q (t.order c)) _ _ _
   ·exact j2f (H (fun h => absurd h c)) _ _
  obtain ⟨nb1, nb2⟩ := nb i h0 hi
  refine Ev.step (fun _ => rfl) ?_
  simp only [spec_l4targetsOK.l0]
  refine ev_pos hi (ev_pos h0 (ev_ite (fun e => bad (fun t => by have := t.n1; omega) _ _ _) (fun e1 => ev_ite (fun e => bad (fun t => by have := t.n2; omega) _ _ _) (fun e2 => Ev.bind (spec_l1good_ev _ nb1 nb2) (ev_ite (fun e3 => ?_) (fun e3 => bad (fun t => e3 (by rw [beq_iff_eq]; exact t.good)) _ _ _))))))
  rw [beq_iff_eq] at e3
  refine ev_ite (fun e => bad (fun t => by have := t.k0; omega) _ _ _) (fun e4 => ev_ite (fun e => bad (fun t => by have := t.k1; omega) _ _ _) (fun e5 => ev_ite (fun e => bad (fun t => by have := t.c0; omega) _ _ _) (fun e6 => ?_)))
  by_cases e7 : (rd_T120 ts i).f2 ≥ cells
  ·rw [decide_eq_true e7]; exact bad (fun t => by have := t.c1; omega) _ _ _
  ·rw [decide_eq_false e7]
   exact j1f (fun o u => ⟨by omega, by omega, e3, by omega, by omega, by omega, by omega, o, u⟩) _
theorem spec_l4targetsOK_ev (ts : List S120) (cells : Int) (nb : Names ts) : Ev (fun k => spec_l4targetsOK.f k ts cells) (tok ts cells) := by
 simp only [spec_l4targetsOK.f]
 unfold tok
 refine ev_ite (fun c => ?_) (fun c => ?_)
 ·rw [decide_eq_false (by omega)]; exact Ev.now _
 ·rw [decide_eq_true (by omega), Bool.true_and]
  exact l4targets_loop ts cells (by omega) nb ts.length 0 (by omega) (by omega)
theorem bad_ev (n : List Int) (kd c cells : Int) (hb : Bytes n) (hn : (n.length : Int) ≤ 1048576) : (1 ≤ (n.length : Int) ∧ (n.length : Int) ≤ 60 ∧ (checkRes n).1 = 0 ∧ 0 ≤ kd ∧ kd ≤ 1 ∧ 0 ≤ c ∧ c < cells → Ev (fun k => impl_targetsOk.bad k cells n kd c) false) ∧
  (¬ (1 ≤ (n.length : Int) ∧ (n.length : Int) ≤ 60 ∧ (checkRes n).1 = 0 ∧ 0 ≤ kd ∧ kd ≤ 1 ∧ 0 ≤ c ∧ c < cells) → Ev (fun k => impl_targetsOk.bad k cells n kd c) true) := by
 unfold impl_targetsOk.bad
 refine ⟨fun h => ?_, fun h => ?_⟩
 ·refine ev_neg (by omega) (ev_neg (by omega) (Ev.bind (impl_wellFormed_ev n hb hn) ?_))
  have hg : ((checkRes n).1 == 0) = true := by rw [beq_iff_eq]; exact h.2.2.1
  have hk : kd = 0 ∨ kd = 1 := by omega
  have h1 : decide (c < 0) = false := decide_eq_false (by omega)
  have h2 : decide (c ≥ cells) = false := decide_eq_false (by omega)
  rw [hg, h1, h2]
  rcases hk with rfl | rfl <;> exact Ev.now _
 ·refine ev_ite (fun _ => Ev.now _) (fun c1 => ev_ite (fun _ => Ev.now _) (fun c2 => Ev.bind (impl_wellFormed_ev n hb hn) ?_))
  have : (!((checkRes n).1 == 0) || (!decide (kd = 0) && !decide (kd = 1)) || decide (c < 0) || decide (c ≥ cells)) = true := by
   rw [← Bool.not_eq_false]
   intro q
   simp only [Bool.or_eq_false_iff, Bool.not_eq_false', beq_iff_eq, decide_eq_false_iff_not, Bool.and_eq_false_iff, decide_eq_true_eq] at q
   exact h ⟨by omega, by omega, q.1.1.1, by omega, by omega, by omega, by omega⟩
  rw [this]; exact Ev.now _
theorem targetsOk_loop (ts : List S120) (cells : Int) (nb : Names ts) (d : Nat) : ∀ (i : Int) (m : List (Int × Int)), 0 ≤ i → (ts.length : Int) - i = d → (∀ c : Int, (mget m c).isSome = true ↔ ∃ j : Int, 0 ≤ j ∧ j < i ∧ (rd_T120 ts j).f2 = c) →
  Ev (fun k => impl_targetsOk.l k ts cells i m) (allB (TOK1 ts cells) i ts.length) := by
 induction d with
 | zero =>
  intro i m h0 hd hm
  refine Ev.step (fun _ => rfl) ?_
  simp only [impl_targetsOk.l]
  refine ev_neg (by omega) ?_
  rw [allB_end (by omega)]; exact Ev.now _
 | succ d ih =>
  intro i m h0 hd hm
  have hi : i < ts.length := by omega
  obtain ⟨nb1, nb2⟩ := nb i h0 hi
  refine Ev.step (fun _ => rfl) ?_
  simp only [impl_targetsOk.l]
  refine ev_pos hi ?_
  obtain ⟨b0, b1⟩ := bad_ev (rd_T120 ts i).f0 (rd_T120 ts i).f1 (rd_T120 ts i).f2 cells nb1 nb2
  by_cases F : 1 ≤ ((rd_T120 ts i).f0.length : Int) ∧ ((rd_T120 ts i).f0.length : Int) ≤ 60 ∧ (checkRes (rd_T120 ts i).f0).1 = 0 ∧ 0 ≤ (rd_T120 ts i).f1 ∧ (rd_T120 ts i).f1 ≤ 1 ∧ 0 ≤ (rd_T120 ts i).f2 ∧ (rd_T120 ts i).f2 < cells
  ·refine Ev.bind (b0 F) (ev_neg (by simp) ?_)
   have low : impl_targetsOk.low ts i (rd_T120 ts i).f0 = true ↔ ¬ (0 < i → Op.bytesLess (Lib.bytesOf (rd_T120 ts (i - 1)).f0) (Lib.bytesOf (rd_T120 ts i).f0) = true) := by
    unfold impl_targetsOk.low
    rw [Bool.and_eq_true, decide_eq_true_eq]
    have := cmp_ge (Lib.bytesOf (rd_T120 ts (i - 1)).f0) (Lib.bytesOf (rd_T120 ts i).f0)
    have e : decide (Lib.compareBytes (Lib.bytesOf (rd_T120 ts (i - 1)).f0) (Lib.bytesOf (rd_T120 ts i).f0) ≥ 0) = !Op.bytesLess (Lib.bytesOf (rd_T120 ts (i - 1)).f0) (Lib.bytesOf (rd_T120 ts i).f0) := this
    rw [e, Bool.not_eq_true', Classical.not_imp]
    constructor
    ·exact fun h => ⟨h.1, by rw [h.2]; simp⟩
    ·exact fun h => ⟨h.1, Bool.eq_false_iff.2 h.2⟩
   refine ev_ite (fun c => ?_) (fun c => ?_)
   ·rw [allB_no hi (fun t => low.1 c t.order)]; exact Ev.now _
   have ord := Classical.not_not.1 (fun q => c (low.2 q))
   refine ev_ite (fun c2 => ?_) (fun c2 => ?_)
   ·obtain ⟨j, j0, j1, e⟩ := (hm _).1 c2
    rw [allB_no hi (fun t => t.once j j0 j1 e)]; exact Ev.now _
   ·have once : ∀ j : Int, 0 ≤ j → j < i → (rd_T120 ts j).f2 ≠ (rd_T120 ts i).f2 := fun j j0 j1 e => c2 ((hm _).2 ⟨j, j0, j1, e⟩)
    rw [allB_yes ⟨F.1, F.2.1, F.2.2.1, F.2.2.2.1, F.2.2.2.2.1, F.2.2.2.2.2.1, F.2.2.2.2.2.2, ord, once⟩]
    refine ih (i + 1) _ (by omega) (by omega) (fun q => ?_)
    rw [mget_cons]
    by_cases e : (rd_T120 ts i).f2 = q
    ·rw [if_pos e]; exact ⟨fun _ => ⟨i, h0, by omega, e⟩, fun _ => rfl⟩
    ·rw [if_neg e, hm]
     exact ⟨fun ⟨j, a, b, g⟩ => ⟨j, a, by omega, g⟩, fun ⟨j, a, b, g⟩ => ⟨j, a, by
      by_cases ji : j = i
      ·subst ji; exact absurd g e
      ·omega, g⟩⟩
  ·refine Ev.bind (b1 F) (ev_pos (by trivial) ?_)
   rw [allB_no hi (fun t => F ⟨t.n1, t.n2, t.good, t.k0, t.k1, t.c0, t.c1⟩)]; exact Ev.now _
theorem impl_targetsOk_ev (ts : List S120) (cells : Int) (nb : Names ts) (hc : cells ≤ 4611686018427387904) : Ev (fun k => impl_targetsOk.f k ts cells) (tok ts cells) := by
 simp only [impl_targetsOk.f]
 unfold tok
 refine ev_ite (fun c => ?_) (fun c => ?_)
 ·rw [decide_eq_false (by omega)]; exact Ev.now _
 ·rw [decide_eq_true (by omega), Bool.true_and]
  refine ev_pos hc (targetsOk_loop ts cells nb ts.length 0 [] (by omega) (by omega) (fun c => ?_))
  rw [mget_nil]
  exact ⟨fun h => by simp at h, fun ⟨j, a, b, _⟩ => by omega⟩

theorem names_of {ts : List S185} (hb : ∀ x ∈ ts, Bytes x.f0) (hm : ∀ j : Int, 0 ≤ j → j < ts.length → ((rd_T185 ts j).f0.length : Int) ≤ 1048576) : Names (ts.map convT) := by
 intro i i0 i1
 rw [List.length_map] at i1
 have e : rd_T120 (ts.map convT) i = convT (rd_T185 ts i) := getD_map convT i0 i1
 rw [e]
 exact ⟨hb _ (getD_mem i0 i1), hm i i0 i1⟩
theorem map_small {ts : List S185} (c : ts.length ≤ 1048576 ∧ ∀ j : Int, 0 ≤ j → j < ts.length → ((rd_T185 ts j).f0.length : Int) ≤ 1048576) : (ts.map convT).length ≤ 1048576 ∧ ∀ j : Int, 0 ≤ j → j < (ts.map convT).length → ((rd_T120 (ts.map convT) j).f0.length : Int) ≤ 1048576 := by
 rw [List.length_map]
 refine ⟨c.1, fun j a b => ?_⟩
 have e : rd_T120 (ts.map convT) j = convT (rd_T185 ts j) := getD_map convT a b
 rw [e]; exact c.2 j a b


theorem l4to_aux (w h X Y : Int) (w1 : 1 ≤ w) (w2 : w ≤ 40) (h2 : h ≤ 40) (x0 : -1 ≤ X) (x1 : X ≤ w) (y0 : -1 ≤ Y) (y1 : Y ≤ 1700) :
  (if X < 0 then some (-1) else if X ≥ w then some (-1) else if Y < 0 then some (-1) else if Y ≥ h then some (-1) else some (wrap64 (wrap64 (Y * w) + X))) = some (if X < 0 ∨ w ≤ X ∨ Y < 0 ∨ h ≤ Y then -1 else Y * w + X) := by
 by_cases a : X < 0
 ·rw [if_pos a, if_pos (.inl a)]
 rw [if_neg a]
 by_cases b : X ≥ w
 ·rw [if_pos b, if_pos (.inr (.inl b))]
 rw [if_neg b]
 by_cases c : Y < 0
 ·rw [if_pos c, if_pos (.inr (.inr (.inl c)))]
 rw [if_neg c]
 by_cases d : Y ≥ h
 ·rw [if_pos d, if_pos (.inr (.inr (.inr d)))]
 rw [if_neg d, if_neg (by omega)]
 have m0 : 0 ≤ Y * w := Int.mul_nonneg (by omega) (by omega)
 have m1 : Y * w ≤ 40 * 40 := Int.mul_le_mul (by omega) w2 (by omega) (by omega)
 rw [wrap64_id (x := Y * w) (by omega) (by omega), wrap64_id (by omega) (by omega)]
theorem spec_l4to_eq (w h c d : Int) (hs : sideIn w h c d) : spec_l4to.f w h c d = some (sideL w h c d) := by
 obtain ⟨w1, w2, h1, h2, c0, c1, d0, d1⟩ := hs
 have m0 : 0 ≤ c % w := Int.emod_nonneg _ (by omega)
 have m1 : c % w < w := Int.emod_lt_of_pos _ (by omega)
 have q0 : 0 ≤ c / w := Int.ediv_nonneg c0 (by omega)
 have q1 : c / w ≤ c := Int.ediv_le_self _ c0
 unfold spec_l4to.f sideL
 rw [if_neg (by omega), tdiv_nn c0, tmod_nn c0]
 have hd : d = 0 ∨ d = 1 ∨ d = 2 ∨ d = 3 := by omega
 rcases hd with rfl | rfl | rfl | rfl
 ·rw [if_pos rfl, wrap64_id (x := c / w) (by omega) (by omega), wrap64_id (x := c / w - 1) (by omega) (by omega)]
  have := l4to_aux w h (c % w) (c / w - 1) w1 w2 h2 (by omega) (by omega) (by omega) (by omega)
  rw [this, show dxz 0 = 0 by rfl, show dyz 0 = -1 by rfl, Int.add_zero, show c / w + -1 = c / w - 1 by omega]
 ·rw [if_neg (by omega), if_pos rfl, wrap64_id (x := c / w) (by omega) (by omega), wrap64_id (x := c % w + 1) (by omega) (by omega)]
  have := l4to_aux w h (c % w + 1) (c / w) w1 w2 h2 (by omega) (by omega) (by omega) (by omega)
  rw [this, show dxz 1 = 1 by rfl, show dyz 1 = 0 by rfl, Int.add_zero]
 ·rw [if_neg (by omega), if_neg (by omega), if_pos rfl, wrap64_id (x := c / w) (by omega) (by omega), wrap64_id (x := c / w + 1) (by omega) (by omega)]
  have := l4to_aux w h (c % w) (c / w + 1) w1 w2 h2 (by omega) (by omega) (by omega) (by omega)
  rw [this, show dxz 2 = 0 by rfl, show dyz 2 = 1 by rfl, Int.add_zero]
 ·rw [if_neg (by omega), if_neg (by omega), if_neg (by omega), wrap64_id (x := c / w) (by omega) (by omega), wrap64_id (x := c % w - 1) (by omega) (by omega)]
  have := l4to_aux w h (c % w - 1) (c / w) w1 w2 h2 (by omega) (by omega) (by omega) (by omega)
  rw [this, show dxz 3 = -1 by rfl, show dyz 3 = 0 by rfl, Int.add_zero, show c % w + -1 = c % w - 1 by omega]
theorem impl_side_eq (w h c d : Int) (hs : sideIn w h c d) : impl_side.f w h c d = some (sideL w h c d) := by
 unfold impl_side.f; rw [if_pos hs]
theorem sideL_lt {w h c d : Int} (hs : sideIn w h c d) : -1 ≤ sideL w h c d ∧ sideL w h c d < w * h := by
 obtain ⟨w1, w2, h1, h2, c0, c1, d0, d1⟩ := hs
 have wh : 0 < w * h := Int.mul_pos (by omega) (by omega)
 unfold sideL
 split
 ·omega
 ·rename_i q
  have a : 0 ≤ (c / w + dyz d) * w := Int.mul_nonneg (by omega) (by omega)
  have b : (c / w + dyz d) * w ≤ (h - 1) * w := Int.mul_le_mul_of_nonneg_right (by omega) (by omega)
  rw [Int.sub_mul, Int.one_mul, Int.mul_comm h w] at b
  omega

theorem wh_le {w h : Int} (w1 : 1 ≤ w) (w2 : w ≤ 40) (h1 : 1 ≤ h) (h2 : h ≤ 40) : 1 ≤ w * h ∧ w * h ≤ 1600 := by
 have a : 0 < w * h := Int.mul_pos (by omega) (by omega)
 have b : w * h ≤ 40 * 40 := Int.mul_le_mul w2 h2 (by omega) (by omega)
 omega
theorem sideOk_eq (x : Int) : impl_sideOk.f x = some (decide (1 ≤ x ∧ x ≤ 40)) := by
 unfold impl_sideOk.f
 by_cases a : x ≥ 1
 ·rw [if_pos a]; congr 1; rw [decide_eq_decide]; omega
 ·rw [if_neg a, decide_eq_false (by omega)]

structure RowAt (w h c0 : Int) (di ho : List Int) (c : Int) : Prop where
 home : c = c0 → rd di c = 0 ∧ rd ho c = -1
 away : c ≠ c0 → (rd di c = -1 ∧ rd ho c = -1) ∨ (1 ≤ rd di c ∧ rd di c ≤ 65534 ∧ 0 ≤ rd ho c ∧ rd ho c ≤ 3 ∧ 0 ≤ sideL w h c (rd ho c) ∧ 0 ≤ rd di (sideL w h c (rd ho c)) ∧ rd di (sideL w h c (rd ho c)) < rd di c)
noncomputable def rowB (w h : Int) (ts : List S120) (D H : List (List Int)) (i : Int) : Bool :=
 decide (((rd_L4 D i).length : Int) = w * h) && (decide (((rd_L4 H i).length : Int) = w * h) && allB (RowAt w h (rd_T120 ts i).f2 (rd_L4 D i) (rd_L4 H i)) 0 (w * h))
theorem rowB_iff {w h : Int} {ts : List S120} {D H : List (List Int)} {i : Int} : rowB w h ts D H i = true ↔ ((rd_L4 D i).length : Int) = w * h ∧ ((rd_L4 H i).length : Int) = w * h ∧ ∀ c : Int, 0 ≤ c → c < w * h → RowAt w h (rd_T120 ts i).f2 (rd_L4 D i) (rd_L4 H i) c := by
 unfold rowB; rw [Bool.and_eq_true, Bool.and_eq_true, decide_eq_true_eq, decide_eq_true_eq, allB_iff]
theorem l6row_loop (w h : Int) (w1 : 1 ≤ w) (w2 : w ≤ 40) (h1 : 1 ≤ h) (h2 : h ≤ 40) (ts : List S120) (D H : List (List Int)) (i : Int) (i0 : 0 ≤ i) (i1 : i < ts.length) (di ho : List Int)
  (ld : (di.length : Int) = w * h) (lh : (ho.length : Int) = w * h) (d : Nat) : ∀ c : Int, 0 ≤ c → w * h - c = d → Ev (fun k => spec_l6rowOK.l0 k i (w * h) di ho c w h ts D H) (allB (RowAt w h (rd_T120 ts i).f2 di ho) c (w * h)) := by
 have wh := wh_le w1 w2 h1 h2
 generalize hn : w * h = n at *
 induction d with
 | zero =>
  intro c c0 hd
  refine Ev.step (fun _ => rfl) ?_
  simp only [spec_l6rowOK.l0]
  refine ev_neg (by omega) ?_
  rw [allB_end (by omega)]; exact Ev.now _
 | succ d ih =>
  intro c c0 hd
  have hc : c < n := by omega
  have no : ¬ RowAt w h (rd_T120 ts i).f2 di ho c → Ev (fun _ => some false) (allB (RowAt w h (rd_T120 ts i).f2 di ho) c n) := by
   intro q; rw [allB_no hc q]; exact Ev.now _
  have go : RowAt w h (rd_T120 ts i).f2 di ho c → Ev (fun k => spec_l6rowOK.l0 k i n di ho (wrap64 (c + 1)) w h ts D H) (allB (RowAt w h (rd_T120 ts i).f2 di ho) c n) := by
   intro q; rw [allB_yes q, wrap64_id (by omega) (by omega)]; exact ih _ (by omega) (by omega)
  refine Ev.step (fun _ => rfl) ?_
  simp only [spec_l6rowOK.l0]
  refine ev_pos hc (ev_pos i0 (ev_pos i1 (ev_ite (fun e => ?_) (fun e => ?_))))
  ·refine ev_pos c0 (ev_pos (by omega) (ev_ite (fun a => ev_pos (by omega) (ev_ite (fun b => go ⟨fun _ => ⟨a, b⟩, fun q => absurd e q⟩) (fun b => no (fun q => b (q.home e).2)))) (fun a => no (fun q => a (q.home e).1))))
  ·have j3t : ¬ RowAt w h (rd_T120 ts i).f2 di ho c → Ev (fun k => spec_l6rowOK.j3 k i n di ho c true w h ts D H) (allB (RowAt w h (rd_T120 ts i).f2 di ho) c n) := by
    intro q
    refine Ev.step (fun _ => rfl) ?_
    simp only [spec_l6rowOK.j3]
    exact ev_pos (by trivial) (no q)
   have j2f : ¬ (rd di c = -1 ∧ rd ho c = -1) → Ev (fun k => spec_l6rowOK.j2 k i n di ho c false w h ts D H) (allB (RowAt w h (rd_T120 ts i).f2 di ho) c n) := by
    intro q
    have aw : RowAt w h (rd_T120 ts i).f2 di ho c → (1 ≤ rd di c ∧ rd di c ≤ 65534 ∧ 0 ≤ rd ho c ∧ rd ho c ≤ 3 ∧ 0 ≤ sideL w h c (rd ho c) ∧ 0 ≤ rd di (sideL w h c (rd ho c)) ∧ rd di (sideL w h c (rd ho c)) < rd di c) := fun r => (r.away e).resolve_left q
    refine Ev.step (fun _ => rfl) ?_
    simp only [spec_l6rowOK.j2]
    refine ev_neg (by simp) (ev_pos c0 (ev_pos (by omega) (ev_ite (fun a => j3t (fun r => by have := (aw r).1; omega)) (fun a => ev_ite (fun b => j3t (fun r => by have := (aw r).2.1; omega)) (fun b => ev_pos (by omega) (ev_ite (fun f => j3t (fun r => by have := (aw r).2.2.1; omega)) (fun f => ?_)))))))
    by_cases g : rd ho c > 3
    ·rw [decide_eq_true g]; exact j3t (fun r => by have := (aw r).2.2.2.1; omega)
    ·rw [decide_eq_false g]
     refine Ev.step (fun _ => rfl) ?_
     simp only [spec_l6rowOK.j3]
     have si : sideIn w h c (rd ho c) := ⟨w1, w2, h1, h2, c0, by omega, by omega, by omega⟩
     have sl := sideL_lt si
     rw [hn] at sl
     refine ev_neg (by simp) (ev_pos c0 (ev_pos (by omega) ?_))
     rw [spec_l4to_eq _ _ _ _ si]
     refine ev_letv (ev_ite (fun t0 => no (fun r => by have := (aw r).2.2.2.2.1; omega)) (fun t0 => ev_pos (by omega) (ev_pos (by omega) (ev_ite (fun t1 => no (fun r => by have := (aw r).2.2.2.2.2.1; omega)) (fun t1 => ev_pos (by omega) (ev_ite (fun t2 => no (fun r => by have := (aw r).2.2.2.2.2.2; omega)) (fun t2 => go ⟨fun r => absurd r e, fun _ => .inr ⟨by omega, by omega, by omega, by omega, by omega, by omega, by omega⟩⟩)))))))
   refine ev_pos c0 (ev_pos (by omega) (ev_ite (fun a => ev_pos (by omega) ?_) (fun a => j2f (fun r => a r.1))))
   by_cases b : rd ho c = -1
   ·rw [show (rd ho c == (-1 : Int)) = true by rw [beq_iff_eq]; exact b]
    refine Ev.step (fun _ => rfl) ?_
    simp only [spec_l6rowOK.j2]
    exact ev_pos (by trivial) (go ⟨fun r => absurd r e, fun _ => .inl ⟨a, b⟩⟩)
   ·rw [show (rd ho c == (-1 : Int)) = false by rw [beq_eq_false_iff_ne]; exact b]
    exact j2f (fun r => b r.2)
theorem spec_l6rowOK_ev (w h : Int) (w1 : 1 ≤ w) (w2 : w ≤ 40) (h1 : 1 ≤ h) (h2 : h ≤ 40) (ts : List S120) (D H : List (List Int)) (i : Int) (i0 : 0 ≤ i) (i1 : i < ts.length) (iD : i < D.length) (iH : i < H.length) :
  Ev (fun k => spec_l6rowOK.f k w h ts D H i) (rowB w h ts D H i) := by
 have wh := wh_le w1 w2 h1 h2
 unfold rowB
 simp only [spec_l6rowOK.f]
 rw [wrap64_id (x := w * h) (by omega) (by omega)]
 refine ev_pos i0 (ev_pos iD (ev_pos iH (ev_ite (fun a => ?_) (fun a => ?_))))
 ·rw [decide_eq_true a, Bool.true_and]
  by_cases b : ((rd_L4 H i).length : Int) = w * h
  ·rw [show (((rd_L4 H i).length : Int) != w * h) = false by rw [b]; simp, decide_eq_true b, Bool.true_and]
   refine Ev.step (fun _ => rfl) ?_
   simp only [spec_l6rowOK.j0]
   exact ev_neg (by simp) (l6row_loop w h w1 w2 h1 h2 ts D H i i0 i1 _ _ a b (w * h).toNat 0 (by omega) (by omega))
  ·rw [show (((rd_L4 H i).length : Int) != w * h) = true by rw [bne_iff_ne]; exact b, decide_eq_false b, Bool.false_and]
   refine Ev.step (fun _ => rfl) ?_
   simp only [spec_l6rowOK.j0]
   exact ev_pos (by trivial) (Ev.now _)
 ·rw [decide_eq_false a, Bool.false_and]
  refine Ev.step (fun _ => rfl) ?_
  simp only [spec_l6rowOK.j0]
  exact ev_pos (by trivial) (Ev.now _)
theorem listOk_loop (w h : Int) (w1 : 1 ≤ w) (w2 : w ≤ 40) (h1 : 1 ≤ h) (h2 : h ≤ 40) (ts : List S120) (D H : List (List Int)) (i : Int) (i0 : 0 ≤ i) (i1 : i < ts.length) (di ho : List Int)
  (ld : (di.length : Int) = w * h) (lh : (ho.length : Int) = w * h) (d : Nat) : ∀ c : Int, 0 ≤ c → w * h - c = d → Ev (fun k => impl_Tables_listOk.l0 k i di ho (w * h) c w h ts D H) (allB (RowAt w h (rd_T120 ts i).f2 di ho) c (w * h)) := by
 have wh := wh_le w1 w2 h1 h2
 generalize hn : w * h = n at *
 induction d with
 | zero =>
  intro c c0 hd
  refine Ev.step (fun _ => rfl) ?_
  simp only [impl_Tables_listOk.l0]
  refine ev_neg (by omega) ?_
  rw [allB_end (by omega)]; exact Ev.now _
 | succ d ih =>
  intro c c0 hd
  have hc : c < n := by omega
  have no : ¬ RowAt w h (rd_T120 ts i).f2 di ho c → Ev (fun _ => some false) (allB (RowAt w h (rd_T120 ts i).f2 di ho) c n) := by
   intro q; rw [allB_no hc q]; exact Ev.now _
  have go : RowAt w h (rd_T120 ts i).f2 di ho c → Ev (fun k => impl_Tables_listOk.l0 k i di ho n (wrap64 (c + 1)) w h ts D H) (allB (RowAt w h (rd_T120 ts i).f2 di ho) c n) := by
   intro q; rw [allB_yes q, wrap64_id (by omega) (by omega)]; exact ih _ (by omega) (by omega)
  refine Ev.step (fun _ => rfl) ?_
  simp only [impl_Tables_listOk.l0]
  refine ev_pos hc (ev_pos i0 (ev_pos i1 (ev_ite (fun e => ?_) (fun e => ?_))))
  ·refine ev_pos c0 (ev_pos (by omega) (ev_ite (fun a => ev_pos (by omega) (ev_ite (fun b => go ⟨fun _ => ⟨a, b⟩, fun q => absurd e q⟩) (fun b => no (fun q => b (q.home e).2)))) (fun a => no (fun q => a (q.home e).1))))
  ·have j3t : ¬ RowAt w h (rd_T120 ts i).f2 di ho c → Ev (fun k => impl_Tables_listOk.j2 k i di ho c n c true w h ts D H) (allB (RowAt w h (rd_T120 ts i).f2 di ho) c n) := by
    intro q
    refine Ev.step (fun _ => rfl) ?_
    simp only [impl_Tables_listOk.j2]
    exact ev_pos (by trivial) (no q)
   refine ev_pos c0 (ev_pos (by omega) (ev_ite (fun a => ev_pos (by omega) (ev_ite (fun b => go ⟨fun r => absurd r e, fun _ => .inl ⟨a, b⟩⟩) (fun b => no (fun r => by rcases r.away e with r | r; exact b r.2; omega)))) (fun a => ?_)))
   have aw : RowAt w h (rd_T120 ts i).f2 di ho c → (1 ≤ rd di c ∧ rd di c ≤ 65534 ∧ 0 ≤ rd ho c ∧ rd ho c ≤ 3 ∧ 0 ≤ sideL w h c (rd ho c) ∧ 0 ≤ rd di (sideL w h c (rd ho c)) ∧ rd di (sideL w h c (rd ho c)) < rd di c) := fun r => (r.away e).resolve_left (fun q => a q.1)
   refine ev_ite (fun a => j3t (fun r => by have := (aw r).1; omega)) (fun a => ev_ite (fun b => j3t (fun r => by have := (aw r).2.1; omega)) (fun b => ev_pos (by omega) (ev_ite (fun f => j3t (fun r => by have := (aw r).2.2.1; omega)) (fun f => ?_))))
   by_cases g : rd ho c > 3
   ·rw [decide_eq_true g]; exact j3t (fun r => by have := (aw r).2.2.2.1; omega)
   ·rw [decide_eq_false g]
    refine Ev.step (fun _ => rfl) ?_
    simp only [impl_Tables_listOk.j2]
    have si : sideIn w h c (rd ho c) := ⟨w1, w2, h1, h2, c0, by omega, by omega, by omega⟩
    have sl := sideL_lt si
    rw [hn] at sl
    refine ev_neg (by simp) (ev_pos c0 (ev_pos (by omega) ?_))
    rw [impl_side_eq _ _ _ _ si]
    refine ev_letv (ev_ite (fun t0 => no (fun r => by have := (aw r).2.2.2.2.1; omega)) (fun t0 => ev_pos (by omega) (ev_pos (by omega) (ev_ite (fun t1 => no (fun r => by have := (aw r).2.2.2.2.2.1; omega)) (fun t1 => ev_pos (by omega) (ev_ite (fun t2 => no (fun r => by have := (aw r).2.2.2.2.2.2; omega)) (fun t2 => go ⟨fun r => absurd r e, fun _ => .inr ⟨by omega, by omega, by omega, by omega, by omega, by omega, by omega⟩⟩)))))))
theorem impl_listOk_ev (w h : Int) (w1 : 1 ≤ w) (w2 : w ≤ 40) (h1 : 1 ≤ h) (h2 : h ≤ 40) (ts : List S120) (D H : List (List Int)) (i : Int) (i0 : 0 ≤ i) (i1 : i < ts.length) (iD : i < D.length) (iH : i < H.length) :
  Ev (fun k => impl_Tables_listOk.f k w h ts D H i) (rowB w h ts D H i) := by
 have wh := wh_le w1 w2 h1 h2
 unfold rowB
 simp only [impl_Tables_listOk.f]
 rw [wrap64_id (x := w * h) (by omega) (by omega)]
 refine ev_pos i0 (ev_pos iD (ev_pos iH (ev_ite (fun a => ?_) (fun a => ?_))))
 ·rw [decide_eq_true a, Bool.true_and]
  by_cases b : ((rd_L4 H i).length : Int) = w * h
  ·rw [show (((rd_L4 H i).length : Int) != w * h) = false by rw [b]; simp, decide_eq_true b, Bool.true_and]
   refine Ev.step (fun _ => rfl) ?_
   simp only [impl_Tables_listOk.j0]
   rw [a]
   exact ev_neg (by simp) (listOk_loop w h w1 w2 h1 h2 ts D H i i0 i1 _ _ a b (w * h).toNat 0 (by omega) (by omega))
  ·rw [show (((rd_L4 H i).length : Int) != w * h) = true by rw [bne_iff_ne]; exact b, decide_eq_false b, Bool.false_and]
   refine Ev.step (fun _ => rfl) ?_
   simp only [impl_Tables_listOk.j0]
   exact ev_pos (by trivial) (Ev.now _)
 ·rw [decide_eq_false a, Bool.false_and]
  refine Ev.step (fun _ => rfl) ?_
  simp only [impl_Tables_listOk.j0]
  exact ev_pos (by trivial) (Ev.now _)

noncomputable def vt (w h : Int) (ts : List S120) (D H : List (List Int)) : Bool :=
 decide (1 ≤ w ∧ w ≤ 40 ∧ 1 ≤ h ∧ h ≤ 40) && (tok ts (w * h) && (decide (D.length = ts.length ∧ H.length = ts.length) && allB (fun i => rowB w h ts D H i = true) 0 ts.length))
theorem vt_iff {w h : Int} {ts : List S120} {D H : List (List Int)} : vt w h ts D H = true ↔ (1 ≤ w ∧ w ≤ 40 ∧ 1 ≤ h ∧ h ≤ 40) ∧ tok ts (w * h) = true ∧ (D.length = ts.length ∧ H.length = ts.length) ∧ ∀ i : Int, 0 ≤ i → i < ts.length → rowB w h ts D H i = true := by
 unfold vt; rw [Bool.and_eq_true, Bool.and_eq_true, Bool.and_eq_true, decide_eq_true_eq, decide_eq_true_eq, allB_iff]
theorem spec_vt_j0f (w h : Int) (ts : List S120) (D H : List (List Int)) : Ev (fun k => spec_ValidTables.j0 k true w h ts D H) false := by
 refine Ev.step (fun _ => rfl) ?_
 simp only [spec_ValidTables.j0]
 exact ev_pos (by trivial) (Ev.now _)
theorem spec_vt_loop (w h : Int) (w1 : 1 ≤ w) (w2 : w ≤ 40) (h1 : 1 ≤ h) (h2 : h ≤ 40) (ts : List S120) (D H : List (List Int)) (lt : (ts.length : Int) ≤ 30) (lD : D.length = ts.length) (lH : H.length = ts.length) (d : Nat) : ∀ i : Int, 0 ≤ i → (ts.length : Int) - i = d →
  Ev (fun k => spec_ValidTables.l0 k i w h ts D H) (allB (fun i => rowB w h ts D H i = true) i ts.length) := by
 induction d with
 | zero =>
  intro i i0 hd
  refine Ev.step (fun _ => rfl) ?_
  simp only [spec_ValidTables.l0]
  refine ev_neg (by omega) ?_
  rw [allB_end (by omega)]; exact Ev.now _
 | succ d ih =>
  intro i i0 hd
  refine Ev.step (fun _ => rfl) ?_
  simp only [spec_ValidTables.l0]
  refine ev_pos (by omega) (Ev.bind (spec_l6rowOK_ev w h w1 w2 h1 h2 ts D H i i0 (by omega) (by omega) (by omega)) (ev_ite (fun q => ?_) (fun q => ?_)))
  ·rw [allB_yes (S := fun i => rowB w h ts D H i = true) q, wrap64_id (by omega) (by omega)]; exact ih _ (by omega) (by omega)
  ·rw [allB_no (S := fun i => rowB w h ts D H i = true) (by omega) q]; exact Ev.now _
theorem spec_ValidTables_ev (w h : Int) (ts : List S120) (D H : List (List Int)) (nb : Names ts) (lD : D.length ≤ 1048576) (lH : H.length ≤ 1048576) (lT : ts.length ≤ 1048576) : Ev (fun k => spec_ValidTables.f k w h ts D H) (vt w h ts D H) := by
 simp only [spec_ValidTables.f]
 have no : vt w h ts D H = false → Ev (fun k => spec_ValidTables.j0 k true w h ts D H) (vt w h ts D H) := by
  intro q; rw [q]; exact spec_vt_j0f w h ts D H
 have nos : ¬ (1 ≤ w ∧ w ≤ 40 ∧ 1 ≤ h ∧ h ≤ 40) → Ev (fun k => spec_ValidTables.j0 k true w h ts D H) (vt w h ts D H) := by
  intro q; refine no ?_; unfold vt; rw [decide_eq_false q, Bool.false_and]
 refine ev_ite (fun a => nos (by omega)) (fun a => ev_ite (fun b => nos (by omega)) (fun b => ev_ite (fun c => nos (by omega)) (fun c => ev_ite (fun d => nos (by omega)) (fun d => ?_))))
 have wh := wh_le (w := w) (h := h) (by omega) (by omega) (by omega) (by omega)
 rw [wrap64_id (x := w * h) (by omega) (by omega)]
 refine Ev.bind (spec_l4targetsOK_ev ts (w * h) nb) ?_
 unfold vt
 rw [decide_eq_true (show 1 ≤ w ∧ w ≤ 40 ∧ 1 ≤ h ∧ h ≤ 40 by omega), Bool.true_and]
 cases ht : tok ts (w * h) with
 | false => rw [Bool.false_and]; exact spec_vt_j0f w h ts D H
 | true =>
  have t30 := (tok_iff.1 ht).1
  rw [Bool.true_and]
  refine Ev.step (fun _ => rfl) ?_
  simp only [spec_ValidTables.j0]
  refine ev_neg (by simp) (ev_ite (fun e => ?_) (fun e => ?_))
  ·refine Ev.step (fun _ => rfl) ?_
   simp only [spec_ValidTables.j1]
   by_cases f : (H.length : Int) = ts.length
   ·refine ev_neg (by rw [f]; simp) ?_
    rw [decide_eq_true (show D.length = ts.length ∧ H.length = ts.length by omega), Bool.true_and]
    exact spec_vt_loop w h (by omega) (by omega) (by omega) (by omega) ts D H t30 (by omega) (by omega) ts.length 0 (by omega) (by omega)
   ·refine ev_pos (by rw [bne_iff_ne]; exact f) ?_
    rw [decide_eq_false (show ¬ (D.length = ts.length ∧ H.length = ts.length) by omega), Bool.false_and]; exact Ev.now _
  ·rw [decide_eq_false (show ¬ (D.length = ts.length ∧ H.length = ts.length) by omega), Bool.false_and]
   refine Ev.step (fun _ => rfl) ?_
   simp only [spec_ValidTables.j1]
   exact ev_pos (by trivial) (Ev.now _)
theorem impl_vt_j0f (w h : Int) (ts : List S120) (D H : List (List Int)) : Ev (fun k => impl_ValidTables.j0 k true w h ts D H) false := by
 refine Ev.step (fun _ => rfl) ?_
 simp only [impl_ValidTables.j0]
 exact ev_pos (by trivial) (Ev.now _)
theorem impl_vt_loop (w h : Int) (w1 : 1 ≤ w) (w2 : w ≤ 40) (h1 : 1 ≤ h) (h2 : h ≤ 40) (ts : List S120) (D H : List (List Int)) (lt : (ts.length : Int) ≤ 30) (lD : D.length = ts.length) (lH : H.length = ts.length) (d : Nat) : ∀ i : Int, 0 ≤ i → (ts.length : Int) - i = d →
  Ev (fun k => impl_ValidTables.l0 k (ts.length : Int) i w h ts D H) (allB (fun i => rowB w h ts D H i = true) i ts.length) := by
 induction d with
 | zero =>
  intro i i0 hd
  refine Ev.step (fun _ => rfl) ?_
  simp only [impl_ValidTables.l0]
  refine ev_neg (by omega) ?_
  rw [allB_end (by omega)]; exact Ev.now _
 | succ d ih =>
  intro i i0 hd
  refine Ev.step (fun _ => rfl) ?_
  simp only [impl_ValidTables.l0]
  refine ev_pos (by omega) (Ev.bind (impl_listOk_ev w h w1 w2 h1 h2 ts D H i i0 (by omega) (by omega) (by omega)) (ev_ite (fun q => ?_) (fun q => ?_)))
  ·rw [allB_yes (S := fun i => rowB w h ts D H i = true) q, wrap64_id (by omega) (by omega)]; exact ih _ (by omega) (by omega)
  ·rw [allB_no (S := fun i => rowB w h ts D H i = true) (by omega) q]; exact Ev.now _
theorem impl_ValidTables_ev (w h : Int) (ts : List S120) (D H : List (List Int)) (nb : Names ts) (lD : D.length ≤ 1048576) (lH : H.length ≤ 1048576) (lT : ts.length ≤ 1048576) : Ev (fun k => impl_ValidTables.f k w h ts D H) (vt w h ts D H) := by
 simp only [impl_ValidTables.f]
 have no : vt w h ts D H = false → Ev (fun k => impl_ValidTables.j0 k true w h ts D H) (vt w h ts D H) := by
  intro q; rw [q]; exact impl_vt_j0f w h ts D H
 have nos : ¬ (1 ≤ w ∧ w ≤ 40 ∧ 1 ≤ h ∧ h ≤ 40) → Ev (fun k => impl_ValidTables.j0 k true w h ts D H) (vt w h ts D H) := by
  intro q; refine no ?_; unfold vt; rw [decide_eq_false q, Bool.false_and]
 rw [sideOk_eq, sideOk_eq]
 refine ev_letv (ev_ite (fun a => ev_letv (ev_ite (fun b => ?_) (fun b => nos (fun q => b (decide_eq_true (by omega)))))) (fun a => nos (fun q => a (decide_eq_true (by omega)))))
 have a := of_decide_eq_true a
 have b := of_decide_eq_true b
 have wh := wh_le (w := w) (h := h) (by omega) (by omega) (by omega) (by omega)
 rw [wrap64_id (x := w * h) (by omega) (by omega)]
 refine Ev.bind (impl_targetsOk_ev ts (w * h) nb (by omega)) ?_
 unfold vt
 rw [decide_eq_true (show 1 ≤ w ∧ w ≤ 40 ∧ 1 ≤ h ∧ h ≤ 40 by omega), Bool.true_and]
 cases ht : tok ts (w * h) with
 | false => rw [Bool.false_and]; exact ev_neg (by simp) (impl_vt_j0f w h ts D H)
 | true =>
  have t30 := (tok_iff.1 ht).1
  rw [Bool.true_and]
  refine ev_pos (by trivial) (ev_ite (fun e => ?_) (fun e => ?_))
  ·refine Ev.step (fun _ => rfl) ?_
   simp only [impl_ValidTables.j0]
   by_cases f : (H.length : Int) = ts.length
   ·refine ev_neg (by rw [f]; simp) ?_
    rw [decide_eq_true (show D.length = ts.length ∧ H.length = ts.length by omega), Bool.true_and]
    exact impl_vt_loop w h (by omega) (by omega) (by omega) (by omega) ts D H t30 (by omega) (by omega) ts.length 0 (by omega) (by omega)
   ·refine ev_pos (by rw [bne_iff_ne]; exact f) ?_
    rw [decide_eq_false (show ¬ (D.length = ts.length ∧ H.length = ts.length) by omega), Bool.false_and]; exact Ev.now _
  ·rw [decide_eq_false (show ¬ (D.length = ts.length ∧ H.length = ts.length) by omega), Bool.false_and]
   exact impl_vt_j0f w h ts D H

structure VT (w h : Int) (ts : List S120) (D H : List (List Int)) : Prop where
 w1 : 1 ≤ w
 w2 : w ≤ 40
 h1 : 1 ≤ h
 h2 : h ≤ 40
 n1 : 1 ≤ w * h
 n2 : w * h ≤ 1600
 t30 : (ts.length : Int) ≤ 30
 lD : D.length = ts.length
 lH : H.length = ts.length
 one : ∀ i : Int, 0 ≤ i → i < ts.length → TOK1 ts (w * h) i
 rD : ∀ i : Int, 0 ≤ i → i < ts.length → ((rd_L4 D i).length : Int) = w * h
 rH : ∀ i : Int, 0 ≤ i → i < ts.length → ((rd_L4 H i).length : Int) = w * h
 row : ∀ i : Int, 0 ≤ i → i < ts.length → ∀ c : Int, 0 ≤ c → c < w * h → RowAt w h (rd_T120 ts i).f2 (rd_L4 D i) (rd_L4 H i) c
theorem vt_facts {w h : Int} {ts : List S120} {D H : List (List Int)} (v : vt w h ts D H = true) : VT w h ts D H := by
 obtain ⟨s, t, l, r⟩ := vt_iff.1 v
 have t := tok_iff.1 t
 have wh := wh_le s.1 s.2.1 s.2.2.1 s.2.2.2
 exact ⟨s.1, s.2.1, s.2.2.1, s.2.2.2, wh.1, wh.2, t.1, l.1, l.2, t.2, fun i a b => (rowB_iff.1 (r i a b)).1, fun i a b => (rowB_iff.1 (r i a b)).2.1, fun i a b => (rowB_iff.1 (r i a b)).2.2⟩

theorem xor32_range (a b : Int) : 0 ≤ Go.bits .xor .u32 a b ∧ Go.bits .xor .u32 a b ≤ 4294967295 := by
 have := wf_bits .xor .u32 a b
 simp [Lit.wf, IntKind.min, IntKind.max, IntKind.signed, IntKind.bits] at this
 omega
theorem xor32_comm (a b : Int) : Go.bits .xor .u32 a b = Go.bits .xor .u32 b a := by
 simp only [Go.bits, BitVec.xor_comm]
theorem and32_one {x : Int} (h0 : 0 ≤ x) (h1 : x ≤ 4294967295) : Go.bits .and .u32 x 1 = x % 2 := by
 have := bits_mask .u32 32 (by decide) (fun n a b => by rw [IntKind.wrap_u32]; omega) 1 (by decide) x h0 (by omega)
 simpa using this
def crcStep (h : Int) : Int := if h % 2 = 1 then Go.bits .xor .u32 (h / 2) 3988292384 else h / 2
def crcSteps : Nat → Int → Int
 | 0, h => h
 | n + 1, h => crcSteps n (crcStep h)
def crcByte (h b : Int) : Int := crcSteps 8 (Go.bits .xor .u32 h b)
def crcOf (l : List Int) : Int := Go.bits .xor .u32 (l.foldl crcByte 4294967295) 4294967295
theorem crcStep_range {h : Int} (h0 : 0 ≤ h) (h1 : h ≤ 4294967295) : 0 ≤ crcStep h ∧ crcStep h ≤ 4294967295 := by
 unfold crcStep; split
 ·exact xor32_range _ _
 ·omega
theorem crcSteps_range (n : Nat) : ∀ {h : Int}, 0 ≤ h → h ≤ 4294967295 → 0 ≤ crcSteps n h ∧ crcSteps n h ≤ 4294967295 := by
 induction n with
 | zero => intro h h0 h1; exact ⟨h0, h1⟩
 | succ n ih => intro h h0 h1; exact ih (crcStep_range h0 h1).1 (crcStep_range h0 h1).2
theorem crcByte_range (h b : Int) : 0 ≤ crcByte h b ∧ crcByte h b ≤ 4294967295 := crcSteps_range 8 (xor32_range _ _).1 (xor32_range _ _).2
theorem crcOf_range (l : List Int) : 0 ≤ crcOf l ∧ crcOf l ≤ 4294967295 := xor32_range _ _
theorem drop_rd {l : List Int} {i : Nat} (h : i < l.length) : l.drop i = rd l (i : Int) :: l.drop (i + 1) := by
 rw [rd_get (by omega) (by simpa using h)]
 exact List.drop_eq_getElem_cons h

theorem impl_crc_bits {R : Int} (l : List Int) (i : Int) (d : Nat) : ∀ (j h : Int), 0 ≤ j → 8 - j = d → 0 ≤ h → h ≤ 4294967295 →
  Ev (fun k => impl_Crc32.l0 k (crcSteps d h) l l.length (wrap64 (i + 1))) R → Ev (fun k => impl_Crc32.l1 k h l l.length i j) R := by
 induction d with
 | zero =>
  intro j h j0 hd h0 h1 hR
  refine Ev.step (fun _ => rfl) ?_
  simp only [impl_Crc32.l1]
  exact ev_neg (by omega) hR
 | succ d ih =>
  intro j h j0 hd h0 h1 hR
  refine Ev.step (fun _ => rfl) ?_
  simp only [impl_Crc32.l1]
  refine ev_pos (by omega) ?_
  rw [and32_one h0 h1]
  simp (disch := omega) only [wrap64_id]
  refine ev_ite (fun e => ?_) (fun e => ?_)
  ·refine ih _ _ (by omega) (by omega) (xor32_range _ _).1 (xor32_range _ _).2 ?_
   simpa only [crcSteps, crcStep, if_pos e] using hR
  ·refine ih _ _ (by omega) (by omega) (by omega) (by omega) ?_
   simpa only [crcSteps, crcStep, if_neg e] using hR
theorem impl_crc_loop (l : List Int) (hb : l.length ≤ 9223372036854775800) (hl : ∀ i : Int, 0 ≤ i → i < l.length → 0 ≤ rd l i ∧ rd l i ≤ 255) (d : Nat) : ∀ (i : Nat) (h : Int), i + d = l.length → 0 ≤ h → h ≤ 4294967295 →
  Ev (fun k => impl_Crc32.l0 k h l l.length i) (Go.bits .xor .u32 ((l.drop i).foldl crcByte h) 4294967295) := by
 induction d with
 | zero =>
  intro i h hi h0 h1
  refine Ev.step (fun _ => rfl) ?_
  simp only [impl_Crc32.l0]
  refine ev_neg (by omega) ?_
  rw [List.drop_of_length_le (by omega), xor32_comm]
  exact Ev.now _
 | succ d ih =>
  intro i h hi h0 h1
  refine Ev.step (fun _ => rfl) ?_
  simp only [impl_Crc32.l0]
  refine ev_pos (by omega) (ev_pos (by omega) (ev_pos (by omega) ?_))
  have hr := hl i (by omega) (by omega)
  rw [Int.emod_eq_of_lt (show 0 ≤ rd l i by omega) (show rd l i < 4294967296 by omega)]
  refine impl_crc_bits l i 8 0 _ (by omega) (by omega) (xor32_range _ _).1 (xor32_range _ _).2 ?_
  rw [wrap64_id (by omega) (by omega), drop_rd (by omega)]
  have := ih (i + 1) (crcByte h (rd l i)) (by omega) (crcByte_range _ _).1 (crcByte_range _ _).2
  simpa only [List.foldl_cons, crcByte, Int.natCast_add, Int.natCast_one] using this
theorem impl_Crc32_ev (l : List Int) (hb : l.length ≤ 9223372036854775800) (hl : ∀ i : Int, 0 ≤ i → i < l.length → 0 ≤ rd l i ∧ rd l i ≤ 255) : Ev (fun k => impl_Crc32.f k l) (crcOf l) := by
 have := impl_crc_loop l hb hl l.length 0 4294967295 (by omega) (by omega) (by omega)
 simpa only [impl_Crc32.f, crcOf, List.drop_zero, Int.natCast_zero] using this

theorem spec_crc_bits {R : Int} (l : List Int) (i : Int) (d : Nat) : ∀ (j h : Int), 0 ≤ j → 8 - j = d → 0 ≤ h → h ≤ 4294967295 →
  Ev (fun k => spec_Crc32.l0 k l (crcSteps d h) (wrap64 (i + 1))) R → Ev (fun k => spec_Crc32.l1 k l h i j) R := by
 induction d with
 | zero =>
  intro j h j0 hd h0 h1 hR
  refine Ev.step (fun _ => rfl) ?_
  simp only [spec_Crc32.l1]
  exact ev_neg (by omega) hR
 | succ d ih =>
  intro j h j0 hd h0 h1 hR
  refine Ev.step (fun _ => rfl) ?_
  simp only [spec_Crc32.l1]
  refine ev_pos (by omega) ?_
  simp (disch := omega) only [wrap64_id, tdiv_nn, tmod_nn]
  rw [Int.emod_eq_of_lt (show 0 ≤ h / 2 by omega) (show h / 2 < 4294967296 by omega)]
  refine ev_ite (fun e => ?_) (fun e => ?_)
  ·refine ih _ _ (by omega) (by omega) (xor32_range _ _).1 (xor32_range _ _).2 ?_
   simpa only [crcSteps, crcStep, if_pos e] using hR
  ·refine ih _ _ (by omega) (by omega) (by omega) (by omega) ?_
   simpa only [crcSteps, crcStep, if_neg e] using hR
theorem spec_crc_loop (l : List Int) (hb : l.length ≤ 9223372036854775800) (hl : ∀ i : Int, 0 ≤ i → i < l.length → 0 ≤ rd l i ∧ rd l i ≤ 255) (d : Nat) : ∀ (i : Nat) (h : Int), i + d = l.length → 0 ≤ h → h ≤ 4294967295 →
  Ev (fun k => spec_Crc32.l0 k l h i) (Go.bits .xor .u32 ((l.drop i).foldl crcByte h) 4294967295) := by
 induction d with
 | zero =>
  intro i h hi h0 h1
  refine Ev.step (fun _ => rfl) ?_
  simp only [spec_Crc32.l0]
  refine ev_neg (by omega) ?_
  rw [List.drop_of_length_le (by omega)]
  exact Ev.now _
 | succ d ih =>
  intro i h hi h0 h1
  refine Ev.step (fun _ => rfl) ?_
  simp only [spec_Crc32.l0]
  refine ev_pos (by omega) (ev_pos (by omega) ?_)
  have hr := hl i (by omega) (by omega)
  rw [Int.emod_eq_of_lt (show 0 ≤ rd l i by omega) (show rd l i < 4294967296 by omega)]
  refine spec_crc_bits l i 8 0 _ (by omega) (by omega) (xor32_range _ _).1 (xor32_range _ _).2 ?_
  rw [wrap64_id (by omega) (by omega), drop_rd (by omega)]
  have := ih (i + 1) (crcByte h (rd l i)) (by omega) (crcByte_range _ _).1 (crcByte_range _ _).2
  simpa only [List.foldl_cons, crcByte, Int.natCast_add, Int.natCast_one] using this
theorem spec_Crc32_ev (l : List Int) (hb : l.length ≤ 9223372036854775800) (hl : ∀ i : Int, 0 ≤ i → i < l.length → 0 ≤ rd l i ∧ rd l i ≤ 255) : Ev (fun k => spec_Crc32.f k l) (crcOf l) := by
 have := spec_crc_loop l hb hl l.length 0 4294967295 (by omega) (by omega) (by omega)
 simpa only [spec_Crc32.f, crcOf, List.drop_zero, Int.natCast_zero] using this

def byt (f : Nat → Int) (j : Nat) : Int := f (8*j) + f (8*j+1) * 2 + f (8*j+2) * 4 + f (8*j+3) * 8 + f (8*j+4) * 16 + f (8*j+5) * 32 + f (8*j+6) * 64 + f (8*j+7) * 128
def hcode (v : Int) : Int := if v < 0 then 4 else v
def hbit (hops : List Int) (t : Nat) : Int := hcode (rd hops (t / 3 : Nat)) / 2 ^ (t % 3) % 2
def upto (hops : List Int) (m t : Nat) : Int := if t < m then hbit hops t else 0
def packed (hops : List Int) (m : Nat) : List Int := (List.range ((3 * hops.length + 7) / 8)).map (byt (upto hops m))
theorem hbit_01 (hops : List Int) (t : Nat) : 0 ≤ hbit hops t ∧ hbit hops t ≤ 1 := by unfold hbit; omega
theorem upto_01 (hops : List Int) (m t : Nat) : 0 ≤ upto hops m t ∧ upto hops m t ≤ 1 := by
 unfold upto; split
 ·exact hbit_01 _ _
 ·omega
theorem byt_range {f : Nat → Int} (h : ∀ t, 0 ≤ f t ∧ f t ≤ 1) (j : Nat) : 0 ≤ byt f j ∧ byt f j ≤ 255 := by
 have h0 := h (8*j); have h1 := h (8*j+1); have h2 := h (8*j+2); have h3 := h (8*j+3); have h4 := h (8*j+4); have h5 := h (8*j+5); have h6 := h (8*j+6); have h7 := h (8*j+7)
 unfold byt; omega
theorem byt_bit {f : Nat → Int} (h : ∀ t, 0 ≤ f t ∧ f t ≤ 1) (j s : Nat) (hs : s < 8) : byt f j / 2 ^ s % 2 = f (8 * j + s) := by
 have h0 := h (8*j); have h1 := h (8*j+1); have h2 := h (8*j+2); have h3 := h (8*j+3); have h4 := h (8*j+4); have h5 := h (8*j+5); have h6 := h (8*j+6); have h7 := h (8*j+7)
 unfold byt
 have e : s = 0 ∨ s = 1 ∨ s = 2 ∨ s = 3 ∨ s = 4 ∨ s = 5 ∨ s = 6 ∨ s = 7 := by omega
 rcases e with rfl | rfl | rfl | rfl | rfl | rfl | rfl | rfl <;> (try simp only [Nat.add_zero, Int.pow_zero]) <;> omega
theorem byt_congr {f g : Nat → Int} (j : Nat) (h : ∀ s, s < 8 → g (8 * j + s) = f (8 * j + s)) : byt g j = byt f j := by
 have h0 := h 0 (by omega); have h1 := h 1 (by omega); have h2 := h 2 (by omega); have h3 := h 3 (by omega); have h4 := h 4 (by omega); have h5 := h 5 (by omega); have h6 := h 6 (by omega); have h7 := h 7 (by omega)
 simp only [Nat.add_zero] at h0
 unfold byt; rw [h0, h1, h2, h3, h4, h5, h6, h7]
theorem byt_upd {f g : Nat → Int} (j s : Nat) (hs : s < 8) (h : ∀ t, t ≠ 8 * j + s → g t = f t) (hf : f (8 * j + s) = 0) : byt g j = byt f j + g (8 * j + s) * 2 ^ s := by
 have e : s = 0 ∨ s = 1 ∨ s = 2 ∨ s = 3 ∨ s = 4 ∨ s = 5 ∨ s = 6 ∨ s = 7 := by omega
 unfold byt
 rcases e with rfl | rfl | rfl | rfl | rfl | rfl | rfl | rfl
 ·rw [h (8*j+1) (by omega), h (8*j+2) (by omega), h (8*j+3) (by omega), h (8*j+4) (by omega), h (8*j+5) (by omega), h (8*j+6) (by omega), h (8*j+7) (by omega)]; simp only [Nat.add_zero] at hf ⊢; rw [hf]; omega
 ·rw [h (8*j) (by omega), h (8*j+2) (by omega), h (8*j+3) (by omega), h (8*j+4) (by omega), h (8*j+5) (by omega), h (8*j+6) (by omega), h (8*j+7) (by omega), hf]; omega
 ·rw [h (8*j) (by omega), h (8*j+1) (by omega), h (8*j+3) (by omega), h (8*j+4) (by omega), h (8*j+5) (by omega), h (8*j+6) (by omega), h (8*j+7) (by omega), hf]; omega
 ·rw [h (8*j) (by omega), h (8*j+1) (by omega), h (8*j+2) (by omega), h (8*j+4) (by omega), h (8*j+5) (by omega), h (8*j+6) (by omega), h (8*j+7) (by omega), hf]; omega
 ·rw [h (8*j) (by omega), h (8*j+1) (by omega), h (8*j+2) (by omega), h (8*j+3) (by omega), h (8*j+5) (by omega), h (8*j+6) (by omega), h (8*j+7) (by omega), hf]; omega
 ·rw [h (8*j) (by omega), h (8*j+1) (by omega), h (8*j+2) (by omega), h (8*j+3) (by omega), h (8*j+4) (by omega), h (8*j+6) (by omega), h (8*j+7) (by omega), hf]; omega
 ·rw [h (8*j) (by omega), h (8*j+1) (by omega), h (8*j+2) (by omega), h (8*j+3) (by omega), h (8*j+4) (by omega), h (8*j+5) (by omega), h (8*j+7) (by omega), hf]; omega
 ·rw [h (8*j) (by omega), h (8*j+1) (by omega), h (8*j+2) (by omega), h (8*j+3) (by omega), h (8*j+4) (by omega), h (8*j+5) (by omega), h (8*j+6) (by omega), hf]; omega
theorem packed_length (hops : List Int) (m : Nat) : (packed hops m).length = (3 * hops.length + 7) / 8 := by simp [packed]
theorem packed_rd (hops : List Int) (m : Nat) {i : Int} (h0 : 0 ≤ i) (h1 : i < (((3 * hops.length + 7) / 8 : Nat) : Int)) : rd (packed hops m) i = byt (upto hops m) i.toNat := by
 rw [rd_get h0 (by rw [packed_length]; omega)]
 simp only [packed, List.getElem_map, List.getElem_range]
theorem packed_zero (hops : List Int) : packed hops 0 = List.replicate ((3 * hops.length + 7) / 8) 0 := by
 apply rd_ext (by simp [packed])
 intro i h0 h1
 rw [packed_length] at h1
 rw [packed_rd _ _ h0 h1, rd_get h0 (by simp; omega)]
 simp [byt, upto]
theorem packed_step (hops : List Int) (m : Nat) (hm : m < 3 * hops.length) {i : Int} (hi : i = (m / 8 : Nat)) {v : Int}
  (hv : v = rd (packed hops m) i + hbit hops m * 2 ^ (m % 8)) : (packed hops m).set i.toNat v = packed hops (m + 1) := by
 have hj : m / 8 < (3 * hops.length + 7) / 8 := by omega
 apply rd_ext (by simp [packed])
 intro q q0 q1
 rw [List.length_set, packed_length] at q1
 rw [packed_rd _ (m + 1) q0 q1]
 by_cases e : q = i
 ·subst e
  rw [rd_set_eq q0 (by rw [packed_length]; exact q1), hv, packed_rd _ _ q0 q1]
  have hq : q.toNat = m / 8 := by omega
  rw [hq, byt_upd (f := upto hops m) (g := upto hops (m+1)) (m / 8) (m % 8) (by omega) ?_ ?_]
  ·rw [show 8 * (m / 8) + m % 8 = m by omega]; unfold upto; rw [if_pos (by omega)]
  ·intro t ht; unfold upto
   by_cases h1 : t < m
   ·rw [if_pos h1, if_pos (by omega)]
   ·rw [if_neg h1, if_neg (by omega)]
  ·unfold upto; rw [if_neg (by omega)]
 ·rw [rd_set_ne (by omega) q0 (by omega), packed_rd _ _ q0 q1]
  refine (byt_congr _ (fun s hs => ?_)).symm
  unfold upto
  have : 8 * q.toNat + s ≠ m := by omega
  by_cases h1 : 8 * q.toNat + s < m
  ·rw [if_pos h1, if_pos (by omega)]
  ·rw [if_neg h1, if_neg (by omega)]
theorem packed_same (hops : List Int) (m : Nat) (h : hbit hops m = 0) : packed hops (m + 1) = packed hops m := by
 apply rd_ext (by simp [packed])
 intro q q0 q1
 rw [packed_length] at q1
 rw [packed_rd _ _ q0 q1, packed_rd _ _ q0 q1]
 refine byt_congr _ (fun s hs => ?_)
 unfold upto
 by_cases h1 : 8 * q.toNat + s < m
 ·rw [if_pos h1, if_pos (by omega)]
 ·by_cases h2 : 8 * q.toNat + s = m
  ·rw [h2, if_pos (by omega), if_neg (by omega), h]
  ·rw [if_neg h1, if_neg (by omega)]
theorem packed_byte (hops : List Int) (m : Nat) {i : Int} (h0 : 0 ≤ i) (h1 : i < (((3 * hops.length + 7) / 8 : Nat) : Int)) : 0 ≤ rd (packed hops m) i ∧ rd (packed hops m) i ≤ 255 := by
 rw [packed_rd _ _ h0 h1]; exact byt_range (upto_01 _ _) _
theorem or_bit_nat : ∀ x, x < 256 → ∀ s, s < 8 → x / 2 ^ s % 2 = 0 → x ||| 2 ^ s = x + 2 ^ s := by decide +kernel
theorem u8_or_bit {x b : Int} {s : Nat} (hx0 : 0 ≤ x) (hx1 : x ≤ 255) (hs : s < 8) (hb0 : 0 ≤ b) (hb1 : b ≤ 1) (hz : x / 2 ^ s % 2 = 0) : Go.bits .or .u8 x (b * 2 ^ s) = x + b * 2 ^ s := by
 obtain ⟨a, rfl⟩ := Int.eq_ofNat_of_zero_le hx0
 have e : b = 0 ∨ b = 1 := by omega
 have hp : 2 ^ s < 2 ^ 8 := Nat.pow_lt_pow_right (by decide) hs
 rcases e with rfl | rfl
 ·have := (bits_nat .u8 8 (by decide) wraps_u8 a 0 (by omega) (by decide)).2
  simpa using this
 ·have h1 := (bits_nat .u8 8 (by decide) wraps_u8 a (2 ^ s) (by omega) hp).2
  have h2 : a / 2 ^ s % 2 = 0 := by exact_mod_cast hz
  rw [or_bit_nat a (by omega) s hs h2] at h1
  have h3 : ((2 ^ s : Nat) : Int) = 1 * 2 ^ s := by simp
  rw [← h3, h1]; simp
theorem i64_and_one {x : Int} (h0 : 0 ≤ x) (h1 : x < 2 ^ 62) : Go.bits .and .i64 x 1 = x % 2 := by
 have := bits_mask .i64 62 (by decide) (fun n a b => by rw [IntKind.wrap_i64]; omega) 1 (by decide) x h0 h1
 simpa using this
theorem shl_u8 {x y : Int} (h0 : 0 ≤ y) (h1 : y < 8) (hx0 : 0 ≤ x) (hx : x ≤ 1) : shl .u8 x y = x * 2 ^ y.toNat := by
 unfold shl
 rw [show min y.toNat IntKind.u8.bits = y.toNat by simp only [IntKind.bits]; omega, IntKind.wrap_u8]
 obtain ⟨n, rfl⟩ := Int.eq_ofNat_of_zero_le h0
 have e : n = 0 ∨ n = 1 ∨ n = 2 ∨ n = 3 ∨ n = 4 ∨ n = 5 ∨ n = 6 ∨ n = 7 := by omega
 rcases e with rfl | rfl | rfl | rfl | rfl | rfl | rfl | rfl <;> simp <;> omega
theorem shr_small' {k : IntKind} {x y : Int} (hy : y.toNat ≤ k.bits) : shr k x y = x / 2 ^ y.toNat := by
 unfold shr; rw [Nat.min_eq_left hy]

def hopsOk (hops : List Int) : Prop := ∀ i : Int, 0 ≤ i → i < hops.length → -1 ≤ rd hops i ∧ rd hops i ≤ 3
open Classical in
noncomputable def packres (hops : List Int) : List Int × Int := if hopsOk hops then (packed hops (3 * hops.length), 0) else ([], 1)
theorem packres_ok {hops : List Int} (h : hopsOk hops) : packres hops = (packed hops (3 * hops.length), 0) := by unfold packres; rw [if_pos h]
theorem packres_bad {hops : List Int} (h : ¬ hopsOk hops) : packres hops = ([], 1) := by unfold packres; rw [if_neg h]
theorem u64_id {x : Int} (h0 : 0 ≤ x) (h1 : x < 18446744073709551616) : IntKind.u64.wrap x = x := by
 simp [IntKind.wrap, IntKind.bits, IntKind.signed]; omega
theorem hbit_at (hops : List Int) (i q : Nat) (hq : q < 3) : hbit hops (3 * i + q) = hcode (rd hops (i : Int)) / 2 ^ q % 2 := by
 unfold hbit; rw [show (3 * i + q) / 3 = i by omega, show (3 * i + q) % 3 = q by omega]
theorem hcode_next {v : Int} (q : Nat) : hcode v / 2 ^ q / 2 = hcode v / 2 ^ (q + 1) := by
 rw [Int.pow_succ, Int.ediv_ediv_of_nonneg (Int.pow_nonneg (by omega))]
theorem hcode_range {v : Int} (h : -1 ≤ v ∧ v ≤ 3) : 0 ≤ hcode v ∧ hcode v ≤ 4 := by unfold hcode; omega
theorem hcode_div {v : Int} (h : -1 ≤ v ∧ v ≤ 3) (q : Nat) (hq : q < 3) : 0 ≤ hcode v / 2 ^ q ∧ hcode v / 2 ^ q ≤ 4 := by
 have hc := hcode_range h
 have e : q = 0 ∨ q = 1 ∨ q = 2 := by omega
 rcases e with rfl | rfl | rfl <;> simp <;> omega
theorem packed_add (hops : List Int) (m : Nat) (hm : m < 3 * hops.length) {i : Int} (hi : i = (m / 8 : Nat)) :
  0 ≤ rd (packed hops m) i ∧ rd (packed hops m) i ≤ 255 ∧ rd (packed hops m) i / 2 ^ (m % 8) % 2 = 0 ∧ rd (packed hops m) i + hbit hops m * 2 ^ (m % 8) ≤ 255 := by
 have h1 := packed_byte hops m (i := i) (by omega) (by omega)
 have h2 := packed_byte hops (m + 1) (i := i) (by omega) (by omega)
 have h3 := packed_step hops m hm hi rfl
 have h4 : rd (packed hops (m + 1)) i = rd (packed hops m) i + hbit hops m * 2 ^ (m % 8) := by
  rw [← h3, rd_set_eq (by omega) (by rw [packed_length]; omega)]
 have h5 := byt_bit (upto_01 hops m) (m / 8) (m % 8) (by omega)
 rw [show 8 * (m / 8) + m % 8 = m by omega] at h5
 have h6 : upto hops m m = 0 := by unfold upto; rw [if_neg (by omega)]
 rw [h6] at h5
 have h7 : rd (packed hops m) i = byt (upto hops m) (m / 8) := by rw [packed_rd _ _ (by omega) (by omega)]; congr 1; omega
 rw [← h7] at h5
 exact ⟨h1.1, h1.2, h5, by omega⟩

theorem impl_pack_step {hops : List Int} {R : List Int × Int} (hb : hops.length ≤ 35184372088832) (i q : Nat) (hi : i < hops.length) (hq : q < 3) (hr : -1 ≤ rd hops i ∧ rd hops i ≤ 3)
  (h : Ev (fun k => impl_PackHops.l1 k (packed hops (3 * i + q + 1)) i (hcode (rd hops i)) hops hops.length i ((q : Int) + 1)) R) :
  Ev (fun k => impl_PackHops.l1 k (packed hops (3 * i + q)) i (hcode (rd hops i)) hops hops.length i q) R := by
 have hc := hcode_range hr
 have hbq := hbit_at hops i q hq
 have hb01 := hbit_01 hops (3 * i + q)
 have hc0 := hcode_div hr q hq
 have hl := packed_length hops (3 * i + q)
 refine Ev.step (fun _ => rfl) ?_
 simp only [impl_PackHops.l1]
 refine ev_pos (by omega) ?_
 rw [shr_small' (by simp only [IntKind.bits]; omega), show ((q : Int)).toNat = q by omega]
 rw [i64_and_one hc0.1 (by omega), ← hbq]
 simp (disch := omega) only [wrap64_id, tdiv_nn, tmod_nn]
 refine ev_pos (by omega) (ev_pos (by omega) (ev_pos (by omega) (ev_pos (by omega) ?_)))
 have hs := packed_add hops (3 * i + q) (by omega) (i := (3 * (i : Int) + q) / 8) (by omega)
 rw [Int.emod_eq_of_lt hb01.1 (show hbit hops (3 * i + q) < 256 by omega), shl_u8 (by omega) (by omega) (by omega) (by omega),
  show ((3 * (i : Int) + (q : Int)) % 8).toNat = (3 * i + q) % 8 by omega,
  u8_or_bit hs.1 hs.2.1 (by omega) hb01.1 hb01.2 hs.2.2.1]
 rw [packed_step hops (3 * i + q) (by omega) (by omega) rfl]
 exact h
theorem impl_pack_loop (hops : List Int) (hb : hops.length ≤ 35184372088832) (d : Nat) : ∀ (i : Nat), i + d = hops.length →
  (∀ j : Int, 0 ≤ j → j < i → -1 ≤ rd hops j ∧ rd hops j ≤ 3) → Ev (fun k => impl_PackHops.l0 k (packed hops (3 * i)) hops hops.length i) (packres hops) := by
 induction d with
 | zero =>
  intro i hi ho
  refine Ev.step (fun _ => rfl) ?_
  simp only [impl_PackHops.l0]
  refine ev_neg (by omega) ?_
  rw [packres_ok (fun j a b => ho j a (by omega)), show i = hops.length by omega]
  exact Ev.now _
 | succ d ih =>
  intro i hi ho
  refine Ev.step (fun _ => rfl) ?_
  simp only [impl_PackHops.l0]
  refine ev_pos (by omega) (ev_pos (by omega) (ev_pos (by omega) ?_))
  have bad : ¬ (-1 ≤ rd hops i ∧ rd hops i ≤ 3) → Ev (fun k => impl_PackHops.j1 k (packed hops (3 * i)) i (rd hops i) hops hops.length i true) (packres hops) := by
   intro hn
   refine Ev.step (fun _ => rfl) ?_
   simp only [impl_PackHops.j1]
   rw [packres_bad (fun h => hn (h i (by omega) (by omega)))]
   exact ev_pos (by trivial) (Ev.now _)
  refine ev_ite (fun e => bad (by omega)) (fun e => ?_)
  by_cases e2 : rd hops i > 3
  ·rw [decide_eq_true e2]; exact bad (by omega)
  rw [decide_eq_false e2]
  have hr : -1 ≤ rd hops i ∧ rd hops i ≤ 3 := by omega
  have good : Ev (fun k => impl_PackHops.j2 k (packed hops (3 * i)) i (hcode (rd hops i)) hops hops.length i) (packres hops) := by
   refine Ev.step (fun _ => rfl) ?_
   simp only [impl_PackHops.j2]
   have s0 := fun h => impl_pack_step (R := packres hops) hb i 0 (by omega) (by omega) hr h
   have s1 := fun h => impl_pack_step (R := packres hops) hb i 1 (by omega) (by omega) hr h
   have s2 := fun h => impl_pack_step (R := packres hops) hb i 2 (by omega) (by omega) hr h
   simp only [Nat.add_zero, Int.natCast_zero, Int.zero_add] at s0
   refine s0 (s1 (s2 ?_))
   refine Ev.step (fun _ => rfl) ?_
   simp only [impl_PackHops.l1]
   refine ev_neg (by omega) ?_
   rw [wrap64_id (by omega) (by omega)]
   have := ih (i + 1) (by omega) (fun j a b => by
    by_cases e : j = i
    ·rw [e]; exact hr
    ·exact ho j a (by omega))
   rw [show 3 * i + 2 + 1 = 3 * (i + 1) by omega]
   exact this
  refine Ev.step (fun _ => rfl) ?_
  simp only [impl_PackHops.j1]
  refine ev_neg (by simp) ?_
  unfold hcode at good
  refine ev_ite (fun e3 => ?_) (fun e3 => ?_)
  ·rw [if_pos e3] at good; exact good
  ·rw [if_neg e3] at good; exact good
theorem impl_PackHops_ev (hops : List Int) (hb : hops.length ≤ 35184372088832) : Ev (fun k => impl_PackHops.f k hops) (packres hops) := by
 simp only [impl_PackHops.f]
 simp (disch := omega) only [wrap64_id, tdiv_nn]
 refine ev_pos (by omega) (ev_pos (by omega) ?_)
 have := impl_pack_loop hops hb hops.length 0 (by omega) (fun j a b => by omega)
 rw [Nat.mul_zero, packed_zero] at this
 rw [show ((3 * (hops.length : Int) + 7) / 8).toNat = (3 * hops.length + 7) / 8 by omega]
 exact this
theorem packres_length (hops : List Int) : (packres hops).1.length ≤ (3 * hops.length + 7) / 8 := by
 unfold packres; split
 ·simp only [packed_length]; omega
 ·simp

theorem spec_pack_step {hops : List Int} {R : List Int × Int} (hb : hops.length ≤ 35184372088832) (i q : Nat) (hi : i < hops.length) (hq : q < 3) (hr : -1 ≤ rd hops i ∧ rd hops i ≤ 3)
  (h : Ev (fun k => spec_PackHops.l1 k hops (packed hops (3 * i + q + 1)) i (hcode (rd hops i) / 2 ^ (q + 1)) ((q : Int) + 1)) R) :
  Ev (fun k => spec_PackHops.l1 k hops (packed hops (3 * i + q)) i (hcode (rd hops i) / 2 ^ q) q) R := by
 have hc := hcode_range hr
 have hbit := hbit_at hops i q hq
 have hn := hcode_next (v := rd hops i) q
 have hc0 := hcode_div hr q hq
 have hl := packed_length hops (3 * i + q)
 refine Ev.step (fun _ => rfl) ?_
 simp only [spec_PackHops.l1]
 refine ev_pos (by omega) ?_
 generalize hcode (rd hops i) / 2 ^ q = c at *
 simp (disch := omega) only [wrap64_id, tdiv_nn, tmod_nn, u64_id]
 rw [hn]
 refine ev_ite (fun e => ?_) (fun e => ?_)
 ·refine ev_pos (by omega) (ev_pos (by omega) (ev_pos (by omega) ?_))
  rw [packed_step hops (3 * i + q) (by omega) (by omega) ?_]
  ·exact h
  ·have hs := packed_add hops (3 * i + q) (by omega) (i := (3 * (i : Int) + q) / 8) (by omega)
   have hp : (0 : Int) < 2 ^ ((3 * i + q) % 8) := Int.pow_pos (by omega)
   rw [hbit, e] at hs ⊢
   rw [shl_u8 (by omega) (by omega) (by omega) (by omega), show ((3 * (i : Int) + (q : Int)) % 8).toNat = (3 * i + q) % 8 by omega]
   omega
 ·rw [packed_same hops (3 * i + q) (by omega)] at h
  exact h
theorem spec_pack_loop (hops : List Int) (hb : hops.length ≤ 35184372088832) (d : Nat) : ∀ (i : Nat), i + d = hops.length →
  (∀ j : Int, 0 ≤ j → j < i → -1 ≤ rd hops j ∧ rd hops j ≤ 3) → Ev (fun k => spec_PackHops.l0 k hops (packed hops (3 * i)) i) (packres hops) := by
 induction d with
 | zero =>
  intro i hi ho
  refine Ev.step (fun _ => rfl) ?_
  simp only [spec_PackHops.l0]
  refine ev_neg (by omega) ?_
  rw [packres_ok (fun j a b => ho j a (by omega)), show i = hops.length by omega]
  exact Ev.now _
 | succ d ih =>
  intro i hi ho
  refine Ev.step (fun _ => rfl) ?_
  simp only [spec_PackHops.l0]
  refine ev_pos (by omega) (ev_pos (by omega) ?_)
  have bad : ¬ (-1 ≤ rd hops i ∧ rd hops i ≤ 3) → Ev (fun k => spec_PackHops.j1 k hops (packed hops (3 * i)) i (rd hops i) true) (packres hops) := by
   intro hn
   refine Ev.step (fun _ => rfl) ?_
   simp only [spec_PackHops.j1]
   rw [packres_bad (fun h => hn (h i (by omega) (by omega)))]
   exact ev_pos (by trivial) (Ev.now _)
  refine ev_ite (fun e => bad (by omega)) (fun e => ?_)
  by_cases e2 : rd hops i > 3
  ·rw [decide_eq_true e2]; exact bad (by omega)
  rw [decide_eq_false e2]
  have hr : -1 ≤ rd hops i ∧ rd hops i ≤ 3 := by omega
  have good : Ev (fun k => spec_PackHops.j2 k hops (packed hops (3 * i)) i (hcode (rd hops i))) (packres hops) := by
   refine Ev.step (fun _ => rfl) ?_
   simp only [spec_PackHops.j2]
   have s0 := fun h => spec_pack_step (R := packres hops) hb i 0 (by omega) (by omega) hr h
   have s1 := fun h => spec_pack_step (R := packres hops) hb i 1 (by omega) (by omega) hr h
   have s2 := fun h => spec_pack_step (R := packres hops) hb i 2 (by omega) (by omega) hr h
   simp only [Nat.add_zero, Int.pow_zero, Int.ediv_one, Int.natCast_zero, Nat.zero_add, Int.zero_add] at s0
   refine s0 (s1 (s2 ?_))
   refine Ev.step (fun _ => rfl) ?_
   simp only [spec_PackHops.l1]
   refine ev_neg (by omega) ?_
   rw [wrap64_id (by omega) (by omega)]
   have := ih (i + 1) (by omega) (fun j a b => by
    by_cases e : j = i
    ·rw [e]; exact hr
    ·exact ho j a (by omega))
   rw [show 3 * i + 2 + 1 = 3 * (i + 1) by omega]
   exact this
  refine Ev.step (fun _ => rfl) ?_
  simp only [spec_PackHops.j1]
  refine ev_neg (by simp) ?_
  unfold hcode at good
  refine ev_ite (fun e3 => ?_) (fun e3 => ?_)
  ·rw [if_pos e3] at good; exact good
  ·rw [if_neg e3] at good; exact good
theorem spec_PackHops_ev (hops : List Int) (hb : hops.length ≤ 35184372088832) : Ev (fun k => spec_PackHops.f k hops) (packres hops) := by
 simp only [spec_PackHops.f]
 simp (disch := omega) only [wrap64_id, tdiv_nn]
 refine ev_pos (by omega) (ev_pos (by omega) ?_)
 have := spec_pack_loop hops hb hops.length 0 (by omega) (fun j a b => by omega)
 rw [Nat.mul_zero, packed_zero] at this
 rw [show ((3 * (hops.length : Int) + 7) / 8).toNat = (3 * hops.length + 7) / 8 by omega]
 exact this

def leB (x : Int) (n : Nat) : List Int := (List.range n).map fun i => x / 256 ^ i % 256
theorem leB_length (x : Int) (n : Nat) : (leB x n).length = n := by simp [leB]
theorem leB_succ (x : Int) (n : Nat) : leB x (n + 1) = leB x n ++ [x / 256 ^ n % 256] := by simp [leB, List.range_succ]
theorem leB_drop (x : Int) (n i : Nat) (h : i < n) : (leB x n).drop i = x / 256 ^ i % 256 :: (leB x n).drop (i + 1) := by
 rw [List.drop_eq_getElem_cons (by rw [leB_length]; exact h)]
 simp [leB]
def leL (n : Nat) : List Int → List Int
 | [] => []
 | x :: xs => leB x n ++ leL n xs
theorem leL_length (n : Nat) : ∀ xs : List Int, (leL n xs).length = n * xs.length
 | [] => by simp [leL]
 | x :: xs => by rw [leL, List.length_append, leB_length, leL_length n xs, List.length_cons, Nat.mul_succ]; omega
def AllB (l : List Int) : Prop := ∀ b ∈ l, 0 ≤ b ∧ b ≤ 255
theorem AllB.append {a b : List Int} (ha : AllB a) (hb : AllB b) : AllB (a ++ b) := fun x hx => (List.mem_append.1 hx).elim (ha x) (hb x)
theorem AllB.at_ {l : List Int} (h : AllB l) : ∀ i : Int, 0 ≤ i → i < l.length → 0 ≤ rd l i ∧ rd l i ≤ 255 := fun i h0 h1 => h _ (rd_mem h0 h1)
theorem AllB.of {l : List Int} (h : ∀ i : Int, 0 ≤ i → i < l.length → 0 ≤ rd l i ∧ rd l i ≤ 255) : AllB l := by
 intro b hb
 obtain ⟨i, hi, rfl⟩ := List.getElem_of_mem hb
 have := h i (by omega) (by omega)
 rw [rd_get (by omega) (by simpa using hi)] at this
 simpa using this
theorem leB_all (x : Int) (n : Nat) : AllB (leB x n) := by
 intro b hb
 simp only [leB, List.mem_map] at hb
 obtain ⟨i, _, rfl⟩ := hb
 omega
theorem leL_all (n : Nat) : ∀ xs : List Int, AllB (leL n xs)
 | [] => fun b hb => by cases hb
 | x :: xs => by rw [leL]; exact (leB_all x n).append (leL_all n xs)
theorem shr_byte (x : Int) (i : Nat) (h : i < 8) : shr .i64 x (wrap64 (8 * (i : Int))) % 256 = x / 256 ^ i % 256 := by
 rw [wrap64_id (by omega) (by omega), shr_small' (by simp only [IntKind.bits]; omega), show (8 * (i : Int)).toNat = 8 * i by omega]
 rw [Int.pow_mul]
 rfl
theorem putF_le (x : Int) {n : Nat} (hn : n ≤ 8) (d : Nat) : ∀ i : Nat, i + d = n → impl_EncodeImage.putF x d (i : Int) = (leB x n).drop i := by
 induction d with
 | zero =>
  intro i hi
  rw [List.drop_of_length_le (by rw [leB_length]; omega), impl_EncodeImage.putF]
 | succ d ih =>
  intro i hi
  rw [leB_drop x n i (by omega), impl_EncodeImage.putF, shr_byte x i (by omega), ← ih (i + 1) (by omega)]
  rfl
theorem putL_le {n : Nat} (hn : n ≤ 8) : ∀ xs : List Int, impl_EncodeImage.putL n xs = leL n xs
 | [] => rfl
 | x :: xs => by
  rw [impl_EncodeImage.putL, leL, putL_le hn xs]
  congr 1
  exact (putF_le x hn n 0 (by omega)).trans (by rw [List.drop_zero])
theorem little_loop (v : Int) (v0 : 0 ≤ v) (v1 : v ≤ 9223372036854775807) (n : Nat) (hn : n ≤ 8) (d : Nat) : ∀ i : Nat, i + d = n → Ev (fun k => spec_l7little.l0 k (v / 256 ^ i) n (leB v i) i) (leB v n) := by
 induction d with
 | zero =>
  intro i hi
  obtain rfl : i = n := by omega
  refine Ev.step (fun _ => rfl) ?_
  simp only [spec_l7little.l0]
  exact ev_neg (by omega) (Ev.now _)
 | succ d ih =>
  intro i hi
  have K := ih (i + 1) (by omega)
  have p : (0 : Int) < 256 ^ i := Int.pow_pos (by omega)
  have q0 : 0 ≤ v / 256 ^ i := Int.ediv_nonneg v0 (by omega)
  have q1 : v / 256 ^ i ≤ v := Int.ediv_le_self _ v0
  refine Ev.step (fun _ => rfl) ?_
  simp only [spec_l7little.l0]
  refine ev_pos (by omega) (ev_pos (by rw [leB_length]; omega) ?_)
  rw [tdiv_nn q0, tmod_nn q0, wrap64_id (x := v / 256 ^ i / 256) (by omega) (by omega), wrap64_id (x := (i : Int) + 1) (by omega) (by omega), Int.emod_emod_of_dvd _ (Int.dvd_refl 256)]
  rw [leB_succ, Int.pow_succ, ← Int.ediv_ediv_of_nonneg (by omega)] at K
  exact K
theorem little_ev (v : Int) (v0 : 0 ≤ v) (v1 : v ≤ 9223372036854775807) (n : Nat) (hn : n ≤ 8) : Ev (fun k => spec_l7little.f k v n) (leB v n) := by
 simp only [spec_l7little.f]
 have := little_loop v v0 v1 n hn n 0 (by omega)
 simpa [leB] using this
theorem leB_one (x : Int) : leB x 1 = [x % 256] := by simp [leB, List.range_succ]
theorem leB_minus : leB (-1) 2 = leB 65535 2 := by decide
def tgtB (t : S120) : List Int := leL 1 [t.f1] ++ leL 2 [t.f2] ++ leL 1 [(t.f0.length : Int)] ++ t.f0
def tgts : List S120 → List Int
 | [] => []
 | t :: ts => tgtB t ++ tgts ts
noncomputable def rowI (D H : List (List Int)) (i : Int) : List Int := (packres (rd_L4 H i)).1 ++ leL 2 (rd_L4 D i)
noncomputable def rowsI (D H : List (List Int)) : Nat → Nat → List Int
 | 0, _ => []
 | m + 1, i => rowI D H i ++ rowsI D H m (i + 1)
noncomputable def bodyI (w h : Int) (ts : List S120) (D H : List (List Int)) : List Int := (([87, 72, 76, 49] ++ leL 2 [w, h, (ts.length : Int)]) ++ tgts ts) ++ rowsI D H ts.length 0
noncomputable def imgI (w h : Int) (ts : List S120) (D H : List (List Int)) : List Int := bodyI w h ts D H ++ leL 4 [crcOf (bodyI w h ts D H)]
section
variable {w h : Int} {ts : List S120} {D H : List (List Int)} (v : VT w h ts D H) (nb : Names ts)
include v
theorem tgt_at (i : Nat) (hi : i < ts.length) : ts.drop i = rd_T120 ts (i : Int) :: ts.drop (i + 1) := by
 rw [List.drop_eq_getElem_cons hi]
 unfold rd_T120
 rw [getD_lt (by rw [Int.toNat_natCast]; exact hi)]
 simp only [Int.toNat_natCast]
theorem tgtB_length (i : Nat) (hi : i < ts.length) : (tgtB (rd_T120 ts (i : Int))).length ≤ 64 := by
 have t := v.one i (by omega) (by omega)
 have := t.n2
 simp only [tgtB, List.length_append, leL_length, List.length_singleton]
 omega
theorem tgts_length (m : Nat) : ∀ i : Nat, i + m = ts.length → (tgts (ts.drop i)).length ≤ 64 * m := by
 induction m with
 | zero => intro i hi; rw [List.drop_of_length_le (by omega)]; simp [tgts]
 | succ m ih =>
  intro i hi
  rw [tgt_at v i (by omega), tgts, List.length_append]
  have := tgtB_length v i (by omega)
  have := ih (i + 1) (by omega)
  omega
theorem rowI_length (i : Nat) (hi : i < ts.length) : (rowI D H (i : Int)).length ≤ 4000 := by
 have a := v.rD i (by omega) (by omega)
 have b := v.rH i (by omega) (by omega)
 have c := packres_length (rd_L4 H (i : Int))
 have n2 := v.n2
 rw [rowI, List.length_append, leL_length]
 omega
theorem rowsI_length (m : Nat) : ∀ i : Nat, i + m = ts.length → (rowsI D H m i).length ≤ 4000 * m := by
 induction m with
 | zero => intro i hi; simp [rowsI]
 | succ m ih =>
  intro i hi
  rw [rowsI, List.length_append]
  have := rowI_length v i (by omega)
  have := ih (i + 1) (by omega)
  omega
theorem rowI_all (i : Nat) (hi : i < ts.length) : AllB (rowI D H (i : Int)) := by
 refine AllB.append ?_ (leL_all _ _)
 unfold packres
 split
 ·refine AllB.of (fun j j0 j1 => packed_byte _ _ j0 ?_)
  rw [packed_length] at j1
  exact j1
 ·intro b hb; cases hb
theorem rowsI_all (m : Nat) : ∀ i : Nat, i + m = ts.length → AllB (rowsI D H m i) := by
 induction m with
 | zero => intro i hi b hb; cases hb
 | succ m ih => intro i hi; exact (rowI_all v i (by omega)).append (ih (i + 1) (by omega))
include nb
theorem tgts_all (m : Nat) : ∀ i : Nat, i + m = ts.length → AllB (tgts (ts.drop i)) := by
 induction m with
 | zero => intro i hi; rw [List.drop_of_length_le (by omega)]; intro b hb; cases hb
 | succ m ih =>
  intro i hi
  rw [tgt_at v i (by omega), tgts]
  refine AllB.append ?_ (ih (i + 1) (by omega))
  refine AllB.append (((leL_all _ _).append (leL_all _ _)).append (leL_all _ _)) ?_
  exact AllB.of (nb i (by omega) (by omega)).1
theorem body_facts : (bodyI w h ts D H).length ≤ 200000 ∧ AllB (bodyI w h ts D H) := by
 have a := tgts_length v ts.length 0 (by omega)
 have b := rowsI_length v ts.length 0 (by omega)
 have t := v.t30
 rw [List.drop_zero] at a
 constructor
 ·simp only [bodyI, List.length_append, leL_length, List.length_cons, List.length_nil]; omega
 ·refine AllB.append (AllB.append (AllB.append ?_ (leL_all _ _)) ?_) (rowsI_all v _ 0 (by omega))
  ·intro x hx; simp only [List.mem_cons, List.not_mem_nil, or_false] at hx; omega
  ·have := tgts_all v nb ts.length 0 (by omega); rwa [List.drop_zero] at this
end

section
variable {w h : Int} {ts : List S120} {D H : List (List Int)} (v : VT w h ts D H)
include v
theorem impl_rows_ev (m : Nat) : ∀ i : Nat, i + m = ts.length → Ev (fun k => impl_EncodeImage.rows k D H m (i : Int)) (rowsI D H m i) := by
 induction m with
 | zero => intro i hi; exact Ev.now _
 | succ m ih =>
  intro i hi
  have lD := v.lD
  have lH := v.lH
  have rH := v.rH i (by omega) (by omega)
  have n2 := v.n2
  simp only [impl_EncodeImage.rows]
  refine Ev.bind (impl_PackHops_ev (impl_EncodeImage.row H (i : Int)) (by show (rd_L4 H (i : Int)).length ≤ _; omega)) (Ev.bind (ih (i + 1) (by omega)) ?_)
  rw [putL_le (by omega), rowsI, rowI, List.append_assoc]
  exact Ev.now _
theorem impl_ok : impl_EncodeImage.ok ts D H := by
 have t30 := v.t30
 have lD := v.lD
 have lH := v.lH
 have n2 := v.n2
 refine ⟨by omega, by omega, by omega, fun x hx => ?_⟩
 obtain ⟨i, hi, rfl⟩ := List.getElem_of_mem hx
 have r := v.rD i (by omega) (by omega)
 unfold rd_L4 at r
 rw [getD_lt (by simpa using hi)] at r
 simp only [Int.toNat_natCast] at r
 omega
theorem spec_img_d (i : Nat) (hi : i < ts.length) (ds : List Int) (hds : rd_L4 D (i : Int) = ds) (hl : ds.length ≤ 10000) (hr : ∀ c : Int, 0 ≤ c → c < ds.length → (0 ≤ rd ds c ∧ rd ds c ≤ 65534) ∨ rd ds c = -1) {R : List Int} (m : Nat) : ∀ (j : Nat) (out : List Int), j + m = ds.length → out.length + 2 * m ≤ 1000000000 →
  Ev (fun k => spec_l7image.l1 k (out ++ leL 2 (ds.drop j)) ((i : Int) + 1) w h ts D H) R → Ev (fun k => spec_l7image.l2 k out i j w h ts D H) R := by
 have t30 := v.t30
 have lD := v.lD
 induction m with
 | zero =>
  intro j out hj hb K
  refine Ev.step (fun _ => rfl) ?_
  simp only [spec_l7image.l2]
  rw [hds]
  refine ev_pos (by omega) (ev_pos (by omega) (ev_neg (by omega) ?_))
  rw [wrap64_id (by omega) (by omega)]
  rw [List.drop_of_length_le (by omega), leL, List.append_nil] at K
  exact K
 | succ m ih =>
  intro j out hj hb K
  have r := hr j (by omega) (by omega)
  rw [drop_rd (by omega), leL, ← List.append_assoc] at K
  have go : ∀ b : List Int, b = leB (rd ds (j : Int)) 2 → Ev (fun k => if out.length + b.length < 140737488355328 then spec_l7image.l2 k (out ++ b) i (wrap64 ((j : Int) + 1)) w h ts D H else none) R := by
   rintro b rfl
   refine ev_pos (by rw [leB_length]; omega) ?_
   rw [wrap64_id (by omega) (by omega)]
   exact ih (j + 1) _ (by omega) (by rw [List.length_append, leB_length]; omega) K
  refine Ev.step (fun _ => rfl) ?_
  simp only [spec_l7image.l2]
  rw [hds]
  refine ev_pos (by omega) (ev_pos (by omega) (ev_pos (by omega) (ev_pos (by omega) (ev_ite (fun e => ?_) (fun e => ?_)))))
  ·exact Ev.bind (little_ev 65535 (by omega) (by omega) 2 (by omega)) (go _ (by rw [show rd ds (j : Int) = -1 by omega]; exact leB_minus.symm))
  ·exact Ev.bind (little_ev (rd ds (j : Int)) (by omega) (by omega) 2 (by omega)) (go _ rfl)
theorem spec_img_r {R : List Int} (m : Nat) : ∀ (i : Nat) (out : List Int), i + m = ts.length → out.length + 4000 * m ≤ 1000000000 →
  Ev (fun k => (spec_Crc32.f k (out ++ rowsI D H m i)).bind fun t273 => (spec_l7little.f k (wrap64 t273) 4).bind fun t274 => if (out ++ rowsI D H m i).length + t274.length < 140737488355328 then some ((out ++ rowsI D H m i) ++ t274) else none) R →
  Ev (fun k => spec_l7image.l1 k out i w h ts D H) R := by
 induction m with
 | zero =>
  intro i out hi hb K
  refine Ev.step (fun _ => rfl) ?_
  simp only [spec_l7image.l1]
  rw [rowsI, List.append_nil] at K
  exact ev_neg (by omega) K
 | succ m ih =>
  intro i out hi hb K
  have rl := rowI_length v i (by omega)
  have t30 := v.t30
  have lD := v.lD
  have lH := v.lH
  have rD := v.rD i (by omega) (by omega)
  have rH := v.rH i (by omega) (by omega)
  have n2 := v.n2
  have pl := packres_length (rd_L4 H (i : Int))
  have row := v.row i (by omega) (by omega)
  rw [rowsI] at K
  unfold rowI at K rl
  refine Ev.step (fun _ => rfl) ?_
  simp only [spec_l7image.l1]
  have hr : ∀ c : Int, 0 ≤ c → c < (rd_L4 D (i : Int)).length → (0 ≤ rd (rd_L4 D (i : Int)) c ∧ rd (rd_L4 D (i : Int)) c ≤ 65534) ∨ rd (rd_L4 D (i : Int)) c = -1 := by
   intro c c0 c1
   have q := row c c0 (by omega)
   by_cases e : c = (rd_T120 ts (i : Int)).f2
   ·have := (q.home e).1; left; omega
   ·rcases q.away e with z | z
    ·exact .inr z.1
    ·left; omega
  refine ev_pos (by omega) (ev_pos (by omega) (ev_pos (by omega) (Ev.bind (spec_PackHops_ev _ (by omega)) (ev_pos (by omega) ?_))))
  refine spec_img_d v i (by omega) _ rfl (by omega) hr _ 0 _ (by rw [Nat.zero_add]) (by rw [List.length_append]; omega) ?_
  refine ih (i + 1) _ (by omega) (by simp only [List.length_append, leL_length, List.drop_zero]; omega) ?_
  simp only [List.append_assoc, List.drop_zero] at K ⊢
  exact K
theorem spec_img_t {R : List Int} (m : Nat) : ∀ (i : Nat) (out : List Int), i + m = ts.length → out.length + 64 * m ≤ 1000000000 → Ev (fun k => spec_l7image.l1 k (out ++ tgts (ts.drop i)) 0 w h ts D H) R →
  Ev (fun k => spec_l7image.l0 k out i w h ts D H) R := by
 induction m with
 | zero =>
  intro i out hi hb K
  refine Ev.step (fun _ => rfl) ?_
  simp only [spec_l7image.l0]
  rw [List.drop_of_length_le (by omega), tgts, List.append_nil] at K
  exact ev_neg (by omega) K
 | succ m ih =>
  intro i out hi hb K
  have tl := tgtB_length v i (by omega)
  have t := v.one i (by omega) (by omega)
  have n2 := v.n2
  have t30 := v.t30
  rw [tgt_at v i (by omega), tgts] at K
  refine Ev.step (fun _ => rfl) ?_
  simp only [spec_l7image.l0]
  have c0 := t.c0
  have c1 := t.c1
  clear t
  generalize rd_T120 ts (i : Int) = t at *
  have tl' : t.f0.length + 4 ≤ 64 := by simp only [tgtB, List.length_append, leL_length, List.length_singleton] at tl; omega
  refine ev_pos (by omega) (ev_pos (by omega) (ev_pos (by omega) (ev_letv (Ev.bind (little_ev t.f2 (by omega) (by omega) 2 (by omega)) (ev_pos (by rw [List.length_append, List.length_singleton, leB_length]; omega) (ev_letv (ev_pos (by simp only [List.length_append, List.length_singleton, leB_length]; omega) (ev_letv (ev_pos (by simp only [List.length_append, List.length_singleton, leB_length]; omega) ?_)))))))))
  rw [wrap64_id (x := (i : Int) + 1) (by omega) (by omega)]
  refine ih (i + 1) _ (by omega) (by simp only [List.length_append, List.length_singleton, leB_length]; omega) ?_
  simp only [tgtB, leL, leB_one, List.append_assoc, List.append_nil] at K ⊢
  exact K
end
theorem tgs_le : ∀ ts : List S120, impl_EncodeImage.tgs ts = tgts ts
 | [] => rfl
 | t :: ts => by
  rw [impl_EncodeImage.tgs, tgts, tgs_le ts, impl_EncodeImage.tg, tgtB, putL_le (by omega), putL_le (by omega), putL_le (by omega)]
  simp only [List.append_assoc]
theorem image_both (w h : Int) (ts : List S120) (D H : List (List Int)) (nb : Names ts) (lD : D.length ≤ 1048576) (lH : H.length ≤ 1048576) (lT : ts.length ≤ 1048576) :
  ∃ r, Ev (fun k => spec_EncodeImage.f k w h ts D H) r ∧ Ev (fun k => impl_EncodeImage.f k w h ts D H) r ∧ r.length ≤ 300000 := by
 have es := spec_ValidTables_ev w h ts D H nb lD lH lT
 have ei := impl_ValidTables_ev w h ts D H nb lD lH lT
 simp only [spec_EncodeImage.f, impl_EncodeImage.f]
 cases hv : vt w h ts D H with
 | false =>
  rw [hv] at es ei
  exact ⟨[], Ev.bind es (ev_neg (by simp) (Ev.now _)), Ev.bind ei (ev_neg (by simp) (Ev.now _)), by simp⟩
 | true =>
  rw [hv] at es ei
  have v := vt_facts hv
  have t30 := v.t30
  have w2 := v.w2
  have h2 := v.h2
  have w1 := v.w1
  have h1 := v.h1
  have bf := body_facts v nb
  have cr := crcOf_range (bodyI w h ts D H)
  have tl := tgts_length v ts.length 0 (by omega)
  rw [List.drop_zero] at tl
  refine ⟨imgI w h ts D H, Ev.bind es (ev_pos (by trivial) ?_), Ev.bind ei (ev_pos (by trivial) ?_), ?_⟩
  ·refine Ev.bind (r := imgI w h ts D H) ?_ (Ev.now _)
   simp only [spec_l7image.f]
   refine ev_letv (Ev.bind (little_ev w (by omega) (by omega) 2 (by omega)) (ev_pos (by rw [leB_length]; decide) (ev_letv (Ev.bind (little_ev h (by omega) (by omega) 2 (by omega)) (ev_pos (by rw [List.length_append, leB_length, leB_length]; decide) (ev_letv (Ev.bind (little_ev (ts.length : Int) (by omega) (by omega) 2 (by omega)) (ev_pos (by simp only [List.length_append, leB_length]; decide) ?_))))))))
   refine spec_img_t v ts.length 0 _ (by omega) (by simp only [List.length_append, leB_length, List.length_cons, List.length_nil]; omega) ?_
   refine spec_img_r v ts.length 0 _ (by omega) (by simp only [List.length_append, leB_length, List.length_cons, List.length_nil, List.drop_zero]; omega) ?_
   rw [List.drop_zero, show ((([87, 72, 76, 49] ++ leB w 2 ++ leB h 2 ++ leB (ts.length : Int) 2) ++ tgts ts) ++ rowsI D H ts.length 0) = bodyI w h ts D H by simp only [bodyI, leL, List.append_assoc, List.append_nil]]
   refine Ev.bind (spec_Crc32_ev _ (by omega) bf.2.at_) ?_
   rw [wrap64_id (by omega) (by omega)]
   refine Ev.bind (little_ev _ cr.1 (by omega) 4 (by omega)) (ev_pos (by rw [leB_length]; omega) ?_)
   rw [show bodyI w h ts D H ++ leB (crcOf (bodyI w h ts D H)) 4 = imgI w h ts D H by simp only [imgI, leL, List.append_nil]]
   exact Ev.now _
  ·refine ev_pos (impl_ok v) (Ev.bind (impl_rows_ev v ts.length 0 (by omega)) ?_)
   rw [show impl_EncodeImage.head w h ts ++ impl_EncodeImage.tgs ts ++ rowsI D H ts.length 0 = bodyI w h ts D H by unfold impl_EncodeImage.head; rw [putL_le (by omega), tgs_le]; rfl]
   refine Ev.bind (impl_Crc32_ev _ (by omega) bf.2.at_) ?_
   rw [wrap64_id (x := crcOf (bodyI w h ts D H)) (by omega) (by omega), putL_le (by omega)]
   exact ev_pos (by rw [List.length_append, leL_length, List.length_singleton]; omega) (Ev.now _)
  ·simp only [imgI, List.length_append, leL_length, List.length_singleton]; omega

theorem markIntSS_some (l : List (List Int)) (a : Int) (h1 : l.length ≤ 1048576) (h2 : ∀ j : Int, 0 ≤ j → j < l.length → ((rd_L4 l j).length : Int) ≤ 1048576) (a0 : 0 ≤ a) (a1 : a ≤ 1152921504606846976) : ∃ r, laws_markIntSS.f l a = some r ∧ a ≤ r ∧ r ≤ a + 1099511627776 := by
 have s2 : ∀ x ∈ l, x.length ≤ 1048576 := by
  intro x hx
  obtain ⟨j, hj, rfl⟩ := List.getElem_of_mem hx
  have := h2 (j : Int) (by omega) (by omega)
  unfold rd_L4 at this
  rw [List.getD_eq_getElem?_getD, Int.toNat_natCast, List.getElem?_eq_getElem hj] at this
  simp only [Option.getD_some] at this
  omega
 have t := totalL_le s2
 refine ⟨a + totalL l, ?_, by omega, by omega⟩
 unfold laws_markIntSS.f
 rw [if_pos ⟨smallL_iff.2 ⟨h1, s2⟩, a0, a1⟩]
theorem markTargetS_some (l : List S120) (a : Int) (h1 : l.length ≤ 1048576) (h2 : ∀ j : Int, 0 ≤ j → j < l.length → ((rd_T120 l j).f0.length : Int) ≤ 1048576) (a0 : 0 ≤ a) (a1 : a ≤ 1152921504606846976) : ∃ r, laws_markTargetS.f l a = some r ∧ a ≤ r ∧ r ≤ a + 1099513725952 := by
 have s2 : ∀ x ∈ l, x.f0.length ≤ 1048576 := by
  intro x hx
  obtain ⟨j, hj, rfl⟩ := List.getElem_of_mem hx
  have := h2 (j : Int) (by omega) (by omega)
  unfold rd_T120 at this
  rw [List.getD_eq_getElem?_getD, Int.toNat_natCast, List.getElem?_eq_getElem hj] at this
  simp only [Option.getD_some] at this
  omega
 have t := totalT_le s2
 refine ⟨a + totalT l, ?_, by omega, by omega⟩
 unfold laws_markTargetS.f
 rw [if_pos ⟨smallT_iff.2 ⟨h1, s2⟩, a0, a1⟩]
theorem markTables_some (w h : Int) (ts : List S120) (D H : List (List Int)) (c1 : ts.length ≤ 1048576 ∧ ∀ j : Int, 0 ≤ j → j < ts.length → ((rd_T120 ts j).f0.length : Int) ≤ 1048576)
  (c2 : D.length ≤ 1048576 ∧ ∀ j : Int, 0 ≤ j → j < D.length → ((rd_L4 D j).length : Int) ≤ 1048576) (c3 : H.length ≤ 1048576 ∧ ∀ j : Int, 0 ≤ j → j < H.length → ((rd_L4 H j).length : Int) ≤ 1048576) : ∃ r, laws_markTables.f w h ts D H 1 = some r ∧ 0 ≤ r := by
 obtain ⟨r1, e1, p1, q1⟩ := markTargetS_some ts 1 c1.1 c1.2 (by omega) (by omega)
 obtain ⟨r2, e2, p2, q2⟩ := markIntSS_some D r1 c2.1 c2.2 (by omega) (by omega)
 obtain ⟨r3, e3, p3, q3⟩ := markIntSS_some H r2 c3.1 c3.2 (by omega) (by omega)
 refine ⟨r3, ?_, by omega⟩
 unfold laws_markTables.f
 rw [e1, Option.bind_some, e2, Option.bind_some, e3]

def upbyte (a : Int) (n : Nat) : List Int := (List.range n).map (fun (j : Nat) => (a + (j : Int)) % 256)
theorem upbyte_length (a : Int) (n : Nat) : (upbyte a n).length = n := by simp [upbyte]
theorem upbyte_rd {a : Int} {n : Nat} {i : Int} (h0 : 0 ≤ i) (h1 : i < n) : rd (upbyte a n) i = (a + i) % 256 := by
 rw [rd_get h0 (by rw [upbyte_length]; omega)]
 simp only [upbyte, List.getElem_map, List.getElem_range]; omega

theorem markByteS_loop (n : Nat) (a : Int) (ha : 0 ≤ a) (hn : a + n ≤ 9223372036854775807) (d : Nat) : ∀ (x : List Int) (i : Int), 0 ≤ i → x.length = n → (n : Int) - i = d →
  (∀ j : Int, 0 ≤ j → j < i → rd x j = (a + j) % 256) → Ev (fun k => laws_markByteS.l0 k x (a + i) i) (a + n, upbyte a n) := by
 induction d with
 | zero =>
  intro x i h0 hl hd he
  refine Ev.step (fun _ => rfl) ?_
  simp only [laws_markByteS.l0]
  refine ev_neg (by omega) ?_
  have e1 : x = upbyte a n := rd_ext (by rw [hl, upbyte_length]) (fun j p q => by rw [he j p (by omega), upbyte_rd p (by omega)])
  have e2 : i = n := by omega
  rw [e1, e2]; exact Ev.now _
 | succ d ih =>
  intro x i h0 hl hd he
  refine Ev.step (fun _ => rfl) ?_
  simp only [laws_markByteS.l0]
  refine ev_pos (by omega) (ev_pos (by omega) ?_)
  rw [wrap64_id (by omega) (by omega), wrap64_id (by omega) (by omega), show a + i + 1 = a + (i + 1) by omega]
  refine ih _ _ (by omega) (by simpa using hl) (by omega) ?_
  intro j p q
  by_cases e : j = i
  ·subst e; exact rd_set_eq (by omega) (by omega)
  ·rw [rd_set_ne (by omega) (by omega) (by omega)]; exact he j p (by omega)
theorem markByteS_ev (l : List Int) (a : Int) (ha : 0 ≤ a) (hn : a + l.length ≤ 9223372036854775807) : Ev (fun k => laws_markByteS.f k l a) (a + l.length, upbyte a l.length) := by
 have := markByteS_loop l.length a ha hn l.length l 0 (by omega) rfl (by omega) (fun j p q => by omega)
 simpa only [laws_markByteS.f, Int.add_zero] using this

theorem heldByteS_loop (n : Nat) (a : Int) (ha : 0 ≤ a) (hn : a + n ≤ 9223372036854775807) (d : Nat) : ∀ (i : Int), 0 ≤ i → (n : Int) - i = d →
  Ev (fun k => laws_heldByteS.l0 k (upbyte a n) (a + i) i) (a + n) := by
 induction d with
 | zero =>
  intro i h0 hd
  refine Ev.step (fun _ => rfl) ?_
  simp only [laws_heldByteS.l0, upbyte_length]
  refine ev_neg (by omega) ?_
  have e2 : i = n := by omega
  rw [e2]; exact Ev.now _
 | succ d ih =>
  intro i h0 hd
  refine Ev.step (fun _ => rfl) ?_
  simp only [laws_heldByteS.l0, upbyte_length]
  refine ev_pos (by omega) (ev_pos (by omega) (ev_pos (upbyte_rd h0 (by omega)) ?_))
  rw [wrap64_id (by omega) (by omega), wrap64_id (by omega) (by omega), show a + i + 1 = a + (i + 1) by omega]
  exact ih _ (by omega) (by omega)
theorem heldByteS_ev (n : Nat) (a : Int) (ha : 0 ≤ a) (hn : a + n ≤ 9223372036854775807) : Ev (fun k => laws_heldByteS.f k (upbyte a n) a) (a + n) := by
 have := heldByteS_loop n a ha hn n 0 (by omega) (by omega)
 simpa only [laws_heldByteS.f, Int.add_zero] using this

theorem FnExactEncodeImage : laws_FnExactEncodeImage.Pure := by
 intro w h ts D H ww wh w2 w3 w4
 have m0 : ∀ x ∈ ts, x.f0.length ≤ 9223372036854775807 := fun x hx => (w2.2 x hx).1.1
 have hb : ∀ x ∈ ts, Bytes x.f0 := fun x hx => Bytes.of (w2.2 x hx).1
 have m1 : ts.length ≤ 9223372036854775807 := w2.1
 have m2 : ∀ x ∈ D, x.length ≤ 9223372036854775807 := fun x hx => (w3.2 x hx).1
 have m3 : D.length ≤ 9223372036854775807 := w3.1
 have m4 : ∀ x ∈ H, x.length ≤ 9223372036854775807 := fun x hx => (w4.2 x hx).1
 have m5 : H.length ≤ 9223372036854775807 := w4.1
 refine Ev.rounds (g := fun k => laws_FnExactEncodeImage.f k w h ts D H) ?_
 simp only [laws_FnExactEncodeImage.f]
 obtain ⟨r, e, q⟩ := szTables_or w h ts D H m0 m1 m2 m3 m4 m5
 rcases q with rfl | ⟨q0, c1, c2, c3⟩
 ·exact Ev.bind e (ev_pos (by omega) (Ev.now _))
 have t := toTables_ev w h ts D H c1 c2 c3
 have nb := names_of hb c1.2
 have cm := map_small c1
 obtain ⟨g, s, i, gl⟩ := image_both w h (ts.map convT) D H nb c2.1 c3.1 cm.1
 obtain ⟨kk, ek, k0⟩ := markTables_some w h (ts.map convT) D H cm c2 c3
 have eq := eqByteS_self g (by omega)
 have e7 := markByteS_ev g 1 (by omega) (by omega)
 have e8 := heldByteS_ev g.length 1 (by omega) (by omega)
 refine Ev.bind e (ev_neg (by omega) (Ev.bind t (Ev.bind s (Ev.bind t (Ev.bind i (Ev.bind eq (ev_pos (by trivial) (Ev.bind t (Ev.bind (eqTables_self w h _ D H cm c2 c3) (ev_pos (by trivial) ?_))))))))))
 rw [ek]
 refine ev_letv (ev_neg (by omega) (Ev.bind eq ?_))
 refine Ev.step (fun _ => rfl) ?_
 simp only [laws_FnExactEncodeImage.j0]
 refine ev_neg (by simp) (Ev.bind e7 (Ev.bind e8 (ev_neg (by omega) (ev_pos (by trivial) (Ev.bind t (Ev.bind i (Ev.bind eq (ev_pos (by trivial) ?_))))))))
 exact Ev.bind e8 (ev_neg (by omega) (ev_pos (by trivial) (Ev.now _)))

end Go.Proofs.YthbeplmihjhoeaaDoor.Pure
