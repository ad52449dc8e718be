/- The program's RunFleet returns what the reference's returns, for all arguments whose texts are bytes: the library's two tables of UTF-8 hold what their initialisers lay. -/
import Derived.Test.YthbeplmihjhoeaaDoorQFnExactRunFleet
import Derived.Lib.Bytes
import Derived.Lib.Bytealg
namespace Go.Proofs.YthbeplmihjhoeaaDoor.Pure
set_option linter.unusedVariables false
set_option linter.unusedSimpArgs false
set_option linter.unusedSectionVars false
open Go.RowKit Go.Proofs.YthbeplmihjhoeaaDoor.PFnExactRunFleet Go.Proofs.YthbeplmihjhoeaaDoorW.PrintWords Go.Proofs.YthbeplmihjhoeaaDoorW.PrintLast Go.Proofs.YthbeplmihjhoeaaDoorW.PrintMore
section EvLib
variable {α β : Type}
theorem ev_pos {c : Prop} [Decidable c] {A B : Nat → Option α} {r : α} (h : c) (k : Ev A r) : Ev (fun n => if c then A n else B n) r :=
 Ev.congr (fun _ => if_pos h) k
theorem ev_neg {c : Prop} [Decidable c] {A B : Nat → Option α} {r : α} (h : ¬ c) (k : Ev B r) : Ev (fun n => if c then A n else B n) r :=
 Ev.congr (fun _ => if_neg h) k
theorem ev_ite {c : Prop} [Decidable c] {A B : Nat → Option α} {r : α} (h1 : c → Ev A r) (h2 : ¬ c → Ev B r) : Ev (fun n => if c then A n else B n) r := by
 by_cases h : c
 ·exact ev_pos h (h1 h)
 ·exact ev_neg h (h2 h)
theorem ev_letv {a : α} {f : Nat → α → Option β} {r : β} (k : Ev (fun n => f n a) r) : Ev (fun n => (some a).bind (f n)) r := Ev.bind (Ev.now a) k
end EvLib
theorem wrap64_id {x : Int} (h0 : -9223372036854775808 ≤ x) (h1 : x ≤ 9223372036854775807) : wrap64 x = x := by unfold wrap64; omega
theorem tdiv_nn {x y : Int} (h0 : 0 ≤ x) : Int.tdiv x y = x / y := Int.tdiv_eq_ediv_of_nonneg h0
theorem tmod_nn {x y : Int} (h0 : 0 ≤ x) : Int.tmod x y = x % y := Int.tmod_eq_emod_of_nonneg h0
theorem rd_get {l : List Int} {i : Int} (h0 : 0 ≤ i) (h1 : i.toNat < l.length) : rd l i = l[i.toNat] := by
 unfold rd; rw [List.getD_eq_getElem?_getD, List.getElem?_eq_getElem h1]; rfl
theorem rd_mem {l : List Int} {i : Int} (h0 : 0 ≤ i) (h1 : i < l.length) : rd l i ∈ l := by
 have h : i.toNat < l.length := by omega
 rw [rd_get h0 h]; exact List.getElem_mem h
theorem rd_set_eq {l : List Int} {i : Int} {v : Int} (h0 : 0 ≤ i) (h1 : i < l.length) : rd (l.set i.toNat v) i = v := by
 have h : i.toNat < l.length := by omega
 unfold rd; rw [List.getD_eq_getElem?_getD, List.getElem?_set_self h]; rfl
theorem rd_set_ne {l : List Int} {i j : Int} {v : Int} (h0 : 0 ≤ i) (h1 : 0 ≤ j) (h : i ≠ j) : rd (l.set i.toNat v) j = rd l j := by
 unfold rd; rw [List.getD_eq_getElem?_getD, List.getElem?_set_ne (by omega), ← List.getD_eq_getElem?_getD]
theorem rd_ext {l m : List Int} (h : l.length = m.length) (e : ∀ i : Int, 0 ≤ i → i < l.length → rd l i = rd m i) : l = m := by
 apply List.ext_getElem h; intro i h1 h2; have := e i (by omega) (by omega); rw [rd_get (by omega) (by simpa using h1), rd_get (by omega) (by simpa using h2)] at this
 simpa using this

theorem wf_u8 {x : Int} (h : (Lit.int .u8 x).wf = true) : 0 ≤ x ∧ x ≤ 255 := by
 simp [Lit.wf, IntKind.min, IntKind.max, IntKind.signed, IntKind.bits] at h; omega
theorem bytes_of {l : List Int} (h : ∀ x ∈ l, (Lit.int .u8 x).wf = true) : ∀ i : Int, 0 ≤ i → i < l.length → 0 ≤ rd l i ∧ rd l i ≤ 255 :=
 fun i h0 h1 => wf_u8 (h _ (rd_mem h0 h1))
theorem rd_drop (l : List Int) (i : Nat) (j : Int) (h : 0 ≤ j) : rd (l.drop i) j = rd l (i + j) := by
 unfold rd; rw [List.getD_eq_getElem?_getD, List.getElem?_drop, List.getD_eq_getElem?_getD, show ((i : Int) + j).toNat = i + j.toNat by omega]
theorem decI_drop {l : List Int} {i : Int} (h0 : 0 ≤ i) (h1 : i < l.length) : decI (l.drop i.toNat) =
  ((((Lib.decodeN (l.length - i.toNat) (rd l i).toNat (rd l (i + 1)).toNat (rd l (i + 2)).toNat (rd l (i + 3)).toNat).1 : Nat) : Int), (((Lib.decodeN (l.length - i.toNat) (rd l i).toNat (rd l (i + 1)).toNat (rd l (i + 2)).toNat (rd l (i + 3)).toNat).2 : Nat) : Int)) := by
 unfold decI; rw [List.length_drop, if_neg (by omega)]; rw [rd_drop _ _ _ (by omega), rd_drop _ _ _ (by omega), rd_drop _ _ _ (by omega), rd_drop _ _ _ (by omega), show ((i.toNat : Nat) : Int) = i by omega, Int.add_zero]
def chr (l : List Int) (i : Int) : Int × Int :=
 if (decI (l.drop i.toNat)).1 = 65533 ∧ (decI (l.drop i.toNat)).2 ≤ 1 then (0, 0) else ((decI (l.drop i.toNat)).2, (decI (l.drop i.toNat)).1)
def Bytes (l : List Int) : Prop := ∀ i : Int, 0 ≤ i → i < l.length → 0 ≤ rd l i ∧ rd l i ≤ 255
theorem rd_out {l : List Int} {i : Int} (h : (l.length : Int) ≤ i) : rd l i = 0 := by
 unfold rd; rw [List.getD_eq_getElem?_getD, List.getElem?_eq_none (by omega)]; rfl
theorem Bytes.rd {l : List Int} (hb : Bytes l) {i : Int} (h0 : 0 ≤ i) : 0 ≤ rd l i ∧ rd l i ≤ 255 := by
 by_cases h : i < l.length
 ·exact hb i h0 h
 ·rw [rd_out (by omega)]; omega
theorem bytesB_of {l : List Int} (hb : Bytes l) : bytesB l = true := by
 unfold bytesB; rw [List.all_eq_true]; intro x hx; obtain ⟨j, hj, e⟩ := List.getElem_of_mem hx; have := hb (j : Int) (by omega) (by omega); rw [rd_get (by omega) (by simpa using hj)] at this; simp only [Int.toNat_natCast] at this; rw [e] at this; simp only [Bool.and_eq_true, decide_eq_true_eq]; exact this
theorem Bytes.drop {l : List Int} (hb : Bytes l) (i : Nat) : Bytes (l.drop i) := by
 intro j h0 h1; rw [List.length_drop] at h1; rw [rd_drop _ _ _ h0]; exact hb _ (by omega) (by omega)
def chrZ (n b0 b1 b2 b3 : Int) : Int × Int :=
 if b0 < 128 then (1, b0)
   else if b0 / 32 = 6 ∧ (1 < n ∧ b1 / 64 = 2) then (if b0 % 32 * 64 + b1 % 64 ≥ 128 then (2, b0 % 32 * 64 + b1 % 64) else (0, 0))
   else if b0 / 16 = 14 ∧ (1 < n ∧ b1 / 64 = 2) ∧ (2 < n ∧ b2 / 64 = 2) then
    (if b0 % 16 * 4096 + b1 % 64 * 64 + b2 % 64 ≥ 2048 ∧ (b0 % 16 * 4096 + b1 % 64 * 64 + b2 % 64 < 55296 ∨ 57344 ≤ b0 % 16 * 4096 + b1 % 64 * 64 + b2 % 64) then (3, b0 % 16 * 4096 + b1 % 64 * 64 + b2 % 64) else (0, 0))
   else if b0 / 8 = 30 ∧ (1 < n ∧ b1 / 64 = 2) ∧ (2 < n ∧ b2 / 64 = 2) ∧ (3 < n ∧ b3 / 64 = 2) then
    (if b0 % 8 * 262144 + b1 % 64 * 4096 + b2 % 64 * 64 + b3 % 64 ≥ 65536 ∧ b0 % 8 * 262144 + b1 % 64 * 4096 + b2 % 64 * 64 + b3 % 64 ≤ 1114111 then (4, b0 % 8 * 262144 + b1 % 64 * 4096 + b2 % 64 * 64 + b3 % 64) else (0, 0))
   else (0, 0)
theorem chrZ_nat (n c0 c1 c2 c3 : Nat) : (if (((Lib.decodeN n c0 c1 c2 c3).1 : Nat) : Int) = 65533 ∧ (((Lib.decodeN n c0 c1 c2 c3).2 : Nat) : Int) ≤ 1 then ((0 : Int), (0 : Int)) else ((((Lib.decodeN n c0 c1 c2 c3).2 : Nat) : Int), (((Lib.decodeN n c0 c1 c2 c3).1 : Nat) : Int)))
  = chrZ n c0 c1 c2 c3 := by
 by_cases h1 : c0 < 128
 ·have hd : Lib.decodeN n c0 c1 c2 c3 = (c0, 1) := by unfold Lib.decodeN; rw [if_pos h1]
  rw [hd, if_neg (by simp only; omega)]; unfold chrZ; rw [if_pos (by omega)]; rfl
 by_cases h2 : c0 / 32 = 6 ∧ (1 < n ∧ c1 / 64 = 2)
 ·by_cases h3 : c0 % 32 * 64 + c1 % 64 ≥ 128
  ·have hd : Lib.decodeN n c0 c1 c2 c3 = (c0 % 32 * 64 + c1 % 64, 2) := by unfold Lib.decodeN; rw [if_neg h1, if_pos h2, if_pos h3]
   rw [hd, if_neg (by simp only; omega)]; unfold chrZ; rw [if_neg (by omega), if_pos (by omega), if_pos (by omega)]; simp
  ·have hd : Lib.decodeN n c0 c1 c2 c3 = (65533, 1) := by unfold Lib.decodeN; rw [if_neg h1, if_pos h2, if_neg h3]
   rw [hd, if_pos (by simp)]; unfold chrZ; rw [if_neg (by omega), if_pos (by omega), if_neg (by omega)]
 by_cases h4 : c0 / 16 = 14 ∧ (1 < n ∧ c1 / 64 = 2) ∧ (2 < n ∧ c2 / 64 = 2)
 ·by_cases h5 : c0 % 16 * 4096 + c1 % 64 * 64 + c2 % 64 ≥ 2048 ∧ (c0 % 16 * 4096 + c1 % 64 * 64 + c2 % 64 < 55296 ∨ (57344 ≤ c0 % 16 * 4096 + c1 % 64 * 64 + c2 % 64 ∧ c0 % 16 * 4096 + c1 % 64 * 64 + c2 % 64 ≤ 1114111))
  ·have hd : Lib.decodeN n c0 c1 c2 c3 = (c0 % 16 * 4096 + c1 % 64 * 64 + c2 % 64, 3) := by unfold Lib.decodeN; rw [if_neg h1, if_neg h2, if_pos h4, if_pos h5]
   rw [hd, if_neg (by simp only; omega)]; unfold chrZ; rw [if_neg (by omega), if_neg (by omega), if_pos (by omega), if_pos (by omega)]; simp
  ·have hd : Lib.decodeN n c0 c1 c2 c3 = (65533, 1) := by unfold Lib.decodeN; rw [if_neg h1, if_neg h2, if_pos h4, if_neg h5]
   rw [hd, if_pos (by simp)]; unfold chrZ; rw [if_neg (by omega), if_neg (by omega), if_pos (by omega), if_neg (by omega)]
 by_cases h6 : c0 / 8 = 30 ∧ (1 < n ∧ c1 / 64 = 2) ∧ (2 < n ∧ c2 / 64 = 2) ∧ (3 < n ∧ c3 / 64 = 2)
 ·by_cases h7 : c0 % 8 * 262144 + c1 % 64 * 4096 + c2 % 64 * 64 + c3 % 64 ≥ 65536 ∧ (c0 % 8 * 262144 + c1 % 64 * 4096 + c2 % 64 * 64 + c3 % 64 < 55296 ∨ (57344 ≤ c0 % 8 * 262144 + c1 % 64 * 4096 + c2 % 64 * 64 + c3 % 64 ∧ c0 % 8 * 262144 + c1 % 64 * 4096 + c2 % 64 * 64 + c3 % 64 ≤ 1114111))
  ·have hd : Lib.decodeN n c0 c1 c2 c3 = (c0 % 8 * 262144 + c1 % 64 * 4096 + c2 % 64 * 64 + c3 % 64, 4) := by unfold Lib.decodeN; rw [if_neg h1, if_neg h2, if_neg h4, if_pos h6, if_pos h7]
   rw [hd, if_neg (by simp only; omega)]; unfold chrZ; rw [if_neg (by omega), if_neg (by omega), if_neg (by omega), if_pos (by omega), if_pos (by omega)]; simp
  ·have hd : Lib.decodeN n c0 c1 c2 c3 = (65533, 1) := by unfold Lib.decodeN; rw [if_neg h1, if_neg h2, if_neg h4, if_pos h6, if_neg h7]
   rw [hd, if_pos (by simp)]; unfold chrZ; rw [if_neg (by omega), if_neg (by omega), if_neg (by omega), if_pos (by omega), if_neg (by omega)]
 have hd : Lib.decodeN n c0 c1 c2 c3 = (65533, 1) := by unfold Lib.decodeN; rw [if_neg h1, if_neg h2, if_neg h4, if_neg h6]
 rw [hd, if_pos (by simp)]; unfold chrZ; rw [if_neg (by omega), if_neg (by omega), if_neg (by omega), if_neg (by omega)]
theorem chr_eq {l : List Int} (hb : Bytes l) {i : Int} (h0 : 0 ≤ i) (h1 : i < l.length) : chr l i = chrZ ((l.length : Int) - i) (rd l i) (rd l (i + 1)) (rd l (i + 2)) (rd l (i + 3)) := by
 have r0 := hb.rd h0; have r1 := hb.rd (show 0 ≤ i + 1 by omega); have r2 := hb.rd (show 0 ≤ i + 2 by omega); have r3 := hb.rd (show 0 ≤ i + 3 by omega); unfold chr; rw [decI_drop h0 h1]; simp only; rw [chrZ_nat, Int.toNat_of_nonneg r0.1, Int.toNat_of_nonneg r1.1, Int.toNat_of_nonneg r2.1, Int.toNat_of_nonneg r3.1, show ((l.length - i.toNat : Nat) : Int) = (l.length : Int) - i by omega]

theorem Bytes.of {l : List Int} (h : Open.wfL (Open.wfI .u8) l) : Bytes l := bytes_of h.2

theorem getD_lt {α : Type} {l : List α} {i : Int} {d : α} (h1 : i.toNat < l.length) : l.getD i.toNat d = l[i.toNat] := by
 rw [List.getD_eq_getElem?_getD, List.getElem?_eq_getElem h1]; rfl
theorem getD_mem {α : Type} {l : List α} {i : Int} {d : α} (h0 : 0 ≤ i) (h1 : i < l.length) : l.getD i.toNat d ∈ l := by
 rw [getD_lt (by omega)]; exact List.getElem_mem _
theorem getD_set_eq {α : Type} {l : List α} {i : Int} {v d : α} (h0 : 0 ≤ i) (h1 : i < l.length) : (l.set i.toNat v).getD i.toNat d = v := by
 rw [List.getD_eq_getElem?_getD, List.getElem?_set_self (by omega)]; rfl
theorem getD_set_ne {α : Type} {l : List α} {i j : Int} {v d : α} (h0 : 0 ≤ i) (h1 : 0 ≤ j) (h : i ≠ j) : (l.set i.toNat v).getD j.toNat d = l.getD j.toNat d := by
 rw [List.getD_eq_getElem?_getD, List.getElem?_set_ne (by omega), ← List.getD_eq_getElem?_getD]
theorem getD_ext {α : Type} {l m : List α} (d : α) (h : l.length = m.length) (e : ∀ i : Int, 0 ≤ i → i < l.length → l.getD i.toNat d = m.getD i.toNat d) : l = m := by
 apply List.ext_getElem h; intro i h1 h2; have := e i (by omega) (by omega); rw [getD_lt (by simpa using h1), getD_lt (by simpa using h2)] at this
 simpa using this
theorem getD_map {α β : Type} (f : α → β) {l : List α} {i : Int} {d : α} {d' : β} (h0 : 0 ≤ i) (h1 : i < l.length) : (l.map f).getD i.toNat d' = f (l.getD i.toNat d) := by
 rw [getD_lt (by rw [List.length_map]; omega), getD_lt (by omega), List.getElem_map]

theorem szByteS_or {l : List Int} {left : Int} (h0 : 0 ≤ left) (h1 : left ≤ 1048576) (hm : l.length ≤ 9223372036854775807) :
  ∃ r, laws_szByteS.f l left = some r ∧ (r = -1 ∨ ((l.length : Int) ≤ left ∧ r = left - l.length)) := by
 simp only [laws_szByteS.f]; rw [wrap64_id (by omega) (by omega)]
 by_cases h : left - (l.length : Int) < 0
 ·exact ⟨-1, if_pos h, .inl rfl⟩
 ·exact ⟨_, if_neg h, .inr ⟨by omega, rfl⟩⟩
theorem szTarget_or {l : List Int} {a b left : Int} (h0 : 0 ≤ left) (h1 : left ≤ 1048576) (hm : l.length ≤ 9223372036854775807) :
  ∃ r, laws_szTarget.f l a b left = some r ∧ (r = -1 ∨ ((l.length : Int) ≤ left ∧ r = left - l.length)) := by
 simp only [laws_szTarget.f]; obtain ⟨r, e, q⟩ := szByteS_or (l := l) h0 h1 hm; rw [e]; simp only [Option.bind_some]
 rcases q with rfl | ⟨a1, rfl⟩
 ·exact ⟨-1, if_pos (by omega), .inl rfl⟩
 ·exact ⟨_, if_neg (by omega), .inr ⟨a1, rfl⟩⟩
theorem szTargetS_loop (x0 : List S185) (hm : ∀ x ∈ x0, x.f0.length ≤ 9223372036854775807) (hl : x0.length ≤ 1048576) (d : Nat) : ∀ (left i : Int), 0 ≤ left → left ≤ 1048576 → 0 ≤ i → (x0.length : Int) - i = d →
  ∃ r, Ev (fun k => laws_szTargetS.l0 k x0 left i) r ∧ (r = -1 ∨ (0 ≤ r ∧ r ≤ left ∧ ∀ j : Int, i ≤ j → j < x0.length → ((rd_T185 x0 j).f0.length : Int) ≤ 1048576)) := by
 induction d with
 | zero =>
  intro left i l0 l1 h0 hd; refine ⟨left, Ev.step (fun _ => rfl) ?_, .inr ⟨l0, Int.le_refl _, fun j a b => by omega⟩⟩; simp only [laws_szTargetS.l0]; exact ev_neg (by omega) (Ev.now _)
 | succ d ih =>
  intro left i l0 l1 h0 hd; obtain ⟨r, e, q⟩ := szTarget_or (l := (rd_T185 x0 i).f0) (a := (rd_T185 x0 i).f1) (b := (rd_T185 x0 i).f2) l0 l1 (hm _ (getD_mem h0 (by omega)))
  rcases q with rfl | ⟨q, rfl⟩
  ·refine ⟨-1, Ev.step (fun _ => rfl) ?_, .inl rfl⟩; simp only [laws_szTargetS.l0]; refine ev_pos (by omega) (ev_pos (by omega) ?_); rw [e]; exact ev_letv (ev_pos (by omega) (Ev.now _))
  ·obtain ⟨r', e', q'⟩ := ih (left - ((rd_T185 x0 i).f0.length : Int)) (i + 1) (by omega) (by omega) (by omega) (by omega); refine ⟨r', Ev.step (fun _ => rfl) ?_, ?_⟩
   ·simp only [laws_szTargetS.l0]; refine ev_pos (by omega) (ev_pos (by omega) ?_); rw [e, wrap64_id (by omega) (by omega)]; exact ev_letv (ev_neg (by omega) e')
   ·rcases q' with rfl | ⟨a, b, c⟩
    ·exact .inl rfl
    ·refine .inr ⟨a, by omega, fun j h1 h2 => ?_⟩
     by_cases hj : j = i
     ·subst hj; omega
     ·exact c j (by omega) h2
theorem szTargetS_or (x0 : List S185) (hm : ∀ x ∈ x0, x.f0.length ≤ 9223372036854775807) (hl : x0.length ≤ 9223372036854775807) {left : Int} (h0 : 0 ≤ left) (h1 : left ≤ 1048576) :
  ∃ r, Ev (fun k => laws_szTargetS.f k x0 left) r ∧ (r = -1 ∨ (0 ≤ r ∧ r ≤ left ∧ x0.length ≤ 1048576 ∧ ∀ j : Int, 0 ≤ j → j < x0.length → ((rd_T185 x0 j).f0.length : Int) ≤ 1048576)) := by
 simp only [laws_szTargetS.f]; rw [wrap64_id (by omega) (by omega)]
 by_cases h : left - (x0.length : Int) < 0
 ·exact ⟨-1, ev_pos h (Ev.now _), .inl rfl⟩
 ·obtain ⟨r, e, q⟩ := szTargetS_loop x0 hm (by omega) x0.length (left - x0.length) 0 (by omega) (by omega) (by omega) (by omega); refine ⟨r, ev_neg h e, ?_⟩
  rcases q with rfl | ⟨a, b, c⟩
  ·exact .inl rfl
  ·exact .inr ⟨a, by omega, by omega, c⟩

theorem szIntS_or {l : List Int} {left : Int} (h0 : 0 ≤ left) (h1 : left ≤ 1048576) (hm : l.length ≤ 9223372036854775807) :
  ∃ r, laws_szIntS.f l left = some r ∧ (r = -1 ∨ ((l.length : Int) ≤ left ∧ r = left - l.length)) := by
 simp only [laws_szIntS.f]; rw [wrap64_id (by omega) (by omega)]
 by_cases h : left - (l.length : Int) < 0
 ·exact ⟨-1, if_pos h, .inl rfl⟩
 ·exact ⟨_, if_neg h, .inr ⟨by omega, rfl⟩⟩

theorem szIntSS_loop (x0 : List (List Int)) (hm : ∀ x ∈ x0, x.length ≤ 9223372036854775807) (hl : x0.length ≤ 1048576) (d : Nat) : ∀ (left i : Int), 0 ≤ left → left ≤ 1048576 → 0 ≤ i → (x0.length : Int) - i = d →
  ∃ r, Ev (fun k => laws_szIntSS.l0 k x0 left i) r ∧ (r = -1 ∨ (0 ≤ r ∧ r ≤ left ∧ ∀ j : Int, i ≤ j → j < x0.length → ((rd_L4 x0 j).length : Int) ≤ 1048576)) := by
 induction d with
 | zero =>
  intro left i l0 l1 h0 hd; refine ⟨left, Ev.step (fun _ => rfl) ?_, .inr ⟨l0, Int.le_refl _, fun j a b => by omega⟩⟩; simp only [laws_szIntSS.l0]; exact ev_neg (by omega) (Ev.now _)
 | succ d ih =>
  intro left i l0 l1 h0 hd; obtain ⟨r, e, q⟩ := szIntS_or (l := rd_L4 x0 i) l0 l1 (hm _ (getD_mem h0 (by omega)))
  rcases q with rfl | ⟨q, rfl⟩
  ·refine ⟨-1, Ev.step (fun _ => rfl) ?_, .inl rfl⟩; simp only [laws_szIntSS.l0]; refine ev_pos (by omega) (ev_pos (by omega) ?_); rw [e]; exact ev_letv (ev_pos (by omega) (Ev.now _))
  ·obtain ⟨r', e', q'⟩ := ih (left - ((rd_L4 x0 i).length : Int)) (i + 1) (by omega) (by omega) (by omega) (by omega); refine ⟨r', Ev.step (fun _ => rfl) ?_, ?_⟩
   ·simp only [laws_szIntSS.l0]; refine ev_pos (by omega) (ev_pos (by omega) ?_); rw [e, wrap64_id (by omega) (by omega)]; exact ev_letv (ev_neg (by omega) e')
   ·rcases q' with rfl | ⟨a, b, c⟩
    ·exact .inl rfl
    ·refine .inr ⟨a, by omega, fun j h1 h2 => ?_⟩
     by_cases hj : j = i
     ·subst hj; omega
     ·exact c j (by omega) h2
theorem szIntSS_or (x0 : List (List Int)) (hm : ∀ x ∈ x0, x.length ≤ 9223372036854775807) (hl : x0.length ≤ 9223372036854775807) {left : Int} (h0 : 0 ≤ left) (h1 : left ≤ 1048576) :
  ∃ r, Ev (fun k => laws_szIntSS.f k x0 left) r ∧ (r = -1 ∨ (0 ≤ r ∧ r ≤ left ∧ x0.length ≤ 1048576 ∧ ∀ j : Int, 0 ≤ j → j < x0.length → ((rd_L4 x0 j).length : Int) ≤ 1048576)) := by
 simp only [laws_szIntSS.f]; rw [wrap64_id (by omega) (by omega)]
 by_cases h : left - (x0.length : Int) < 0
 ·exact ⟨-1, ev_pos h (Ev.now _), .inl rfl⟩
 ·obtain ⟨r, e, q⟩ := szIntSS_loop x0 hm (by omega) x0.length (left - x0.length) 0 (by omega) (by omega) (by omega) (by omega); refine ⟨r, ev_neg h e, ?_⟩
  rcases q with rfl | ⟨a, b, c⟩
  ·exact .inl rfl
  ·exact .inr ⟨a, by omega, by omega, c⟩

theorem szTables_or (w h : Int) (ts : List S185) (di ho : List (List Int)) (m0 : ∀ x ∈ ts, x.f0.length ≤ 9223372036854775807) (m1 : ts.length ≤ 9223372036854775807)
  (m2 : ∀ x ∈ di, x.length ≤ 9223372036854775807) (m3 : di.length ≤ 9223372036854775807) (m4 : ∀ x ∈ ho, x.length ≤ 9223372036854775807) (m5 : ho.length ≤ 9223372036854775807) :
  ∃ r, Ev (fun k => laws_szTables.f k w h ts di ho 1048576) r ∧ (r = -1 ∨ ((0 ≤ r ∧ r ≤ 1048576) ∧ (ts.length ≤ 1048576 ∧ ∀ j : Int, 0 ≤ j → j < ts.length → ((rd_T185 ts j).f0.length : Int) ≤ 1048576) ∧
   (di.length ≤ 1048576 ∧ ∀ j : Int, 0 ≤ j → j < di.length → ((rd_L4 di j).length : Int) ≤ 1048576) ∧ (ho.length ≤ 1048576 ∧ ∀ j : Int, 0 ≤ j → j < ho.length → ((rd_L4 ho j).length : Int) ≤ 1048576))) := by
 simp only [laws_szTables.f]; obtain ⟨r1, e1, q1⟩ := szTargetS_or ts m0 m1 (left := 1048576) (by omega) (by omega)
 rcases q1 with rfl | ⟨a1, b1, c1⟩
 ·exact ⟨-1, Ev.bind e1 (ev_pos (by omega) (Ev.now _)), .inl rfl⟩
 obtain ⟨r2, e2, q2⟩ := szIntSS_or di m2 m3 a1 b1
 rcases q2 with rfl | ⟨a2, b2, c2⟩
 ·exact ⟨-1, Ev.bind e1 (ev_neg (by omega) (Ev.bind e2 (ev_pos (by omega) (Ev.now _)))), .inl rfl⟩
 obtain ⟨r3, e3, q3⟩ := szIntSS_or ho m4 m5 a2 (by omega)
 rcases q3 with rfl | ⟨a3, b3, c3⟩
 ·exact ⟨-1, Ev.bind e1 (ev_neg (by omega) (Ev.bind e2 (ev_neg (by omega) (Ev.bind e3 (ev_pos (by omega) (Ev.now _)))))), .inl rfl⟩
 exact ⟨r3, Ev.bind e1 (ev_neg (by omega) (Ev.bind e2 (ev_neg (by omega) (Ev.bind e3 (ev_neg (by omega) (Ev.now _)))))), .inr ⟨⟨a3, by omega⟩, c1, c2, c3⟩⟩

theorem toByteS_loop (x0 : List Int) (hb : x0.length ≤ 281474976710656) (d : Nat) : ∀ (x3 : List Int) (i : Int), 0 ≤ i → x3.length = x0.length → (x0.length : Int) - i = d →
  (∀ j : Int, 0 ≤ j → j < i → rd x3 j = rd x0 j) → Ev (fun k => laws_toByteS.l0 k x0 x3 i) x0 := by
 induction d with
 | zero =>
  intro x3 i h0 hl hd he; refine Ev.step (fun _ => rfl) ?_; simp only [laws_toByteS.l0]; refine ev_neg (by omega) ?_; have : x3 = x0 := rd_ext hl (fun j a b => he j a (by omega)); rw [this]; exact Ev.now _
 | succ d ih =>
  intro x3 i h0 hl hd he; refine Ev.step (fun _ => rfl) ?_; simp only [laws_toByteS.l0]; refine ev_pos (by omega) (ev_pos (by omega) (ev_pos (by omega) ?_)); rw [wrap64_id (by omega) (by omega)]; refine ih _ _ (by omega) (by simpa using hl) (by omega) ?_; intro j a b
  by_cases e : j = i
  ·subst e; exact rd_set_eq (by omega) (by omega)
  ·rw [rd_set_ne (by omega) (by omega) (by omega)]; exact he j a (by omega)
theorem toByteS_ev (l : List Int) (hb : l.length ≤ 281474976710656) : Ev (fun k => laws_toByteS.f k l) l := by
 simp only [laws_toByteS.f]; refine ev_pos (by omega) (ev_pos (by omega) ?_); exact toByteS_loop l hb l.length _ 0 (by omega) (by simp) (by omega) (fun j a b => by omega)

def convT (x : S185) : S120 := ⟨x.f0, x.f1, x.f2⟩
theorem toTarget_ev (l : List Int) (a b : Int) (hb : l.length ≤ 281474976710656) : Ev (fun k => laws_toTarget.f k l a b) (l, a, b) := by
 simp only [laws_toTarget.f]; exact Ev.bind (toByteS_ev l hb) (Ev.now _)
theorem toTargetS_loop (x0 : List S185) (hl : x0.length ≤ 1048576) (hm : ∀ j : Int, 0 ≤ j → j < x0.length → ((rd_T185 x0 j).f0.length : Int) ≤ 1048576) (d : Nat) : ∀ (x3 : List S120) (i : Int), 0 ≤ i → x3.length = x0.length → (x0.length : Int) - i = d →
  (∀ j : Int, 0 ≤ j → j < i → rd_T120 x3 j = convT (rd_T185 x0 j)) → Ev (fun k => laws_toTargetS.l0 k x0 x3 i) (x0.map convT) := by
 induction d with
 | zero =>
  intro x3 i h0 hl' hd he; refine Ev.step (fun _ => rfl) ?_; simp only [laws_toTargetS.l0]; refine ev_neg (by omega) ?_
  have : x3 = x0.map convT := getD_ext z120 (by rw [List.length_map]; omega) (fun j a b => by
   rw [getD_map convT (d := z185) a (by omega)]; exact he j a (by omega))
  rw [this]; exact Ev.now _
 | succ d ih =>
  intro x3 i h0 hl' hd he; refine Ev.step (fun _ => rfl) ?_; simp only [laws_toTargetS.l0]; refine ev_pos (by omega) (ev_pos (by omega) (Ev.bind (toTarget_ev _ _ _ (by have := hm i h0 (by omega); omega)) (ev_pos (by omega) ?_))); rw [wrap64_id (by omega) (by omega)]; refine ih _ _ (by omega) (by simpa using hl') (by omega) ?_; intro j a b; unfold rd_T120
  by_cases e : j = i
  ·subst e; rw [getD_set_eq (by omega) (by omega)]; rfl
  ·rw [getD_set_ne (by omega) (by omega) (by omega)]; exact he j a (by omega)
theorem toTargetS_ev (x0 : List S185) (hl : x0.length ≤ 1048576) (hm : ∀ j : Int, 0 ≤ j → j < x0.length → ((rd_T185 x0 j).f0.length : Int) ≤ 1048576) : Ev (fun k => laws_toTargetS.f k x0) (x0.map convT) := by
 simp only [laws_toTargetS.f]; refine ev_pos (by omega) (ev_pos (by omega) ?_); exact toTargetS_loop x0 hl hm x0.length _ 0 (by omega) (by simp) (by omega) (fun j a b => by omega)

theorem toIntS_loop (x0 : List Int) (hb : x0.length ≤ 35184372088832) (d : Nat) : ∀ (x3 : List Int) (i : Int), 0 ≤ i → x3.length = x0.length → (x0.length : Int) - i = d →
  (∀ j : Int, 0 ≤ j → j < i → rd x3 j = rd x0 j) → Ev (fun k => laws_toIntS.l0 k x0 x3 i) x0 := by
 induction d with
 | zero =>
  intro x3 i h0 hl hd he; refine Ev.step (fun _ => rfl) ?_; simp only [laws_toIntS.l0]; refine ev_neg (by omega) ?_; have : x3 = x0 := rd_ext hl (fun j a b => he j a (by omega)); rw [this]; exact Ev.now _
 | succ d ih =>
  intro x3 i h0 hl hd he; refine Ev.step (fun _ => rfl) ?_; simp only [laws_toIntS.l0]; refine ev_pos (by omega) (ev_pos (by omega) (ev_pos (by omega) ?_)); rw [wrap64_id (by omega) (by omega)]; refine ih _ _ (by omega) (by simpa using hl) (by omega) ?_; intro j a b
  by_cases e : j = i
  ·subst e; exact rd_set_eq (by omega) (by omega)
  ·rw [rd_set_ne (by omega) (by omega) (by omega)]; exact he j a (by omega)
theorem toIntS_ev (l : List Int) (hb : l.length ≤ 35184372088832) : Ev (fun k => laws_toIntS.f k l) l := by
 simp only [laws_toIntS.f]; refine ev_pos (by omega) (ev_pos (by omega) ?_); exact toIntS_loop l hb l.length _ 0 (by omega) (by simp) (by omega) (fun j a b => by omega)

theorem toIntSS_loop (x0 : List (List Int)) (hl : x0.length ≤ 1048576) (hm : ∀ j : Int, 0 ≤ j → j < x0.length → ((rd_L4 x0 j).length : Int) ≤ 1048576) (d : Nat) : ∀ (x3 : List (List Int)) (i : Int), 0 ≤ i → x3.length = x0.length → (x0.length : Int) - i = d →
  (∀ j : Int, 0 ≤ j → j < i → rd_L4 x3 j = rd_L4 x0 j) → Ev (fun k => laws_toIntSS.l0 k x0 x3 i) x0 := by
 induction d with
 | zero =>
  intro x3 i h0 hl' hd he; refine Ev.step (fun _ => rfl) ?_; simp only [laws_toIntSS.l0]; refine ev_neg (by omega) ?_; have : x3 = x0 := getD_ext [] (by omega) (fun j a b => he j a (by omega)); rw [this]; exact Ev.now _
 | succ d ih =>
  intro x3 i h0 hl' hd he; refine Ev.step (fun _ => rfl) ?_; simp only [laws_toIntSS.l0]; refine ev_pos (by omega) (ev_pos (by omega) (Ev.bind (toIntS_ev _ (by have := hm i h0 (by omega); omega)) (ev_pos (by omega) ?_))); rw [wrap64_id (by omega) (by omega)]; refine ih _ _ (by omega) (by simpa using hl') (by omega) ?_; intro j a b; unfold rd_L4
  by_cases e : j = i
  ·subst e; first | exact getD_set_eq (by omega) (by omega) | (rw [getD_set_eq (by omega) (by omega)]; rfl)
  ·rw [getD_set_ne (by omega) (by omega) (by omega)]; exact he j a (by omega)
theorem toIntSS_ev (x0 : List (List Int)) (hl : x0.length ≤ 1048576) (hm : ∀ j : Int, 0 ≤ j → j < x0.length → ((rd_L4 x0 j).length : Int) ≤ 1048576) : Ev (fun k => laws_toIntSS.f k x0) x0 := by
 simp only [laws_toIntSS.f]; refine ev_pos (by omega) (ev_pos (by omega) ?_); exact toIntSS_loop x0 hl hm x0.length _ 0 (by omega) (by simp) (by omega) (fun j a b => by omega)

theorem toTables_ev (w h : Int) (ts : List S185) (di ho : List (List Int)) (c1 : ts.length ≤ 1048576 ∧ ∀ j : Int, 0 ≤ j → j < ts.length → ((rd_T185 ts j).f0.length : Int) ≤ 1048576)
  (c2 : di.length ≤ 1048576 ∧ ∀ j : Int, 0 ≤ j → j < di.length → ((rd_L4 di j).length : Int) ≤ 1048576) (c3 : ho.length ≤ 1048576 ∧ ∀ j : Int, 0 ≤ j → j < ho.length → ((rd_L4 ho j).length : Int) ≤ 1048576) :
  Ev (fun k => laws_toTables.f k w h ts di ho) (w, h, ts.map convT, di, ho) := by
 simp only [laws_toTables.f]; exact Ev.bind (toTargetS_ev ts c1.1 c1.2) (Ev.bind (toIntSS_ev di c2.1 c2.2) (Ev.bind (toIntSS_ev ho c3.1 c3.2) (Ev.now _)))

theorem eqByteS_loop (a b : List Int) (hl : a.length = b.length) (hb : a.length ≤ 9223372036854775800) (d : Nat) : ∀ (i : Int), 0 ≤ i → (a.length : Int) - i = d →
  (∀ j : Int, 0 ≤ j → j < i → rd a j = rd b j) → Ev (fun k => laws_eqByteS.l0 k a b i) (decide (a = b)) := by
 induction d with
 | zero =>
  intro i h0 hd he; refine Ev.step (fun _ => rfl) ?_; simp only [laws_eqByteS.l0]; refine ev_neg (by omega) ?_; have : a = b := rd_ext hl (fun j p q => he j p (by omega)); rw [decide_eq_true this]; exact Ev.now _
 | succ d ih =>
  intro i h0 hd he; refine Ev.step (fun _ => rfl) ?_; simp only [laws_eqByteS.l0]; refine ev_pos (by omega) (ev_pos (by omega) (ev_pos (by omega) (ev_ite (fun e => ?_) (fun e => ?_))))
  ·rw [wrap64_id (by omega) (by omega)]; refine ih _ (by omega) (by omega) ?_; intro j p q
   by_cases e' : j = i
   ·subst e'; exact e
   ·exact he j p (by omega)
  ·have : a ≠ b := fun h => e (by rw [h])
   rw [decide_eq_false this]; exact Ev.now _
theorem eqByteS_ev (a b : List Int) (hb : a.length ≤ 9223372036854775800) : Ev (fun k => laws_eqByteS.f k a b) (decide (a = b)) := by
 simp only [laws_eqByteS.f]; refine ev_ite (fun e => ?_) (fun e => ?_)
 ·exact eqByteS_loop a b (by omega) hb a.length 0 (by omega) (by omega) (fun j p q => by omega)
 ·have : a ≠ b := fun h => e (by rw [h])
  rw [decide_eq_false this]; exact Ev.now _
theorem eqByteS_self (a : List Int) (hb : a.length ≤ 9223372036854775800) : Ev (fun k => laws_eqByteS.f k a a) true := by
 have := eqByteS_ev a a hb
 rwa [decide_eq_true rfl] at this

theorem eqIntS_loop (a b : List Int) (hl : a.length = b.length) (hb : a.length ≤ 9223372036854775800) (d : Nat) : ∀ (i : Int), 0 ≤ i → (a.length : Int) - i = d →
  (∀ j : Int, 0 ≤ j → j < i → rd a j = rd b j) → Ev (fun k => laws_eqIntS.l0 k a b i) (decide (a = b)) := by
 induction d with
 | zero =>
  intro i h0 hd he; refine Ev.step (fun _ => rfl) ?_; simp only [laws_eqIntS.l0]; refine ev_neg (by omega) ?_; have : a = b := rd_ext hl (fun j p q => he j p (by omega)); rw [decide_eq_true this]; exact Ev.now _
 | succ d ih =>
  intro i h0 hd he; refine Ev.step (fun _ => rfl) ?_; simp only [laws_eqIntS.l0]; refine ev_pos (by omega) (ev_pos (by omega) (ev_pos (by omega) (ev_ite (fun e => ?_) (fun e => ?_))))
  ·rw [wrap64_id (by omega) (by omega)]; refine ih _ (by omega) (by omega) ?_; intro j p q
   by_cases e' : j = i
   ·subst e'; exact e
   ·exact he j p (by omega)
  ·have : a ≠ b := fun h => e (by rw [h])
   rw [decide_eq_false this]; exact Ev.now _
theorem eqIntS_ev (a b : List Int) (hb : a.length ≤ 9223372036854775800) : Ev (fun k => laws_eqIntS.f k a b) (decide (a = b)) := by
 simp only [laws_eqIntS.f]; refine ev_ite (fun e => ?_) (fun e => ?_)
 ·exact eqIntS_loop a b (by omega) hb a.length 0 (by omega) (by omega) (fun j p q => by omega)
 ·have : a ≠ b := fun h => e (by rw [h])
  rw [decide_eq_false this]; exact Ev.now _
theorem eqIntS_self (a : List Int) (hb : a.length ≤ 9223372036854775800) : Ev (fun k => laws_eqIntS.f k a a) true := by
 have := eqIntS_ev a a hb
 rwa [decide_eq_true rfl] at this

theorem eqTarget_self (l : List Int) (a b : Int) (hb : l.length ≤ 1048576) : Ev (fun k => laws_eqTarget.f k l a b l a b) true := by
 simp only [laws_eqTarget.f]; exact Ev.bind (eqByteS_self l (by omega)) (ev_pos (by trivial) (ev_pos (by trivial) (ev_pos (by trivial) (Ev.now _))))
theorem eqTargetS_loop (x0 : List S120) (hl : x0.length ≤ 1048576) (hm : ∀ j : Int, 0 ≤ j → j < x0.length → ((rd_T120 x0 j).f0.length : Int) ≤ 1048576) (d : Nat) : ∀ (i : Int), 0 ≤ i → (x0.length : Int) - i = d → Ev (fun k => laws_eqTargetS.l0 k x0 x0 i) true := by
 induction d with
 | zero =>
  intro i h0 hd; refine Ev.step (fun _ => rfl) ?_; simp only [laws_eqTargetS.l0]; exact ev_neg (by omega) (Ev.now _)
 | succ d ih =>
  intro i h0 hd; refine Ev.step (fun _ => rfl) ?_; simp only [laws_eqTargetS.l0]; refine ev_pos (by omega) (ev_pos (by omega) (ev_pos (by omega) (Ev.bind (eqTarget_self _ _ _ (by have := hm i h0 (by omega); omega)) (ev_pos (by trivial) ?_)))); rw [wrap64_id (by omega) (by omega)]; exact ih _ (by omega) (by omega)
theorem eqTargetS_self (x0 : List S120) (hl : x0.length ≤ 1048576) (hm : ∀ j : Int, 0 ≤ j → j < x0.length → ((rd_T120 x0 j).f0.length : Int) ≤ 1048576) : Ev (fun k => laws_eqTargetS.f k x0 x0) true := by
 simp only [laws_eqTargetS.f]; exact ev_pos (by trivial) (eqTargetS_loop x0 hl hm x0.length 0 (by omega) (by omega))

theorem eqIntSS_loop (x0 : List (List Int)) (hl : x0.length ≤ 1048576) (hm : ∀ j : Int, 0 ≤ j → j < x0.length → ((rd_L4 x0 j).length : Int) ≤ 1048576) (d : Nat) : ∀ (i : Int), 0 ≤ i → (x0.length : Int) - i = d → Ev (fun k => laws_eqIntSS.l0 k x0 x0 i) true := by
 induction d with
 | zero =>
  intro i h0 hd; refine Ev.step (fun _ => rfl) ?_; simp only [laws_eqIntSS.l0]; exact ev_neg (by omega) (Ev.now _)
 | succ d ih =>
  intro i h0 hd; refine Ev.step (fun _ => rfl) ?_; simp only [laws_eqIntSS.l0]; refine ev_pos (by omega) (ev_pos (by omega) (ev_pos (by omega) (Ev.bind (eqIntS_self _ (by have := hm i h0 (by omega); omega)) (ev_pos (by trivial) ?_)))); rw [wrap64_id (by omega) (by omega)]; exact ih _ (by omega) (by omega)
theorem eqIntSS_self (x0 : List (List Int)) (hl : x0.length ≤ 1048576) (hm : ∀ j : Int, 0 ≤ j → j < x0.length → ((rd_L4 x0 j).length : Int) ≤ 1048576) : Ev (fun k => laws_eqIntSS.f k x0 x0) true := by
 simp only [laws_eqIntSS.f]; exact ev_pos (by trivial) (eqIntSS_loop x0 hl hm x0.length 0 (by omega) (by omega))
theorem eqTables_self (w h : Int) (ts : List S120) (di ho : List (List Int)) (c1 : ts.length ≤ 1048576 ∧ ∀ j : Int, 0 ≤ j → j < ts.length → ((rd_T120 ts j).f0.length : Int) ≤ 1048576)
  (c2 : di.length ≤ 1048576 ∧ ∀ j : Int, 0 ≤ j → j < di.length → ((rd_L4 di j).length : Int) ≤ 1048576) (c3 : ho.length ≤ 1048576 ∧ ∀ j : Int, 0 ≤ j → j < ho.length → ((rd_L4 ho j).length : Int) ≤ 1048576) :
  Ev (fun k => laws_eqTables.f k w h ts di ho w h ts di ho) true := by
 simp only [laws_eqTables.f]; exact ev_pos (by trivial) (ev_pos (by trivial) (Ev.bind (eqTargetS_self ts c1.1 c1.2) (ev_pos (by trivial) (Ev.bind (eqIntSS_self di c2.1 c2.2) (ev_pos (by trivial) (Ev.bind (eqIntSS_self ho c3.1 c3.2) (ev_pos (by trivial) (Ev.now _))))))))

open Classical in
noncomputable def allB (S : Int → Prop) (i n : Int) : Bool := decide (∀ j : Int, i ≤ j → j < n → S j)
open Classical in
theorem allB_end {S : Int → Prop} {i n : Int} (h : ¬ i < n) : allB S i n = true := by unfold allB; exact decide_eq_true (fun j a b => by omega)
open Classical in
theorem allB_no {S : Int → Prop} {i n : Int} (h0 : i < n) (h : ¬ S i) : allB S i n = false := by unfold allB; exact decide_eq_false (fun q => h (q i (by omega) h0))
open Classical in
theorem allB_yes {S : Int → Prop} {i n : Int} (h : S i) : allB S i n = allB S (i + 1) n := by
 unfold allB; rw [decide_eq_decide]; refine ⟨fun q j a b => q j (by omega) b, fun q j a b => ?_⟩
 by_cases e : j = i
 ·subst e; exact h
 ·exact q j (by omega) b
open Classical in
theorem allB_iff {S : Int → Prop} {i n : Int} : allB S i n = true ↔ ∀ j : Int, i ≤ j → j < n → S j := by unfold allB; exact decide_eq_true_iff
theorem cmp_ge : ∀ x y : List UInt8, decide (0 ≤ Lib.compareBytes x y) = !Op.bytesLess x y
 | [], [] => by simp [Lib.compareBytes, Op.bytesLess]
 | [], _ :: _ => by simp [Lib.compareBytes, Op.bytesLess]
 | _ :: _, [] => by simp [Lib.compareBytes, Op.bytesLess]
 | a :: x, b :: y => by
  rw [Lib.compareBytes, Op.bytesLess]
  by_cases h1 : a < b
  ·simp [h1]
  ·rw [if_neg h1]
   by_cases h2 : b < a
   ·rw [if_pos h2]; have : (a == b) = false := by
     rw [beq_eq_false_iff_ne]; intro e; subst e; exact h1 h2
    simp [h1, this]
   ·rw [if_neg h2, cmp_ge x y]; have : a = b := by
     have h1' : ¬ a.toNat < b.toNat := fun h => h1 (UInt8.lt_iff_toNat_lt.2 h)
     have h2' : ¬ b.toNat < a.toNat := fun h => h2 (UInt8.lt_iff_toNat_lt.2 h)
     exact UInt8.toNat_inj.1 (by omega)
    simp [h1, this]

theorem l1point_eq (v : Int) : spec_l1point.f v = some (decide (0 ≤ v ∧ v ≤ 1114111 ∧ (v < 55296 ∨ v > 57343))) := by
 unfold spec_l1point.f
 by_cases h1 : v ≥ 0
 ·rw [if_pos h1]
  by_cases h2 : v ≤ 1114111
  ·rw [if_pos h2]
   by_cases h3 : v < 55296
   ·rw [if_pos h3, decide_eq_true (by omega)]
   ·rw [if_neg h3]; congr 1; rw [decide_eq_decide]; omega
  ·rw [if_neg h2, decide_eq_false (by omega)]
 ·rw [if_neg h1, decide_eq_false (by omega)]
def ulen (v : Int) : Int := if v < 128 then 1 else if v < 2048 then 2 else if v < 65536 then 3 else 4
theorem l1utf8_len (v : Int) : ∃ u, spec_l1utf8.f v = some u ∧ (u.length : Int) = ulen v := by
 unfold spec_l1utf8.f ulen
 by_cases h1 : v < 128
 ·rw [if_pos h1, if_pos h1]; exact ⟨_, rfl, rfl⟩
 rw [if_neg h1, if_neg h1]
 by_cases h2 : v < 2048
 ·rw [if_pos h2, if_pos h2]; exact ⟨_, rfl, rfl⟩
 rw [if_neg h2, if_neg h2]
 by_cases h3 : v < 65536
 ·rw [if_pos h3, if_pos h3]; exact ⟨_, rfl, rfl⟩
 rw [if_neg h3, if_neg h3]; exact ⟨_, rfl, rfl⟩
theorem l1char_end (l : List Int) (i n v j : Int) (hj : ¬ j < n) : Ev (fun k => spec_l1char.l0 k l i n v j) (if (0 ≤ v ∧ v ≤ 1114111 ∧ (v < 55296 ∨ v > 57343)) ∧ ulen v = n then (n, v) else (0, 0)) := by
 refine Ev.step (fun _ => rfl) ?_; simp only [spec_l1char.l0]; refine ev_neg hj ?_; rw [l1point_eq]; refine ev_letv (ev_ite (fun e => ?_) (fun e => ?_))
 ·have e := of_decide_eq_true e; obtain ⟨u, hu, hl⟩ := l1utf8_len v; rw [hu]; refine ev_letv (ev_ite (fun f => ?_) (fun f => ?_))
  ·rw [if_pos ⟨e, by omega⟩]; exact Ev.now _
  ·rw [if_neg (fun h => f (by omega))]; exact Ev.now _
 ·have e := of_decide_eq_false (Bool.eq_false_iff.2 e); rw [if_neg (fun h => e h.1)]; exact Ev.now _
theorem l1char_bad (l : List Int) (hb : Bytes l) (i n v j : Int) (h0 : 0 ≤ i) (j0 : 0 ≤ j) (hj : j < n) (hi : i + j < l.length) (hl : l.length ≤ 9000000000) (hc : rd l (i + j) / 64 ≠ 2) : Ev (fun k => spec_l1char.l0 k l i n v j) (0, 0) := by
 have hr := hb (i + j) (by omega) hi; refine Ev.step (fun _ => rfl) ?_; simp only [spec_l1char.l0]; simp (disch := omega) only [wrap64_id]; refine ev_pos hj (ev_pos (by omega) (ev_pos (by omega) (ev_ite (fun e => Ev.now _) (fun e => ?_)))); exact ev_pos (by omega) (Ev.now _)
theorem l1char_go {R : Int × Int} (l : List Int) (hb : Bytes l) (i n v j : Int) (h0 : 0 ≤ i) (j0 : 0 ≤ j) (hj : j < n) (hi : i + j < l.length) (hl : l.length ≤ 9000000000) (hc : rd l (i + j) / 64 = 2) (v0 : 0 ≤ v) (v1 : v ≤ 99999999)
  (h : Ev (fun k => spec_l1char.l0 k l i n (v * 64 + rd l (i + j) % 64) (j + 1)) R) (hn : n ≤ 10) : Ev (fun k => spec_l1char.l0 k l i n v j) R := by
 have hr := hb (i + j) (by omega) hi; refine Ev.step (fun _ => rfl) ?_; simp only [spec_l1char.l0]; simp (disch := omega) only [wrap64_id]; refine ev_pos hj (ev_pos (by omega) (ev_pos (by omega) (ev_neg (by omega) (ev_neg (by omega) ?_)))); rw [show v * 64 + rd l (i + j) - 128 = v * 64 + rd l (i + j) % 64 by omega]; exact h
theorem spec_l1char_ev (l : List Int) (hb : Bytes l) (hl : l.length ≤ 9000000000) (i : Int) (h0 : 0 ≤ i) (h1 : i < l.length) : Ev (fun k => spec_l1char.f k l i) (chr l i) := by
 rw [chr_eq hb h0 h1]; have r0 := hb i h0 h1; simp only [spec_l1char.f]; simp (disch := omega) only [wrap64_id]; refine ev_pos h0 (ev_pos h1 ?_); unfold chrZ; refine ev_ite (fun c0 => ?_) (fun c0 => ?_)
 ·rw [if_pos c0]; exact Ev.now _
 rw [if_neg c0]; have three : ∀ n v R, (n = 0 ∨ i + n > l.length → Ev (fun _ => some (0, 0)) R) → (¬ (n = 0 ∨ i + n > l.length) → Ev (fun k => spec_l1char.l0 k l i n v 1) R) → 0 ≤ n → n ≤ 4 → Ev (fun k => spec_l1char.j2 k l i n v) R := by
  intro n v R hA hB n0 n4; have ja : (n = 0 ∨ i + n > l.length) → Ev (fun k => spec_l1char.j3 k l i n v true) R := by
   intro h; refine Ev.step (fun _ => rfl) ?_; simp only [spec_l1char.j3]; exact ev_pos (by trivial) (hA h)
  refine Ev.step (fun _ => rfl) ?_; simp only [spec_l1char.j2]; simp (disch := omega) only [wrap64_id]; refine ev_ite (fun c => ja (.inl c)) (fun c => ?_)
  by_cases d : i + n > l.length
  ·rw [decide_eq_true d]; exact ja (.inr d)
  ·rw [decide_eq_false d]; refine Ev.step (fun _ => rfl) ?_; simp only [spec_l1char.j3]; exact ev_neg (by simp) (hB (by omega))
 refine ev_ite (fun c1 => ?_) (fun c1 => ?_)
 ·by_cases c2 : rd l i < 224
  ·rw [decide_eq_true c2]; refine Ev.step (fun _ => rfl) ?_; simp only [spec_l1char.j0]; refine ev_pos (by trivial) ?_; simp (disch := omega) only [wrap64_id]; refine three 2 _ _ (fun h => ?_) (fun h => ?_) (by omega) (by omega)
   ·rw [if_neg (by omega), if_neg (by omega), if_neg (by omega)]; exact Ev.now _
   ·by_cases d : rd l (i + 1) / 64 = 2
    ·rw [if_pos (by omega)]; refine l1char_go l hb i 2 _ 1 h0 (by omega) (by omega) (by omega) hl d (by omega) (by omega) ?_ (by omega); have := l1char_end l i 2 ((rd l i - 192) * 64 + rd l (i + 1) % 64) (1 + 1) (by omega); rw [show (rd l i - 192) * 64 + rd l (i + 1) % 64 = rd l i % 32 * 64 + rd l (i + 1) % 64 by omega] at this ⊢
     by_cases q : rd l i % 32 * 64 + rd l (i + 1) % 64 ≥ 128
     ·rw [if_pos q]
      rwa [if_pos ⟨by omega, by unfold ulen; rw [if_neg (by omega), if_pos (by omega)]⟩] at this
     ·rw [if_neg q]
      rwa [if_neg (fun h => by have := h.2; unfold ulen at this; rw [if_pos (by omega)] at this; omega)] at this
    ·rw [if_neg (by omega), if_neg (by omega), if_neg (by omega)]; exact l1char_bad l hb i 2 _ 1 h0 (by omega) (by omega) (by omega) hl d
  ·rw [decide_eq_false c2]; refine Ev.step (fun _ => rfl) ?_; simp only [spec_l1char.j0]; refine ev_neg (by simp) (ev_pos (by omega) ?_)
   by_cases c3 : rd l i < 240
   ·rw [decide_eq_true c3]; refine Ev.step (fun _ => rfl) ?_; simp only [spec_l1char.j1]; refine ev_pos (by trivial) ?_; simp (disch := omega) only [wrap64_id]; refine three 3 _ _ (fun h => ?_) (fun h => ?_) (by omega) (by omega)
    ·rw [if_neg (by omega), if_neg (by omega), if_neg (by omega)]; exact Ev.now _
    ·rw [if_neg (by omega)]
     by_cases d : rd l (i + 1) / 64 = 2
     ·refine l1char_go l hb i 3 _ 1 h0 (by omega) (by omega) (by omega) hl d (by omega) (by omega) ?_ (by omega); rw [show (1 : Int) + 1 = 2 by omega]
      by_cases d2 : rd l (i + 2) / 64 = 2
      ·rw [if_pos (by omega)]; refine l1char_go l hb i 3 _ 2 h0 (by omega) (by omega) (by omega) hl d2 (by omega) (by omega) ?_ (by omega); have := l1char_end l i 3 (((rd l i - 224) * 64 + rd l (i + 1) % 64) * 64 + rd l (i + 2) % 64) (2 + 1) (by omega); rw [show ((rd l i - 224) * 64 + rd l (i + 1) % 64) * 64 + rd l (i + 2) % 64 = rd l i % 16 * 4096 + rd l (i + 1) % 64 * 64 + rd l (i + 2) % 64 by omega] at this ⊢
       by_cases q : rd l i % 16 * 4096 + rd l (i + 1) % 64 * 64 + rd l (i + 2) % 64 ≥ 2048 ∧ (rd l i % 16 * 4096 + rd l (i + 1) % 64 * 64 + rd l (i + 2) % 64 < 55296 ∨ 57344 ≤ rd l i % 16 * 4096 + rd l (i + 1) % 64 * 64 + rd l (i + 2) % 64)
       ·rw [if_pos q]
        rwa [if_pos ⟨by omega, by unfold ulen; rw [if_neg (by omega), if_neg (by omega), if_pos (by omega)]⟩] at this
       ·rw [if_neg q]
        rwa [if_neg (fun h => by have h2 := h.2; have h1 := h.1; unfold ulen at h2; split at h2; omega; split at h2 <;> omega)] at this
      ·rw [if_neg (by omega), if_neg (by omega)]; exact l1char_bad l hb i 3 _ 2 h0 (by omega) (by omega) (by omega) hl d2
     ·rw [if_neg (by omega), if_neg (by omega)]; exact l1char_bad l hb i 3 _ 1 h0 (by omega) (by omega) (by omega) hl d
   ·rw [decide_eq_false c3]; refine Ev.step (fun _ => rfl) ?_; simp only [spec_l1char.j1]; refine ev_neg (by simp) (ev_pos (by omega) (ev_ite (fun c4 => ?_) (fun c4 => ?_)))
    ·simp (disch := omega) only [wrap64_id]; rw [if_neg (by omega), if_neg (by omega)]; refine three 4 _ _ (fun h => ?_) (fun h => ?_) (by omega) (by omega)
     ·rw [if_neg (by omega)]; exact Ev.now _
     ·by_cases d : rd l (i + 1) / 64 = 2
      ·refine l1char_go l hb i 4 _ 1 h0 (by omega) (by omega) (by omega) hl d (by omega) (by omega) ?_ (by omega); rw [show (1 : Int) + 1 = 2 by omega]
       by_cases d2 : rd l (i + 2) / 64 = 2
       ·refine l1char_go l hb i 4 _ 2 h0 (by omega) (by omega) (by omega) hl d2 (by omega) (by omega) ?_ (by omega); rw [show (2 : Int) + 1 = 3 by omega]
        by_cases d3 : rd l (i + 3) / 64 = 2
        ·rw [if_pos (by omega)]; refine l1char_go l hb i 4 _ 3 h0 (by omega) (by omega) (by omega) hl d3 (by omega) (by omega) ?_ (by omega); have := l1char_end l i 4 ((((rd l i - 240) * 64 + rd l (i + 1) % 64) * 64 + rd l (i + 2) % 64) * 64 + rd l (i + 3) % 64) (3 + 1) (by omega); rw [show (((rd l i - 240) * 64 + rd l (i + 1) % 64) * 64 + rd l (i + 2) % 64) * 64 + rd l (i + 3) % 64 = rd l i % 8 * 262144 + rd l (i + 1) % 64 * 4096 + rd l (i + 2) % 64 * 64 + rd l (i + 3) % 64 by omega] at this ⊢
         by_cases q : rd l i % 8 * 262144 + rd l (i + 1) % 64 * 4096 + rd l (i + 2) % 64 * 64 + rd l (i + 3) % 64 ≥ 65536 ∧ rd l i % 8 * 262144 + rd l (i + 1) % 64 * 4096 + rd l (i + 2) % 64 * 64 + rd l (i + 3) % 64 ≤ 1114111
         ·rw [if_pos q]
          rwa [if_pos ⟨by omega, by unfold ulen; rw [if_neg (by omega), if_neg (by omega), if_neg (by omega)]⟩] at this
         ·rw [if_neg q]
          rwa [if_neg (fun h => by have h2 := h.2; have h1 := h.1; unfold ulen at h2; split at h2; omega; split at h2; omega; split at h2 <;> omega)] at this
        ·rw [if_neg (by omega)]; exact l1char_bad l hb i 4 _ 3 h0 (by omega) (by omega) (by omega) hl d3
       ·rw [if_neg (by omega)]; exact l1char_bad l hb i 4 _ 2 h0 (by omega) (by omega) (by omega) hl d2
      ·rw [if_neg (by omega)]; exact l1char_bad l hb i 4 _ 1 h0 (by omega) (by omega) (by omega) hl d
    ·rw [if_neg (by omega), if_neg (by omega), if_neg (by omega)]; exact three 0 0 _ (fun h => Ev.now _) (fun h => absurd (.inl rfl) h) (by omega) (by omega)
 ·refine Ev.step (fun _ => rfl) ?_; simp only [spec_l1char.j0]; refine ev_neg (by simp) (ev_neg (by omega) ?_); refine Ev.step (fun _ => rfl) ?_; simp only [spec_l1char.j1]; refine ev_neg (by simp) (ev_neg (by omega) ?_); rw [if_neg (by omega), if_neg (by omega), if_neg (by omega)]; exact three 0 0 _ (fun h => Ev.now _) (fun h => absurd (.inl rfl) h) (by omega) (by omega)

theorem DecodeRune_at {l : List Int} (hb : Bytes l) {i : Int} (h0 : 0 ≤ i) (h1 : i < l.length) : utf8_DecodeRune.f (l.drop i.toNat) = some (decI (l.drop i.toNat)) := by
 unfold utf8_DecodeRune.f; rw [if_neg (by rw [List.length_drop]; omega), if_pos (bytesB_of (hb.drop _))]
theorem chr_pos {l : List Int} (hb : Bytes l) {i : Int} (h0 : 0 ≤ i) (h1 : i < l.length) (h : ¬ (chr l i).1 = 0) : 1 ≤ (chr l i).1 ∧ (chr l i).1 ≤ 4 ∧ i + (chr l i).1 ≤ l.length := by
 rw [chr_eq hb h0 h1] at h ⊢; unfold chrZ at h ⊢
 split at h
 ·rename_i c; rw [if_pos c]; simp only; omega
 ·rename_i c; rw [if_neg c]
  split at h
  ·rename_i c; rw [if_pos c]
   split at h
   ·rename_i c2; rw [if_pos c2]; simp only; omega
   ·simp at h
  ·rename_i c; rw [if_neg c]
   split at h
   ·rename_i c; rw [if_pos c]
    split at h
    ·rename_i c2; rw [if_pos c2]; simp only; omega
    ·simp at h
   ·rename_i c; rw [if_neg c]
    split at h
    ·rename_i c; rw [if_pos c]
     split at h
     ·rename_i c2; rw [if_pos c2]; simp only; omega
     ·simp at h
    ·simp at h

def checkFrom (l : List Int) : Nat → Int → Int × Int
 | 0, _ => (0, 0)
 | d + 1, i => if i < l.length then (if (chr l i).1 = 0 then (2, i) else checkFrom l d (i + (chr l i).1)) else (0, 0)
def checkRes (l : List Int) : Int × Int := checkFrom l (l.length + 1) 0
theorem spec_check_loop (l : List Int) (hb : Bytes l) (hl : l.length ≤ 9000000000) (d : Nat) : ∀ i : Int, 0 ≤ i → i ≤ l.length → (l.length : Int) - i < d → Ev (fun k => spec_CheckText.l0 k l i) (checkFrom l d i) := by
 induction d with
 | zero => intro i h0 h1 hd; omega
 | succ d ih =>
  intro i h0 h1 hd; refine Ev.step (fun _ => rfl) ?_; simp only [spec_CheckText.l0, checkFrom]; refine ev_ite (fun c => ?_) (fun c => ?_)
  ·rw [if_pos c]; refine Ev.bind (spec_l1char_ev l hb hl i h0 c) (ev_ite (fun e => ?_) (fun e => ?_))
   ·rw [if_pos e]; exact Ev.now _
   ·have := chr_pos hb h0 c e; rw [if_neg e, wrap64_id (by omega) (by omega)]; exact ih _ (by omega) (by omega) (by omega)
  ·rw [if_neg c]; exact Ev.now _
theorem spec_CheckText_ev (l : List Int) (hb : Bytes l) (hl : l.length ≤ 9000000000) : Ev (fun k => spec_CheckText.f k l) (checkRes l) := by
 simp only [spec_CheckText.f]; exact spec_check_loop l hb hl (l.length + 1) 0 (by omega) (by omega) (by omega)

theorem impl_check_loop (l : List Int) (hb : Bytes l) (hl : l.length ≤ 9000000000) (d : Nat) : ∀ i : Int, 0 ≤ i → i ≤ l.length → (l.length : Int) - i < d → Ev (fun k => impl_CheckText.l0 k l i) (checkFrom l d i) := by
 induction d with
 | zero => intro i h0 h1 hd; omega
 | succ d ih =>
  intro i h0 h1 hd; refine Ev.step (fun _ => rfl) ?_; simp only [impl_CheckText.l0, checkFrom]; refine ev_ite (fun c => ?_) (fun c => ?_)
  ·rw [if_pos c]; refine ev_pos h0 (ev_pos h1 ?_); rw [DecodeRune_at hb h0 c]; refine ev_letv ?_; have hgo : ¬ ((decI (l.drop i.toNat)).1 = 65533 ∧ (decI (l.drop i.toNat)).2 ≤ 1) → Ev (fun k => impl_CheckText.l0 k l (wrap64 (i + (decI (l.drop i.toNat)).2))) (if (chr l i).1 = 0 then (2, i) else checkFrom l d (i + (chr l i).1)) := by
    intro hn; have e : (chr l i).1 = (decI (l.drop i.toNat)).2 := by unfold chr; rw [if_neg hn]
    have hz : ¬ (chr l i).1 = 0 := by
     intro hz; have hq := chr_eq hb h0 c; rw [decI_drop h0 c] at hn; have hw := chrZ_nat (l.length - i.toNat) (rd l i).toNat (rd l (i + 1)).toNat (rd l (i + 2)).toNat (rd l (i + 3)).toNat; rw [if_neg hn] at hw; rw [e, decI_drop h0 c] at hz; simp only at hz; unfold Lib.decodeN at hz; repeat' split at hz
     all_goals simp at hz
    have := chr_pos hb h0 c hz; rw [if_neg hz, ← e, wrap64_id (by omega) (by omega)]; exact ih _ (by omega) (by omega) (by omega)
   refine ev_ite (fun e1 => ev_ite (fun e2 => ?_) (fun e2 => hgo (fun h => e2 h.2))) (fun e1 => hgo (fun h => e1 h.1)); have e : (chr l i).1 = 0 := by unfold chr; rw [if_pos ⟨e1, e2⟩]
   rw [if_pos e]; exact Ev.now _
  ·rw [if_neg c]; exact Ev.now _
theorem impl_CheckText_ev (l : List Int) (hb : Bytes l) (hl : l.length ≤ 9000000000) : Ev (fun k => impl_CheckText.f k l) (checkRes l) := by
 simp only [impl_CheckText.f]; exact impl_check_loop l hb hl (l.length + 1) 0 (by omega) (by omega) (by omega)

structure TOK1 (ts : List S120) (cells i : Int) : Prop where
 n1 : 1 ≤ ((rd_T120 ts i).f0.length : Int)
 n2 : ((rd_T120 ts i).f0.length : Int) ≤ 60
 good : (checkRes (rd_T120 ts i).f0).1 = 0
 k0 : 0 ≤ (rd_T120 ts i).f1
 k1 : (rd_T120 ts i).f1 ≤ 1
 c0 : 0 ≤ (rd_T120 ts i).f2
 c1 : (rd_T120 ts i).f2 < cells
 order : 0 < i → Op.bytesLess (Lib.bytesOf (rd_T120 ts (i - 1)).f0) (Lib.bytesOf (rd_T120 ts i).f0) = true
 once : ∀ j : Int, 0 ≤ j → j < i → (rd_T120 ts j).f2 ≠ (rd_T120 ts i).f2
noncomputable def tok (ts : List S120) (cells : Int) : Bool := decide ((ts.length : Int) ≤ 30) && allB (TOK1 ts cells) 0 ts.length
theorem tok_iff {ts : List S120} {cells : Int} : tok ts cells = true ↔ (ts.length : Int) ≤ 30 ∧ ∀ i : Int, 0 ≤ i → i < ts.length → TOK1 ts cells i := by
 unfold tok; rw [Bool.and_eq_true, decide_eq_true_eq, allB_iff]
def Names (ts : List S120) : Prop := ∀ i : Int, 0 ≤ i → i < ts.length → Bytes (rd_T120 ts i).f0 ∧ ((rd_T120 ts i).f0.length : Int) ≤ 1048576
theorem spec_l1good_ev (l : List Int) (hb : Bytes l) (hl : (l.length : Int) ≤ 1048576) : Ev (fun k => spec_l1good.f k l) ((checkRes l).1 == 0) := by
 simp only [spec_l1good.f]; exact Ev.bind (spec_CheckText_ev l hb (by omega)) (Ev.now _)
theorem impl_wellFormed_ev (l : List Int) (hb : Bytes l) (hl : (l.length : Int) ≤ 1048576) : Ev (fun k => impl_wellFormed.f k l) ((checkRes l).1 == 0) := by
 simp only [impl_wellFormed.f]; exact Ev.bind (impl_CheckText_ev l hb (by omega)) (Ev.now _)
theorem l4targets_loop (ts : List S120) (cells : Int) (hl : (ts.length : Int) ≤ 30) (nb : Names ts) (d : Nat) : ∀ i : Int, 0 ≤ i → (ts.length : Int) - i = d → Ev (fun k => spec_l4targetsOK.l0 k ts cells i) (allB (TOK1 ts cells) i ts.length) := by
 induction d with
 | zero =>
  intro i h0 hd; refine Ev.step (fun _ => rfl) ?_; simp only [spec_l4targetsOK.l0]; refine ev_neg (by omega) ?_; rw [allB_end (by omega)]; exact Ev.now _
 | succ d ih =>
  intro i h0 hd; have hi : i < ts.length := by omega
  have bad : ¬ TOK1 ts cells i → ∀ a b c, Ev (fun k => spec_l4targetsOK.j1 k ts cells i true a b c) (allB (TOK1 ts cells) i ts.length) := by
   intro h a b c; rw [allB_no hi h]; refine Ev.step (fun _ => rfl) ?_; simp only [spec_l4targetsOK.j1]; exact ev_pos (by trivial) (Ev.now _)
  have dup : ∀ (e : Nat) (j : Int), 0 ≤ j → i - j = e → (∀ q : Int, 0 ≤ q → q < j → (rd_T120 ts q).f2 ≠ (rd_T120 ts i).f2) → ((∀ q : Int, 0 ≤ q → q < i → (rd_T120 ts q).f2 ≠ (rd_T120 ts i).f2) → TOK1 ts cells i) →
    ∀ a b, Ev (fun k => spec_l4targetsOK.l1 k ts cells i j a b (rd_T120 ts i).f2) (allB (TOK1 ts cells) i ts.length) := by
   intro e
   induction e with
   | zero =>
    intro j j0 he hq H a b; refine Ev.step (fun _ => rfl) ?_; simp only [spec_l4targetsOK.l1]; refine ev_neg (by omega) ?_; rw [wrap64_id (by omega) (by omega), allB_yes (H (fun q a b => hq q a (by omega)))]; exact ih _ (by omega) (by omega)
   | succ e ihe =>
    intro j j0 he hq H a b; refine Ev.step (fun _ => rfl) ?_; simp only [spec_l4targetsOK.l1]; refine ev_pos (by omega) (ev_pos (by omega) (ev_pos (by omega) (ev_ite (fun c => ?_) (fun c => ?_))))
    ·rw [allB_no hi (fun t => t.once j j0 (by omega) c)]; exact Ev.now _
    ·rw [wrap64_id (by omega) (by omega)]; refine ihe (j + 1) (by omega) (by omega) (fun q q0 q1 => ?_) H a b
     by_cases h : q = j
     ·subst h; exact c
     ·exact hq q q0 (by omega)
  have j2t : ¬ TOK1 ts cells i → ∀ a b c, Ev (fun k => spec_l4targetsOK.j2 k ts cells i true a b c) (allB (TOK1 ts cells) i ts.length) := by
   intro h a b c; rw [allB_no hi h]; refine Ev.step (fun _ => rfl) ?_; simp only [spec_l4targetsOK.j2]; exact ev_pos (by trivial) (Ev.now _)
  have j2f : ((∀ q : Int, 0 ≤ q → q < i → (rd_T120 ts q).f2 ≠ (rd_T120 ts i).f2) → TOK1 ts cells i) → ∀ a b, Ev (fun k => spec_l4targetsOK.j2 k ts cells i false a b (rd_T120 ts i).f2) (allB (TOK1 ts cells) i ts.length) := by
   intro h a b; refine Ev.step (fun _ => rfl) ?_; simp only [spec_l4targetsOK.j2]; exact ev_neg (by simp) (dup i.toNat 0 (by omega) (by omega) (fun q q0 q1 => by omega) h a b)
  have j1f : ((0 < i → Op.bytesLess (Lib.bytesOf (rd_T120 ts (i - 1)).f0) (Lib.bytesOf (rd_T120 ts i).f0) = true) → (∀ q : Int, 0 ≤ q → q < i → (rd_T120 ts q).f2 ≠ (rd_T120 ts i).f2) → TOK1 ts cells i) →
    ∀ b, Ev (fun k => spec_l4targetsOK.j1 k ts cells i false (rd_T120 ts i).f0 b (rd_T120 ts i).f2) (allB (TOK1 ts cells) i ts.length) := by
   intro H b; refine Ev.step (fun _ => rfl) ?_; simp only [spec_l4targetsOK.j1]; refine ev_neg (by simp) (ev_ite (fun c => ?_) (fun c => ?_))
   ·rw [wrap64_id (by omega) (by omega)]; refine ev_pos (by omega) (ev_pos (by omega) ?_); rw [Lib.strOfNums_toList, Lib.strOfNums_toList]
    by_cases q : Op.bytesLess (Lib.bytesOf (rd_T120 ts (i - 1)).f0) (Lib.bytesOf (rd_T120 ts i).f0) = true
    ·rw [q]; exact j2f (H (fun _ => q)) _ _
    ·rw [Bool.eq_false_iff.2 q]; exact j2t (fun t => q (t.order c)) _ _ _
   ·exact j2f (H (fun h => absurd h c)) _ _
  obtain ⟨nb1, nb2⟩ := nb i h0 hi; refine Ev.step (fun _ => rfl) ?_; simp only [spec_l4targetsOK.l0]; refine ev_pos hi (ev_pos h0 (ev_ite (fun e => bad (fun t => by have := t.n1; omega) _ _ _) (fun e1 => ev_ite (fun e => bad (fun t => by have := t.n2; omega) _ _ _) (fun e2 => Ev.bind (spec_l1good_ev _ nb1 nb2) (ev_ite (fun e3 => ?_) (fun e3 => bad (fun t => e3 (by rw [beq_iff_eq]; exact t.good)) _ _ _)))))); rw [beq_iff_eq] at e3; refine ev_ite (fun e => bad (fun t => by have := t.k0; omega) _ _ _) (fun e4 => ev_ite (fun e => bad (fun t => by have := t.k1; omega) _ _ _) (fun e5 => ev_ite (fun e => bad (fun t => by have := t.c0; omega) _ _ _) (fun e6 => ?_)))
  by_cases e7 : (rd_T120 ts i).f2 ≥ cells
  ·rw [decide_eq_true e7]; exact bad (fun t => by have := t.c1; omega) _ _ _
  ·rw [decide_eq_false e7]; exact j1f (fun o u => ⟨by omega, by omega, e3, by omega, by omega, by omega, by omega, o, u⟩) _
theorem spec_l4targetsOK_ev (ts : List S120) (cells : Int) (nb : Names ts) : Ev (fun k => spec_l4targetsOK.f k ts cells) (tok ts cells) := by
 simp only [spec_l4targetsOK.f]; unfold tok; refine ev_ite (fun c => ?_) (fun c => ?_)
 ·rw [decide_eq_false (by omega)]; exact Ev.now _
 ·rw [decide_eq_true (by omega), Bool.true_and]; exact l4targets_loop ts cells (by omega) nb ts.length 0 (by omega) (by omega)
theorem bad_ev (n : List Int) (kd c cells : Int) (hb : Bytes n) (hn : (n.length : Int) ≤ 1048576) : (1 ≤ (n.length : Int) ∧ (n.length : Int) ≤ 60 ∧ (checkRes n).1 = 0 ∧ 0 ≤ kd ∧ kd ≤ 1 ∧ 0 ≤ c ∧ c < cells → Ev (fun k => impl_targetsOk.bad k cells n kd c) false) ∧
  (¬ (1 ≤ (n.length : Int) ∧ (n.length : Int) ≤ 60 ∧ (checkRes n).1 = 0 ∧ 0 ≤ kd ∧ kd ≤ 1 ∧ 0 ≤ c ∧ c < cells) → Ev (fun k => impl_targetsOk.bad k cells n kd c) true) := by
 unfold impl_targetsOk.bad; refine ⟨fun h => ?_, fun h => ?_⟩
 ·refine ev_neg (by omega) (ev_neg (by omega) (Ev.bind (impl_wellFormed_ev n hb hn) ?_)); have hg : ((checkRes n).1 == 0) = true := by rw [beq_iff_eq]; exact h.2.2.1
  have hk : kd = 0 ∨ kd = 1 := by omega
  have h1 : decide (c < 0) = false := decide_eq_false (by omega); have h2 : decide (c ≥ cells) = false := decide_eq_false (by omega); rw [hg, h1, h2]
  rcases hk with rfl | rfl <;> exact Ev.now _
 ·refine ev_ite (fun _ => Ev.now _) (fun c1 => ev_ite (fun _ => Ev.now _) (fun c2 => Ev.bind (impl_wellFormed_ev n hb hn) ?_)); have : (!((checkRes n).1 == 0) || (!decide (kd = 0) && !decide (kd = 1)) || decide (c < 0) || decide (c ≥ cells)) = true := by
   rw [← Bool.not_eq_false]; intro q; simp only [Bool.or_eq_false_iff, Bool.not_eq_false', beq_iff_eq, decide_eq_false_iff_not, Bool.and_eq_false_iff, decide_eq_true_eq] at q; exact h ⟨by omega, by omega, q.1.1.1, by omega, by omega, by omega, by omega⟩
  rw [this]; exact Ev.now _
theorem targetsOk_loop (ts : List S120) (cells : Int) (nb : Names ts) (d : Nat) : ∀ (i : Int) (m : List (Int × Int)), 0 ≤ i → (ts.length : Int) - i = d → (∀ c : Int, (mget m c).isSome = true ↔ ∃ j : Int, 0 ≤ j ∧ j < i ∧ (rd_T120 ts j).f2 = c) →
  Ev (fun k => impl_targetsOk.l k ts cells i m) (allB (TOK1 ts cells) i ts.length) := by
 induction d with
 | zero =>
  intro i m h0 hd hm; refine Ev.step (fun _ => rfl) ?_; simp only [impl_targetsOk.l]; refine ev_neg (by omega) ?_; rw [allB_end (by omega)]; exact Ev.now _
 | succ d ih =>
  intro i m h0 hd hm; have hi : i < ts.length := by omega
  obtain ⟨nb1, nb2⟩ := nb i h0 hi; refine Ev.step (fun _ => rfl) ?_; simp only [impl_targetsOk.l]; refine ev_pos hi ?_; obtain ⟨b0, b1⟩ := bad_ev (rd_T120 ts i).f0 (rd_T120 ts i).f1 (rd_T120 ts i).f2 cells nb1 nb2
  by_cases F : 1 ≤ ((rd_T120 ts i).f0.length : Int) ∧ ((rd_T120 ts i).f0.length : Int) ≤ 60 ∧ (checkRes (rd_T120 ts i).f0).1 = 0 ∧ 0 ≤ (rd_T120 ts i).f1 ∧ (rd_T120 ts i).f1 ≤ 1 ∧ 0 ≤ (rd_T120 ts i).f2 ∧ (rd_T120 ts i).f2 < cells
  ·refine Ev.bind (b0 F) (ev_neg (by simp) ?_); have low : impl_targetsOk.low ts i (rd_T120 ts i).f0 = true ↔ ¬ (0 < i → Op.bytesLess (Lib.bytesOf (rd_T120 ts (i - 1)).f0) (Lib.bytesOf (rd_T120 ts i).f0) = true) := by
    unfold impl_targetsOk.low; rw [Bool.and_eq_true, decide_eq_true_eq]; have := cmp_ge (Lib.bytesOf (rd_T120 ts (i - 1)).f0) (Lib.bytesOf (rd_T120 ts i).f0); have e : decide (Lib.compareBytes (Lib.bytesOf (rd_T120 ts (i - 1)).f0) (Lib.bytesOf (rd_T120 ts i).f0) ≥ 0) = !Op.bytesLess (Lib.bytesOf (rd_T120 ts (i - 1)).f0) (Lib.bytesOf (rd_T120 ts i).f0) := this; rw [e, Bool.not_eq_true', Classical.not_imp]
    constructor
    ·exact fun h => ⟨h.1, by rw [h.2]; simp⟩
    ·exact fun h => ⟨h.1, Bool.eq_false_iff.2 h.2⟩
   refine ev_ite (fun c => ?_) (fun c => ?_)
   ·rw [allB_no hi (fun t => low.1 c t.order)]; exact Ev.now _
   have ord := Classical.not_not.1 (fun q => c (low.2 q)); refine ev_ite (fun c2 => ?_) (fun c2 => ?_)
   ·obtain ⟨j, j0, j1, e⟩ := (hm _).1 c2; rw [allB_no hi (fun t => t.once j j0 j1 e)]; exact Ev.now _
   ·have once : ∀ j : Int, 0 ≤ j → j < i → (rd_T120 ts j).f2 ≠ (rd_T120 ts i).f2 := fun j j0 j1 e => c2 ((hm _).2 ⟨j, j0, j1, e⟩)
    rw [allB_yes ⟨F.1, F.2.1, F.2.2.1, F.2.2.2.1, F.2.2.2.2.1, F.2.2.2.2.2.1, F.2.2.2.2.2.2, ord, once⟩]; refine ih (i + 1) _ (by omega) (by omega) (fun q => ?_); rw [mget_cons]
    by_cases e : (rd_T120 ts i).f2 = q
    ·rw [if_pos e]; exact ⟨fun _ => ⟨i, h0, by omega, e⟩, fun _ => rfl⟩
    ·rw [if_neg e, hm]
     exact ⟨fun ⟨j, a, b, g⟩ => ⟨j, a, by omega, g⟩, fun ⟨j, a, b, g⟩ => ⟨j, a, by
      by_cases ji : j = i
      ·subst ji; exact absurd g e
      ·omega, g⟩⟩
  ·refine Ev.bind (b1 F) (ev_pos (by trivial) ?_); rw [allB_no hi (fun t => F ⟨t.n1, t.n2, t.good, t.k0, t.k1, t.c0, t.c1⟩)]; exact Ev.now _
theorem impl_targetsOk_ev (ts : List S120) (cells : Int) (nb : Names ts) (hc : cells ≤ 4611686018427387904) : Ev (fun k => impl_targetsOk.f k ts cells) (tok ts cells) := by
 simp only [impl_targetsOk.f]; unfold tok; refine ev_ite (fun c => ?_) (fun c => ?_)
 ·rw [decide_eq_false (by omega)]; exact Ev.now _
 ·rw [decide_eq_true (by omega), Bool.true_and]; refine ev_pos hc (targetsOk_loop ts cells nb ts.length 0 [] (by omega) (by omega) (fun c => ?_)); rw [mget_nil]; exact ⟨fun h => by simp at h, fun ⟨j, a, b, _⟩ => by omega⟩

theorem names_of {ts : List S185} (hb : ∀ x ∈ ts, Bytes x.f0) (hm : ∀ j : Int, 0 ≤ j → j < ts.length → ((rd_T185 ts j).f0.length : Int) ≤ 1048576) : Names (ts.map convT) := by
 intro i i0 i1; rw [List.length_map] at i1; have e : rd_T120 (ts.map convT) i = convT (rd_T185 ts i) := getD_map convT i0 i1; rw [e]; exact ⟨hb _ (getD_mem i0 i1), hm i i0 i1⟩
theorem map_small {ts : List S185} (c : ts.length ≤ 1048576 ∧ ∀ j : Int, 0 ≤ j → j < ts.length → ((rd_T185 ts j).f0.length : Int) ≤ 1048576) : (ts.map convT).length ≤ 1048576 ∧ ∀ j : Int, 0 ≤ j → j < (ts.map convT).length → ((rd_T120 (ts.map convT) j).f0.length : Int) ≤ 1048576 := by
 rw [List.length_map]; refine ⟨c.1, fun j a b => ?_⟩; have e : rd_T120 (ts.map convT) j = convT (rd_T185 ts j) := getD_map convT a b; rw [e]; exact c.2 j a b


theorem l4to_aux (w h X Y : Int) (w1 : 1 ≤ w) (w2 : w ≤ 40) (h2 : h ≤ 40) (x0 : -1 ≤ X) (x1 : X ≤ w) (y0 : -1 ≤ Y) (y1 : Y ≤ 1700) :
  (if X < 0 then some (-1) else if X ≥ w then some (-1) else if Y < 0 then some (-1) else if Y ≥ h then some (-1) else some (wrap64 (wrap64 (Y * w) + X))) = some (if X < 0 ∨ w ≤ X ∨ Y < 0 ∨ h ≤ Y then -1 else Y * w + X) := by
 by_cases a : X < 0
 ·rw [if_pos a, if_pos (.inl a)]
 rw [if_neg a]
 by_cases b : X ≥ w
 ·rw [if_pos b, if_pos (.inr (.inl b))]
 rw [if_neg b]
 by_cases c : Y < 0
 ·rw [if_pos c, if_pos (.inr (.inr (.inl c)))]
 rw [if_neg c]
 by_cases d : Y ≥ h
 ·rw [if_pos d, if_pos (.inr (.inr (.inr d)))]
 rw [if_neg d, if_neg (by omega)]; have m0 : 0 ≤ Y * w := Int.mul_nonneg (by omega) (by omega); have m1 : Y * w ≤ 40 * 40 := Int.mul_le_mul (by omega) w2 (by omega) (by omega); rw [wrap64_id (x := Y * w) (by omega) (by omega), wrap64_id (by omega) (by omega)]
theorem spec_l4to_eq (w h c d : Int) (hs : sideIn w h c d) : spec_l4to.f w h c d = some (sideL w h c d) := by
 obtain ⟨w1, w2, h1, h2, c0, c1, d0, d1⟩ := hs; have m0 : 0 ≤ c % w := Int.emod_nonneg _ (by omega); have m1 : c % w < w := Int.emod_lt_of_pos _ (by omega); have q0 : 0 ≤ c / w := Int.ediv_nonneg c0 (by omega); have q1 : c / w ≤ c := Int.ediv_le_self _ c0; unfold spec_l4to.f sideL; rw [if_neg (by omega), tdiv_nn c0, tmod_nn c0]; have hd : d = 0 ∨ d = 1 ∨ d = 2 ∨ d = 3 := by omega
 rcases hd with rfl | rfl | rfl | rfl
 ·rw [if_pos rfl, wrap64_id (x := c / w) (by omega) (by omega), wrap64_id (x := c / w - 1) (by omega) (by omega)]; have := l4to_aux w h (c % w) (c / w - 1) w1 w2 h2 (by omega) (by omega) (by omega) (by omega); rw [this, show dxz 0 = 0 by rfl, show dyz 0 = -1 by rfl, Int.add_zero, show c / w + -1 = c / w - 1 by omega]
 ·rw [if_neg (by omega), if_pos rfl, wrap64_id (x := c / w) (by omega) (by omega), wrap64_id (x := c % w + 1) (by omega) (by omega)]; have := l4to_aux w h (c % w + 1) (c / w) w1 w2 h2 (by omega) (by omega) (by omega) (by omega); rw [this, show dxz 1 = 1 by rfl, show dyz 1 = 0 by rfl, Int.add_zero]
 ·rw [if_neg (by omega), if_neg (by omega), if_pos rfl, wrap64_id (x := c / w) (by omega) (by omega), wrap64_id (x := c / w + 1) (by omega) (by omega)]; have := l4to_aux w h (c % w) (c / w + 1) w1 w2 h2 (by omega) (by omega) (by omega) (by omega); rw [this, show dxz 2 = 0 by rfl, show dyz 2 = 1 by rfl, Int.add_zero]
 ·rw [if_neg (by omega), if_neg (by omega), if_neg (by omega), wrap64_id (x := c / w) (by omega) (by omega), wrap64_id (x := c % w - 1) (by omega) (by omega)]; have := l4to_aux w h (c % w - 1) (c / w) w1 w2 h2 (by omega) (by omega) (by omega) (by omega); rw [this, show dxz 3 = -1 by rfl, show dyz 3 = 0 by rfl, Int.add_zero, show c % w + -1 = c % w - 1 by omega]
theorem impl_side_eq (w h c d : Int) (hs : sideIn w h c d) : impl_side.f w h c d = some (sideL w h c d) := by
 unfold impl_side.f; rw [if_pos hs]
theorem sideL_lt {w h c d : Int} (hs : sideIn w h c d) : -1 ≤ sideL w h c d ∧ sideL w h c d < w * h := by
 obtain ⟨w1, w2, h1, h2, c0, c1, d0, d1⟩ := hs; have wh : 0 < w * h := Int.mul_pos (by omega) (by omega); unfold sideL
 split
 ·omega
 ·rename_i q; have a : 0 ≤ (c / w + dyz d) * w := Int.mul_nonneg (by omega) (by omega); have b : (c / w + dyz d) * w ≤ (h - 1) * w := Int.mul_le_mul_of_nonneg_right (by omega) (by omega); rw [Int.sub_mul, Int.one_mul, Int.mul_comm h w] at b
  omega

theorem wh_le {w h : Int} (w1 : 1 ≤ w) (w2 : w ≤ 40) (h1 : 1 ≤ h) (h2 : h ≤ 40) : 1 ≤ w * h ∧ w * h ≤ 1600 := by
 have a : 0 < w * h := Int.mul_pos (by omega) (by omega); have b : w * h ≤ 40 * 40 := Int.mul_le_mul w2 h2 (by omega) (by omega)
 omega
theorem sideOk_eq (x : Int) : impl_sideOk.f x = some (decide (1 ≤ x ∧ x ≤ 40)) := by
 unfold impl_sideOk.f
 by_cases a : x ≥ 1
 ·rw [if_pos a]; congr 1; rw [decide_eq_decide]; omega
 ·rw [if_neg a, decide_eq_false (by omega)]

structure RowAt (w h c0 : Int) (di ho : List Int) (c : Int) : Prop where
 home : c = c0 → rd di c = 0 ∧ rd ho c = -1
 away : c ≠ c0 → (rd di c = -1 ∧ rd ho c = -1) ∨ (1 ≤ rd di c ∧ rd di c ≤ 65534 ∧ 0 ≤ rd ho c ∧ rd ho c ≤ 3 ∧ 0 ≤ sideL w h c (rd ho c) ∧ 0 ≤ rd di (sideL w h c (rd ho c)) ∧ rd di (sideL w h c (rd ho c)) < rd di c)
noncomputable def rowB (w h : Int) (ts : List S120) (D H : List (List Int)) (i : Int) : Bool :=
 decide (((rd_L4 D i).length : Int) = w * h) && (decide (((rd_L4 H i).length : Int) = w * h) && allB (RowAt w h (rd_T120 ts i).f2 (rd_L4 D i) (rd_L4 H i)) 0 (w * h))
theorem rowB_iff {w h : Int} {ts : List S120} {D H : List (List Int)} {i : Int} : rowB w h ts D H i = true ↔ ((rd_L4 D i).length : Int) = w * h ∧ ((rd_L4 H i).length : Int) = w * h ∧ ∀ c : Int, 0 ≤ c → c < w * h → RowAt w h (rd_T120 ts i).f2 (rd_L4 D i) (rd_L4 H i) c := by
 unfold rowB; rw [Bool.and_eq_true, Bool.and_eq_true, decide_eq_true_eq, decide_eq_true_eq, allB_iff]
theorem l6row_loop (w h : Int) (w1 : 1 ≤ w) (w2 : w ≤ 40) (h1 : 1 ≤ h) (h2 : h ≤ 40) (ts : List S120) (D H : List (List Int)) (i : Int) (i0 : 0 ≤ i) (i1 : i < ts.length) (di ho : List Int)
  (ld : (di.length : Int) = w * h) (lh : (ho.length : Int) = w * h) (d : Nat) : ∀ c : Int, 0 ≤ c → w * h - c = d → Ev (fun k => spec_l6rowOK.l0 k i (w * h) di ho c w h ts D H) (allB (RowAt w h (rd_T120 ts i).f2 di ho) c (w * h)) := by
 have wh := wh_le w1 w2 h1 h2; generalize hn : w * h = n at *
 induction d with
 | zero =>
  intro c c0 hd; refine Ev.step (fun _ => rfl) ?_; simp only [spec_l6rowOK.l0]; refine ev_neg (by omega) ?_; rw [allB_end (by omega)]; exact Ev.now _
 | succ d ih =>
  intro c c0 hd; have hc : c < n := by omega
  have no : ¬ RowAt w h (rd_T120 ts i).f2 di ho c → Ev (fun _ => some false) (allB (RowAt w h (rd_T120 ts i).f2 di ho) c n) := by
   intro q; rw [allB_no hc q]; exact Ev.now _
  have go : RowAt w h (rd_T120 ts i).f2 di ho c → Ev (fun k => spec_l6rowOK.l0 k i n di ho (wrap64 (c + 1)) w h ts D H) (allB (RowAt w h (rd_T120 ts i).f2 di ho) c n) := by
   intro q; rw [allB_yes q, wrap64_id (by omega) (by omega)]; exact ih _ (by omega) (by omega)
  refine Ev.step (fun _ => rfl) ?_; simp only [spec_l6rowOK.l0]; refine ev_pos hc (ev_pos i0 (ev_pos i1 (ev_ite (fun e => ?_) (fun e => ?_))))
  ·refine ev_pos c0 (ev_pos (by omega) (ev_ite (fun a => ev_pos (by omega) (ev_ite (fun b => go ⟨fun _ => ⟨a, b⟩, fun q => absurd e q⟩) (fun b => no (fun q => b (q.home e).2)))) (fun a => no (fun q => a (q.home e).1))))
  ·have j3t : ¬ RowAt w h (rd_T120 ts i).f2 di ho c → Ev (fun k => spec_l6rowOK.j3 k i n di ho c true w h ts D H) (allB (RowAt w h (rd_T120 ts i).f2 di ho) c n) := by
    intro q; refine Ev.step (fun _ => rfl) ?_; simp only [spec_l6rowOK.j3]; exact ev_pos (by trivial) (no q)
   have j2f : ¬ (rd di c = -1 ∧ rd ho c = -1) → Ev (fun k => spec_l6rowOK.j2 k i n di ho c false w h ts D H) (allB (RowAt w h (rd_T120 ts i).f2 di ho) c n) := by
    intro q; have aw : RowAt w h (rd_T120 ts i).f2 di ho c → (1 ≤ rd di c ∧ rd di c ≤ 65534 ∧ 0 ≤ rd ho c ∧ rd ho c ≤ 3 ∧ 0 ≤ sideL w h c (rd ho c) ∧ 0 ≤ rd di (sideL w h c (rd ho c)) ∧ rd di (sideL w h c (rd ho c)) < rd di c) := fun r => (r.away e).resolve_left q
    refine Ev.step (fun _ => rfl) ?_; simp only [spec_l6rowOK.j2]; refine ev_neg (by simp) (ev_pos c0 (ev_pos (by omega) (ev_ite (fun a => j3t (fun r => by have := (aw r).1; omega)) (fun a => ev_ite (fun b => j3t (fun r => by have := (aw r).2.1; omega)) (fun b => ev_pos (by omega) (ev_ite (fun f => j3t (fun r => by have := (aw r).2.2.1; omega)) (fun f => ?_)))))))
    by_cases g : rd ho c > 3
    ·rw [decide_eq_true g]; exact j3t (fun r => by have := (aw r).2.2.2.1; omega)
    ·rw [decide_eq_false g]; refine Ev.step (fun _ => rfl) ?_; simp only [spec_l6rowOK.j3]; have si : sideIn w h c (rd ho c) := ⟨w1, w2, h1, h2, c0, by omega, by omega, by omega⟩; have sl := sideL_lt si; rw [hn] at sl; refine ev_neg (by simp) (ev_pos c0 (ev_pos (by omega) ?_)); rw [spec_l4to_eq _ _ _ _ si]; refine ev_letv (ev_ite (fun t0 => no (fun r => by have := (aw r).2.2.2.2.1; omega)) (fun t0 => ev_pos (by omega) (ev_pos (by omega) (ev_ite (fun t1 => no (fun r => by have := (aw r).2.2.2.2.2.1; omega)) (fun t1 => ev_pos (by omega) (ev_ite (fun t2 => no (fun r => by have := (aw r).2.2.2.2.2.2; omega)) (fun t2 => go ⟨fun r => absurd r e, fun _ => .inr ⟨by omega, by omega, by omega, by omega, by omega, by omega, by omega⟩⟩)))))))
   refine ev_pos c0 (ev_pos (by omega) (ev_ite (fun a => ev_pos (by omega) ?_) (fun a => j2f (fun r => a r.1))))
   by_cases b : rd ho c = -1
   ·rw [show (rd ho c == (-1 : Int)) = true by rw [beq_iff_eq]; exact b]; refine Ev.step (fun _ => rfl) ?_; simp only [spec_l6rowOK.j2]; exact ev_pos (by trivial) (go ⟨fun r => absurd r e, fun _ => .inl ⟨a, b⟩⟩)
   ·rw [show (rd ho c == (-1 : Int)) = false by rw [beq_eq_false_iff_ne]; exact b]; exact j2f (fun r => b r.2)
theorem spec_l6rowOK_ev (w h : Int) (w1 : 1 ≤ w) (w2 : w ≤ 40) (h1 : 1 ≤ h) (h2 : h ≤ 40) (ts : List S120) (D H : List (List Int)) (i : Int) (i0 : 0 ≤ i) (i1 : i < ts.length) (iD : i < D.length) (iH : i < H.length) :
  Ev (fun k => spec_l6rowOK.f k w h ts D H i) (rowB w h ts D H i) := by
 have wh := wh_le w1 w2 h1 h2; unfold rowB; simp only [spec_l6rowOK.f]; rw [wrap64_id (x := w * h) (by omega) (by omega)]; refine ev_pos i0 (ev_pos iD (ev_pos iH (ev_ite (fun a => ?_) (fun a => ?_))))
 ·rw [decide_eq_true a, Bool.true_and]
  by_cases b : ((rd_L4 H i).length : Int) = w * h
  ·rw [show (((rd_L4 H i).length : Int) != w * h) = false by rw [b]; simp, decide_eq_true b, Bool.true_and]; refine Ev.step (fun _ => rfl) ?_; simp only [spec_l6rowOK.j0]; exact ev_neg (by simp) (l6row_loop w h w1 w2 h1 h2 ts D H i i0 i1 _ _ a b (w * h).toNat 0 (by omega) (by omega))
  ·rw [show (((rd_L4 H i).length : Int) != w * h) = true by rw [bne_iff_ne]; exact b, decide_eq_false b, Bool.false_and]; refine Ev.step (fun _ => rfl) ?_; simp only [spec_l6rowOK.j0]; exact ev_pos (by trivial) (Ev.now _)
 ·rw [decide_eq_false a, Bool.false_and]; refine Ev.step (fun _ => rfl) ?_; simp only [spec_l6rowOK.j0]; exact ev_pos (by trivial) (Ev.now _)
theorem listOk_loop (w h : Int) (w1 : 1 ≤ w) (w2 : w ≤ 40) (h1 : 1 ≤ h) (h2 : h ≤ 40) (ts : List S120) (D H : List (List Int)) (i : Int) (i0 : 0 ≤ i) (i1 : i < ts.length) (di ho : List Int)
  (ld : (di.length : Int) = w * h) (lh : (ho.length : Int) = w * h) (d : Nat) : ∀ c : Int, 0 ≤ c → w * h - c = d → Ev (fun k => impl_Tables_listOk.l0 k i di ho (w * h) c w h ts D H) (allB (RowAt w h (rd_T120 ts i).f2 di ho) c (w * h)) := by
 have wh := wh_le w1 w2 h1 h2; generalize hn : w * h = n at *
 induction d with
 | zero =>
  intro c c0 hd; refine Ev.step (fun _ => rfl) ?_; simp only [impl_Tables_listOk.l0]; refine ev_neg (by omega) ?_; rw [allB_end (by omega)]; exact Ev.now _
 | succ d ih =>
  intro c c0 hd; have hc : c < n := by omega
  have no : ¬ RowAt w h (rd_T120 ts i).f2 di ho c → Ev (fun _ => some false) (allB (RowAt w h (rd_T120 ts i).f2 di ho) c n) := by
   intro q; rw [allB_no hc q]; exact Ev.now _
  have go : RowAt w h (rd_T120 ts i).f2 di ho c → Ev (fun k => impl_Tables_listOk.l0 k i di ho n (wrap64 (c + 1)) w h ts D H) (allB (RowAt w h (rd_T120 ts i).f2 di ho) c n) := by
   intro q; rw [allB_yes q, wrap64_id (by omega) (by omega)]; exact ih _ (by omega) (by omega)
  refine Ev.step (fun _ => rfl) ?_; simp only [impl_Tables_listOk.l0]; refine ev_pos hc (ev_pos i0 (ev_pos i1 (ev_ite (fun e => ?_) (fun e => ?_))))
  ·refine ev_pos c0 (ev_pos (by omega) (ev_ite (fun a => ev_pos (by omega) (ev_ite (fun b => go ⟨fun _ => ⟨a, b⟩, fun q => absurd e q⟩) (fun b => no (fun q => b (q.home e).2)))) (fun a => no (fun q => a (q.home e).1))))
  ·have j3t : ¬ RowAt w h (rd_T120 ts i).f2 di ho c → Ev (fun k => impl_Tables_listOk.j2 k i di ho c n c true w h ts D H) (allB (RowAt w h (rd_T120 ts i).f2 di ho) c n) := by
    intro q; refine Ev.step (fun _ => rfl) ?_; simp only [impl_Tables_listOk.j2]; exact ev_pos (by trivial) (no q)
   refine ev_pos c0 (ev_pos (by omega) (ev_ite (fun a => ev_pos (by omega) (ev_ite (fun b => go ⟨fun r => absurd r e, fun _ => .inl ⟨a, b⟩⟩) (fun b => no (fun r => by rcases r.away e with r | r; exact b r.2; omega)))) (fun a => ?_))); have aw : RowAt w h (rd_T120 ts i).f2 di ho c → (1 ≤ rd di c ∧ rd di c ≤ 65534 ∧ 0 ≤ rd ho c ∧ rd ho c ≤ 3 ∧ 0 ≤ sideL w h c (rd ho c) ∧ 0 ≤ rd di (sideL w h c (rd ho c)) ∧ rd di (sideL w h c (rd ho c)) < rd di c) := fun r => (r.away e).resolve_left (fun q => a q.1)
   refine ev_ite (fun a => j3t (fun r => by have := (aw r).1; omega)) (fun a => ev_ite (fun b => j3t (fun r => by have := (aw r).2.1; omega)) (fun b => ev_pos (by omega) (ev_ite (fun f => j3t (fun r => by have := (aw r).2.2.1; omega)) (fun f => ?_))))
   by_cases g : rd ho c > 3
   ·rw [decide_eq_true g]; exact j3t (fun r => by have := (aw r).2.2.2.1; omega)
   ·rw [decide_eq_false g]; refine Ev.step (fun _ => rfl) ?_; simp only [impl_Tables_listOk.j2]; have si : sideIn w h c (rd ho c) := ⟨w1, w2, h1, h2, c0, by omega, by omega, by omega⟩; have sl := sideL_lt si; rw [hn] at sl; refine ev_neg (by simp) (ev_pos c0 (ev_pos (by omega) ?_)); rw [impl_side_eq _ _ _ _ si]; refine ev_letv (ev_ite (fun t0 => no (fun r => by have := (aw r).2.2.2.2.1; omega)) (fun t0 => ev_pos (by omega) (ev_pos (by omega) (ev_ite (fun t1 => no (fun r => by have := (aw r).2.2.2.2.2.1; omega)) (fun t1 => ev_pos (by omega) (ev_ite (fun t2 => no (fun r => by have := (aw r).2.2.2.2.2.2; omega)) (fun t2 => go ⟨fun r => absurd r e, fun _ => .inr ⟨by omega, by omega, by omega, by omega, by omega, by omega, by omega⟩⟩)))))))
theorem impl_listOk_ev (w h : Int) (w1 : 1 ≤ w) (w2 : w ≤ 40) (h1 : 1 ≤ h) (h2 : h ≤ 40) (ts : List S120) (D H : List (List Int)) (i : Int) (i0 : 0 ≤ i) (i1 : i < ts.length) (iD : i < D.length) (iH : i < H.length) :
  Ev (fun k => impl_Tables_listOk.f k w h ts D H i) (rowB w h ts D H i) := by
 have wh := wh_le w1 w2 h1 h2; unfold rowB; simp only [impl_Tables_listOk.f]; rw [wrap64_id (x := w * h) (by omega) (by omega)]; refine ev_pos i0 (ev_pos iD (ev_pos iH (ev_ite (fun a => ?_) (fun a => ?_))))
 ·rw [decide_eq_true a, Bool.true_and]
  by_cases b : ((rd_L4 H i).length : Int) = w * h
  ·rw [show (((rd_L4 H i).length : Int) != w * h) = false by rw [b]; simp, decide_eq_true b, Bool.true_and]; refine Ev.step (fun _ => rfl) ?_; simp only [impl_Tables_listOk.j0]; rw [a]; exact ev_neg (by simp) (listOk_loop w h w1 w2 h1 h2 ts D H i i0 i1 _ _ a b (w * h).toNat 0 (by omega) (by omega))
  ·rw [show (((rd_L4 H i).length : Int) != w * h) = true by rw [bne_iff_ne]; exact b, decide_eq_false b, Bool.false_and]; refine Ev.step (fun _ => rfl) ?_; simp only [impl_Tables_listOk.j0]; exact ev_pos (by trivial) (Ev.now _)
 ·rw [decide_eq_false a, Bool.false_and]; refine Ev.step (fun _ => rfl) ?_; simp only [impl_Tables_listOk.j0]; exact ev_pos (by trivial) (Ev.now _)

noncomputable def vt (w h : Int) (ts : List S120) (D H : List (List Int)) : Bool :=
 decide (1 ≤ w ∧ w ≤ 40 ∧ 1 ≤ h ∧ h ≤ 40) && (tok ts (w * h) && (decide (D.length = ts.length ∧ H.length = ts.length) && allB (fun i => rowB w h ts D H i = true) 0 ts.length))
theorem vt_iff {w h : Int} {ts : List S120} {D H : List (List Int)} : vt w h ts D H = true ↔ (1 ≤ w ∧ w ≤ 40 ∧ 1 ≤ h ∧ h ≤ 40) ∧ tok ts (w * h) = true ∧ (D.length = ts.length ∧ H.length = ts.length) ∧ ∀ i : Int, 0 ≤ i → i < ts.length → rowB w h ts D H i = true := by
 unfold vt; rw [Bool.and_eq_true, Bool.and_eq_true, Bool.and_eq_true, decide_eq_true_eq, decide_eq_true_eq, allB_iff]
theorem spec_vt_j0f (w h : Int) (ts : List S120) (D H : List (List Int)) : Ev (fun k => spec_ValidTables.j0 k true w h ts D H) false := by
 refine Ev.step (fun _ => rfl) ?_; simp only [spec_ValidTables.j0]; exact ev_pos (by trivial) (Ev.now _)
theorem spec_vt_loop (w h : Int) (w1 : 1 ≤ w) (w2 : w ≤ 40) (h1 : 1 ≤ h) (h2 : h ≤ 40) (ts : List S120) (D H : List (List Int)) (lt : (ts.length : Int) ≤ 30) (lD : D.length = ts.length) (lH : H.length = ts.length) (d : Nat) : ∀ i : Int, 0 ≤ i → (ts.length : Int) - i = d →
  Ev (fun k => spec_ValidTables.l0 k i w h ts D H) (allB (fun i => rowB w h ts D H i = true) i ts.length) := by
 induction d with
 | zero =>
  intro i i0 hd; refine Ev.step (fun _ => rfl) ?_; simp only [spec_ValidTables.l0]; refine ev_neg (by omega) ?_; rw [allB_end (by omega)]; exact Ev.now _
 | succ d ih =>
  intro i i0 hd; refine Ev.step (fun _ => rfl) ?_; simp only [spec_ValidTables.l0]; refine ev_pos (by omega) (Ev.bind (spec_l6rowOK_ev w h w1 w2 h1 h2 ts D H i i0 (by omega) (by omega) (by omega)) (ev_ite (fun q => ?_) (fun q => ?_)))
  ·rw [allB_yes (S := fun i => rowB w h ts D H i = true) q, wrap64_id (by omega) (by omega)]; exact ih _ (by omega) (by omega)
  ·rw [allB_no (S := fun i => rowB w h ts D H i = true) (by omega) q]; exact Ev.now _
theorem spec_ValidTables_ev (w h : Int) (ts : List S120) (D H : List (List Int)) (nb : Names ts) (lD : D.length ≤ 1048576) (lH : H.length ≤ 1048576) (lT : ts.length ≤ 1048576) : Ev (fun k => spec_ValidTables.f k w h ts D H) (vt w h ts D H) := by
 simp only [spec_ValidTables.f]; have no : vt w h ts D H = false → Ev (fun k => spec_ValidTables.j0 k true w h ts D H) (vt w h ts D H) := by
  intro q; rw [q]; exact spec_vt_j0f w h ts D H
 have nos : ¬ (1 ≤ w ∧ w ≤ 40 ∧ 1 ≤ h ∧ h ≤ 40) → Ev (fun k => spec_ValidTables.j0 k true w h ts D H) (vt w h ts D H) := by
  intro q; refine no ?_; unfold vt; rw [decide_eq_false q, Bool.false_and]
 refine ev_ite (fun a => nos (by omega)) (fun a => ev_ite (fun b => nos (by omega)) (fun b => ev_ite (fun c => nos (by omega)) (fun c => ev_ite (fun d => nos (by omega)) (fun d => ?_)))); have wh := wh_le (w := w) (h := h) (by omega) (by omega) (by omega) (by omega); rw [wrap64_id (x := w * h) (by omega) (by omega)]; refine Ev.bind (spec_l4targetsOK_ev ts (w * h) nb) ?_; unfold vt; rw [decide_eq_true (show 1 ≤ w ∧ w ≤ 40 ∧ 1 ≤ h ∧ h ≤ 40 by omega), Bool.true_and]; cases ht : tok ts (w * h) with
 | false => rw [Bool.false_and]; exact spec_vt_j0f w h ts D H
 | true =>
  have t30 := (tok_iff.1 ht).1; rw [Bool.true_and]; refine Ev.step (fun _ => rfl) ?_; simp only [spec_ValidTables.j0]; refine ev_neg (by simp) (ev_ite (fun e => ?_) (fun e => ?_))
  ·refine Ev.step (fun _ => rfl) ?_; simp only [spec_ValidTables.j1]
   by_cases f : (H.length : Int) = ts.length
   ·refine ev_neg (by rw [f]; simp) ?_; rw [decide_eq_true (show D.length = ts.length ∧ H.length = ts.length by omega), Bool.true_and]; exact spec_vt_loop w h (by omega) (by omega) (by omega) (by omega) ts D H t30 (by omega) (by omega) ts.length 0 (by omega) (by omega)
   ·refine ev_pos (by rw [bne_iff_ne]; exact f) ?_; rw [decide_eq_false (show ¬ (D.length = ts.length ∧ H.length = ts.length) by omega), Bool.false_and]; exact Ev.now _
  ·rw [decide_eq_false (show ¬ (D.length = ts.length ∧ H.length = ts.length) by omega), Bool.false_and]; refine Ev.step (fun _ => rfl) ?_; simp only [spec_ValidTables.j1]; exact ev_pos (by trivial) (Ev.now _)
theorem impl_vt_j0f (w h : Int) (ts : List S120) (D H : List (List Int)) : Ev (fun k => impl_ValidTables.j0 k true w h ts D H) false := by
 refine Ev.step (fun _ => rfl) ?_; simp only [impl_ValidTables.j0]; exact ev_pos (by trivial) (Ev.now _)
theorem impl_vt_loop (w h : Int) (w1 : 1 ≤ w) (w2 : w ≤ 40) (h1 : 1 ≤ h) (h2 : h ≤ 40) (ts : List S120) (D H : List (List Int)) (lt : (ts.length : Int) ≤ 30) (lD : D.length = ts.length) (lH : H.length = ts.length) (d : Nat) : ∀ i : Int, 0 ≤ i → (ts.length : Int) - i = d →
  Ev (fun k => impl_ValidTables.l0 k (ts.length : Int) i w h ts D H) (allB (fun i => rowB w h ts D H i = true) i ts.length) := by
 induction d with
 | zero =>
  intro i i0 hd; refine Ev.step (fun _ => rfl) ?_; simp only [impl_ValidTables.l0]; refine ev_neg (by omega) ?_; rw [allB_end (by omega)]; exact Ev.now _
 | succ d ih =>
  intro i i0 hd; refine Ev.step (fun _ => rfl) ?_; simp only [impl_ValidTables.l0]; refine ev_pos (by omega) (Ev.bind (impl_listOk_ev w h w1 w2 h1 h2 ts D H i i0 (by omega) (by omega) (by omega)) (ev_ite (fun q => ?_) (fun q => ?_)))
  ·rw [allB_yes (S := fun i => rowB w h ts D H i = true) q, wrap64_id (by omega) (by omega)]; exact ih _ (by omega) (by omega)
  ·rw [allB_no (S := fun i => rowB w h ts D H i = true) (by omega) q]; exact Ev.now _
theorem impl_ValidTables_ev (w h : Int) (ts : List S120) (D H : List (List Int)) (nb : Names ts) (lD : D.length ≤ 1048576) (lH : H.length ≤ 1048576) (lT : ts.length ≤ 1048576) : Ev (fun k => impl_ValidTables.f k w h ts D H) (vt w h ts D H) := by
 simp only [impl_ValidTables.f]; have no : vt w h ts D H = false → Ev (fun k => impl_ValidTables.j0 k true w h ts D H) (vt w h ts D H) := by
  intro q; rw [q]; exact impl_vt_j0f w h ts D H
 have nos : ¬ (1 ≤ w ∧ w ≤ 40 ∧ 1 ≤ h ∧ h ≤ 40) → Ev (fun k => impl_ValidTables.j0 k true w h ts D H) (vt w h ts D H) := by
  intro q; refine no ?_; unfold vt; rw [decide_eq_false q, Bool.false_and]
 rw [sideOk_eq, sideOk_eq]; refine ev_letv (ev_ite (fun a => ev_letv (ev_ite (fun b => ?_) (fun b => nos (fun q => b (decide_eq_true (by omega)))))) (fun a => nos (fun q => a (decide_eq_true (by omega))))); have a := of_decide_eq_true a; have b := of_decide_eq_true b; have wh := wh_le (w := w) (h := h) (by omega) (by omega) (by omega) (by omega); rw [wrap64_id (x := w * h) (by omega) (by omega)]; refine Ev.bind (impl_targetsOk_ev ts (w * h) nb (by omega)) ?_; unfold vt; rw [decide_eq_true (show 1 ≤ w ∧ w ≤ 40 ∧ 1 ≤ h ∧ h ≤ 40 by omega), Bool.true_and]; cases ht : tok ts (w * h) with
 | false => rw [Bool.false_and]; exact ev_neg (by simp) (impl_vt_j0f w h ts D H)
 | true =>
  have t30 := (tok_iff.1 ht).1; rw [Bool.true_and]; refine ev_pos (by trivial) (ev_ite (fun e => ?_) (fun e => ?_))
  ·refine Ev.step (fun _ => rfl) ?_; simp only [impl_ValidTables.j0]
   by_cases f : (H.length : Int) = ts.length
   ·refine ev_neg (by rw [f]; simp) ?_; rw [decide_eq_true (show D.length = ts.length ∧ H.length = ts.length by omega), Bool.true_and]; exact impl_vt_loop w h (by omega) (by omega) (by omega) (by omega) ts D H t30 (by omega) (by omega) ts.length 0 (by omega) (by omega)
   ·refine ev_pos (by rw [bne_iff_ne]; exact f) ?_; rw [decide_eq_false (show ¬ (D.length = ts.length ∧ H.length = ts.length) by omega), Bool.false_and]; exact Ev.now _
  ·rw [decide_eq_false (show ¬ (D.length = ts.length ∧ H.length = ts.length) by omega), Bool.false_and]; exact impl_vt_j0f w h ts D H

structure VT (w h : Int) (ts : List S120) (D H : List (List Int)) : Prop where
 w1 : 1 ≤ w
 w2 : w ≤ 40
 h1 : 1 ≤ h
 h2 : h ≤ 40
 n1 : 1 ≤ w * h
 n2 : w * h ≤ 1600
 t30 : (ts.length : Int) ≤ 30
 lD : D.length = ts.length
 lH : H.length = ts.length
 one : ∀ i : Int, 0 ≤ i → i < ts.length → TOK1 ts (w * h) i
 rD : ∀ i : Int, 0 ≤ i → i < ts.length → ((rd_L4 D i).length : Int) = w * h
 rH : ∀ i : Int, 0 ≤ i → i < ts.length → ((rd_L4 H i).length : Int) = w * h
 row : ∀ i : Int, 0 ≤ i → i < ts.length → ∀ c : Int, 0 ≤ c → c < w * h → RowAt w h (rd_T120 ts i).f2 (rd_L4 D i) (rd_L4 H i) c
theorem vt_facts {w h : Int} {ts : List S120} {D H : List (List Int)} (v : vt w h ts D H = true) : VT w h ts D H := by
 obtain ⟨s, t, l, r⟩ := vt_iff.1 v; have t := tok_iff.1 t; have wh := wh_le s.1 s.2.1 s.2.2.1 s.2.2.2; exact ⟨s.1, s.2.1, s.2.2.1, s.2.2.2, wh.1, wh.2, t.1, l.1, l.2, t.2, fun i a b => (rowB_iff.1 (r i a b)).1, fun i a b => (rowB_iff.1 (r i a b)).2.1, fun i a b => (rowB_iff.1 (r i a b)).2.2⟩

theorem l8asks_eq (w h : Int) (ts : List S120) (D H : List (List Int)) (n1 : 1 ≤ w * h) (n2 : w * h ≤ 1600) (a c : Int) : spec_l8asks.f w h ts D H a c = some (decide (0 ≤ a ∧ a < ts.length ∧ 0 ≤ c ∧ c < w * h)) := by
 unfold spec_l8asks.f; rw [wrap64_id (x := w * h) (by omega) (by omega)]
 by_cases h1 : a ≥ 0
 ·rw [if_pos h1]
  by_cases h2 : a < ts.length
  ·rw [if_pos h2]
   by_cases h3 : c ≥ 0
   ·rw [if_pos h3]; congr 1; rw [decide_eq_decide]; omega
   ·rw [if_neg h3, decide_eq_false (by omega)]
  ·rw [if_neg h2, decide_eq_false (by omega)]
 ·rw [if_neg h1, decide_eq_false (by omega)]
theorem there_eq (w h : Int) (ts : List S120) (D H : List (List Int)) (n1 : 1 ≤ w * h) (n2 : w * h ≤ 1600) (a c : Int) : impl_Tables_there.f w h ts D H a c = some (decide (0 ≤ a ∧ a < ts.length ∧ 0 ≤ c ∧ c < w * h)) := by
 unfold impl_Tables_there.f; rw [wrap64_id (x := w * h) (by omega) (by omega)]
 by_cases h1 : a ≥ 0
 ·rw [if_pos h1]
  by_cases h2 : a < ts.length
  ·rw [if_pos h2]
   by_cases h3 : c ≥ 0
   ·rw [if_pos h3]; congr 1; rw [decide_eq_decide]; omega
   ·rw [if_neg h3, decide_eq_false (by omega)]
  ·rw [if_neg h2, decide_eq_false (by omega)]
 ·rw [if_neg h1, decide_eq_false (by omega)]

structure ROK1 (w h : Int) (ts : List S120) (rs : List S134) (i : Int) : Prop where
 there : 0 ≤ (rd_T134 rs i).f1 ∧ (rd_T134 rs i).f1 < ts.length ∧ 0 ≤ (rd_T134 rs i).f0 ∧ (rd_T134 rs i).f0 < w * h
 moves : 0 ≤ (rd_T134 rs i).f2 ∧ (rd_T134 rs i).f2 ≤ 1000000
 waits : 0 ≤ (rd_T134 rs i).f3 ∧ (rd_T134 rs i).f3 ≤ 1000000
 alone : (rd_T134 rs i).f4 = false → ∀ j : Int, 0 ≤ j → j < i → (rd_T134 rs j).f4 = false → (rd_T134 rs j).f0 ≠ (rd_T134 rs i).f0
noncomputable def vf (w h : Int) (ts : List S120) (D H : List (List Int)) (rs : List S134) : Bool :=
 vt w h ts D H && (decide ((rs.length : Int) ≤ 30) && allB (ROK1 w h ts rs) 0 rs.length)
theorem vf_iff {w h : Int} {ts : List S120} {D H : List (List Int)} {rs : List S134} : vf w h ts D H rs = true ↔ vt w h ts D H = true ∧ (rs.length : Int) ≤ 30 ∧ ∀ i : Int, 0 ≤ i → i < rs.length → ROK1 w h ts rs i := by
 unfold vf; rw [Bool.and_eq_true, Bool.and_eq_true, decide_eq_true_eq, allB_iff]
theorem l8count_eq (x : Int) : spec_l8count.f x = some (decide (0 ≤ x ∧ x ≤ 1000000)) := by
 unfold spec_l8count.f
 by_cases a : x ≥ 0
 ·rw [if_pos a]; congr 1; rw [decide_eq_decide]; omega
 ·rw [if_neg a, decide_eq_false (by omega)]
theorem spec_vf_loop (w h : Int) (ts : List S120) (D H : List (List Int)) (n1 : 1 ≤ w * h) (n2 : w * h ≤ 1600) (rs : List S134) (hl : (rs.length : Int) ≤ 30) (d : Nat) : ∀ i : Int, 0 ≤ i → (rs.length : Int) - i = d → Ev (fun k => spec_ValidFleet.l0 k rs i w h ts D H) (allB (ROK1 w h ts rs) i rs.length) := by
 induction d with
 | zero =>
  intro i i0 hd; refine Ev.step (fun _ => rfl) ?_; simp only [spec_ValidFleet.l0]; refine ev_neg (by omega) ?_; rw [allB_end (by omega)]; exact Ev.now _
 | succ d ih =>
  intro i i0 hd; have hi : i < rs.length := by omega
  have bad : ¬ ROK1 w h ts rs i → ∀ a b c e f, Ev (fun k => spec_ValidFleet.j2 k rs i true w h ts D H a b c e f) (allB (ROK1 w h ts rs) i rs.length) := by
   intro q a b c e f; rw [allB_no hi q]; refine Ev.step (fun _ => rfl) ?_; simp only [spec_ValidFleet.j2]; exact ev_pos (by trivial) (Ev.now _)
  have dup : ∀ (e : Nat) (j : Int), 0 ≤ j → i - j = e → ((rd_T134 rs i).f4 = false → ∀ q : Int, 0 ≤ q → q < j → (rd_T134 rs q).f4 = false → (rd_T134 rs q).f0 ≠ (rd_T134 rs i).f0) → (((rd_T134 rs i).f4 = false → ∀ q : Int, 0 ≤ q → q < i → (rd_T134 rs q).f4 = false → (rd_T134 rs q).f0 ≠ (rd_T134 rs i).f0) → ROK1 w h ts rs i) →
    ∀ a b c, Ev (fun k => spec_ValidFleet.l1 k rs i j w h ts D H (rd_T134 rs i).f0 a b c (rd_T134 rs i).f4) (allB (ROK1 w h ts rs) i rs.length) := by
   intro e
   induction e with
   | zero =>
    intro j j0 he hq Hq a b c; refine Ev.step (fun _ => rfl) ?_; simp only [spec_ValidFleet.l1]; refine ev_neg (by omega) ?_; rw [wrap64_id (by omega) (by omega), allB_yes (Hq (fun f q a b => hq f q a (by omega)))]; exact ih _ (by omega) (by omega)
   | succ e ihe =>
    intro j j0 he hq Hq a b c; have go : ((rd_T134 rs i).f4 = false → (rd_T134 rs j).f4 = false → (rd_T134 rs j).f0 ≠ (rd_T134 rs i).f0) → Ev (fun k => spec_ValidFleet.l1 k rs i (wrap64 (j + 1)) w h ts D H (rd_T134 rs i).f0 a b c (rd_T134 rs i).f4) (allB (ROK1 w h ts rs) i rs.length) := by
     intro g; rw [wrap64_id (by omega) (by omega)]; refine ihe (j + 1) (by omega) (by omega) (fun f q q0 q1 => ?_) Hq a b c
     by_cases hh : q = j
     ·subst hh; exact g f
     ·exact hq f q q0 (by omega)
    refine Ev.step (fun _ => rfl) ?_; simp only [spec_ValidFleet.l1]; refine ev_pos (by omega) (ev_ite (fun f => go (fun g => by rw [f] at g; cases g)) (fun f => ev_pos (by omega) (ev_pos (by omega) (ev_ite (fun g => go (fun _ g' => by rw [g] at g'; cases g')) (fun g => ev_ite (fun e => ?_) (fun e => go (fun _ _ => e))))))); rw [allB_no hi (fun t => t.alone (by simpa using f) j j0 (by omega) (by simpa using g) e)]; exact Ev.now _
  have ok : (((rd_T134 rs i).f4 = false → ∀ q : Int, 0 ≤ q → q < i → (rd_T134 rs q).f4 = false → (rd_T134 rs q).f0 ≠ (rd_T134 rs i).f0) → ROK1 w h ts rs i) → ∀ a b c, Ev (fun k => spec_ValidFleet.j2 k rs i false w h ts D H (rd_T134 rs i).f0 a b c (rd_T134 rs i).f4) (allB (ROK1 w h ts rs) i rs.length) := by
   intro q a b c; refine Ev.step (fun _ => rfl) ?_; simp only [spec_ValidFleet.j2]; exact ev_neg (by simp) (dup i.toNat 0 (by omega) (by omega) (fun _ q q0 q1 => by omega) q a b c)
  refine Ev.step (fun _ => rfl) ?_; simp only [spec_ValidFleet.l0]; refine ev_pos hi (ev_pos i0 ?_); rw [l8asks_eq w h ts D H n1 n2]; refine ev_letv (ev_ite (fun t => ?_) (fun t => bad (fun r => t (decide_eq_true r.there)) _ _ _ _ _)); have t := of_decide_eq_true t; rw [l8count_eq]; refine ev_letv (ev_ite (fun m => ?_) (fun m => bad (fun r => m (decide_eq_true r.moves)) _ _ _ _ _)); have m := of_decide_eq_true m; rw [l8count_eq]; refine ev_letv ?_
  by_cases u : 0 ≤ (rd_T134 rs i).f3 ∧ (rd_T134 rs i).f3 ≤ 1000000
  ·rw [decide_eq_true u]; exact ok (fun q => ⟨t, m, u, q⟩) _ _ _
  ·rw [decide_eq_false u]; exact bad (fun r => u r.waits) _ _ _ _ _
theorem spec_vf_j0t (w h : Int) (ts : List S120) (D H : List (List Int)) (rs : List S134) : Ev (fun k => spec_ValidFleet.j0 k rs true w h ts D H) false := by
 refine Ev.step (fun _ => rfl) ?_; simp only [spec_ValidFleet.j0]; exact ev_pos (by trivial) (Ev.now _)
theorem spec_ValidFleet_ev (w h : Int) (ts : List S120) (D H : List (List Int)) (nb : Names ts) (lD : D.length ≤ 1048576) (lH : H.length ≤ 1048576) (lT : ts.length ≤ 1048576) (rs : List S134) : Ev (fun k => spec_ValidFleet.f k w h ts D H rs) (vf w h ts D H rs) := by
 have es := spec_ValidTables_ev w h ts D H nb lD lH lT; simp only [spec_ValidFleet.f]; unfold vf; cases hv : vt w h ts D H with
 | false =>
  rw [hv] at es; rw [Bool.false_and]; exact Ev.bind es (ev_neg (by simp) (spec_vf_j0t w h ts D H rs))
 | true =>
  rw [hv] at es; have v := vt_facts hv; rw [Bool.true_and]; refine Ev.bind es (ev_pos (by trivial) ?_)
  by_cases q : (rs.length : Int) > 30
  ·rw [decide_eq_true q, decide_eq_false (by omega), Bool.false_and]; exact spec_vf_j0t w h ts D H rs
  ·rw [decide_eq_false q, decide_eq_true (by omega), Bool.true_and]; refine Ev.step (fun _ => rfl) ?_; simp only [spec_ValidFleet.j0]; exact ev_neg (by simp) (spec_vf_loop w h ts D H v.n1 v.n2 rs (by omega) rs.length 0 (by omega) (by omega))
theorem impl_vf_loop (w h : Int) (ts : List S120) (D H : List (List Int)) (n1 : 1 ≤ w * h) (n2 : w * h ≤ 1600) (rs : List S134) (d : Nat) : ∀ (i : Int) (m : List (Int × Int)), 0 ≤ i → (rs.length : Int) - i = d → (∀ c : Int, (mget m c).isSome = true ↔ ∃ j : Int, 0 ≤ j ∧ j < i ∧ (rd_T134 rs j).f4 = false ∧ (rd_T134 rs j).f0 = c) →
  Ev (fun k => impl_ValidFleet.l k w h ts D H rs i m) (allB (ROK1 w h ts rs) i rs.length) := by
 induction d with
 | zero =>
  intro i m i0 hd hm; refine Ev.step (fun _ => rfl) ?_; simp only [impl_ValidFleet.l]; refine ev_neg (by omega) ?_; rw [allB_end (by omega)]; exact Ev.now _
 | succ d ih =>
  intro i m i0 hd hm; have hi : i < rs.length := by omega
  refine Ev.step (fun _ => rfl) ?_; simp only [impl_ValidFleet.l]; refine ev_pos hi ?_; unfold impl_ValidFleet.bad; rw [there_eq w h ts D H n1 n2]; simp only [Option.bind_some]
  by_cases F : (0 ≤ (rd_T134 rs i).f1 ∧ (rd_T134 rs i).f1 < ts.length ∧ 0 ≤ (rd_T134 rs i).f0 ∧ (rd_T134 rs i).f0 < w * h) ∧ (0 ≤ (rd_T134 rs i).f2 ∧ (rd_T134 rs i).f2 ≤ 1000000) ∧ (0 ≤ (rd_T134 rs i).f3 ∧ (rd_T134 rs i).f3 ≤ 1000000)
  ·rw [decide_eq_true F.1, decide_eq_false (show ¬ (rd_T134 rs i).f2 < 0 by omega), decide_eq_false (show ¬ (rd_T134 rs i).f2 > 1000000 by omega), decide_eq_false (show ¬ (rd_T134 rs i).f3 < 0 by omega), decide_eq_false (show ¬ (rd_T134 rs i).f3 > 1000000 by omega)]; refine ev_neg (by simp) (ev_ite (fun e => ?_) (fun e => ?_))
   ·rw [allB_yes ⟨F.1, F.2.1, F.2.2, fun g => by rw [e] at g; cases g⟩]; refine ih (i + 1) m (by omega) (by omega) (fun c => ?_); rw [hm]
    exact ⟨fun ⟨j, a, b, g, o⟩ => ⟨j, a, by omega, g, o⟩, fun ⟨j, a, b, g, o⟩ => ⟨j, a, by
     by_cases ji : j = i
     ·subst ji; rw [e] at g; cases g
     ·omega, g, o⟩⟩
   ·have e : (rd_T134 rs i).f4 = false := by simpa using e
    refine ev_ite (fun c2 => ?_) (fun c2 => ?_)
    ·obtain ⟨j, j0, j1, g, o⟩ := (hm _).1 c2; rw [allB_no hi (fun t => t.alone e j j0 j1 g o)]; exact Ev.now _
    ·rw [allB_yes ⟨F.1, F.2.1, F.2.2, fun _ j j0 j1 g o => c2 ((hm _).2 ⟨j, j0, j1, g, o⟩)⟩]; refine ih (i + 1) _ (by omega) (by omega) (fun q => ?_); rw [mget_cons]
     by_cases u : (rd_T134 rs i).f0 = q
     ·rw [if_pos u]; exact ⟨fun _ => ⟨i, i0, by omega, e, u⟩, fun _ => rfl⟩
     ·rw [if_neg u, hm]
      exact ⟨fun ⟨j, a, b, g, o⟩ => ⟨j, a, by omega, g, o⟩, fun ⟨j, a, b, g, o⟩ => ⟨j, a, by
       by_cases ji : j = i
       ·subst ji; exact absurd o u
       ·omega, g, o⟩⟩
  ·have : (!decide (0 ≤ (rd_T134 rs i).f1 ∧ (rd_T134 rs i).f1 < ts.length ∧ 0 ≤ (rd_T134 rs i).f0 ∧ (rd_T134 rs i).f0 < w * h) || decide ((rd_T134 rs i).f2 < 0) || decide ((rd_T134 rs i).f2 > 1000000) || decide ((rd_T134 rs i).f3 < 0) || decide ((rd_T134 rs i).f3 > 1000000)) = true := by
    rw [← Bool.not_eq_false]; intro q; simp only [Bool.or_eq_false_iff, Bool.not_eq_false', decide_eq_false_iff_not, decide_eq_true_eq] at q; exact F ⟨q.1.1.1.1, by omega, by omega⟩
   rw [this]; refine ev_pos (by trivial) ?_; rw [allB_no hi (fun t => F ⟨t.there, t.moves, t.waits⟩)]; exact Ev.now _
theorem impl_ValidFleet_ev (w h : Int) (ts : List S120) (D H : List (List Int)) (nb : Names ts) (lD : D.length ≤ 1048576) (lH : H.length ≤ 1048576) (lT : ts.length ≤ 1048576) (rs : List S134) : Ev (fun k => impl_ValidFleet.f k w h ts D H rs) (vf w h ts D H rs) := by
 have ei := impl_ValidTables_ev w h ts D H nb lD lH lT; simp only [impl_ValidFleet.f]; unfold vf; cases hv : vt w h ts D H with
 | false =>
  rw [hv] at ei; rw [Bool.false_and]; exact Ev.bind ei (ev_neg (by simp) (Ev.now _))
 | true =>
  rw [hv] at ei; have v := vt_facts hv; rw [Bool.true_and]; refine Ev.bind ei (ev_pos (by trivial) (ev_ite (fun q => ?_) (fun q => ?_)))
  ·rw [decide_eq_false (by omega), Bool.false_and]; exact Ev.now _
  ·rw [decide_eq_true (by omega), Bool.true_and]; refine impl_vf_loop w h ts D H v.n1 v.n2 rs rs.length 0 [] (by omega) (by omega) (fun c => ?_); rw [mget_nil]; exact ⟨fun h => by simp at h, fun ⟨j, a, b, _⟩ => by omega⟩

def nextV (w h : Int) (ts : List S120) (D H : List (List Int)) (a c : Int) : Int × Int :=
 if c = (rd_T120 ts a).f2 then (c, 11) else if rd (rd_L4 D a) c < 0 then (c, 10) else (sideL w h c (rd (rd_L4 H a) c), 0)
theorem l8next_eq {w h : Int} {ts : List S120} {D H : List (List Int)} (v : VT w h ts D H) {a c : Int} (a0 : 0 ≤ a) (a1 : a < ts.length) (c0 : 0 ≤ c) (c1 : c < w * h) : spec_l8next.f w h ts D H a c = some (nextV w h ts D H a c) := by
 have rD := v.rD a a0 a1; have rH := v.rH a a0 a1; have row := v.row a a0 a1 c c0 c1; have lD := v.lD; have lH := v.lH; have n2 := v.n2; unfold spec_l8next.f nextV; rw [if_pos a0, if_pos a1]
 by_cases e : c = (rd_T120 ts a).f2
 ·rw [if_pos e, if_pos e]
 rw [if_neg e, if_neg e, if_pos (by omega), if_pos c0, if_pos (by omega)]
 by_cases d : rd (rd_L4 D a) c < 0
 ·rw [if_pos d, if_pos d]
 rw [if_neg d, if_neg d, if_pos (by omega), if_pos (by omega)]; have aw := row.away e; rw [spec_l4to_eq w h c _ ⟨v.w1, v.w2, v.h1, v.h2, c0, by omega, by omega, by omega⟩]
 rfl
theorem tnext_eq {w h : Int} {ts : List S120} {D H : List (List Int)} (v : VT w h ts D H) {a c : Int} (a0 : 0 ≤ a) (a1 : a < ts.length) (c0 : 0 ≤ c) (c1 : c < w * h) : impl_Tables_next.f w h ts D H a c = some (nextV w h ts D H a c) := by
 have rD := v.rD a a0 a1; have rH := v.rH a a0 a1; have row := v.row a a0 a1 c c0 c1; have lD := v.lD; have lH := v.lH; have n2 := v.n2; unfold impl_Tables_next.f nextV; rw [if_pos a0, if_pos (by omega), if_pos c0, if_pos (by omega)]
 by_cases e : c = (rd_T120 ts a).f2
 ·rw [if_pos (row.home e).1, if_pos e]
 have aw := row.away e; rw [if_neg (by omega), if_neg e]
 by_cases d : rd (rd_L4 D a) c < 0
 ·rw [if_pos (by omega), if_pos d]
 rw [if_neg (by omega), if_neg d, if_pos (by omega), if_pos (by omega)]; rw [impl_side_eq w h c _ ⟨v.w1, v.w2, v.h1, v.h2, c0, by omega, by omega, by omega⟩]
 rfl

def freeL (rs : List S134) (x : Int) : Prop := ∀ j : Int, 0 ≤ j → j < rs.length → (rd_T134 rs j).f4 = false → (rd_T134 rs j).f0 ≠ x
open Classical in
noncomputable def stepV (w h : Int) (ts : List S120) (D H : List (List Int)) (rs : List S134) (i : Int) : List S134 × Bool :=
 if (rd_T134 rs i).f4 = true then (rs, false) else
 if (nextV w h ts D H (rd_T134 rs i).f1 (rd_T134 rs i).f0).2 = 11 then (rs.set i.toNat ⟨(rd_T134 rs i).f0, (rd_T134 rs i).f1, (rd_T134 rs i).f2, (rd_T134 rs i).f3, true⟩, true) else
 if (nextV w h ts D H (rd_T134 rs i).f1 (rd_T134 rs i).f0).2 = 0 ∧ freeL rs (nextV w h ts D H (rd_T134 rs i).f1 (rd_T134 rs i).f0).1 then (rs.set i.toNat ⟨(nextV w h ts D H (rd_T134 rs i).f1 (rd_T134 rs i).f0).1, (rd_T134 rs i).f1, min ((rd_T134 rs i).f2 + 1) 1000000, (rd_T134 rs i).f3, false⟩, true)
 else (rs.set i.toNat ⟨(rd_T134 rs i).f0, (rd_T134 rs i).f1, (rd_T134 rs i).f2, min ((rd_T134 rs i).f3 + 1) 1000000, false⟩, false)
theorem rdR_set_eq {rs : List S134} {i : Int} {v : S134} (h0 : 0 ≤ i) (h1 : i < rs.length) : rd_T134 (rs.set i.toNat v) i = v := getD_set_eq h0 h1
theorem rdR_set_ne {rs : List S134} {i j : Int} {v : S134} (h0 : 0 ≤ i) (h1 : 0 ≤ j) (h : i ≠ j) : rd_T134 (rs.set i.toNat v) j = rd_T134 rs j := getD_set_ne h0 h1 h
def FOK (w h : Int) (ts : List S120) (rs : List S134) : Prop := ∀ i : Int, 0 ≤ i → i < rs.length → ROK1 w h ts rs i
theorem FOK.apart {w h : Int} {ts : List S120} {rs : List S134} (f : FOK w h ts rs) {i j : Int} (i0 : 0 ≤ i) (i1 : i < rs.length) (j0 : 0 ≤ j) (j1 : j < rs.length) (n : i ≠ j) (di : (rd_T134 rs i).f4 = false) (dj : (rd_T134 rs j).f4 = false) : (rd_T134 rs i).f0 ≠ (rd_T134 rs j).f0 := by
 by_cases c : i < j
 ·exact (f j j0 j1).alone dj i i0 c di
 ·exact fun e => (f i i0 i1).alone di j j0 (by omega) dj e.symm
theorem FOK.put {w h : Int} {ts : List S120} {rs : List S134} (f : FOK w h ts rs) {i : Int} (i0 : 0 ≤ i) (i1 : i < rs.length) (v : S134)
  (a : 0 ≤ v.f1 ∧ v.f1 < ts.length ∧ 0 ≤ v.f0 ∧ v.f0 < w * h) (b : 0 ≤ v.f2 ∧ v.f2 ≤ 1000000) (c : 0 ≤ v.f3 ∧ v.f3 ≤ 1000000)
  (d : v.f4 = false → ∀ j : Int, 0 ≤ j → j < rs.length → j ≠ i → (rd_T134 rs j).f4 = false → (rd_T134 rs j).f0 ≠ v.f0) : FOK w h ts (rs.set i.toNat v) := by
 intro k k0 k1; rw [List.length_set] at k1
 by_cases ki : i = k
 ·subst ki; refine ⟨?_, ?_, ?_, ?_⟩ <;> rw [rdR_set_eq i0 i1]
  ·exact a
  ·exact b
  ·exact c
  ·intro hd j j0 j1 hj; rw [rdR_set_ne i0 j0 (by omega)] at hj ⊢; exact d hd j j0 (by omega) (by omega) hj
 ·have o := f k k0 k1; refine ⟨?_, ?_, ?_, ?_⟩ <;> rw [rdR_set_ne i0 k0 ki]
  ·exact o.there
  ·exact o.moves
  ·exact o.waits
  ·intro hd j j0 j1 hj
   by_cases ji : i = j
   ·subst ji; rw [rdR_set_eq i0 i1] at hj ⊢; exact fun e => d hj k k0 k1 (fun e => ki e.symm) hd e.symm
   ·rw [rdR_set_ne i0 j0 ji] at hj ⊢; exact o.alone hd j j0 j1 hj
theorem nextV_code {w h : Int} {ts : List S120} {D H : List (List Int)} {a c : Int} : (nextV w h ts D H a c).2 = 11 ∨ (nextV w h ts D H a c).2 = 10 ∨ (nextV w h ts D H a c).2 = 0 := by
 unfold nextV
 by_cases e : c = (rd_T120 ts a).f2
 ·rw [if_pos e]; exact .inl rfl
 ·rw [if_neg e]
  by_cases d : rd (rd_L4 D a) c < 0
  ·rw [if_pos d]; exact .inr (.inl rfl)
  ·rw [if_neg d]; exact .inr (.inr rfl)
theorem nextV_there {w h : Int} {ts : List S120} {D H : List (List Int)} (v : VT w h ts D H) {a c : Int} (a0 : 0 ≤ a) (a1 : a < ts.length) (c0 : 0 ≤ c) (c1 : c < w * h) : 0 ≤ (nextV w h ts D H a c).1 ∧ (nextV w h ts D H a c).1 < w * h ∧ ((nextV w h ts D H a c).2 = 0 → (nextV w h ts D H a c).1 ≠ c) := by
 have n2 := v.n2; unfold nextV
 by_cases e : c = (rd_T120 ts a).f2
 ·rw [if_pos e]; exact ⟨c0, c1, fun h => by simp at h⟩
 ·rw [if_neg e]
  by_cases d : rd (rd_L4 D a) c < 0
  ·rw [if_pos d]; exact ⟨c0, c1, fun h => by simp at h⟩
  ·rw [if_neg d]; have aw := (v.row a a0 a1 c c0 c1).away e; have sl := sideL_lt (w := w) (h := h) (c := c) (d := rd (rd_L4 H a) c) ⟨v.w1, v.w2, v.h1, v.h2, c0, by omega, by omega, by omega⟩; refine ⟨by omega, sl.2, fun _ q => ?_⟩; simp only at q; rw [q] at aw
   omega
theorem stepV_len {w h : Int} {ts : List S120} {D H : List (List Int)} {rs : List S134} {i : Int} : (stepV w h ts D H rs i).1.length = rs.length := by
 unfold stepV
 split
 ·rfl
 ·split
  ·simp
  ·split <;> simp
theorem stepV_ok {w h : Int} {ts : List S120} {D H : List (List Int)} (v : VT w h ts D H) {rs : List S134} (f : FOK w h ts rs) {i : Int} (i0 : 0 ≤ i) (i1 : i < rs.length) : FOK w h ts (stepV w h ts D H rs i).1 := by
 have o := f i i0 i1; have nt := nextV_there v o.there.1 o.there.2.1 o.there.2.2.1 o.there.2.2.2; unfold stepV
 by_cases d : (rd_T134 rs i).f4 = true
 ·rw [if_pos d]; exact f
 rw [if_neg d]; have d' : (rd_T134 rs i).f4 = false := by simpa using d
 split
 ·exact f.put i0 i1 _ o.there o.moves o.waits (fun h => by cases h)
 split
 ·rename_i q; exact f.put i0 i1 _ ⟨o.there.1, o.there.2.1, nt.1, nt.2.1⟩ ⟨by have := o.moves; simp only; omega, by simp only; omega⟩ o.waits (fun _ j j0 j1 _ dj => q.2 j j0 j1 dj)
 ·exact f.put i0 i1 _ o.there o.moves ⟨by have := o.waits; simp only; omega, by simp only; omega⟩ (fun _ j j0 j1 n dj => f.apart j0 j1 i0 i1 n dj d')
def MOK (rs : List S134) (m : List (Int × Int)) : Prop := ∀ c : Int, (mget m c).isSome = true ↔ ∃ j : Int, 0 ≤ j ∧ j < rs.length ∧ (rd_T134 rs j).f4 = false ∧ (rd_T134 rs j).f0 = c
theorem MOK.free {rs : List S134} {m : List (Int × Int)} (k : MOK rs m) (c : Int) : (mget m c).isSome = false ↔ freeL rs c := by
 rw [← Bool.not_eq_true, k c]; unfold freeL; exact ⟨fun h j a b d e => h ⟨j, a, b, d, e⟩, fun h ⟨j, a, b, d, e⟩ => h j a b d e⟩
theorem mv_ok {w h : Int} {ts : List S120} {D H : List (List Int)} (v : VT w h ts D H) {rs : List S134} {m : List (Int × Int)} (f : FOK w h ts rs) (k : MOK rs m) {i : Int} (i0 : 0 ≤ i) (i1 : i < rs.length) :
  ∃ m', impl_RunFleet.mv w h ts D H rs m i = some ((stepV w h ts D H rs i).1, m', (stepV w h ts D H rs i).2) ∧ MOK (stepV w h ts D H rs i).1 m' := by
 have o := f i i0 i1; have n2 := v.n2; have nt := nextV_there v o.there.1 o.there.2.1 o.there.2.2.1 o.there.2.2.2; have nc := nextV_code (w := w) (h := h) (ts := ts) (D := D) (H := H) (a := (rd_T134 rs i).f1) (c := (rd_T134 rs i).f0); unfold impl_RunFleet.mv stepV
 by_cases d : (rd_T134 rs i).f4 = true
 ·rw [if_pos d, if_pos d]; exact ⟨m, rfl, k⟩
 have d' : (rd_T134 rs i).f4 = false := by simpa using d
 have th := o.there; have mo := o.moves; have wa := o.waits; rw [if_neg d, if_neg d, if_pos ⟨by omega, by omega⟩, tnext_eq v o.there.1 o.there.2.1 o.there.2.2.1 o.there.2.2.2, Option.bind_some, if_pos ⟨by omega, by omega⟩]; have wm : wrap64 ((rd_T134 rs i).f2 + 1) = (rd_T134 rs i).f2 + 1 := wrap64_id (by omega) (by omega); have ww : wrap64 ((rd_T134 rs i).f3 + 1) = (rd_T134 rs i).f3 + 1 := wrap64_id (by omega) (by omega); rw [wm, ww]
 by_cases e : (nextV w h ts D H (rd_T134 rs i).f1 (rd_T134 rs i).f0).2 = 11
 ·rw [if_pos e, if_pos e]; refine ⟨_, rfl, fun c => ?_⟩; rw [mget_del]
  by_cases q : (rd_T134 rs i).f0 = c
  ·rw [if_pos q]; refine ⟨(fun h => by cases h), fun ⟨j, a, b, dj, ej⟩ => ?_⟩; rw [List.length_set] at b
   by_cases ji : i = j
   ·subst ji; rw [rdR_set_eq i0 i1] at dj; cases dj
   ·rw [rdR_set_ne i0 a ji] at dj ej; exact absurd (q.trans ej.symm) (f.apart i0 i1 a b ji d' dj)
  ·rw [if_neg q, k c]; refine ⟨fun ⟨j, a, b, dj, ej⟩ => ⟨j, a, by rw [List.length_set]; exact b, ?_⟩, fun ⟨j, a, b, dj, ej⟩ => ⟨j, a, by rw [List.length_set] at b; exact b, ?_⟩⟩
   ·have ji : i ≠ j := fun h => by subst h; exact q ej
    rw [rdR_set_ne i0 a ji]; exact ⟨dj, ej⟩
   ·have ji : i ≠ j := fun h => by subst h; rw [rdR_set_eq i0 i1] at dj; cases dj
    rw [rdR_set_ne i0 a ji] at dj ej; exact ⟨dj, ej⟩
 rw [if_neg e, if_neg e]
 by_cases g : (nextV w h ts D H (rd_T134 rs i).f1 (rd_T134 rs i).f0).2 = 0 ∧ freeL rs (nextV w h ts D H (rd_T134 rs i).f1 (rd_T134 rs i).f0).1
 ·have ne := nt.2.2 g.1; rw [if_pos g, if_pos ⟨g.1, (k.free _).2 g.2⟩, if_pos (fun h => ne h.symm)]; refine ⟨_, rfl, fun c => ?_⟩; rw [mget_cons, mget_del]
  by_cases q : (nextV w h ts D H (rd_T134 rs i).f1 (rd_T134 rs i).f0).1 = c
  ·rw [if_pos q]; exact ⟨fun _ => ⟨i, i0, by rw [List.length_set]; exact i1, by rw [rdR_set_eq i0 i1]; exact ⟨rfl, q⟩⟩, fun _ => rfl⟩
  ·rw [if_neg q]
   by_cases q2 : (rd_T134 rs i).f0 = c
   ·rw [if_pos q2]; refine ⟨(fun h => by cases h), fun ⟨j, a, b, dj, ej⟩ => ?_⟩; rw [List.length_set] at b
    by_cases ji : i = j
    ·subst ji; rw [rdR_set_eq i0 i1] at ej; exact absurd ej q
    ·rw [rdR_set_ne i0 a ji] at dj ej; exact absurd (q2.trans ej.symm) (f.apart i0 i1 a b ji d' dj)
   ·rw [if_neg q2, k c]; refine ⟨fun ⟨j, a, b, dj, ej⟩ => ⟨j, a, by rw [List.length_set]; exact b, ?_⟩, fun ⟨j, a, b, dj, ej⟩ => ⟨j, a, by rw [List.length_set] at b; exact b, ?_⟩⟩
    ·have ji : i ≠ j := fun h => by subst h; exact q2 ej
     rw [rdR_set_ne i0 a ji]; exact ⟨dj, ej⟩
    ·have ji : i ≠ j := fun h => by subst h; rw [rdR_set_eq i0 i1] at ej; exact q ej
     rw [rdR_set_ne i0 a ji] at dj ej; exact ⟨dj, ej⟩
 ·rw [if_neg g, if_neg (fun h => g ⟨h.1, (k.free _).1 h.2⟩)]; refine ⟨_, rfl, fun c => ?_⟩; rw [k c]; refine ⟨fun ⟨j, a, b, dj, ej⟩ => ⟨j, a, by rw [List.length_set]; exact b, ?_⟩, fun ⟨j, a, b, dj, ej⟩ => ⟨j, a, by rw [List.length_set] at b; exact b, ?_⟩⟩
  ·by_cases ji : i = j
   ·subst ji; rw [rdR_set_eq i0 i1]; exact ⟨rfl, ej⟩
   ·rw [rdR_set_ne i0 a ji]; exact ⟨dj, ej⟩
  ·by_cases ji : i = j
   ·subst ji; rw [rdR_set_eq i0 i1] at ej; exact ⟨d', ej⟩
   ·rw [rdR_set_ne i0 a ji] at dj ej; exact ⟨dj, ej⟩
noncomputable def tickV (w h : Int) (ts : List S120) (D H : List (List Int)) : Nat → List S134 → Int → Bool → List S134 × Bool
 | 0, l, _, s => (l, s)
 | d + 1, l, i, s => tickV w h ts D H d (stepV w h ts D H l i).1 (i + 1) ((stepV w h ts D H l i).2 || s)
theorem tickV_ok {w h : Int} {ts : List S120} {D H : List (List Int)} (v : VT w h ts D H) (d : Nat) : ∀ (l : List S134) (i : Int) (s : Bool), 0 ≤ i → (l.length : Int) - i = d → FOK w h ts l → FOK w h ts (tickV w h ts D H d l i s).1 ∧ (tickV w h ts D H d l i s).1.length = l.length := by
 induction d with
 | zero => intro l i s i0 hd f; exact ⟨f, rfl⟩
 | succ d ih =>
  intro l i s i0 hd f; rw [tickV]; have q := ih (stepV w h ts D H l i).1 (i + 1) ((stepV w h ts D H l i).2 || s) (by omega) (by rw [stepV_len]; omega) (stepV_ok v f i0 (by omega)); rw [stepV_len] at q; exact q
theorem tk_ok {w h : Int} {ts : List S120} {D H : List (List Int)} (v : VT w h ts D H) (d : Nat) : ∀ (l : List S134) (m : List (Int × Int)) (i : Int) (s : Bool), 0 ≤ i → (l.length : Int) - i = d → FOK w h ts l → MOK l m →
  ∃ m', impl_RunFleet.tk w h ts D H (d + 1) l m i s = some ((tickV w h ts D H d l i s).1, m', (tickV w h ts D H d l i s).2) ∧ MOK (tickV w h ts D H d l i s).1 m' := by
 induction d with
 | zero =>
  intro l m i s i0 hd f k; refine ⟨m, ?_, k⟩; rw [impl_RunFleet.tk, if_neg (by omega)]; rfl
 | succ d ih =>
  intro l m i s i0 hd f k; obtain ⟨m1, e, k1⟩ := mv_ok v f k i0 (by omega); obtain ⟨m2, e2, k2⟩ := ih (stepV w h ts D H l i).1 m1 (i + 1) ((stepV w h ts D H l i).2 || s) (by omega) (by rw [stepV_len]; omega) (stepV_ok v f i0 (by omega)) k1; refine ⟨m2, ?_, k2⟩; rw [impl_RunFleet.tk, if_pos (by omega), e, Option.bind_some]; exact e2
theorem nf_ok {w h : Int} {ts : List S120} (n2 : w * h ≤ 1600) {l : List S134} (f : FOK w h ts l) (d : Nat) : ∀ (i : Int) (m : List (Int × Int)), 0 ≤ i → (l.length : Int) - i = d → (∀ c : Int, (mget m c).isSome = true ↔ ∃ j : Int, 0 ≤ j ∧ j < i ∧ (rd_T134 l j).f4 = false ∧ (rd_T134 l j).f0 = c) →
  ∃ m', impl_RunFleet.nf (d + 1) l i m = some m' ∧ MOK l m' := by
 induction d with
 | zero =>
  intro i m i0 hd hm; refine ⟨m, ?_, fun c => ?_⟩
  ·rw [impl_RunFleet.nf, if_neg (by omega)]
  ·rw [hm]; exact ⟨fun ⟨j, a, b, g, o⟩ => ⟨j, a, by omega, g, o⟩, fun ⟨j, a, b, g, o⟩ => ⟨j, a, by omega, g, o⟩⟩
 | succ d ih =>
  intro i m i0 hd hm; have ro := f i i0 (by omega); have th := ro.there
  by_cases e : (rd_T134 l i).f4 = true
  ·obtain ⟨m', q, k⟩ := ih (i + 1) m (by omega) (by omega) (fun c => by
    rw [hm]
    exact ⟨fun ⟨j, a, b, g, o⟩ => ⟨j, a, by omega, g, o⟩, fun ⟨j, a, b, g, o⟩ => ⟨j, a, by
     by_cases ji : j = i
     ·subst ji; rw [e] at g; cases g
     ·omega, g, o⟩⟩)
   refine ⟨m', ?_, k⟩; rw [impl_RunFleet.nf, if_pos (by omega), if_pos e]; exact q
  ·have e' : (rd_T134 l i).f4 = false := by simpa using e
   obtain ⟨m', q, k⟩ := ih (i + 1) (((rd_T134 l i).f0, i) :: m) (by omega) (by omega) (fun c => by
    rw [mget_cons]
    by_cases u : (rd_T134 l i).f0 = c
    ·rw [if_pos u]; exact ⟨fun _ => ⟨i, i0, by omega, e', u⟩, fun _ => rfl⟩
    ·rw [if_neg u, hm]
     exact ⟨fun ⟨j, a, b, g, o⟩ => ⟨j, a, by omega, g, o⟩, fun ⟨j, a, b, g, o⟩ => ⟨j, a, by
      by_cases ji : j = i
      ·subst ji; exact absurd o u
      ·omega, g, o⟩⟩)
   refine ⟨m', ?_, k⟩; rw [impl_RunFleet.nf, if_pos (by omega), if_neg e, if_pos ⟨by omega, by omega⟩]; exact q
theorem l8more_eq {x : Int} (h0 : 0 ≤ x) (h1 : x ≤ 1000000) : spec_l8more.f x = some (min (x + 1) 1000000) := by
 unfold spec_l8more.f
 by_cases h : x < 1000000
 ·rw [if_pos h, wrap64_id (by omega) (by omega), show min (x + 1) 1000000 = x + 1 by omega]
 ·rw [if_neg h, show min (x + 1) 1000000 = x by omega]
theorem l8l1 {w h : Int} {ts : List S120} {D H : List (List Int)} (l : List S134) (hl : l.length ≤ 1000000) (s : Bool) (i x : Int) (i0 : 0 ≤ i) (i1 : i < l.length) (b2 : 0 ≤ (rd_T134 l i).f2 ∧ (rd_T134 l i).f2 ≤ 1000000) (b3 : 0 ≤ (rd_T134 l i).f3 ∧ (rd_T134 l i).f3 ≤ 1000000) (r : List S134 × Bool) (d : Nat) : ∀ (j : Int) (fr : Bool), 0 ≤ j → (l.length : Int) - j = d →
  ((fr = true ∧ ∀ q : Int, j ≤ q → q < l.length → q ≠ i → (rd_T134 l q).f4 = false → (rd_T134 l q).f0 ≠ x) → Ev (fun k => spec_l8tick.l0 k (l.set i.toNat ⟨x, (rd_T134 l i).f1, min ((rd_T134 l i).f2 + 1) 1000000, (rd_T134 l i).f3, (rd_T134 l i).f4⟩) true (i + 1) w h ts D H) r) →
  (¬ (fr = true ∧ ∀ q : Int, j ≤ q → q < l.length → q ≠ i → (rd_T134 l q).f4 = false → (rd_T134 l q).f0 ≠ x) → Ev (fun k => spec_l8tick.l0 k (l.set i.toNat ⟨(rd_T134 l i).f0, (rd_T134 l i).f1, (rd_T134 l i).f2, min ((rd_T134 l i).f3 + 1) 1000000, (rd_T134 l i).f4⟩) s (i + 1) w h ts D H) r) →
  Ev (fun k => spec_l8tick.l1 k l s i x fr j w h ts D H) r := by
 induction d with
 | zero =>
  intro j fr j0 hd Kt Kf; refine Ev.step (fun _ => rfl) ?_; simp only [spec_l8tick.l1]; refine ev_neg (by omega) (ev_ite (fun c => ?_) (fun c => ?_))
  ·refine ev_pos i0 (ev_pos i1 (ev_letv ?_)); simp only [rdR_set_eq i0 i1, List.set_set]; rw [l8more_eq b2.1 b2.2]; refine ev_letv ?_; rw [wrap64_id (by omega) (by omega)]; exact Kt ⟨c, fun q q0 q1 => by omega⟩
  ·refine ev_pos i0 (ev_pos i1 ?_); rw [l8more_eq b3.1 b3.2]; refine ev_letv ?_; rw [wrap64_id (by omega) (by omega)]; exact Kf (fun t => c t.1)
 | succ d ih =>
  intro j fr j0 hd Kt Kf; have wj : wrap64 (j + 1) = j + 1 := wrap64_id (by omega) (by omega); have go : (j ≠ i → (rd_T134 l j).f4 = false → (rd_T134 l j).f0 ≠ x) → Ev (fun k => spec_l8tick.l1 k l s i x fr (j + 1) w h ts D H) r := by
   intro g; refine ih (j + 1) fr (by omega) (by omega) (fun t => Kt ⟨t.1, fun q q0 q1 n e => ?_⟩) (fun t => Kf (fun u => t ⟨u.1, fun q q0 q1 n e => u.2 q (by omega) q1 n e⟩))
   by_cases qj : q = j
   ·subst qj; exact g n e
   ·exact t.2 q (by omega) q1 n e
  refine Ev.step (fun _ => rfl) ?_; simp only [spec_l8tick.l1]; rw [wj]; refine ev_pos (by omega) (ev_ite (fun c => go (fun n => absurd c n)) (fun c => ev_pos j0 (ev_ite (fun c2 => go (fun _ e => by rw [c2] at e; cases e)) (fun c2 => ev_ite (fun c3 => ?_) (fun c3 => go (fun _ _ => c3)))))); refine ih (j + 1) false (by omega) (by omega) (fun t => by cases t.1) (fun _ => Kf (fun u => u.2 j (by omega) (by omega) c (by simpa using c2) c3))
theorem l8l0 {w h : Int} {ts : List S120} {D H : List (List Int)} (v : VT w h ts D H) (d : Nat) : ∀ (l : List S134) (i : Int) (s : Bool), 0 ≤ i → (l.length : Int) - i = d → l.length ≤ 1000000 → FOK w h ts l → Ev (fun k => spec_l8tick.l0 k l s i w h ts D H) (tickV w h ts D H d l i s) := by
 induction d with
 | zero =>
  intro l i s i0 hd hl f; refine Ev.step (fun _ => rfl) ?_; simp only [spec_l8tick.l0]; exact ev_neg (by omega) (Ev.now _)
 | succ d ih =>
  intro l i s i0 hd hl f; have i1 : i < l.length := by omega
  have o := f i i0 i1; have n2 := v.n2; have wi : wrap64 (i + 1) = i + 1 := wrap64_id (by omega) (by omega); have nt := nextV_there v o.there.1 o.there.2.1 o.there.2.2.1 o.there.2.2.2; have nc := nextV_code (w := w) (h := h) (ts := ts) (D := D) (H := H) (a := (rd_T134 l i).f1) (c := (rd_T134 l i).f0); have ih' := ih (stepV w h ts D H l i).1 (i + 1) ((stepV w h ts D H l i).2 || s) (by omega) (by rw [stepV_len]; omega) (by rw [stepV_len]; omega) (stepV_ok v f i0 i1); rw [tickV]; refine Ev.step (fun _ => rfl) ?_; simp only [spec_l8tick.l0]; rw [wi]; refine ev_pos i1 (ev_pos i0 (ev_ite (fun d1 => ?_) (fun d1 => ?_)))
  ·have e : stepV w h ts D H l i = (l, false) := by unfold stepV; rw [if_pos d1]
   rw [e] at ih' ⊢; exact ih'
  have d' : (rd_T134 l i).f4 = false := by simpa using d1
  rw [l8next_eq v o.there.1 o.there.2.1 o.there.2.2.1 o.there.2.2.2]; refine ev_letv (ev_ite (fun c => ?_) (fun c => ?_))
  ·have e : stepV w h ts D H l i = (l.set i.toNat ⟨(rd_T134 l i).f0, (rd_T134 l i).f1, (rd_T134 l i).f2, (rd_T134 l i).f3, true⟩, true) := by unfold stepV; rw [if_neg d1, if_pos c]
   rw [e] at ih' ⊢; exact ih'
  ·have key : ((nextV w h ts D H (rd_T134 l i).f1 (rd_T134 l i).f0).2 == 0) = true ∧ (∀ q : Int, 0 ≤ q → q < l.length → q ≠ i → (rd_T134 l q).f4 = false → (rd_T134 l q).f0 ≠ (nextV w h ts D H (rd_T134 l i).f1 (rd_T134 l i).f0).1) ↔ (nextV w h ts D H (rd_T134 l i).f1 (rd_T134 l i).f0).2 = 0 ∧ freeL l (nextV w h ts D H (rd_T134 l i).f1 (rd_T134 l i).f0).1 := by
    constructor
    ·intro t; have t0 : (nextV w h ts D H (rd_T134 l i).f1 (rd_T134 l i).f0).2 = 0 := by simpa using t.1
     refine ⟨t0, fun q q0 q1 e => ?_⟩
     by_cases qi : q = i
     ·subst qi; exact fun h => nt.2.2 t0 h.symm
     ·exact t.2 q q0 q1 qi e
    ·intro t; exact ⟨by simpa using t.1, fun q q0 q1 _ e => t.2 q q0 q1 e⟩
   refine l8l1 l hl s i _ i0 i1 o.moves o.waits _ l.length 0 _ (by omega) (by omega) (fun t => ?_) (fun t => ?_)
   ·have t' := key.1 t; have e : stepV w h ts D H l i = (l.set i.toNat ⟨(nextV w h ts D H (rd_T134 l i).f1 (rd_T134 l i).f0).1, (rd_T134 l i).f1, min ((rd_T134 l i).f2 + 1) 1000000, (rd_T134 l i).f3, false⟩, true) := by unfold stepV; rw [if_neg d1, if_neg c, if_pos t']
    rw [e] at ih' ⊢; rw [d']; exact ih'
   ·have e : stepV w h ts D H l i = (l.set i.toNat ⟨(rd_T134 l i).f0, (rd_T134 l i).f1, (rd_T134 l i).f2, min ((rd_T134 l i).f3 + 1) 1000000, false⟩, false) := by unfold stepV; rw [if_neg d1, if_neg c, if_neg (fun q => t (key.2 q))]
    rw [e] at ih' ⊢; rw [d']; exact ih'

theorem run_l1 {w h : Int} {ts : List S120} {D H : List (List Int)} (a2 c n : Int) (l : List S134) (hl : l.length ≤ 1000000) (r : Int × Int × List S134) (K : Ev (fun k => if l.any (fun x => !x.f4) = false then some (c, n, l) else if n ≥ a2 then some (7, n, l) else (spec_l8tick.f k w h ts D H l).bind fun t => if t.2 = true then spec_RunFleet.l0 k a2 w h ts D H c (wrap64 (n + 1)) t.1 else some (12, wrap64 (n + 1), t.1)) r) (d : Nat) :
  ∀ (i : Int) (al : Bool), 0 ≤ i → (l.length : Int) - i = d → (al = true ↔ ∀ j : Int, 0 ≤ j → j < i → (rd_T134 l j).f4 = true) → Ev (fun k => spec_RunFleet.l1 k a2 al i w h ts D H c n l) r := by
 induction d with
 | zero =>
  intro i al i0 hd hal; refine Ev.step (fun _ => rfl) ?_; simp only [spec_RunFleet.l1]; refine ev_neg (by omega) ?_; have e : (l.any (fun x => !x.f4) = false) ↔ al = true := by
   rw [hal, List.any_eq_false]
   constructor
   ·intro q j j0 j1; have hj : j.toNat < l.length := by omega
    have := q _ (List.getElem_mem hj); have g : rd_T134 l j = l[j.toNat] := getD_lt hj; rw [g]; simpa using this
   ·intro q x hx; obtain ⟨j, hj, rfl⟩ := List.getElem_of_mem hx; have g : rd_T134 l (j : Int) = l[j] := by
     have := getD_lt (l := l) (i := (j : Int)) (d := z134) (by simpa using hj)
     simpa [rd_T134] using this
    have := q (j : Int) (by omega) (by omega); rw [g] at this; simp [this]
  cases al with
  | true =>
   refine ev_pos (by trivial) ?_; have := e.2 rfl; simp only [if_pos this] at K; exact K
  | false =>
   refine ev_neg (by simp) ?_; have : ¬ (l.any (fun x => !x.f4) = false) := fun q => by have := e.1 q; cases this
   simp only [if_neg this] at K; exact K
 | succ d ih =>
  intro i al i0 hd hal; have wi : wrap64 (i + 1) = i + 1 := wrap64_id (by omega) (by omega); refine Ev.step (fun _ => rfl) ?_; simp only [spec_RunFleet.l1]; rw [wi]; refine ev_pos (by omega) (ev_ite (fun q => ev_pos i0 ?_) (fun q => ?_))
  ·refine ih (i + 1) _ (by omega) (by omega) ⟨fun z j j0 j1 => ?_, fun z => z i i0 (by omega)⟩
   by_cases ji : j = i
   ·subst ji; exact z
   ·exact hal.1 q j j0 (by omega)
  ·refine ih (i + 1) false (by omega) (by omega) ⟨fun z => (by cases z), fun z => absurd (hal.2 (fun j j0 j1 => z j j0 (by omega))) q⟩
theorem run_loop {w h : Int} {ts : List S120} {D H : List (List Int)} (v : VT w h ts D H) (a2 : Int) (h2 : a2 ≤ 5000) (d : Nat) : ∀ (l : List S134) (m : List (Int × Int)) (n : Int), 0 ≤ n → a2 - n = d → l.length ≤ 30 → FOK w h ts l → MOK l m →
  ∃ r, impl_RunFleet.rl w h ts D H a2 (d + 2) l m n = some r ∧ Ev (fun k => spec_RunFleet.l0 k a2 w h ts D H 0 n l) r ∧ r.2.2.length ≤ 30 := by
 induction d with
 | zero =>
  intro l m n n0 hd hl f k; have go : ∀ r, Ev (fun k => if l.any (fun x => !x.f4) = false then some (0, n, l) else if n ≥ a2 then some (7, n, l) else (spec_l8tick.f k w h ts D H l).bind fun t => if t.2 = true then spec_RunFleet.l0 k a2 w h ts D H 0 (wrap64 (n + 1)) t.1 else some (12, wrap64 (n + 1), t.1)) r → Ev (fun k => spec_RunFleet.l0 k a2 w h ts D H 0 n l) r := by
   intro r K; refine Ev.step (fun _ => rfl) ?_; simp only [spec_RunFleet.l0]; exact run_l1 a2 0 n l (by omega) r K l.length 0 true (by omega) (by omega) ⟨fun _ j j0 j1 => by omega, fun _ => rfl⟩
  by_cases e : l.any (fun x => !x.f4) = false
  ·exact ⟨(0, n, l), by rw [impl_RunFleet.rl, if_pos e], go _ (ev_pos e (Ev.now _)), hl⟩
  ·exact ⟨(7, n, l), by rw [impl_RunFleet.rl, if_neg e, if_pos (by omega)], go _ (ev_neg e (ev_pos (by omega) (Ev.now _))), hl⟩
 | succ d ih =>
  intro l m n n0 hd hl f k; have go : ∀ r, Ev (fun k => if l.any (fun x => !x.f4) = false then some (0, n, l) else if n ≥ a2 then some (7, n, l) else (spec_l8tick.f k w h ts D H l).bind fun t => if t.2 = true then spec_RunFleet.l0 k a2 w h ts D H 0 (wrap64 (n + 1)) t.1 else some (12, wrap64 (n + 1), t.1)) r → Ev (fun k => spec_RunFleet.l0 k a2 w h ts D H 0 n l) r := by
   intro r K; refine Ev.step (fun _ => rfl) ?_; simp only [spec_RunFleet.l0]; exact run_l1 a2 0 n l (by omega) r K l.length 0 true (by omega) (by omega) ⟨fun _ j j0 j1 => by omega, fun _ => rfl⟩
  by_cases e : l.any (fun x => !x.f4) = false
  ·exact ⟨(0, n, l), by rw [impl_RunFleet.rl, if_pos e], go _ (ev_pos e (Ev.now _)), hl⟩
  ·obtain ⟨m', et, k'⟩ := tk_ok v l.length l m 0 false (by omega) (by omega) f k; have q := tickV_ok v l.length l 0 false (by omega) (by omega) f; have es : Ev (fun k => spec_l8tick.f k w h ts D H l) (tickV w h ts D H l.length l 0 false) := by
    simp only [spec_l8tick.f]; exact ev_pos (by simp only [List.length_nil]; omega) (by rw [List.nil_append]; exact l8l0 v l.length l 0 false (by omega) (by omega) (by omega) f)
   have wn : wrap64 (n + 1) = n + 1 := wrap64_id (by omega) (by omega); cases b : (tickV w h ts D H l.length l 0 false).2 with
   | true =>
    obtain ⟨r, e1, e2, e3⟩ := ih (tickV w h ts D H l.length l 0 false).1 m' (n + 1) (by omega) (by omega) (by rw [q.2]; exact hl) q.1 k'; refine ⟨r, ?_, go _ (ev_neg e (ev_neg (by omega) (Ev.bind es (ev_pos b ?_)))), e3⟩
    ·rw [impl_RunFleet.rl, if_neg e, if_neg (by omega), et, Option.bind_some]; simp only [b, if_true]; exact e1
    ·rw [wn]; exact e2
   | false =>
    refine ⟨(12, n + 1, (tickV w h ts D H l.length l 0 false).1), ?_, go _ (ev_neg e (ev_neg (by omega) (Ev.bind es (ev_neg (by rw [b]; simp) ?_)))), by rw [q.2]; exact hl⟩
    ·rw [impl_RunFleet.rl, if_neg e, if_neg (by omega), et, Option.bind_some]; simp [b]
    ·rw [wn]; exact Ev.now _
theorem run_both (w h : Int) (ts : List S120) (D H : List (List Int)) (nb : Names ts) (lD : D.length ≤ 1048576) (lH : H.length ≤ 1048576) (lT : ts.length ≤ 1048576) (rs : List S134) (a2 : Int) :
  ∃ r, Ev (fun k => spec_RunFleet.f k w h ts D H rs a2) r ∧ Ev (fun k => impl_RunFleet.f k w h ts D H rs a2) r ∧ r.2.2.length ≤ 30 := by
 have es := spec_ValidFleet_ev w h ts D H nb lD lH lT rs; have ei := impl_ValidFleet_ev w h ts D H nb lD lH lT rs; simp only [spec_RunFleet.f, impl_RunFleet.f]; have bad : Ev (fun k => spec_RunFleet.j0 k rs a2 true w h ts D H) (1, 0, []) := by
  refine Ev.step (fun _ => rfl) ?_; simp only [spec_RunFleet.j0]; exact ev_pos (by trivial) (Ev.now _)
 cases hv : vf w h ts D H rs with
 | false =>
  rw [hv] at es ei; exact ⟨(1, 0, []), Ev.bind es (ev_neg (by simp) bad), Ev.bind ei (ev_neg (by simp) (Ev.now _)), by simp⟩
 | true =>
  rw [hv] at es ei; obtain ⟨v, hl, f⟩ := vf_iff.1 hv; have v := vt_facts v
  by_cases c1 : a2 < 0
  ·exact ⟨(1, 0, []), Ev.bind es (ev_pos (by trivial) (ev_pos c1 bad)), Ev.bind ei (ev_pos (by trivial) (ev_pos c1 (Ev.now _))), by simp⟩
  by_cases c2 : a2 > 5000
  ·exact ⟨(1, 0, []), Ev.bind es (ev_pos (by trivial) (ev_neg c1 (by rw [decide_eq_true c2]; exact bad))), Ev.bind ei (ev_pos (by trivial) (ev_neg c1 (ev_pos c2 (Ev.now _)))), by simp⟩
  obtain ⟨m, e1, k⟩ := nf_ok v.n2 f rs.length 0 [] (by omega) (by omega) (fun c => by
   rw [mget_nil]
   exact ⟨fun h => by simp at h, fun ⟨j, a, b, _⟩ => by omega⟩)
  obtain ⟨r, e2, e3, e4⟩ := run_loop v a2 (by omega) a2.toNat rs m 0 (by omega) (by omega) (by omega) f k; refine ⟨r, Ev.bind es (ev_pos (by trivial) (ev_neg c1 ?_)), Ev.bind ei (ev_pos (by trivial) (ev_neg c1 (ev_neg c2 (ev_pos (by omega) ?_)))), e4⟩
  ·rw [decide_eq_false c2]; refine Ev.step (fun _ => rfl) ?_; simp only [spec_RunFleet.j0]; exact ev_neg (by simp) (ev_pos (by simp only [List.length_nil]; omega) (by rw [List.nil_append]; exact e3))
  ·rw [e1, Option.bind_some, e2]; exact Ev.now _

def convR (x : S136) : S134 := ⟨x.f0, x.f1, x.f2, x.f3, x.f4⟩
theorem szRobotS_or {l : List S136} {left : Int} (h0 : 0 ≤ left) (h1 : left ≤ 1048576) (hm : l.length ≤ 9223372036854775807) :
  ∃ r, laws_szRobotS.f l left = some r ∧ (r = -1 ∨ ((l.length : Int) ≤ left ∧ r = left - l.length)) := by
 simp only [laws_szRobotS.f]; rw [wrap64_id (by omega) (by omega)]
 by_cases h : left - (l.length : Int) < 0
 ·exact ⟨-1, if_pos h, .inl rfl⟩
 ·exact ⟨_, if_neg h, .inr ⟨by omega, rfl⟩⟩
theorem toRobotS_loop (x0 : List S136) (hl : x0.length ≤ 1048576) (d : Nat) : ∀ (x3 : List S134) (i : Int), 0 ≤ i → x3.length = x0.length → (x0.length : Int) - i = d →
  (∀ j : Int, 0 ≤ j → j < i → rd_T134 x3 j = convR (rd_T136 x0 j)) → Ev (fun k => laws_toRobotS.l0 k x0 x3 i) (x0.map convR) := by
 induction d with
 | zero =>
  intro x3 i h0 hl' hd he; refine Ev.step (fun _ => rfl) ?_; simp only [laws_toRobotS.l0]; refine ev_neg (by omega) ?_
  have : x3 = x0.map convR := getD_ext z134 (by rw [List.length_map]; omega) (fun j a b => by
   rw [getD_map convR (d := z136) a (by omega)]; exact he j a (by omega))
  rw [this]; exact Ev.now _
 | succ d ih =>
  intro x3 i h0 hl' hd he; refine Ev.step (fun _ => rfl) ?_; simp only [laws_toRobotS.l0, laws_toRobot.f]; refine ev_pos (by omega) (ev_pos (by omega) (ev_letv (ev_pos (by omega) ?_))); rw [wrap64_id (by omega) (by omega)]; refine ih _ _ (by omega) (by simpa using hl') (by omega) ?_; intro j a b; unfold rd_T134
  by_cases e : j = i
  ·subst e; first | exact getD_set_eq (by omega) (by omega) | (rw [getD_set_eq (by omega) (by omega)]; rfl)
  ·rw [getD_set_ne (by omega) (by omega) (by omega)]; exact he j a (by omega)
theorem toRobotS_ev (x0 : List S136) (hl : x0.length ≤ 1048576) : Ev (fun k => laws_toRobotS.f k x0) (x0.map convR) := by
 simp only [laws_toRobotS.f]; refine ev_pos (by omega) (ev_pos (by omega) ?_); exact toRobotS_loop x0 hl x0.length _ 0 (by omega) (by simp) (by omega) (fun j a b => by omega)
theorem eqRobotS_loop (x0 : List S134) (hl : x0.length ≤ 1048576) (d : Nat) : ∀ (i : Int), 0 ≤ i → (x0.length : Int) - i = d → Ev (fun k => laws_eqRobotS.l0 k x0 x0 i) true := by
 induction d with
 | zero =>
  intro i h0 hd; refine Ev.step (fun _ => rfl) ?_; simp only [laws_eqRobotS.l0]; exact ev_neg (by omega) (Ev.now _)
 | succ d ih =>
  intro i h0 hd; refine Ev.step (fun _ => rfl) ?_; simp only [laws_eqRobotS.l0]; refine ev_pos (by omega) (ev_pos (by omega) (ev_pos (by omega) ?_)); have e : ∀ x : S134, laws_eqRobot.f x.f0 x.f1 x.f2 x.f3 x.f4 x.f0 x.f1 x.f2 x.f3 x.f4 = some true := by
   intro x; unfold laws_eqRobot.f; simp
  rw [e]; refine ev_letv (ev_pos (by trivial) ?_); rw [wrap64_id (by omega) (by omega)]; exact ih _ (by omega) (by omega)
theorem eqRobotS_self (x0 : List S134) (hl : x0.length ≤ 1048576) : Ev (fun k => laws_eqRobotS.f k x0 x0) true := by
 simp only [laws_eqRobotS.f]; exact ev_pos (by trivial) (eqRobotS_loop x0 hl x0.length 0 (by omega) (by omega))

def markR (a : Int) : S134 := ⟨a, a + 1, a + 2, a + 3, ((a + 4) % 3 == 0)⟩
def upR (a : Int) (n : Nat) : List S134 := (List.range n).map (fun (j : Nat) => markR (a + 5 * (j : Int)))
theorem upR_length (a : Int) (n : Nat) : (upR a n).length = n := by unfold upR; rw [List.length_map, List.length_range]
theorem upR_rd {a : Int} {n : Nat} {i : Int} (h0 : 0 ≤ i) (h1 : i < n) : rd_T134 (upR a n) i = markR (a + 5 * i) := by
 unfold rd_T134 upR; rw [getD_lt (by rw [List.length_map, List.length_range]; omega), List.getElem_map, List.getElem_range, show ((i.toNat : Nat) : Int) = i by omega]
theorem rdR_set_eq' {rs : List S134} {i : Int} {v : S134} (h0 : 0 ≤ i) (h1 : i < rs.length) : rd_T134 (rs.set i.toNat v) i = v := getD_set_eq h0 h1
theorem rdR_set_ne' {rs : List S134} {i j : Int} {v : S134} (h0 : 0 ≤ i) (h1 : 0 ≤ j) (h : i ≠ j) : rd_T134 (rs.set i.toNat v) j = rd_T134 rs j := getD_set_ne h0 h1 h
theorem markRobotS_loop (n : Nat) (a : Int) (ha : 0 ≤ a) (hn : a + 5 * n ≤ 4611686018427387904) (d : Nat) : ∀ (x : List S134) (i : Int), 0 ≤ i → x.length = n → (n : Int) - i = d →
  (∀ j : Int, 0 ≤ j → j < i → rd_T134 x j = markR (a + 5 * j)) → Ev (fun k => laws_markRobotS.l0 k x (a + 5 * i) i) (a + 5 * n, upR a n) := by
 induction d with
 | zero =>
  intro x i h0 hl hd he; refine Ev.step (fun _ => rfl) ?_; simp only [laws_markRobotS.l0]; refine ev_neg (by omega) ?_
  have e1 : x = upR a n := getD_ext z134 (by rw [hl, upR_length]) (fun j p q => by
   have := he j p (by omega); have u := upR_rd (a := a) (n := n) p (by omega); unfold rd_T134 at this u
   rw [this, u])
  have e2 : i = n := by omega
  rw [e1, e2]; exact Ev.now _
 | succ d ih =>
  intro x i h0 hl hd he; refine Ev.step (fun _ => rfl) ?_; simp only [laws_markRobotS.l0]; refine ev_pos (by omega) (ev_pos h0 ?_); rw [wrap64_id (x := a + 5 * i + 1) (by omega) (by omega), wrap64_id (x := a + 5 * i + 1 + 1) (by omega) (by omega), wrap64_id (x := a + 5 * i + 1 + 1 + 1) (by omega) (by omega), wrap64_id (x := a + 5 * i + 1 + 1 + 1 + 1) (by omega) (by omega), wrap64_id (x := a + 5 * i + 1 + 1 + 1 + 1 + 1) (by omega) (by omega), wrap64_id (x := i + 1) (by omega) (by omega)]; refine ev_letv (ev_letv (ev_letv (ev_letv ?_))); have il : i < x.length := by omega
  have s1 : ∀ v : S134, i < ((x.set i.toNat v).length : Int) := fun v => by rw [List.length_set]; exact il
  simp only [rdR_set_eq' h0 il, List.set_set]; rw [tmod_nn (by omega), show a + 5 * i + 1 + 1 + 1 + 1 + 1 = a + 5 * (i + 1) by omega]; refine ih _ _ (by omega) (by simpa using hl) (by omega) ?_; intro j p q
  by_cases e : j = i
  ·subst e; rw [rdR_set_eq' h0 il]; unfold markR; rw [show a + 5 * j + 1 + 1 = a + 5 * j + 2 by omega, show a + 5 * j + 2 + 1 = a + 5 * j + 3 by omega, show a + 5 * j + 3 + 1 = a + 5 * j + 4 by omega]
  ·rw [rdR_set_ne' h0 p (by omega)]; exact he j p (by omega)
theorem markRobotS_ev (l : List S134) (a : Int) (ha : 0 ≤ a) (hn : a + 5 * l.length ≤ 4611686018427387904) : Ev (fun k => laws_markRobotS.f k l a) (a + 5 * l.length, upR a l.length) := by
 have := markRobotS_loop l.length a ha hn l.length l 0 (by omega) rfl (by omega) (fun j p q => by omega)
 simpa only [laws_markRobotS.f, Int.mul_zero, Int.add_zero] using this
theorem heldRobotS_loop (n : Nat) (a : Int) (ha : 0 ≤ a) (hn : a + 5 * n ≤ 4611686018427387904) (d : Nat) : ∀ (i : Int), 0 ≤ i → (n : Int) - i = d →
  Ev (fun k => laws_heldRobotS.l0 k (upR a n) (a + 5 * i) i) (a + 5 * n) := by
 induction d with
 | zero =>
  intro i h0 hd; refine Ev.step (fun _ => rfl) ?_; simp only [laws_heldRobotS.l0, upR_length]; refine ev_neg (by omega) ?_; have e2 : i = n := by omega
  rw [e2]; exact Ev.now _
 | succ d ih =>
  intro i h0 hd; refine Ev.step (fun _ => rfl) ?_; simp only [laws_heldRobotS.l0, upR_length]; rw [upR_rd h0 (by omega), wrap64_id (x := a + 5 * i + 1) (by omega) (by omega), wrap64_id (x := a + 5 * i + 1 + 1) (by omega) (by omega), wrap64_id (x := a + 5 * i + 1 + 1 + 1) (by omega) (by omega), wrap64_id (x := a + 5 * i + 1 + 1 + 1 + 1) (by omega) (by omega), wrap64_id (x := a + 5 * i + 1 + 1 + 1 + 1 + 1) (by omega) (by omega), wrap64_id (x := i + 1) (by omega) (by omega)]; rw [tmod_nn (by omega), show a + 5 * i + 1 + 1 + 1 + 1 + 1 = a + 5 * (i + 1) by omega]; refine ev_pos (by omega) (ev_pos h0 (ev_pos rfl (ev_pos rfl (ev_pos (by unfold markR; simp only; omega) (ev_pos (by unfold markR; simp only; omega) (ev_neg ?_ (ih _ (by omega) (by omega)))))))); unfold markR; simp only; rw [show a + 5 * i + 1 + 1 + 1 + 1 = a + 5 * i + 4 by omega]; simp
theorem heldRobotS_ev (n : Nat) (a : Int) (ha : 0 ≤ a) (hn : a + 5 * n ≤ 4611686018427387904) : Ev (fun k => laws_heldRobotS.f k (upR a n) a) (a + 5 * n) := by
 have := heldRobotS_loop n a ha hn n 0 (by omega) (by omega)
 simpa only [laws_heldRobotS.f, Int.mul_zero, Int.add_zero] using this

theorem markIntSS_some (l : List (List Int)) (a : Int) (h1 : l.length ≤ 1048576) (h2 : ∀ j : Int, 0 ≤ j → j < l.length → ((rd_L4 l j).length : Int) ≤ 1048576) (a0 : 0 ≤ a) (a1 : a ≤ 1152921504606846976) : ∃ r, laws_markIntSS.f l a = some r ∧ a ≤ r ∧ r ≤ a + 1099511627776 := by
 have s2 : ∀ x ∈ l, x.length ≤ 1048576 := by
  intro x hx; obtain ⟨j, hj, rfl⟩ := List.getElem_of_mem hx; have := h2 (j : Int) (by omega) (by omega); unfold rd_L4 at this; rw [List.getD_eq_getElem?_getD, Int.toNat_natCast, List.getElem?_eq_getElem hj] at this; simp only [Option.getD_some] at this
  omega
 have t := totalL_le s2; refine ⟨a + totalL l, ?_, by omega, by omega⟩; unfold laws_markIntSS.f; rw [if_pos ⟨smallL_iff.2 ⟨h1, s2⟩, a0, a1⟩]
theorem markTargetS_some (l : List S120) (a : Int) (h1 : l.length ≤ 1048576) (h2 : ∀ j : Int, 0 ≤ j → j < l.length → ((rd_T120 l j).f0.length : Int) ≤ 1048576) (a0 : 0 ≤ a) (a1 : a ≤ 1152921504606846976) : ∃ r, laws_markTargetS.f l a = some r ∧ a ≤ r ∧ r ≤ a + 1099513725952 := by
 have s2 : ∀ x ∈ l, x.f0.length ≤ 1048576 := by
  intro x hx; obtain ⟨j, hj, rfl⟩ := List.getElem_of_mem hx; have := h2 (j : Int) (by omega) (by omega); unfold rd_T120 at this; rw [List.getD_eq_getElem?_getD, Int.toNat_natCast, List.getElem?_eq_getElem hj] at this; simp only [Option.getD_some] at this
  omega
 have t := totalT_le s2; refine ⟨a + totalT l, ?_, by omega, by omega⟩; unfold laws_markTargetS.f; rw [if_pos ⟨smallT_iff.2 ⟨h1, s2⟩, a0, a1⟩]
theorem markTables_le (w h : Int) (ts : List S120) (D H : List (List Int)) (c1 : ts.length ≤ 1048576 ∧ ∀ j : Int, 0 ≤ j → j < ts.length → ((rd_T120 ts j).f0.length : Int) ≤ 1048576)
  (c2 : D.length ≤ 1048576 ∧ ∀ j : Int, 0 ≤ j → j < D.length → ((rd_L4 D j).length : Int) ≤ 1048576) (c3 : H.length ≤ 1048576 ∧ ∀ j : Int, 0 ≤ j → j < H.length → ((rd_L4 H j).length : Int) ≤ 1048576) : ∃ r, laws_markTables.f w h ts D H 1 = some r ∧ 0 ≤ r ∧ r ≤ 4000000000000 := by
 obtain ⟨r1, e1, p1, q1⟩ := markTargetS_some ts 1 c1.1 c1.2 (by omega) (by omega); obtain ⟨r2, e2, p2, q2⟩ := markIntSS_some D r1 c2.1 c2.2 (by omega) (by omega); obtain ⟨r3, e3, p3, q3⟩ := markIntSS_some H r2 c3.1 c3.2 (by omega) (by omega); refine ⟨r3, ?_, by omega, by omega⟩; unfold laws_markTables.f; rw [e1, Option.bind_some, e2, Option.bind_some, e3]

theorem FnExactRunFleet : laws_FnExactRunFleet.Pure := by
 intro w h ts D H rs a2 ww wh w2 w3 w4 wr wa; have m0 : ∀ x ∈ ts, x.f0.length ≤ 9223372036854775807 := fun x hx => (w2.2 x hx).1.1
 have hb : ∀ x ∈ ts, Bytes x.f0 := fun x hx => Bytes.of (w2.2 x hx).1
 have m1 : ts.length ≤ 9223372036854775807 := w2.1; have m2 : ∀ x ∈ D, x.length ≤ 9223372036854775807 := fun x hx => (w3.2 x hx).1
 have m3 : D.length ≤ 9223372036854775807 := w3.1; have m4 : ∀ x ∈ H, x.length ≤ 9223372036854775807 := fun x hx => (w4.2 x hx).1
 have m5 : H.length ≤ 9223372036854775807 := w4.1; have m6 : rs.length ≤ 9223372036854775807 := wr.1; refine Ev.rounds (g := fun k => laws_FnExactRunFleet.f k w h ts D H rs a2) ?_; simp only [laws_FnExactRunFleet.f]; obtain ⟨r, e, q⟩ := szTables_or w h ts D H m0 m1 m2 m3 m4 m5
 rcases q with rfl | ⟨q0, c1, c2, c3⟩
 ·exact Ev.bind e (ev_pos (by omega) (Ev.now _))
 refine Ev.bind e (ev_neg (by omega) ?_); obtain ⟨r2, e2, q2⟩ := szRobotS_or (l := rs) q0.1 q0.2 m6; rw [e2]; refine ev_letv ?_
 rcases q2 with rfl | ⟨q2, rfl⟩
 ·exact ev_pos (by omega) (Ev.now _)
 refine ev_neg (by omega) ?_; have t := toTables_ev w h ts D H c1 c2 c3; have nb := names_of hb c1.2; have cm := map_small c1; have lr : rs.length ≤ 1048576 := by omega
 have tr := toRobotS_ev rs lr; have lm : (rs.map convR).length ≤ 1048576 := by rw [List.length_map]; exact lr
 obtain ⟨g, s, i, gl⟩ := run_both w h (ts.map convT) D H nb c2.1 c3.1 cm.1 (rs.map convR) a2; obtain ⟨kk, ek, k0, k1⟩ := markTables_le w h (ts.map convT) D H cm c2 c3; have eq : Ev (fun k => laws_eqFleetReport.f k g.1 g.2.1 g.2.2 g.1 g.2.1 g.2.2) true := by
  simp only [laws_eqFleetReport.f]; exact ev_pos (by trivial) (ev_pos (by trivial) (Ev.bind (eqRobotS_self g.2.2 (by omega)) (ev_pos (by trivial) (Ev.now _))))
 have em := markRobotS_ev (rs.map convR) kk k0 (by omega); have e7 : Ev (fun k => laws_markFleetReport.f k g.1 g.2.1 g.2.2 1) (1 + 5 * (g.2.2.length : Int), upR 1 g.2.2.length) := by
  simp only [laws_markFleetReport.f]; exact Ev.bind (markRobotS_ev g.2.2 1 (by omega) (by omega)) (Ev.now _)
 have e8 : Ev (fun k => laws_heldFleetReport.f k g.1 g.2.1 (upR 1 g.2.2.length) 1) (1 + 5 * (g.2.2.length : Int)) := by
  simp only [laws_heldFleetReport.f]; exact Ev.bind (heldRobotS_ev g.2.2.length 1 (by omega) (by omega)) (ev_neg (by omega) (Ev.now _))
 refine Ev.bind t (Ev.bind tr (Ev.bind s (Ev.bind t (Ev.bind tr (Ev.bind i (Ev.bind eq (ev_pos (by trivial) (Ev.bind t (Ev.bind (eqTables_self w h _ D H cm c2 c3) (ev_pos (by trivial) (Ev.bind tr (Ev.bind (eqRobotS_self _ lm) (ev_pos (by trivial) ?_))))))))))))); rw [ek]; refine ev_letv (Ev.bind em (ev_neg (by simp only; omega) (Ev.bind eq ?_))); refine Ev.step (fun _ => rfl) ?_; simp only [laws_FnExactRunFleet.j0]; refine ev_neg (by simp) (Ev.bind e7 (Ev.bind e8 (ev_neg (by omega) (ev_pos rfl (Ev.bind t (Ev.bind tr (Ev.bind i (Ev.bind eq (ev_pos (by trivial) (Ev.bind e8 (ev_neg (by omega) (ev_pos rfl (Ev.now _)))))))))))))

end Go.Proofs.YthbeplmihjhoeaaDoor.Pure
