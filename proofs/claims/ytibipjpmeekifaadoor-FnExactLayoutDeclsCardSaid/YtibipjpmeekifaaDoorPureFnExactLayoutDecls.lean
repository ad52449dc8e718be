/- The program's LayoutDecls returns what the reference's returns, for all arguments whose texts are bytes: the library's two tables of UTF-8 hold what their initialisers lay. -/
import Derived.Test.YtibipjpmeekifaaDoorQFnExactLayoutDecls
import Derived.Lib.Bytes
import Derived.Lib.Bytealg
namespace Go.Proofs.YtibipjpmeekifaaDoor.Pure
set_option linter.unusedVariables false
set_option linter.unusedSimpArgs false
set_option linter.unusedSectionVars false
open Go.RowKit Go.Proofs.YtibipjpmeekifaaDoor.PFnExactLayoutDecls Go.Proofs.YtibipjpmeekifaaDoorW.PrintWords Go.Proofs.YtibipjpmeekifaaDoorW.PrintLast Go.Proofs.YtibipjpmeekifaaDoorW.PrintMore
section EvLib
variable {α β : Type}
theorem ev_pos {c : Prop} [Decidable c] {A B : Nat → Option α} {r : α} (h : c) (k : Ev A r) : Ev (fun n => if c then A n else B n) r :=
 Ev.congr (fun _ => if_pos h) k
theorem ev_neg {c : Prop} [Decidable c] {A B : Nat → Option α} {r : α} (h : ¬ c) (k : Ev B r) : Ev (fun n => if c then A n else B n) r :=
 Ev.congr (fun _ => if_neg h) k
theorem ev_ite {c : Prop} [Decidable c] {A B : Nat → Option α} {r : α} (h1 : c → Ev A r) (h2 : ¬ c → Ev B r) : Ev (fun n => if c then A n else B n) r := by
 by_cases h : c
 ·exact ev_pos h (h1 h)
 ·exact ev_neg h (h2 h)
theorem ev_letv {a : α} {f : Nat → α → Option β} {r : β} (k : Ev (fun n => f n a) r) : Ev (fun n => (some a).bind (f n)) r := Ev.bind (Ev.now a) k
end EvLib
theorem wrap64_id {x : Int} (h0 : -9223372036854775808 ≤ x) (h1 : x ≤ 9223372036854775807) : wrap64 x = x := by unfold wrap64; omega
theorem tdiv_nn {x y : Int} (h0 : 0 ≤ x) : Int.tdiv x y = x / y := Int.tdiv_eq_ediv_of_nonneg h0
theorem tmod_nn {x y : Int} (h0 : 0 ≤ x) : Int.tmod x y = x % y := Int.tmod_eq_emod_of_nonneg h0
theorem rd_get {l : List Int} {i : Int} (h0 : 0 ≤ i) (h1 : i.toNat < l.length) : rd l i = l[i.toNat] := by
 unfold rd; rw [List.getD_eq_getElem?_getD, List.getElem?_eq_getElem h1]; rfl
theorem rd_mem {l : List Int} {i : Int} (h0 : 0 ≤ i) (h1 : i < l.length) : rd l i ∈ l := by
 have h : i.toNat < l.length := by omega
 rw [rd_get h0 h]; exact List.getElem_mem h
theorem rd_set_eq {l : List Int} {i : Int} {v : Int} (h0 : 0 ≤ i) (h1 : i < l.length) : rd (l.set i.toNat v) i = v := by
 have h : i.toNat < l.length := by omega
 unfold rd; rw [List.getD_eq_getElem?_getD, List.getElem?_set_self h]; rfl
theorem rd_set_ne {l : List Int} {i j : Int} {v : Int} (h0 : 0 ≤ i) (h1 : 0 ≤ j) (h : i ≠ j) : rd (l.set i.toNat v) j = rd l j := by
 unfold rd; rw [List.getD_eq_getElem?_getD, List.getElem?_set_ne (by omega), ← List.getD_eq_getElem?_getD]
theorem rd_ext {l m : List Int} (h : l.length = m.length) (e : ∀ i : Int, 0 ≤ i → i < l.length → rd l i = rd m i) : l = m := by
 apply List.ext_getElem h; intro i h1 h2; have := e i (by omega) (by omega); rw [rd_get (by omega) (by simpa using h1), rd_get (by omega) (by simpa using h2)] at this
 simpa using this

theorem wf_u8 {x : Int} (h : (Lit.int .u8 x).wf = true) : 0 ≤ x ∧ x ≤ 255 := by
 simp [Lit.wf, IntKind.min, IntKind.max, IntKind.signed, IntKind.bits] at h; omega
theorem wf_i64 {x : Int} (h : (Lit.int .i64 x).wf = true) : -9223372036854775808 ≤ x ∧ x ≤ 9223372036854775807 := by
 simp [Lit.wf, IntKind.min, IntKind.max, IntKind.signed, IntKind.bits] at h; omega
theorem bytes_of {l : List Int} (h : ∀ x ∈ l, (Lit.int .u8 x).wf = true) : ∀ i : Int, 0 ≤ i → i < l.length → 0 ≤ rd l i ∧ rd l i ≤ 255 :=
 fun i h0 h1 => wf_u8 (h _ (rd_mem h0 h1))
theorem ints_of {l : List Int} (h : ∀ x ∈ l, (Lit.int .i64 x).wf = true) : ∀ i : Int, 0 ≤ i → i < l.length → -9223372036854775808 ≤ rd l i ∧ rd l i ≤ 9223372036854775807 :=
 fun i h0 h1 => wf_i64 (h _ (rd_mem h0 h1))

theorem rd_drop (l : List Int) (i : Nat) (j : Int) (h : 0 ≤ j) : rd (l.drop i) j = rd l (i + j) := by
 unfold rd; rw [List.getD_eq_getElem?_getD, List.getElem?_drop, List.getD_eq_getElem?_getD, show ((i : Int) + j).toNat = i + j.toNat by omega]
theorem decI_drop {l : List Int} {i : Int} (h0 : 0 ≤ i) (h1 : i < l.length) : decI (l.drop i.toNat) =
  ((((Lib.decodeN (l.length - i.toNat) (rd l i).toNat (rd l (i + 1)).toNat (rd l (i + 2)).toNat (rd l (i + 3)).toNat).1 : Nat) : Int), (((Lib.decodeN (l.length - i.toNat) (rd l i).toNat (rd l (i + 1)).toNat (rd l (i + 2)).toNat (rd l (i + 3)).toNat).2 : Nat) : Int)) := by
 unfold decI; rw [List.length_drop, if_neg (by omega)]; rw [rd_drop _ _ _ (by omega), rd_drop _ _ _ (by omega), rd_drop _ _ _ (by omega), rd_drop _ _ _ (by omega), show ((i.toNat : Nat) : Int) = i by omega, Int.add_zero]
def chr (l : List Int) (i : Int) : Int × Int :=
 if (decI (l.drop i.toNat)).1 = 65533 ∧ (decI (l.drop i.toNat)).2 ≤ 1 then (0, 0) else ((decI (l.drop i.toNat)).2, (decI (l.drop i.toNat)).1)
def Bytes (l : List Int) : Prop := ∀ i : Int, 0 ≤ i → i < l.length → 0 ≤ rd l i ∧ rd l i ≤ 255
theorem rd_out {l : List Int} {i : Int} (h : (l.length : Int) ≤ i) : rd l i = 0 := by
 unfold rd; rw [List.getD_eq_getElem?_getD, List.getElem?_eq_none (by omega)]; rfl
theorem Bytes.rd {l : List Int} (hb : Bytes l) {i : Int} (h0 : 0 ≤ i) : 0 ≤ rd l i ∧ rd l i ≤ 255 := by
 by_cases h : i < l.length
 ·exact hb i h0 h
 ·rw [rd_out (by omega)]; omega
theorem bytesB_of {l : List Int} (hb : Bytes l) : bytesB l = true := by
 unfold bytesB; rw [List.all_eq_true]; intro x hx; obtain ⟨j, hj, e⟩ := List.getElem_of_mem hx; have := hb (j : Int) (by omega) (by omega); rw [rd_get (by omega) (by simpa using hj)] at this; simp only [Int.toNat_natCast] at this; rw [e] at this; simp only [Bool.and_eq_true, decide_eq_true_eq]; exact this
theorem Bytes.drop {l : List Int} (hb : Bytes l) (i : Nat) : Bytes (l.drop i) := by
 intro j h0 h1; rw [List.length_drop] at h1; rw [rd_drop _ _ _ h0]; exact hb _ (by omega) (by omega)
def chrZ (n b0 b1 b2 b3 : Int) : Int × Int :=
 if b0 < 128 then (1, b0)
   else if b0 / 32 = 6 ∧ (1 < n ∧ b1 / 64 = 2) then (if b0 % 32 * 64 + b1 % 64 ≥ 128 then (2, b0 % 32 * 64 + b1 % 64) else (0, 0))
   else if b0 / 16 = 14 ∧ (1 < n ∧ b1 / 64 = 2) ∧ (2 < n ∧ b2 / 64 = 2) then
    (if b0 % 16 * 4096 + b1 % 64 * 64 + b2 % 64 ≥ 2048 ∧ (b0 % 16 * 4096 + b1 % 64 * 64 + b2 % 64 < 55296 ∨ 57344 ≤ b0 % 16 * 4096 + b1 % 64 * 64 + b2 % 64) then (3, b0 % 16 * 4096 + b1 % 64 * 64 + b2 % 64) else (0, 0))
   else if b0 / 8 = 30 ∧ (1 < n ∧ b1 / 64 = 2) ∧ (2 < n ∧ b2 / 64 = 2) ∧ (3 < n ∧ b3 / 64 = 2) then
    (if b0 % 8 * 262144 + b1 % 64 * 4096 + b2 % 64 * 64 + b3 % 64 ≥ 65536 ∧ b0 % 8 * 262144 + b1 % 64 * 4096 + b2 % 64 * 64 + b3 % 64 ≤ 1114111 then (4, b0 % 8 * 262144 + b1 % 64 * 4096 + b2 % 64 * 64 + b3 % 64) else (0, 0))
   else (0, 0)
theorem chrZ_nat (n c0 c1 c2 c3 : Nat) : (if (((Lib.decodeN n c0 c1 c2 c3).1 : Nat) : Int) = 65533 ∧ (((Lib.decodeN n c0 c1 c2 c3).2 : Nat) : Int) ≤ 1 then ((0 : Int), (0 : Int)) else ((((Lib.decodeN n c0 c1 c2 c3).2 : Nat) : Int), (((Lib.decodeN n c0 c1 c2 c3).1 : Nat) : Int)))
  = chrZ n c0 c1 c2 c3 := by
 by_cases h1 : c0 < 128
 ·have hd : Lib.decodeN n c0 c1 c2 c3 = (c0, 1) := by unfold Lib.decodeN; rw [if_pos h1]
  rw [hd, if_neg (by simp only; omega)]; unfold chrZ; rw [if_pos (by omega)]; rfl
 by_cases h2 : c0 / 32 = 6 ∧ (1 < n ∧ c1 / 64 = 2)
 ·by_cases h3 : c0 % 32 * 64 + c1 % 64 ≥ 128
  ·have hd : Lib.decodeN n c0 c1 c2 c3 = (c0 % 32 * 64 + c1 % 64, 2) := by unfold Lib.decodeN; rw [if_neg h1, if_pos h2, if_pos h3]
   rw [hd, if_neg (by simp only; omega)]; unfold chrZ; rw [if_neg (by omega), if_pos (by omega), if_pos (by omega)]; simp
  ·have hd : Lib.decodeN n c0 c1 c2 c3 = (65533, 1) := by unfold Lib.decodeN; rw [if_neg h1, if_pos h2, if_neg h3]
   rw [hd, if_pos (by simp)]; unfold chrZ; rw [if_neg (by omega), if_pos (by omega), if_neg (by omega)]
 by_cases h4 : c0 / 16 = 14 ∧ (1 < n ∧ c1 / 64 = 2) ∧ (2 < n ∧ c2 / 64 = 2)
 ·by_cases h5 : c0 % 16 * 4096 + c1 % 64 * 64 + c2 % 64 ≥ 2048 ∧ (c0 % 16 * 4096 + c1 % 64 * 64 + c2 % 64 < 55296 ∨ (57344 ≤ c0 % 16 * 4096 + c1 % 64 * 64 + c2 % 64 ∧ c0 % 16 * 4096 + c1 % 64 * 64 + c2 % 64 ≤ 1114111))
  ·have hd : Lib.decodeN n c0 c1 c2 c3 = (c0 % 16 * 4096 + c1 % 64 * 64 + c2 % 64, 3) := by unfold Lib.decodeN; rw [if_neg h1, if_neg h2, if_pos h4, if_pos h5]
   rw [hd, if_neg (by simp only; omega)]; unfold chrZ; rw [if_neg (by omega), if_neg (by omega), if_pos (by omega), if_pos (by omega)]; simp
  ·have hd : Lib.decodeN n c0 c1 c2 c3 = (65533, 1) := by unfold Lib.decodeN; rw [if_neg h1, if_neg h2, if_pos h4, if_neg h5]
   rw [hd, if_pos (by simp)]; unfold chrZ; rw [if_neg (by omega), if_neg (by omega), if_pos (by omega), if_neg (by omega)]
 by_cases h6 : c0 / 8 = 30 ∧ (1 < n ∧ c1 / 64 = 2) ∧ (2 < n ∧ c2 / 64 = 2) ∧ (3 < n ∧ c3 / 64 = 2)
 ·by_cases h7 : c0 % 8 * 262144 + c1 % 64 * 4096 + c2 % 64 * 64 + c3 % 64 ≥ 65536 ∧ (c0 % 8 * 262144 + c1 % 64 * 4096 + c2 % 64 * 64 + c3 % 64 < 55296 ∨ (57344 ≤ c0 % 8 * 262144 + c1 % 64 * 4096 + c2 % 64 * 64 + c3 % 64 ∧ c0 % 8 * 262144 + c1 % 64 * 4096 + c2 % 64 * 64 + c3 % 64 ≤ 1114111))
  ·have hd : Lib.decodeN n c0 c1 c2 c3 = (c0 % 8 * 262144 + c1 % 64 * 4096 + c2 % 64 * 64 + c3 % 64, 4) := by unfold Lib.decodeN; rw [if_neg h1, if_neg h2, if_neg h4, if_pos h6, if_pos h7]
   rw [hd, if_neg (by simp only; omega)]; unfold chrZ; rw [if_neg (by omega), if_neg (by omega), if_neg (by omega), if_pos (by omega), if_pos (by omega)]; simp
  ·have hd : Lib.decodeN n c0 c1 c2 c3 = (65533, 1) := by unfold Lib.decodeN; rw [if_neg h1, if_neg h2, if_neg h4, if_pos h6, if_neg h7]
   rw [hd, if_pos (by simp)]; unfold chrZ; rw [if_neg (by omega), if_neg (by omega), if_neg (by omega), if_pos (by omega), if_neg (by omega)]
 have hd : Lib.decodeN n c0 c1 c2 c3 = (65533, 1) := by unfold Lib.decodeN; rw [if_neg h1, if_neg h2, if_neg h4, if_neg h6]
 rw [hd, if_pos (by simp)]; unfold chrZ; rw [if_neg (by omega), if_neg (by omega), if_neg (by omega), if_neg (by omega)]
theorem chr_eq {l : List Int} (hb : Bytes l) {i : Int} (h0 : 0 ≤ i) (h1 : i < l.length) : chr l i = chrZ ((l.length : Int) - i) (rd l i) (rd l (i + 1)) (rd l (i + 2)) (rd l (i + 3)) := by
 have r0 := hb.rd h0; have r1 := hb.rd (show 0 ≤ i + 1 by omega); have r2 := hb.rd (show 0 ≤ i + 2 by omega); have r3 := hb.rd (show 0 ≤ i + 3 by omega); unfold chr; rw [decI_drop h0 h1]; simp only; rw [chrZ_nat, Int.toNat_of_nonneg r0.1, Int.toNat_of_nonneg r1.1, Int.toNat_of_nonneg r2.1, Int.toNat_of_nonneg r3.1, show ((l.length - i.toNat : Nat) : Int) = (l.length : Int) - i by omega]

theorem Bytes.of {l : List Int} (h : Open.wfL (Open.wfI .u8) l) : Bytes l := bytes_of h.2

theorem szIntS_or {l : List Int} {left : Int} (h0 : 0 ≤ left) (h1 : left ≤ 1048576) (hm : l.length ≤ 9223372036854775807) :
  ∃ r, laws_szIntS.f l left = some r ∧ (r = -1 ∨ ((l.length : Int) ≤ left ∧ r = left - l.length)) := by
 simp only [laws_szIntS.f]; rw [wrap64_id (by omega) (by omega)]
 by_cases h : left - (l.length : Int) < 0
 ·exact ⟨-1, if_pos h, .inl rfl⟩
 ·exact ⟨_, if_neg h, .inr ⟨by omega, rfl⟩⟩

theorem getD_lt {α : Type} {l : List α} {i : Int} {d : α} (h1 : i.toNat < l.length) : l.getD i.toNat d = l[i.toNat] := by
 rw [List.getD_eq_getElem?_getD, List.getElem?_eq_getElem h1]; rfl
theorem getD_mem {α : Type} {l : List α} {i : Int} {d : α} (h0 : 0 ≤ i) (h1 : i < l.length) : l.getD i.toNat d ∈ l := by
 rw [getD_lt (by omega)]; exact List.getElem_mem _
theorem getD_set_eq {α : Type} {l : List α} {i : Int} {v d : α} (h0 : 0 ≤ i) (h1 : i < l.length) : (l.set i.toNat v).getD i.toNat d = v := by
 rw [List.getD_eq_getElem?_getD, List.getElem?_set_self (by omega)]; rfl
theorem getD_set_ne {α : Type} {l : List α} {i j : Int} {v d : α} (h0 : 0 ≤ i) (h1 : 0 ≤ j) (h : i ≠ j) : (l.set i.toNat v).getD j.toNat d = l.getD j.toNat d := by
 rw [List.getD_eq_getElem?_getD, List.getElem?_set_ne (by omega), ← List.getD_eq_getElem?_getD]
theorem getD_ext {α : Type} {l m : List α} (d : α) (h : l.length = m.length) (e : ∀ i : Int, 0 ≤ i → i < l.length → l.getD i.toNat d = m.getD i.toNat d) : l = m := by
 apply List.ext_getElem h; intro i h1 h2; have := e i (by omega) (by omega); rw [getD_lt (by simpa using h1), getD_lt (by simpa using h2)] at this
 simpa using this
theorem getD_map {α β : Type} (f : α → β) {l : List α} {i : Int} {d : α} {d' : β} (h0 : 0 ≤ i) (h1 : i < l.length) : (l.map f).getD i.toNat d' = f (l.getD i.toNat d) := by
 rw [getD_lt (by rw [List.length_map]; omega), getD_lt (by omega), List.getElem_map]

theorem szByteS_or {l : List Int} {left : Int} (h0 : 0 ≤ left) (h1 : left ≤ 1048576) (hm : l.length ≤ 9223372036854775807) :
  ∃ r, laws_szByteS.f l left = some r ∧ (r = -1 ∨ ((l.length : Int) ≤ left ∧ r = left - l.length)) := by
 simp only [laws_szByteS.f]; rw [wrap64_id (by omega) (by omega)]
 by_cases h : left - (l.length : Int) < 0
 ·exact ⟨-1, if_pos h, .inl rfl⟩
 ·exact ⟨_, if_neg h, .inr ⟨by omega, rfl⟩⟩
theorem szTarget_or {l : List Int} {a b left : Int} (h0 : 0 ≤ left) (h1 : left ≤ 1048576) (hm : l.length ≤ 9223372036854775807) :
  ∃ r, laws_szTarget.f l a b left = some r ∧ (r = -1 ∨ ((l.length : Int) ≤ left ∧ r = left - l.length)) := by
 simp only [laws_szTarget.f]; obtain ⟨r, e, q⟩ := szByteS_or (l := l) h0 h1 hm; rw [e]; simp only [Option.bind_some]
 rcases q with rfl | ⟨a1, rfl⟩
 ·exact ⟨-1, if_pos (by omega), .inl rfl⟩
 ·exact ⟨_, if_neg (by omega), .inr ⟨a1, rfl⟩⟩
theorem szTargetS_loop (x0 : List S61) (hm : ∀ x ∈ x0, x.f0.length ≤ 9223372036854775807) (hl : x0.length ≤ 1048576) (d : Nat) : ∀ (left i : Int), 0 ≤ left → left ≤ 1048576 → 0 ≤ i → (x0.length : Int) - i = d →
  ∃ r, Ev (fun k => laws_szTargetS.l0 k x0 left i) r ∧ (r = -1 ∨ (0 ≤ r ∧ r ≤ left ∧ ∀ j : Int, i ≤ j → j < x0.length → ((rd_T61 x0 j).f0.length : Int) ≤ 1048576)) := by
 induction d with
 | zero =>
  intro left i l0 l1 h0 hd; refine ⟨left, Ev.step (fun _ => rfl) ?_, .inr ⟨l0, Int.le_refl _, fun j a b => by omega⟩⟩; simp only [laws_szTargetS.l0]; exact ev_neg (by omega) (Ev.now _)
 | succ d ih =>
  intro left i l0 l1 h0 hd; obtain ⟨r, e, q⟩ := szTarget_or (l := (rd_T61 x0 i).f0) (a := (rd_T61 x0 i).f1) (b := (rd_T61 x0 i).f2) l0 l1 (hm _ (getD_mem h0 (by omega)))
  rcases q with rfl | ⟨q, rfl⟩
  ·refine ⟨-1, Ev.step (fun _ => rfl) ?_, .inl rfl⟩; simp only [laws_szTargetS.l0]; refine ev_pos (by omega) (ev_pos (by omega) ?_); rw [e]; exact ev_letv (ev_pos (by omega) (Ev.now _))
  ·obtain ⟨r', e', q'⟩ := ih (left - ((rd_T61 x0 i).f0.length : Int)) (i + 1) (by omega) (by omega) (by omega) (by omega); refine ⟨r', Ev.step (fun _ => rfl) ?_, ?_⟩
   ·simp only [laws_szTargetS.l0]; refine ev_pos (by omega) (ev_pos (by omega) ?_); rw [e, wrap64_id (by omega) (by omega)]; exact ev_letv (ev_neg (by omega) e')
   ·rcases q' with rfl | ⟨a, b, c⟩
    ·exact .inl rfl
    ·refine .inr ⟨a, by omega, fun j h1 h2 => ?_⟩
     by_cases hj : j = i
     ·subst hj; omega
     ·exact c j (by omega) h2
theorem szTargetS_or (x0 : List S61) (hm : ∀ x ∈ x0, x.f0.length ≤ 9223372036854775807) (hl : x0.length ≤ 9223372036854775807) {left : Int} (h0 : 0 ≤ left) (h1 : left ≤ 1048576) :
  ∃ r, Ev (fun k => laws_szTargetS.f k x0 left) r ∧ (r = -1 ∨ (0 ≤ r ∧ r ≤ left ∧ x0.length ≤ 1048576 ∧ ∀ j : Int, 0 ≤ j → j < x0.length → ((rd_T61 x0 j).f0.length : Int) ≤ 1048576)) := by
 simp only [laws_szTargetS.f]; rw [wrap64_id (by omega) (by omega)]
 by_cases h : left - (x0.length : Int) < 0
 ·exact ⟨-1, ev_pos h (Ev.now _), .inl rfl⟩
 ·obtain ⟨r, e, q⟩ := szTargetS_loop x0 hm (by omega) x0.length (left - x0.length) 0 (by omega) (by omega) (by omega) (by omega); refine ⟨r, ev_neg h e, ?_⟩
  rcases q with rfl | ⟨a, b, c⟩
  ·exact .inl rfl
  ·exact .inr ⟨a, by omega, by omega, c⟩

theorem toIntS_loop (x0 : List Int) (hb : x0.length ≤ 35184372088832) (d : Nat) : ∀ (x3 : List Int) (i : Int), 0 ≤ i → x3.length = x0.length → (x0.length : Int) - i = d →
  (∀ j : Int, 0 ≤ j → j < i → rd x3 j = rd x0 j) → Ev (fun k => laws_toIntS.l0 k x0 x3 i) x0 := by
 induction d with
 | zero =>
  intro x3 i h0 hl hd he; refine Ev.step (fun _ => rfl) ?_; simp only [laws_toIntS.l0]; refine ev_neg (by omega) ?_; have : x3 = x0 := rd_ext hl (fun j a b => he j a (by omega)); rw [this]; exact Ev.now _
 | succ d ih =>
  intro x3 i h0 hl hd he; refine Ev.step (fun _ => rfl) ?_; simp only [laws_toIntS.l0]; refine ev_pos (by omega) (ev_pos (by omega) (ev_pos (by omega) ?_)); rw [wrap64_id (by omega) (by omega)]; refine ih _ _ (by omega) (by simpa using hl) (by omega) ?_; intro j a b
  by_cases e : j = i
  ·subst e; exact rd_set_eq (by omega) (by omega)
  ·rw [rd_set_ne (by omega) (by omega) (by omega)]; exact he j a (by omega)
theorem toIntS_ev (l : List Int) (hb : l.length ≤ 35184372088832) : Ev (fun k => laws_toIntS.f k l) l := by
 simp only [laws_toIntS.f]; refine ev_pos (by omega) (ev_pos (by omega) ?_); exact toIntS_loop l hb l.length _ 0 (by omega) (by simp) (by omega) (fun j a b => by omega)

theorem toByteS_loop (x0 : List Int) (hb : x0.length ≤ 281474976710656) (d : Nat) : ∀ (x3 : List Int) (i : Int), 0 ≤ i → x3.length = x0.length → (x0.length : Int) - i = d →
  (∀ j : Int, 0 ≤ j → j < i → rd x3 j = rd x0 j) → Ev (fun k => laws_toByteS.l0 k x0 x3 i) x0 := by
 induction d with
 | zero =>
  intro x3 i h0 hl hd he; refine Ev.step (fun _ => rfl) ?_; simp only [laws_toByteS.l0]; refine ev_neg (by omega) ?_; have : x3 = x0 := rd_ext hl (fun j a b => he j a (by omega)); rw [this]; exact Ev.now _
 | succ d ih =>
  intro x3 i h0 hl hd he; refine Ev.step (fun _ => rfl) ?_; simp only [laws_toByteS.l0]; refine ev_pos (by omega) (ev_pos (by omega) (ev_pos (by omega) ?_)); rw [wrap64_id (by omega) (by omega)]; refine ih _ _ (by omega) (by simpa using hl) (by omega) ?_; intro j a b
  by_cases e : j = i
  ·subst e; exact rd_set_eq (by omega) (by omega)
  ·rw [rd_set_ne (by omega) (by omega) (by omega)]; exact he j a (by omega)
theorem toByteS_ev (l : List Int) (hb : l.length ≤ 281474976710656) : Ev (fun k => laws_toByteS.f k l) l := by
 simp only [laws_toByteS.f]; refine ev_pos (by omega) (ev_pos (by omega) ?_); exact toByteS_loop l hb l.length _ 0 (by omega) (by simp) (by omega) (fun j a b => by omega)

def convT (x : S61) : S49 := ⟨x.f0, x.f1, x.f2⟩
theorem toTarget_ev (l : List Int) (a b : Int) (hb : l.length ≤ 281474976710656) : Ev (fun k => laws_toTarget.f k l a b) (l, a, b) := by
 simp only [laws_toTarget.f]; exact Ev.bind (toByteS_ev l hb) (Ev.now _)
theorem toTargetS_loop (x0 : List S61) (hl : x0.length ≤ 1048576) (hm : ∀ j : Int, 0 ≤ j → j < x0.length → ((rd_T61 x0 j).f0.length : Int) ≤ 1048576) (d : Nat) : ∀ (x3 : List S49) (i : Int), 0 ≤ i → x3.length = x0.length → (x0.length : Int) - i = d →
  (∀ j : Int, 0 ≤ j → j < i → rd_T49 x3 j = convT (rd_T61 x0 j)) → Ev (fun k => laws_toTargetS.l0 k x0 x3 i) (x0.map convT) := by
 induction d with
 | zero =>
  intro x3 i h0 hl' hd he; refine Ev.step (fun _ => rfl) ?_; simp only [laws_toTargetS.l0]; refine ev_neg (by omega) ?_
  have : x3 = x0.map convT := getD_ext z49 (by rw [List.length_map]; omega) (fun j a b => by
   rw [getD_map convT (d := z61) a (by omega)]; exact he j a (by omega))
  rw [this]; exact Ev.now _
 | succ d ih =>
  intro x3 i h0 hl' hd he; refine Ev.step (fun _ => rfl) ?_; simp only [laws_toTargetS.l0]; refine ev_pos (by omega) (ev_pos (by omega) (Ev.bind (toTarget_ev _ _ _ (by have := hm i h0 (by omega); omega)) (ev_pos (by omega) ?_))); rw [wrap64_id (by omega) (by omega)]; refine ih _ _ (by omega) (by simpa using hl') (by omega) ?_; intro j a b; unfold rd_T49
  by_cases e : j = i
  ·subst e; rw [getD_set_eq (by omega) (by omega)]; rfl
  ·rw [getD_set_ne (by omega) (by omega) (by omega)]; exact he j a (by omega)
theorem toTargetS_ev (x0 : List S61) (hl : x0.length ≤ 1048576) (hm : ∀ j : Int, 0 ≤ j → j < x0.length → ((rd_T61 x0 j).f0.length : Int) ≤ 1048576) : Ev (fun k => laws_toTargetS.f k x0) (x0.map convT) := by
 simp only [laws_toTargetS.f]; refine ev_pos (by omega) (ev_pos (by omega) ?_); exact toTargetS_loop x0 hl hm x0.length _ 0 (by omega) (by simp) (by omega) (fun j a b => by omega)

theorem eqIntS_loop (a b : List Int) (hl : a.length = b.length) (hb : a.length ≤ 9223372036854775800) (d : Nat) : ∀ (i : Int), 0 ≤ i → (a.length : Int) - i = d →
  (∀ j : Int, 0 ≤ j → j < i → rd a j = rd b j) → Ev (fun k => laws_eqIntS.l0 k a b i) (decide (a = b)) := by
 induction d with
 | zero =>
  intro i h0 hd he; refine Ev.step (fun _ => rfl) ?_; simp only [laws_eqIntS.l0]; refine ev_neg (by omega) ?_; have : a = b := rd_ext hl (fun j p q => he j p (by omega)); rw [decide_eq_true this]; exact Ev.now _
 | succ d ih =>
  intro i h0 hd he; refine Ev.step (fun _ => rfl) ?_; simp only [laws_eqIntS.l0]; refine ev_pos (by omega) (ev_pos (by omega) (ev_pos (by omega) (ev_ite (fun e => ?_) (fun e => ?_))))
  ·rw [wrap64_id (by omega) (by omega)]; refine ih _ (by omega) (by omega) ?_; intro j p q
   by_cases e' : j = i
   ·subst e'; exact e
   ·exact he j p (by omega)
  ·have : a ≠ b := fun h => e (by rw [h])
   rw [decide_eq_false this]; exact Ev.now _
theorem eqIntS_ev (a b : List Int) (hb : a.length ≤ 9223372036854775800) : Ev (fun k => laws_eqIntS.f k a b) (decide (a = b)) := by
 simp only [laws_eqIntS.f]; refine ev_ite (fun e => ?_) (fun e => ?_)
 ·exact eqIntS_loop a b (by omega) hb a.length 0 (by omega) (by omega) (fun j p q => by omega)
 ·have : a ≠ b := fun h => e (by rw [h])
  rw [decide_eq_false this]; exact Ev.now _
theorem eqIntS_self (a : List Int) (hb : a.length ≤ 9223372036854775800) : Ev (fun k => laws_eqIntS.f k a a) true := by
 have := eqIntS_ev a a hb
 rwa [decide_eq_true rfl] at this

theorem eqByteS_loop (a b : List Int) (hl : a.length = b.length) (hb : a.length ≤ 9223372036854775800) (d : Nat) : ∀ (i : Int), 0 ≤ i → (a.length : Int) - i = d →
  (∀ j : Int, 0 ≤ j → j < i → rd a j = rd b j) → Ev (fun k => laws_eqByteS.l0 k a b i) (decide (a = b)) := by
 induction d with
 | zero =>
  intro i h0 hd he; refine Ev.step (fun _ => rfl) ?_; simp only [laws_eqByteS.l0]; refine ev_neg (by omega) ?_; have : a = b := rd_ext hl (fun j p q => he j p (by omega)); rw [decide_eq_true this]; exact Ev.now _
 | succ d ih =>
  intro i h0 hd he; refine Ev.step (fun _ => rfl) ?_; simp only [laws_eqByteS.l0]; refine ev_pos (by omega) (ev_pos (by omega) (ev_pos (by omega) (ev_ite (fun e => ?_) (fun e => ?_))))
  ·rw [wrap64_id (by omega) (by omega)]; refine ih _ (by omega) (by omega) ?_; intro j p q
   by_cases e' : j = i
   ·subst e'; exact e
   ·exact he j p (by omega)
  ·have : a ≠ b := fun h => e (by rw [h])
   rw [decide_eq_false this]; exact Ev.now _
theorem eqByteS_ev (a b : List Int) (hb : a.length ≤ 9223372036854775800) : Ev (fun k => laws_eqByteS.f k a b) (decide (a = b)) := by
 simp only [laws_eqByteS.f]; refine ev_ite (fun e => ?_) (fun e => ?_)
 ·exact eqByteS_loop a b (by omega) hb a.length 0 (by omega) (by omega) (fun j p q => by omega)
 ·have : a ≠ b := fun h => e (by rw [h])
  rw [decide_eq_false this]; exact Ev.now _
theorem eqByteS_self (a : List Int) (hb : a.length ≤ 9223372036854775800) : Ev (fun k => laws_eqByteS.f k a a) true := by
 have := eqByteS_ev a a hb
 rwa [decide_eq_true rfl] at this

theorem eqTarget_self (l : List Int) (a b : Int) (hb : l.length ≤ 1048576) : Ev (fun k => laws_eqTarget.f k l a b l a b) true := by
 simp only [laws_eqTarget.f]; exact Ev.bind (eqByteS_self l (by omega)) (ev_pos (by trivial) (ev_pos (by trivial) (ev_pos (by trivial) (Ev.now _))))
theorem eqTargetS_loop (x0 : List S49) (hl : x0.length ≤ 1048576) (hm : ∀ j : Int, 0 ≤ j → j < x0.length → ((rd_T49 x0 j).f0.length : Int) ≤ 1048576) (d : Nat) : ∀ (i : Int), 0 ≤ i → (x0.length : Int) - i = d → Ev (fun k => laws_eqTargetS.l0 k x0 x0 i) true := by
 induction d with
 | zero =>
  intro i h0 hd; refine Ev.step (fun _ => rfl) ?_; simp only [laws_eqTargetS.l0]; exact ev_neg (by omega) (Ev.now _)
 | succ d ih =>
  intro i h0 hd; refine Ev.step (fun _ => rfl) ?_; simp only [laws_eqTargetS.l0]; refine ev_pos (by omega) (ev_pos (by omega) (ev_pos (by omega) (Ev.bind (eqTarget_self _ _ _ (by have := hm i h0 (by omega); omega)) (ev_pos (by trivial) ?_)))); rw [wrap64_id (by omega) (by omega)]; exact ih _ (by omega) (by omega)
theorem eqTargetS_self (x0 : List S49) (hl : x0.length ≤ 1048576) (hm : ∀ j : Int, 0 ≤ j → j < x0.length → ((rd_T49 x0 j).f0.length : Int) ≤ 1048576) : Ev (fun k => laws_eqTargetS.f k x0 x0) true := by
 simp only [laws_eqTargetS.f]; exact ev_pos (by trivial) (eqTargetS_loop x0 hl hm x0.length 0 (by omega) (by omega))

theorem szLayout_or (w h : Int) (cost ex : List Int) (ts : List S61) (m2 : cost.length ≤ 9223372036854775807) (m3 : ex.length ≤ 9223372036854775807) (m0 : ∀ x ∈ ts, x.f0.length ≤ 9223372036854775807) (m1 : ts.length ≤ 9223372036854775807) :
  ∃ r, Ev (fun k => laws_szLayout.f k w h cost ex ts 1048576) r ∧ (r = -1 ∨ ((0 ≤ r ∧ r ≤ 1048576) ∧ cost.length ≤ 1048576 ∧ ex.length ≤ 1048576 ∧ (ts.length ≤ 1048576 ∧ ∀ j : Int, 0 ≤ j → j < ts.length → ((rd_T61 ts j).f0.length : Int) ≤ 1048576))) := by
 simp only [laws_szLayout.f]; obtain ⟨r1, e1, q1⟩ := szIntS_or (l := cost) (left := 1048576) (by omega) (by omega) m2; have v1 : Ev (fun _ => laws_szIntS.f cost 1048576) r1 := by rw [e1]; exact Ev.now _
 rcases q1 with rfl | ⟨a1, b1⟩
 ·exact ⟨-1, Ev.bind v1 (ev_pos (by omega) (Ev.now _)), .inl rfl⟩
 obtain ⟨r2, e2, q2⟩ := szIntS_or (l := ex) (left := r1) (by omega) (by omega) m3; have v2 : Ev (fun _ => laws_szIntS.f ex r1) r2 := by rw [e2]; exact Ev.now _
 rcases q2 with rfl | ⟨a2, b2⟩
 ·exact ⟨-1, Ev.bind v1 (ev_neg (by omega) (Ev.bind v2 (ev_pos (by omega) (Ev.now _)))), .inl rfl⟩
 obtain ⟨r3, e3, q3⟩ := szTargetS_or ts m0 m1 (left := r2) (by omega) (by omega)
 rcases q3 with rfl | ⟨a3, b3, c3⟩
 ·exact ⟨-1, Ev.bind v1 (ev_neg (by omega) (Ev.bind v2 (ev_neg (by omega) (Ev.bind e3 (ev_pos (by omega) (Ev.now _)))))), .inl rfl⟩
 exact ⟨r3, Ev.bind v1 (ev_neg (by omega) (Ev.bind v2 (ev_neg (by omega) (Ev.bind e3 (ev_neg (by omega) (Ev.now _)))))), .inr ⟨⟨a3, by omega⟩, by omega, by omega, c3⟩⟩
theorem toLayout_ev (w h : Int) (cost ex : List Int) (ts : List S61) (c1 : cost.length ≤ 1048576) (c2 : ex.length ≤ 1048576) (c3 : ts.length ≤ 1048576 ∧ ∀ j : Int, 0 ≤ j → j < ts.length → ((rd_T61 ts j).f0.length : Int) ≤ 1048576) :
  Ev (fun k => laws_toLayout.f k w h cost ex ts) (w, h, cost, ex, ts.map convT) := by
 simp only [laws_toLayout.f]; exact Ev.bind (toIntS_ev cost (by omega)) (Ev.bind (toIntS_ev ex (by omega)) (Ev.bind (toTargetS_ev ts c3.1 c3.2) (Ev.now _)))
theorem eqLayout_self (w h : Int) (cost ex : List Int) (ts : List S49) (c1 : cost.length ≤ 1048576) (c2 : ex.length ≤ 1048576) (c3 : ts.length ≤ 1048576 ∧ ∀ j : Int, 0 ≤ j → j < ts.length → ((rd_T49 ts j).f0.length : Int) ≤ 1048576) :
  Ev (fun k => laws_eqLayout.f k w h cost ex ts w h cost ex ts) true := by
 simp only [laws_eqLayout.f]; exact ev_pos (by trivial) (ev_pos (by trivial) (Ev.bind (eqIntS_self cost (by omega)) (ev_pos (by trivial) (Ev.bind (eqIntS_self ex (by omega)) (ev_pos (by trivial) (Ev.bind (eqTargetS_self ts c3.1 c3.2) (ev_pos (by trivial) (Ev.now _))))))))

open Classical in
noncomputable def allB (S : Int → Prop) (i n : Int) : Bool := decide (∀ j : Int, i ≤ j → j < n → S j)
open Classical in
theorem allB_end {S : Int → Prop} {i n : Int} (h : ¬ i < n) : allB S i n = true := by unfold allB; exact decide_eq_true (fun j a b => by omega)
open Classical in
theorem allB_no {S : Int → Prop} {i n : Int} (h0 : i < n) (h : ¬ S i) : allB S i n = false := by unfold allB; exact decide_eq_false (fun q => h (q i (by omega) h0))
open Classical in
theorem allB_yes {S : Int → Prop} {i n : Int} (h : S i) : allB S i n = allB S (i + 1) n := by
 unfold allB; rw [decide_eq_decide]; refine ⟨fun q j a b => q j (by omega) b, fun q j a b => ?_⟩
 by_cases e : j = i
 ·subst e; exact h
 ·exact q j (by omega) b
open Classical in
theorem allB_iff {S : Int → Prop} {i n : Int} : allB S i n = true ↔ ∀ j : Int, i ≤ j → j < n → S j := by unfold allB; exact decide_eq_true_iff
theorem cmp_ge : ∀ x y : List UInt8, decide (0 ≤ Lib.compareBytes x y) = !Op.bytesLess x y
 | [], [] => by simp [Lib.compareBytes, Op.bytesLess]
 | [], _ :: _ => by simp [Lib.compareBytes, Op.bytesLess]
 | _ :: _, [] => by simp [Lib.compareBytes, Op.bytesLess]
 | a :: x, b :: y => by
  rw [Lib.compareBytes, Op.bytesLess]
  by_cases h1 : a < b
  ·simp [h1]
  ·rw [if_neg h1]
   by_cases h2 : b < a
   ·rw [if_pos h2]; have : (a == b) = false := by
     rw [beq_eq_false_iff_ne]; intro e; subst e; exact h1 h2
    simp [h1, this]
   ·rw [if_neg h2, cmp_ge x y]; have : a = b := by
     have h1' : ¬ a.toNat < b.toNat := fun h => h1 (UInt8.lt_iff_toNat_lt.2 h)
     have h2' : ¬ b.toNat < a.toNat := fun h => h2 (UInt8.lt_iff_toNat_lt.2 h)
     exact UInt8.toNat_inj.1 (by omega)
    simp [h1, this]

theorem l1point_eq (v : Int) : spec_l1point.f v = some (decide (0 ≤ v ∧ v ≤ 1114111 ∧ (v < 55296 ∨ v > 57343))) := by
 unfold spec_l1point.f
 by_cases h1 : v ≥ 0
 ·rw [if_pos h1]
  by_cases h2 : v ≤ 1114111
  ·rw [if_pos h2]
   by_cases h3 : v < 55296
   ·rw [if_pos h3, decide_eq_true (by omega)]
   ·rw [if_neg h3]; congr 1; rw [decide_eq_decide]; omega
  ·rw [if_neg h2, decide_eq_false (by omega)]
 ·rw [if_neg h1, decide_eq_false (by omega)]
def ulen (v : Int) : Int := if v < 128 then 1 else if v < 2048 then 2 else if v < 65536 then 3 else 4
theorem l1utf8_len (v : Int) : ∃ u, spec_l1utf8.f v = some u ∧ (u.length : Int) = ulen v := by
 unfold spec_l1utf8.f ulen
 by_cases h1 : v < 128
 ·rw [if_pos h1, if_pos h1]; exact ⟨_, rfl, rfl⟩
 rw [if_neg h1, if_neg h1]
 by_cases h2 : v < 2048
 ·rw [if_pos h2, if_pos h2]; exact ⟨_, rfl, rfl⟩
 rw [if_neg h2, if_neg h2]
 by_cases h3 : v < 65536
 ·rw [if_pos h3, if_pos h3]; exact ⟨_, rfl, rfl⟩
 rw [if_neg h3, if_neg h3]; exact ⟨_, rfl, rfl⟩
theorem l1char_end (l : List Int) (i n v j : Int) (hj : ¬ j < n) : Ev (fun k => spec_l1char.l0 k l i n v j) (if (0 ≤ v ∧ v ≤ 1114111 ∧ (v < 55296 ∨ v > 57343)) ∧ ulen v = n then (n, v) else (0, 0)) := by
 refine Ev.step (fun _ => rfl) ?_; simp only [spec_l1char.l0]; refine ev_neg hj ?_; rw [l1point_eq]; refine ev_letv (ev_ite (fun e => ?_) (fun e => ?_))
 ·have e := of_decide_eq_true e; obtain ⟨u, hu, hl⟩ := l1utf8_len v; rw [hu]; refine ev_letv (ev_ite (fun f => ?_) (fun f => ?_))
  ·rw [if_pos ⟨e, by omega⟩]; exact Ev.now _
  ·rw [if_neg (fun h => f (by omega))]; exact Ev.now _
 ·have e := of_decide_eq_false (Bool.eq_false_iff.2 e); rw [if_neg (fun h => e h.1)]; exact Ev.now _
theorem l1char_bad (l : List Int) (hb : Bytes l) (i n v j : Int) (h0 : 0 ≤ i) (j0 : 0 ≤ j) (hj : j < n) (hi : i + j < l.length) (hl : l.length ≤ 9000000000) (hc : rd l (i + j) / 64 ≠ 2) : Ev (fun k => spec_l1char.l0 k l i n v j) (0, 0) := by
 have hr := hb (i + j) (by omega) hi; refine Ev.step (fun _ => rfl) ?_; simp only [spec_l1char.l0]; simp (disch := omega) only [wrap64_id]; refine ev_pos hj (ev_pos (by omega) (ev_pos (by omega) (ev_ite (fun e => Ev.now _) (fun e => ?_)))); exact ev_pos (by omega) (Ev.now _)
theorem l1char_go {R : Int × Int} (l : List Int) (hb : Bytes l) (i n v j : Int) (h0 : 0 ≤ i) (j0 : 0 ≤ j) (hj : j < n) (hi : i + j < l.length) (hl : l.length ≤ 9000000000) (hc : rd l (i + j) / 64 = 2) (v0 : 0 ≤ v) (v1 : v ≤ 99999999)
  (h : Ev (fun k => spec_l1char.l0 k l i n (v * 64 + rd l (i + j) % 64) (j + 1)) R) (hn : n ≤ 10) : Ev (fun k => spec_l1char.l0 k l i n v j) R := by
 have hr := hb (i + j) (by omega) hi; refine Ev.step (fun _ => rfl) ?_; simp only [spec_l1char.l0]; simp (disch := omega) only [wrap64_id]; refine ev_pos hj (ev_pos (by omega) (ev_pos (by omega) (ev_neg (by omega) (ev_neg (by omega) ?_)))); rw [show v * 64 + rd l (i + j) - 128 = v * 64 + rd l (i + j) % 64 by omega]; exact h
theorem spec_l1char_ev (l : List Int) (hb : Bytes l) (hl : l.length ≤ 9000000000) (i : Int) (h0 : 0 ≤ i) (h1 : i < l.length) : Ev (fun k => spec_l1char.f k l i) (chr l i) := by
 rw [chr_eq hb h0 h1]; have r0 := hb i h0 h1; simp only [spec_l1char.f]; simp (disch := omega) only [wrap64_id]; refine ev_pos h0 (ev_pos h1 ?_); unfold chrZ; refine ev_ite (fun c0 => ?_) (fun c0 => ?_)
 ·rw [if_pos c0]; exact Ev.now _
 rw [if_neg c0]; have three : ∀ n v R, (n = 0 ∨ i + n > l.length → Ev (fun _ => some (0, 0)) R) → (¬ (n = 0 ∨ i + n > l.length) → Ev (fun k => spec_l1char.l0 k l i n v 1) R) → 0 ≤ n → n ≤ 4 → Ev (fun k => spec_l1char.j2 k l i n v) R := by
  intro n v R hA hB n0 n4; have ja : (n = 0 ∨ i + n > l.length) → Ev (fun k => spec_l1char.j3 k l i n v true) R := by
   intro h; refine Ev.step (fun _ => rfl) ?_; simp only [spec_l1char.j3]; exact ev_pos (by trivial) (hA h)
  refine Ev.step (fun _ => rfl) ?_; simp only [spec_l1char.j2]; simp (disch := omega) only [wrap64_id]; refine ev_ite (fun c => ja (.inl c)) (fun c => ?_)
  by_cases d : i + n > l.length
  ·rw [decide_eq_true d]; exact ja (.inr d)
  ·rw [decide_eq_false d]; refine Ev.step (fun _ => rfl) ?_; simp only [spec_l1char.j3]; exact ev_neg (by simp) (hB (by omega))
 refine ev_ite (fun c1 => ?_) (fun c1 => ?_)
 ·by_cases c2 : rd l i < 224
  ·rw [decide_eq_true c2]; refine Ev.step (fun _ => rfl) ?_; simp only [spec_l1char.j0]; refine ev_pos (by trivial) ?_; simp (disch := omega) only [wrap64_id]; refine three 2 _ _ (fun h => ?_) (fun h => ?_) (by omega) (by omega)
   ·rw [if_neg (by omega), if_neg (by omega), if_neg (by omega)]; exact Ev.now _
   ·by_cases d : rd l (i + 1) / 64 = 2
    ·rw [if_pos (by omega)]; refine l1char_go l hb i 2 _ 1 h0 (by omega) (by omega) (by omega) hl d (by omega) (by omega) ?_ (by omega); have := l1char_end l i 2 ((rd l i - 192) * 64 + rd l (i + 1) % 64) (1 + 1) (by omega); rw [show (rd l i - 192) * 64 + rd l (i + 1) % 64 = rd l i % 32 * 64 + rd l (i + 1) % 64 by omega] at this ⊢
     by_cases q : rd l i % 32 * 64 + rd l (i + 1) % 64 ≥ 128
     ·rw [if_pos q]
      rwa [if_pos ⟨by omega, by unfold ulen; rw [if_neg (by omega), if_pos (by omega)]⟩] at this
     ·rw [if_neg q]
      rwa [if_neg (fun h => by have := h.2; unfold ulen at this; rw [if_pos (by omega)] at this; omega)] at this
    ·rw [if_neg (by omega), if_neg (by omega), if_neg (by omega)]; exact l1char_bad l hb i 2 _ 1 h0 (by omega) (by omega) (by omega) hl d
  ·rw [decide_eq_false c2]; refine Ev.step (fun _ => rfl) ?_; simp only [spec_l1char.j0]; refine ev_neg (by simp) (ev_pos (by omega) ?_)
   by_cases c3 : rd l i < 240
   ·rw [decide_eq_true c3]; refine Ev.step (fun _ => rfl) ?_; simp only [spec_l1char.j1]; refine ev_pos (by trivial) ?_; simp (disch := omega) only [wrap64_id]; refine three 3 _ _ (fun h => ?_) (fun h => ?_) (by omega) (by omega)
    ·rw [if_neg (by omega), if_neg (by omega), if_neg (by omega)]; exact Ev.now _
    ·rw [if_neg (by omega)]
     by_cases d : rd l (i + 1) / 64 = 2
     ·refine l1char_go l hb i 3 _ 1 h0 (by omega) (by omega) (by omega) hl d (by omega) (by omega) ?_ (by omega); rw [show (1 : Int) + 1 = 2 by omega]
      by_cases d2 : rd l (i + 2) / 64 = 2
      ·rw [if_pos (by omega)]; refine l1char_go l hb i 3 _ 2 h0 (by omega) (by omega) (by omega) hl d2 (by omega) (by omega) ?_ (by omega); have := l1char_end l i 3 (((rd l i - 224) * 64 + rd l (i + 1) % 64) * 64 + rd l (i + 2) % 64) (2 + 1) (by omega); rw [show ((rd l i - 224) * 64 + rd l (i + 1) % 64) * 64 + rd l (i + 2) % 64 = rd l i % 16 * 4096 + rd l (i + 1) % 64 * 64 + rd l (i + 2) % 64 by omega] at this ⊢
       by_cases q : rd l i % 16 * 4096 + rd l (i + 1) % 64 * 64 + rd l (i + 2) % 64 ≥ 2048 ∧ (rd l i % 16 * 4096 + rd l (i + 1) % 64 * 64 + rd l (i + 2) % 64 < 55296 ∨ 57344 ≤ rd l i % 16 * 4096 + rd l (i + 1) % 64 * 64 + rd l (i + 2) % 64)
       ·rw [if_pos q]
        rwa [if_pos ⟨by omega, by unfold ulen; rw [if_neg (by omega), if_neg (by omega), if_pos (by omega)]⟩] at this
       ·rw [if_neg q]
        rwa [if_neg (fun h => by have h2 := h.2; have h1 := h.1; unfold ulen at h2; split at h2; omega; split at h2 <;> omega)] at this
      ·rw [if_neg (by omega), if_neg (by omega)]; exact l1char_bad l hb i 3 _ 2 h0 (by omega) (by omega) (by omega) hl d2
     ·rw [if_neg (by omega), if_neg (by omega)]; exact l1char_bad l hb i 3 _ 1 h0 (by omega) (by omega) (by omega) hl d
   ·rw [decide_eq_false c3]; refine Ev.step (fun _ => rfl) ?_; simp only [spec_l1char.j1]; refine ev_neg (by simp) (ev_pos (by omega) (ev_ite (fun c4 => ?_) (fun c4 => ?_)))
    ·simp (disch := omega) only [wrap64_id]; rw [if_neg (by omega), if_neg (by omega)]; refine three 4 _ _ (fun h => ?_) (fun h => ?_) (by omega) (by omega)
     ·rw [if_neg (by omega)]; exact Ev.now _
     ·by_cases d : rd l (i + 1) / 64 = 2
      ·refine l1char_go l hb i 4 _ 1 h0 (by omega) (by omega) (by omega) hl d (by omega) (by omega) ?_ (by omega); rw [show (1 : Int) + 1 = 2 by omega]
       by_cases d2 : rd l (i + 2) / 64 = 2
       ·refine l1char_go l hb i 4 _ 2 h0 (by omega) (by omega) (by omega) hl d2 (by omega) (by omega) ?_ (by omega); rw [show (2 : Int) + 1 = 3 by omega]
        by_cases d3 : rd l (i + 3) / 64 = 2
        ·rw [if_pos (by omega)]; refine l1char_go l hb i 4 _ 3 h0 (by omega) (by omega) (by omega) hl d3 (by omega) (by omega) ?_ (by omega); have := l1char_end l i 4 ((((rd l i - 240) * 64 + rd l (i + 1) % 64) * 64 + rd l (i + 2) % 64) * 64 + rd l (i + 3) % 64) (3 + 1) (by omega); rw [show (((rd l i - 240) * 64 + rd l (i + 1) % 64) * 64 + rd l (i + 2) % 64) * 64 + rd l (i + 3) % 64 = rd l i % 8 * 262144 + rd l (i + 1) % 64 * 4096 + rd l (i + 2) % 64 * 64 + rd l (i + 3) % 64 by omega] at this ⊢
         by_cases q : rd l i % 8 * 262144 + rd l (i + 1) % 64 * 4096 + rd l (i + 2) % 64 * 64 + rd l (i + 3) % 64 ≥ 65536 ∧ rd l i % 8 * 262144 + rd l (i + 1) % 64 * 4096 + rd l (i + 2) % 64 * 64 + rd l (i + 3) % 64 ≤ 1114111
         ·rw [if_pos q]
          rwa [if_pos ⟨by omega, by unfold ulen; rw [if_neg (by omega), if_neg (by omega), if_neg (by omega)]⟩] at this
         ·rw [if_neg q]
          rwa [if_neg (fun h => by have h2 := h.2; have h1 := h.1; unfold ulen at h2; split at h2; omega; split at h2; omega; split at h2 <;> omega)] at this
        ·rw [if_neg (by omega)]; exact l1char_bad l hb i 4 _ 3 h0 (by omega) (by omega) (by omega) hl d3
       ·rw [if_neg (by omega)]; exact l1char_bad l hb i 4 _ 2 h0 (by omega) (by omega) (by omega) hl d2
      ·rw [if_neg (by omega)]; exact l1char_bad l hb i 4 _ 1 h0 (by omega) (by omega) (by omega) hl d
    ·rw [if_neg (by omega), if_neg (by omega), if_neg (by omega)]; exact three 0 0 _ (fun h => Ev.now _) (fun h => absurd (.inl rfl) h) (by omega) (by omega)
 ·refine Ev.step (fun _ => rfl) ?_; simp only [spec_l1char.j0]; refine ev_neg (by simp) (ev_neg (by omega) ?_); refine Ev.step (fun _ => rfl) ?_; simp only [spec_l1char.j1]; refine ev_neg (by simp) (ev_neg (by omega) ?_); rw [if_neg (by omega), if_neg (by omega), if_neg (by omega)]; exact three 0 0 _ (fun h => Ev.now _) (fun h => absurd (.inl rfl) h) (by omega) (by omega)

theorem DecodeRune_at {l : List Int} (hb : Bytes l) {i : Int} (h0 : 0 ≤ i) (h1 : i < l.length) : utf8_DecodeRune.f (l.drop i.toNat) = some (decI (l.drop i.toNat)) := by
 unfold utf8_DecodeRune.f; rw [if_neg (by rw [List.length_drop]; omega), if_pos (bytesB_of (hb.drop _))]
theorem chr_pos {l : List Int} (hb : Bytes l) {i : Int} (h0 : 0 ≤ i) (h1 : i < l.length) (h : ¬ (chr l i).1 = 0) : 1 ≤ (chr l i).1 ∧ (chr l i).1 ≤ 4 ∧ i + (chr l i).1 ≤ l.length := by
 rw [chr_eq hb h0 h1] at h ⊢; unfold chrZ at h ⊢
 split at h
 ·rename_i c; rw [if_pos c]; simp only; omega
 ·rename_i c; rw [if_neg c]
  split at h
  ·rename_i c; rw [if_pos c]
   split at h
   ·rename_i c2; rw [if_pos c2]; simp only; omega
   ·simp at h
  ·rename_i c; rw [if_neg c]
   split at h
   ·rename_i c; rw [if_pos c]
    split at h
    ·rename_i c2; rw [if_pos c2]; simp only; omega
    ·simp at h
   ·rename_i c; rw [if_neg c]
    split at h
    ·rename_i c; rw [if_pos c]
     split at h
     ·rename_i c2; rw [if_pos c2]; simp only; omega
     ·simp at h
    ·simp at h

def checkFrom (l : List Int) : Nat → Int → Int × Int
 | 0, _ => (0, 0)
 | d + 1, i => if i < l.length then (if (chr l i).1 = 0 then (2, i) else checkFrom l d (i + (chr l i).1)) else (0, 0)
def checkRes (l : List Int) : Int × Int := checkFrom l (l.length + 1) 0
theorem spec_check_loop (l : List Int) (hb : Bytes l) (hl : l.length ≤ 9000000000) (d : Nat) : ∀ i : Int, 0 ≤ i → i ≤ l.length → (l.length : Int) - i < d → Ev (fun k => spec_CheckText.l0 k l i) (checkFrom l d i) := by
 induction d with
 | zero => intro i h0 h1 hd; omega
 | succ d ih =>
  intro i h0 h1 hd; refine Ev.step (fun _ => rfl) ?_; simp only [spec_CheckText.l0, checkFrom]; refine ev_ite (fun c => ?_) (fun c => ?_)
  ·rw [if_pos c]; refine Ev.bind (spec_l1char_ev l hb hl i h0 c) (ev_ite (fun e => ?_) (fun e => ?_))
   ·rw [if_pos e]; exact Ev.now _
   ·have := chr_pos hb h0 c e; rw [if_neg e, wrap64_id (by omega) (by omega)]; exact ih _ (by omega) (by omega) (by omega)
  ·rw [if_neg c]; exact Ev.now _
theorem spec_CheckText_ev (l : List Int) (hb : Bytes l) (hl : l.length ≤ 9000000000) : Ev (fun k => spec_CheckText.f k l) (checkRes l) := by
 simp only [spec_CheckText.f]; exact spec_check_loop l hb hl (l.length + 1) 0 (by omega) (by omega) (by omega)

theorem impl_check_loop (l : List Int) (hb : Bytes l) (hl : l.length ≤ 9000000000) (d : Nat) : ∀ i : Int, 0 ≤ i → i ≤ l.length → (l.length : Int) - i < d → Ev (fun k => impl_CheckText.l0 k l i) (checkFrom l d i) := by
 induction d with
 | zero => intro i h0 h1 hd; omega
 | succ d ih =>
  intro i h0 h1 hd; refine Ev.step (fun _ => rfl) ?_; simp only [impl_CheckText.l0, checkFrom]; refine ev_ite (fun c => ?_) (fun c => ?_)
  ·rw [if_pos c]; refine ev_pos h0 (ev_pos h1 ?_); rw [DecodeRune_at hb h0 c]; refine ev_letv ?_; have hgo : ¬ ((decI (l.drop i.toNat)).1 = 65533 ∧ (decI (l.drop i.toNat)).2 ≤ 1) → Ev (fun k => impl_CheckText.l0 k l (wrap64 (i + (decI (l.drop i.toNat)).2))) (if (chr l i).1 = 0 then (2, i) else checkFrom l d (i + (chr l i).1)) := by
    intro hn; have e : (chr l i).1 = (decI (l.drop i.toNat)).2 := by unfold chr; rw [if_neg hn]
    have hz : ¬ (chr l i).1 = 0 := by
     intro hz; have hq := chr_eq hb h0 c; rw [decI_drop h0 c] at hn; have hw := chrZ_nat (l.length - i.toNat) (rd l i).toNat (rd l (i + 1)).toNat (rd l (i + 2)).toNat (rd l (i + 3)).toNat; rw [if_neg hn] at hw; rw [e, decI_drop h0 c] at hz; simp only at hz; unfold Lib.decodeN at hz; repeat' split at hz
     all_goals simp at hz
    have := chr_pos hb h0 c hz; rw [if_neg hz, ← e, wrap64_id (by omega) (by omega)]; exact ih _ (by omega) (by omega) (by omega)
   refine ev_ite (fun e1 => ev_ite (fun e2 => ?_) (fun e2 => hgo (fun h => e2 h.2))) (fun e1 => hgo (fun h => e1 h.1)); have e : (chr l i).1 = 0 := by unfold chr; rw [if_pos ⟨e1, e2⟩]
   rw [if_pos e]; exact Ev.now _
  ·rw [if_neg c]; exact Ev.now _
theorem impl_CheckText_ev (l : List Int) (hb : Bytes l) (hl : l.length ≤ 9000000000) : Ev (fun k => impl_CheckText.f k l) (checkRes l) := by
 simp only [impl_CheckText.f]; exact impl_check_loop l hb hl (l.length + 1) 0 (by omega) (by omega) (by omega)

structure TOK1 (ts : List S49) (cells i : Int) : Prop where
 n1 : 1 ≤ ((rd_T49 ts i).f0.length : Int)
 n2 : ((rd_T49 ts i).f0.length : Int) ≤ 60
 good : (checkRes (rd_T49 ts i).f0).1 = 0
 k0 : 0 ≤ (rd_T49 ts i).f1
 k1 : (rd_T49 ts i).f1 ≤ 1
 c0 : 0 ≤ (rd_T49 ts i).f2
 c1 : (rd_T49 ts i).f2 < cells
 order : 0 < i → Op.bytesLess (Lib.bytesOf (rd_T49 ts (i - 1)).f0) (Lib.bytesOf (rd_T49 ts i).f0) = true
 once : ∀ j : Int, 0 ≤ j → j < i → (rd_T49 ts j).f2 ≠ (rd_T49 ts i).f2
noncomputable def tok (ts : List S49) (cells : Int) : Bool := decide ((ts.length : Int) ≤ 30) && allB (TOK1 ts cells) 0 ts.length
theorem tok_iff {ts : List S49} {cells : Int} : tok ts cells = true ↔ (ts.length : Int) ≤ 30 ∧ ∀ i : Int, 0 ≤ i → i < ts.length → TOK1 ts cells i := by
 unfold tok; rw [Bool.and_eq_true, decide_eq_true_eq, allB_iff]
def Names (ts : List S49) : Prop := ∀ i : Int, 0 ≤ i → i < ts.length → Bytes (rd_T49 ts i).f0 ∧ ((rd_T49 ts i).f0.length : Int) ≤ 1048576
theorem spec_l1good_ev (l : List Int) (hb : Bytes l) (hl : (l.length : Int) ≤ 1048576) : Ev (fun k => spec_l1good.f k l) ((checkRes l).1 == 0) := by
 simp only [spec_l1good.f]; exact Ev.bind (spec_CheckText_ev l hb (by omega)) (Ev.now _)
theorem impl_wellFormed_ev (l : List Int) (hb : Bytes l) (hl : (l.length : Int) ≤ 1048576) : Ev (fun k => impl_wellFormed.f k l) ((checkRes l).1 == 0) := by
 simp only [impl_wellFormed.f]; exact Ev.bind (impl_CheckText_ev l hb (by omega)) (Ev.now _)
theorem l4targets_loop (ts : List S49) (cells : Int) (hl : (ts.length : Int) ≤ 30) (nb : Names ts) (d : Nat) : ∀ i : Int, 0 ≤ i → (ts.length : Int) - i = d → Ev (fun k => spec_l4targetsOK.l0 k ts cells i) (allB (TOK1 ts cells) i ts.length) := by
 induction d with
 | zero =>
  intro i h0 hd; refine Ev.step (fun _ => rfl) ?_; simp only [spec_l4targetsOK.l0]; refine ev_neg (by omega) ?_; rw [allB_end (by omega)]; exact Ev.now _
 | succ d ih =>
  intro i h0 hd; have hi : i < ts.length := by omega
  have bad : ¬ TOK1 ts cells i → ∀ a b c, Ev (fun k => spec_l4targetsOK.j1 k ts cells i true a b c) (allB (TOK1 ts cells) i ts.length) := by
   intro h a b c; rw [allB_no hi h]; refine Ev.step (fun _ => rfl) ?_; simp only [spec_l4targetsOK.j1]; exact ev_pos (by trivial) (Ev.now _)
  have dup : ∀ (e : Nat) (j : Int), 0 ≤ j → i - j = e → (∀ q : Int, 0 ≤ q → q < j → (rd_T49 ts q).f2 ≠ (rd_T49 ts i).f2) → ((∀ q : Int, 0 ≤ q → q < i → (rd_T49 ts q).f2 ≠ (rd_T49 ts i).f2) → TOK1 ts cells i) →
    ∀ a b, Ev (fun k => spec_l4targetsOK.l1 k ts cells i j a b (rd_T49 ts i).f2) (allB (TOK1 ts cells) i ts.length) := by
   intro e
   induction e with
   | zero =>
    intro j j0 he hq H a b; refine Ev.step (fun _ => rfl) ?_; simp only [spec_l4targetsOK.l1]; refine ev_neg (by omega) ?_; rw [wrap64_id (by omega) (by omega), allB_yes (H (fun q a b => hq q a (by omega)))]; exact ih _ (by omega) (by omega)
   | succ e ihe =>
    intro j j0 he hq H a b; refine Ev.step (fun _ => rfl) ?_; simp only [spec_l4targetsOK.l1]; refine ev_pos (by omega) (ev_pos (by omega) (ev_pos (by omega) (ev_ite (fun c => ?_) (fun c => ?_))))
    ·rw [allB_no hi (fun t => t.once j j0 (by omega) c)]; exact Ev.now _
    ·rw [wrap64_id (by omega) (by omega)]; refine ihe (j + 1) (by omega) (by omega) (fun q q0 q1 => ?_) H a b
     by_cases h : q = j
     ·subst h; exact c
     ·exact hq q q0 (by omega)
  have j2t : ¬ TOK1 ts cells i → ∀ a b c, Ev (fun k => spec_l4targetsOK.j2 k ts cells i true a b c) (allB (TOK1 ts cells) i ts.length) := by
   intro h a b c; rw [allB_no hi h]; refine Ev.step (fun _ => rfl) ?_; simp only [spec_l4targetsOK.j2]; exact ev_pos (by trivial) (Ev.now _)
  have j2f : ((∀ q : Int, 0 ≤ q → q < i → (rd_T49 ts q).f2 ≠ (rd_T49 ts i).f2) → TOK1 ts cells i) → ∀ a b, Ev (fun k => spec_l4targetsOK.j2 k ts cells i false a b (rd_T49 ts i).f2) (allB (TOK1 ts cells) i ts.length) := by
   intro h a b; refine Ev.step (fun _ => rfl) ?_; simp only [spec_l4targetsOK.j2]; exact ev_neg (by simp) (dup i.toNat 0 (by omega) (by omega) (fun q q0 q1 => by omega) h a b)
  have j1f : ((0 < i → Op.bytesLess (Lib.bytesOf (rd_T49 ts (i - 1)).f0) (Lib.bytesOf (rd_T49 ts i).f0) = true) → (∀ q : Int, 0 ≤ q → q < i → (rd_T49 ts q).f2 ≠ (rd_T49 ts i).f2) → TOK1 ts cells i) →
    ∀ b, Ev (fun k => spec_l4targetsOK.j1 k ts cells i false (rd_T49 ts i).f0 b (rd_T49 ts i).f2) (allB (TOK1 ts cells) i ts.length) := by
   intro H b; refine Ev.step (fun _ => rfl) ?_; simp only [spec_l4targetsOK.j1]; refine ev_neg (by simp) (ev_ite (fun c => ?_) (fun c => ?_))
   ·rw [wrap64_id (by omega) (by omega)]; refine ev_pos (by omega) (ev_pos (by omega) ?_); rw [Lib.strOfNums_toList, Lib.strOfNums_toList]
    by_cases q : Op.bytesLess (Lib.bytesOf (rd_T49 ts (i - 1)).f0) (Lib.bytesOf (rd_T49 ts i).f0) = true
    ·rw [q]; exact j2f (H (fun _ => q)) _ _
    ·rw [Bool.eq_false_iff.2 q]; exact j2t (fun t => q (t.order c)) _ _ _
   ·exact j2f (H (fun h => absurd h c)) _ _
  obtain ⟨nb1, nb2⟩ := nb i h0 hi; refine Ev.step (fun _ => rfl) ?_; simp only [spec_l4targetsOK.l0]; refine ev_pos hi (ev_pos h0 (ev_ite (fun e => bad (fun t => by have := t.n1; omega) _ _ _) (fun e1 => ev_ite (fun e => bad (fun t => by have := t.n2; omega) _ _ _) (fun e2 => Ev.bind (spec_l1good_ev _ nb1 nb2) (ev_ite (fun e3 => ?_) (fun e3 => bad (fun t => e3 (by rw [beq_iff_eq]; exact t.good)) _ _ _)))))); rw [beq_iff_eq] at e3; refine ev_ite (fun e => bad (fun t => by have := t.k0; omega) _ _ _) (fun e4 => ev_ite (fun e => bad (fun t => by have := t.k1; omega) _ _ _) (fun e5 => ev_ite (fun e => bad (fun t => by have := t.c0; omega) _ _ _) (fun e6 => ?_)))
  by_cases e7 : (rd_T49 ts i).f2 ≥ cells
  ·rw [decide_eq_true e7]; exact bad (fun t => by have := t.c1; omega) _ _ _
  ·rw [decide_eq_false e7]; exact j1f (fun o u => ⟨by omega, by omega, e3, by omega, by omega, by omega, by omega, o, u⟩) _
theorem spec_l4targetsOK_ev (ts : List S49) (cells : Int) (nb : Names ts) : Ev (fun k => spec_l4targetsOK.f k ts cells) (tok ts cells) := by
 simp only [spec_l4targetsOK.f]; unfold tok; refine ev_ite (fun c => ?_) (fun c => ?_)
 ·rw [decide_eq_false (by omega)]; exact Ev.now _
 ·rw [decide_eq_true (by omega), Bool.true_and]; exact l4targets_loop ts cells (by omega) nb ts.length 0 (by omega) (by omega)
theorem bad_ev (n : List Int) (kd c cells : Int) (hb : Bytes n) (hn : (n.length : Int) ≤ 1048576) : (1 ≤ (n.length : Int) ∧ (n.length : Int) ≤ 60 ∧ (checkRes n).1 = 0 ∧ 0 ≤ kd ∧ kd ≤ 1 ∧ 0 ≤ c ∧ c < cells → Ev (fun k => impl_targetsOk.bad k cells n kd c) false) ∧
  (¬ (1 ≤ (n.length : Int) ∧ (n.length : Int) ≤ 60 ∧ (checkRes n).1 = 0 ∧ 0 ≤ kd ∧ kd ≤ 1 ∧ 0 ≤ c ∧ c < cells) → Ev (fun k => impl_targetsOk.bad k cells n kd c) true) := by
 unfold impl_targetsOk.bad; refine ⟨fun h => ?_, fun h => ?_⟩
 ·refine ev_neg (by omega) (ev_neg (by omega) (Ev.bind (impl_wellFormed_ev n hb hn) ?_)); have hg : ((checkRes n).1 == 0) = true := by rw [beq_iff_eq]; exact h.2.2.1
  have hk : kd = 0 ∨ kd = 1 := by omega
  have h1 : decide (c < 0) = false := decide_eq_false (by omega); have h2 : decide (c ≥ cells) = false := decide_eq_false (by omega); rw [hg, h1, h2]
  rcases hk with rfl | rfl <;> exact Ev.now _
 ·refine ev_ite (fun _ => Ev.now _) (fun c1 => ev_ite (fun _ => Ev.now _) (fun c2 => Ev.bind (impl_wellFormed_ev n hb hn) ?_)); have : (!((checkRes n).1 == 0) || (!decide (kd = 0) && !decide (kd = 1)) || decide (c < 0) || decide (c ≥ cells)) = true := by
   rw [← Bool.not_eq_false]; intro q; simp only [Bool.or_eq_false_iff, Bool.not_eq_false', beq_iff_eq, decide_eq_false_iff_not, Bool.and_eq_false_iff, decide_eq_true_eq] at q; exact h ⟨by omega, by omega, q.1.1.1, by omega, by omega, by omega, by omega⟩
  rw [this]; exact Ev.now _
theorem targetsOk_loop (ts : List S49) (cells : Int) (nb : Names ts) (d : Nat) : ∀ (i : Int) (m : List (Int × Int)), 0 ≤ i → (ts.length : Int) - i = d → (∀ c : Int, (mget m c).isSome = true ↔ ∃ j : Int, 0 ≤ j ∧ j < i ∧ (rd_T49 ts j).f2 = c) →
  Ev (fun k => impl_targetsOk.l k ts cells i m) (allB (TOK1 ts cells) i ts.length) := by
 induction d with
 | zero =>
  intro i m h0 hd hm; refine Ev.step (fun _ => rfl) ?_; simp only [impl_targetsOk.l]; refine ev_neg (by omega) ?_; rw [allB_end (by omega)]; exact Ev.now _
 | succ d ih =>
  intro i m h0 hd hm; have hi : i < ts.length := by omega
  obtain ⟨nb1, nb2⟩ := nb i h0 hi; refine Ev.step (fun _ => rfl) ?_; simp only [impl_targetsOk.l]; refine ev_pos hi ?_; obtain ⟨b0, b1⟩ := bad_ev (rd_T49 ts i).f0 (rd_T49 ts i).f1 (rd_T49 ts i).f2 cells nb1 nb2
  by_cases F : 1 ≤ ((rd_T49 ts i).f0.length : Int) ∧ ((rd_T49 ts i).f0.length : Int) ≤ 60 ∧ (checkRes (rd_T49 ts i).f0).1 = 0 ∧ 0 ≤ (rd_T49 ts i).f1 ∧ (rd_T49 ts i).f1 ≤ 1 ∧ 0 ≤ (rd_T49 ts i).f2 ∧ (rd_T49 ts i).f2 < cells
  ·refine Ev.bind (b0 F) (ev_neg (by simp) ?_); have low : impl_targetsOk.low ts i (rd_T49 ts i).f0 = true ↔ ¬ (0 < i → Op.bytesLess (Lib.bytesOf (rd_T49 ts (i - 1)).f0) (Lib.bytesOf (rd_T49 ts i).f0) = true) := by
    unfold impl_targetsOk.low; rw [Bool.and_eq_true, decide_eq_true_eq]; have := cmp_ge (Lib.bytesOf (rd_T49 ts (i - 1)).f0) (Lib.bytesOf (rd_T49 ts i).f0); have e : decide (Lib.compareBytes (Lib.bytesOf (rd_T49 ts (i - 1)).f0) (Lib.bytesOf (rd_T49 ts i).f0) ≥ 0) = !Op.bytesLess (Lib.bytesOf (rd_T49 ts (i - 1)).f0) (Lib.bytesOf (rd_T49 ts i).f0) := this; rw [e, Bool.not_eq_true', Classical.not_imp]
    constructor
    ·exact fun h => ⟨h.1, by rw [h.2]; simp⟩
    ·exact fun h => ⟨h.1, Bool.eq_false_iff.2 h.2⟩
   refine ev_ite (fun c => ?_) (fun c => ?_)
   ·rw [allB_no hi (fun t => low.1 c t.order)]; exact Ev.now _
   have ord := Classical.not_not.1 (fun q => c (low.2 q)); refine ev_ite (fun c2 => ?_) (fun c2 => ?_)
   ·obtain ⟨j, j0, j1, e⟩ := (hm _).1 c2; rw [allB_no hi (fun t => t.once j j0 j1 e)]; exact Ev.now _
   ·have once : ∀ j : Int, 0 ≤ j → j < i → (rd_T49 ts j).f2 ≠ (rd_T49 ts i).f2 := fun j j0 j1 e => c2 ((hm _).2 ⟨j, j0, j1, e⟩)
    rw [allB_yes ⟨F.1, F.2.1, F.2.2.1, F.2.2.2.1, F.2.2.2.2.1, F.2.2.2.2.2.1, F.2.2.2.2.2.2, ord, once⟩]; refine ih (i + 1) _ (by omega) (by omega) (fun q => ?_); rw [mget_cons]
    by_cases e : (rd_T49 ts i).f2 = q
    ·rw [if_pos e]; exact ⟨fun _ => ⟨i, h0, by omega, e⟩, fun _ => rfl⟩
    ·rw [if_neg e, hm]
     exact ⟨fun ⟨j, a, b, g⟩ => ⟨j, a, by omega, g⟩, fun ⟨j, a, b, g⟩ => ⟨j, a, by
      by_cases ji : j = i
      ·subst ji; exact absurd g e
      ·omega, g⟩⟩
  ·refine Ev.bind (b1 F) (ev_pos (by trivial) ?_); rw [allB_no hi (fun t => F ⟨t.n1, t.n2, t.good, t.k0, t.k1, t.c0, t.c1⟩)]; exact Ev.now _
theorem impl_targetsOk_ev (ts : List S49) (cells : Int) (nb : Names ts) (hc : cells ≤ 4611686018427387904) : Ev (fun k => impl_targetsOk.f k ts cells) (tok ts cells) := by
 simp only [impl_targetsOk.f]; unfold tok; refine ev_ite (fun c => ?_) (fun c => ?_)
 ·rw [decide_eq_false (by omega)]; exact Ev.now _
 ·rw [decide_eq_true (by omega), Bool.true_and]; refine ev_pos hc (targetsOk_loop ts cells nb ts.length 0 [] (by omega) (by omega) (fun c => ?_)); rw [mget_nil]; exact ⟨fun h => by simp at h, fun ⟨j, a, b, _⟩ => by omega⟩

theorem names_of {ts : List S61} (hb : ∀ x ∈ ts, Bytes x.f0) (hm : ∀ j : Int, 0 ≤ j → j < ts.length → ((rd_T61 ts j).f0.length : Int) ≤ 1048576) : Names (ts.map convT) := by
 intro i i0 i1; rw [List.length_map] at i1; have e : rd_T49 (ts.map convT) i = convT (rd_T61 ts i) := getD_map convT i0 i1; rw [e]; exact ⟨hb _ (getD_mem i0 i1), hm i i0 i1⟩
theorem map_small {ts : List S61} (c : ts.length ≤ 1048576 ∧ ∀ j : Int, 0 ≤ j → j < ts.length → ((rd_T61 ts j).f0.length : Int) ≤ 1048576) : (ts.map convT).length ≤ 1048576 ∧ ∀ j : Int, 0 ≤ j → j < (ts.map convT).length → ((rd_T49 (ts.map convT) j).f0.length : Int) ≤ 1048576 := by
 rw [List.length_map]; refine ⟨c.1, fun j a b => ?_⟩; have e : rd_T49 (ts.map convT) j = convT (rd_T61 ts j) := getD_map convT a b; rw [e]; exact c.2 j a b

theorem l4to_aux (w h X Y : Int) (w1 : 1 ≤ w) (w2 : w ≤ 40) (h2 : h ≤ 40) (x0 : -1 ≤ X) (x1 : X ≤ w) (y0 : -1 ≤ Y) (y1 : Y ≤ 1700) :
  (if X < 0 then some (-1) else if X ≥ w then some (-1) else if Y < 0 then some (-1) else if Y ≥ h then some (-1) else some (wrap64 (wrap64 (Y * w) + X))) = some (if X < 0 ∨ w ≤ X ∨ Y < 0 ∨ h ≤ Y then -1 else Y * w + X) := by
 by_cases a : X < 0
 ·rw [if_pos a, if_pos (.inl a)]
 rw [if_neg a]
 by_cases b : X ≥ w
 ·rw [if_pos b, if_pos (.inr (.inl b))]
 rw [if_neg b]
 by_cases c : Y < 0
 ·rw [if_pos c, if_pos (.inr (.inr (.inl c)))]
 rw [if_neg c]
 by_cases d : Y ≥ h
 ·rw [if_pos d, if_pos (.inr (.inr (.inr d)))]
 rw [if_neg d, if_neg (by omega)]; have m0 : 0 ≤ Y * w := Int.mul_nonneg (by omega) (by omega); have m1 : Y * w ≤ 40 * 40 := Int.mul_le_mul (by omega) w2 (by omega) (by omega); rw [wrap64_id (x := Y * w) (by omega) (by omega), wrap64_id (by omega) (by omega)]
theorem spec_l4to_eq (w h c d : Int) (hs : sideIn w h c d) : spec_l4to.f w h c d = some (sideL w h c d) := by
 obtain ⟨w1, w2, h1, h2, c0, c1, d0, d1⟩ := hs; have m0 : 0 ≤ c % w := Int.emod_nonneg _ (by omega); have m1 : c % w < w := Int.emod_lt_of_pos _ (by omega); have q0 : 0 ≤ c / w := Int.ediv_nonneg c0 (by omega); have q1 : c / w ≤ c := Int.ediv_le_self _ c0; unfold spec_l4to.f sideL; rw [if_neg (by omega), tdiv_nn c0, tmod_nn c0]; have hd : d = 0 ∨ d = 1 ∨ d = 2 ∨ d = 3 := by omega
 rcases hd with rfl | rfl | rfl | rfl
 ·rw [if_pos rfl, wrap64_id (x := c / w) (by omega) (by omega), wrap64_id (x := c / w - 1) (by omega) (by omega)]; have := l4to_aux w h (c % w) (c / w - 1) w1 w2 h2 (by omega) (by omega) (by omega) (by omega); rw [this, show dxz 0 = 0 by rfl, show dyz 0 = -1 by rfl, Int.add_zero, show c / w + -1 = c / w - 1 by omega]
 ·rw [if_neg (by omega), if_pos rfl, wrap64_id (x := c / w) (by omega) (by omega), wrap64_id (x := c % w + 1) (by omega) (by omega)]; have := l4to_aux w h (c % w + 1) (c / w) w1 w2 h2 (by omega) (by omega) (by omega) (by omega); rw [this, show dxz 1 = 1 by rfl, show dyz 1 = 0 by rfl, Int.add_zero]
 ·rw [if_neg (by omega), if_neg (by omega), if_pos rfl, wrap64_id (x := c / w) (by omega) (by omega), wrap64_id (x := c / w + 1) (by omega) (by omega)]; have := l4to_aux w h (c % w) (c / w + 1) w1 w2 h2 (by omega) (by omega) (by omega) (by omega); rw [this, show dxz 2 = 0 by rfl, show dyz 2 = 1 by rfl, Int.add_zero]
 ·rw [if_neg (by omega), if_neg (by omega), if_neg (by omega), wrap64_id (x := c / w) (by omega) (by omega), wrap64_id (x := c % w - 1) (by omega) (by omega)]; have := l4to_aux w h (c % w - 1) (c / w) w1 w2 h2 (by omega) (by omega) (by omega) (by omega); rw [this, show dxz 3 = -1 by rfl, show dyz 3 = 0 by rfl, Int.add_zero, show c % w + -1 = c % w - 1 by omega]
theorem impl_side_eq (w h c d : Int) (hs : sideIn w h c d) : impl_side.f w h c d = some (sideL w h c d) := by
 unfold impl_side.f; rw [if_pos hs]
theorem sideL_lt {w h c d : Int} (hs : sideIn w h c d) : -1 ≤ sideL w h c d ∧ sideL w h c d < w * h := by
 obtain ⟨w1, w2, h1, h2, c0, c1, d0, d1⟩ := hs; have wh : 0 < w * h := Int.mul_pos (by omega) (by omega); unfold sideL
 split
 ·omega
 ·rename_i q; have a : 0 ≤ (c / w + dyz d) * w := Int.mul_nonneg (by omega) (by omega); have b : (c / w + dyz d) * w ≤ (h - 1) * w := Int.mul_le_mul_of_nonneg_right (by omega) (by omega); rw [Int.sub_mul, Int.one_mul, Int.mul_comm h w] at b
  omega

theorem wh_le {w h : Int} (w1 : 1 ≤ w) (w2 : w ≤ 40) (h1 : 1 ≤ h) (h2 : h ≤ 40) : 1 ≤ w * h ∧ w * h ≤ 1600 := by
 have a : 0 < w * h := Int.mul_pos (by omega) (by omega); have b : w * h ≤ 40 * 40 := Int.mul_le_mul w2 h2 (by omega) (by omega)
 omega
theorem sideOk_eq (x : Int) : impl_sideOk.f x = some (decide (1 ≤ x ∧ x ≤ 40)) := by
 unfold impl_sideOk.f
 by_cases a : x ≥ 1
 ·rw [if_pos a]; congr 1; rw [decide_eq_decide]; omega
 ·rw [if_neg a, decide_eq_false (by omega)]

theorem andNot_le {e f : Int} (e0 : 0 ≤ e) (e1 : e ≤ 9223372036854775807) (f0 : 0 ≤ f) (f1 : f ≤ 15) (h : Go.bits .andNot .i64 e f = 0) : e ≤ f := by
 have he : ((BitVec.ofInt 64 e).toNat : Int) = e := by rw [BitVec.toNat_ofInt]; omega
 have hf : ((BitVec.ofInt 64 f).toNat : Int) = f := by rw [BitVec.toNat_ofInt]; omega
 have hz : (BitVec.ofInt 64 e &&& ~~~BitVec.ofInt 64 f).toNat = 0 := by
  have lt := (BitVec.ofInt 64 e &&& ~~~BitVec.ofInt 64 f).isLt; have h' : IntKind.wrap .i64 (((BitVec.ofInt 64 e &&& ~~~BitVec.ofInt 64 f).toNat : Nat) : Int) = 0 := h; generalize (BitVec.ofInt 64 e &&& ~~~BitVec.ofInt 64 f).toNat = n at lt h'; unfold IntKind.wrap at h'; simp only [show IntKind.bits .i64 = 64 from rfl, show IntKind.signed .i64 = true from rfl, Bool.true_and, decide_eq_true_eq] at h'
  split at h' <;> omega
 have hb : BitVec.ofInt 64 e &&& ~~~BitVec.ofInt 64 f = 0#64 := BitVec.eq_of_toNat_eq hz; have hc : BitVec.ofInt 64 e &&& BitVec.ofInt 64 f = BitVec.ofInt 64 e := by
  generalize BitVec.ofInt 64 e = a at hb; generalize BitVec.ofInt 64 f = b at hb; apply BitVec.eq_of_getLsbD_eq; intro i hi; have q : (a &&& ~~~b).getLsbD i = (0#64).getLsbD i := by rw [hb]
  rw [BitVec.getLsbD_and, BitVec.getLsbD_not, BitVec.getLsbD_zero, decide_eq_true hi, Bool.true_and] at q; rw [BitVec.getLsbD_and]
  revert q
  cases a.getLsbD i <;> cases b.getLsbD i <;> simp
 have hd := congrArg BitVec.toNat hc; rw [BitVec.toNat_and] at hd; have hx : (BitVec.ofInt 64 e).toNat &&& (BitVec.ofInt 64 f).toNat ≤ (BitVec.ofInt 64 f).toNat := Nat.and_le_right
 omega
def fb (b0 b1 b2 b3 : Bool) : Int := (if b0 then 1 else 0) + (if b1 then 2 else 0) + (if b2 then 4 else 0) + (if b3 then 8 else 0)
theorem fb_le (b0 b1 b2 b3 : Bool) : 0 ≤ fb b0 b1 b2 b3 ∧ fb b0 b1 b2 b3 ≤ 15 := by cases b0 <;> cases b1 <;> cases b2 <;> cases b3 <;> decide
def bt (e d : Int) : Bool := if d = 0 then e % 2 == 1 else if d = 1 then e / 2 % 2 == 1 else if d = 2 then e / 2 / 2 % 2 == 1 else e / 2 / 2 / 2 % 2 == 1
theorem andNot16 : ∀ (e : Fin 16) (b0 b1 b2 b3 : Bool), Go.bits .andNot .i64 (e.val : Int) (fb b0 b1 b2 b3) = 0 ↔ ((bt e.val 0 = true → b0 = true) ∧ (bt e.val 1 = true → b1 = true) ∧ (bt e.val 2 = true → b2 = true) ∧ (bt e.val 3 = true → b3 = true)) := by decide
theorem andNot_iff {e : Int} (b0 b1 b2 b3 : Bool) (e0 : 0 ≤ e) (e1 : e ≤ 9223372036854775807) : Go.bits .andNot .i64 e (fb b0 b1 b2 b3) = 0 ↔ (e ≤ 15 ∧ (bt e 0 = true → b0 = true) ∧ (bt e 1 = true → b1 = true) ∧ (bt e 2 = true → b2 = true) ∧ (bt e 3 = true → b3 = true)) := by
 have b := fb_le b0 b1 b2 b3; have key : e ≤ 15 → (Go.bits .andNot .i64 e (fb b0 b1 b2 b3) = 0 ↔ ((bt e 0 = true → b0 = true) ∧ (bt e 1 = true → b1 = true) ∧ (bt e 2 = true → b2 = true) ∧ (bt e 3 = true → b3 = true))) := by
  intro l; have := andNot16 ⟨e.toNat, by omega⟩ b0 b1 b2 b3; rw [show (((⟨e.toNat, by omega⟩ : Fin 16).val : Nat) : Int) = e from by show ((e.toNat : Nat) : Int) = e; omega] at this; exact this
 constructor
 ·intro h; have l := andNot_le e0 e1 b.1 b.2 h; exact ⟨by omega, (key (by omega)).1 h⟩
 ·exact fun h => (key h.1).2 h.2

def wayB (w h : Int) (cost : List Int) (c d : Int) : Bool := decide (0 ≤ sideL w h c d ∧ 0 < rd cost (sideL w h c d))
structure CELL (w h : Int) (cost ex : List Int) (c : Int) : Prop where
 c0 : 0 ≤ rd cost c
 c9 : rd cost c ≤ 9
 e0 : 0 ≤ rd ex c
 e15 : rd ex c ≤ 15
 wall : rd cost c = 0 → rd ex c = 0
 ways : ∀ d : Int, 0 ≤ d → d < 4 → bt (rd ex c) d = true → 0 ≤ sideL w h c d ∧ rd cost (sideL w h c d) ≠ 0
def TC (cost : List Int) (ts : List S49) (j : Int) : Prop := rd cost (rd_T49 ts j).f2 ≠ 0
noncomputable def vl (w h : Int) (cost ex : List Int) (ts : List S49) : Bool :=
 decide (1 ≤ w ∧ w ≤ 40 ∧ 1 ≤ h ∧ h ≤ 40) && (decide ((cost.length : Int) = w * h ∧ (ex.length : Int) = w * h) && (tok ts (w * h) && (allB (CELL w h cost ex) 0 (w * h) && allB (TC cost ts) 0 ts.length)))
theorem tc_bounds {ts : List S49} {n : Int} (ht : tok ts n = true) : ∀ j : Int, 0 ≤ j → j < ts.length → 0 ≤ (rd_T49 ts j).f2 ∧ (rd_T49 ts j).f2 < n :=
 fun j j0 j1 => ⟨((tok_iff.1 ht).2 j j0 j1).c0, ((tok_iff.1 ht).2 j j0 j1).c1⟩
theorem l4bits_ev (e : Int) (e0 : 0 ≤ e) (e1 : e ≤ 15) : Ev (fun k => spec_l4bits.f k e) [bt e 0, bt e 1, bt e 2, bt e 3] := by
 simp only [spec_l4bits.f]; have st : ∀ (x : Int) (l : List Bool) (d : Int) (r : List Bool), 0 ≤ x → x ≤ 15 → l.length < 100 → 0 ≤ d → d < 4 → Ev (fun k => spec_l4bits.l0 k (x / 2) (l ++ [x % 2 == 1]) (d + 1)) r → Ev (fun k => spec_l4bits.l0 k x l d) r := by
  intro x l d r x0 x1 hl d0 d1 H; refine Ev.step (fun _ => rfl) ?_; simp only [spec_l4bits.l0]; refine ev_pos d1 (ev_pos (by omega) ?_); rw [tdiv_nn x0, tmod_nn x0, wrap64_id (x := x / 2) (by omega) (by omega), wrap64_id (x := d + 1) (by omega) (by omega)]; exact H
 refine st e [] 0 _ e0 e1 (by simp) (by omega) (by omega) ?_; refine st (e / 2) _ 1 _ (by omega) (by omega) (by simp) (by omega) (by omega) ?_; refine st (e / 2 / 2) _ 2 _ (by omega) (by omega) (by simp) (by omega) (by omega) ?_; refine st (e / 2 / 2 / 2) _ 3 _ (by omega) (by omega) (by simp) (by omega) (by omega) ?_; refine Ev.step (fun _ => rfl) ?_; simp only [spec_l4bits.l0]; exact ev_neg (by omega) (Ev.now _)
theorem rdOf_bits (e d : Int) (d0 : 0 ≤ d) (d1 : d < 4) : rdOf false [bt e 0, bt e 1, bt e 2, bt e 3] d = bt e d := by
 have : d = 0 ∨ d = 1 ∨ d = 2 ∨ d = 3 := by omega
 rcases this with rfl | rfl | rfl | rfl <;> rfl
def WAY (w h : Int) (cost : List Int) (e c d : Int) : Prop := bt e d = true → 0 ≤ sideL w h c d ∧ rd cost (sideL w h c d) ≠ 0
theorem spec_vl_ways (w h : Int) (w1 : 1 ≤ w) (w2 : w ≤ 40) (h1 : 1 ≤ h) (h2 : h ≤ 40) (cost ex : List Int) (ts : List S49) (lc : (cost.length : Int) = w * h) (c e : Int) (c0 : 0 ≤ c) (c1 : c < w * h) (R : Bool)
  (H : Ev (fun k => spec_ValidLayout.l0 k (w * h) (c + 1) w h cost ex ts) R) (m : Nat) : ∀ d : Int, 0 ≤ d → 4 - d = m → Ev (fun k => spec_ValidLayout.l1 k (w * h) c [bt e 0, bt e 1, bt e 2, bt e 3] d w h cost ex ts) (allB (WAY w h cost e c) d 4 && R) := by
 have wh := wh_le w1 w2 h1 h2
 induction m with
 | zero =>
  intro d d0 hd; refine Ev.step (fun _ => rfl) ?_; simp only [spec_ValidLayout.l1]; refine ev_neg (by omega) ?_; rw [allB_end (by omega), Bool.true_and, wrap64_id (by omega) (by omega)]; exact H
 | succ m ih =>
  intro d d0 hd; have hs : sideIn w h c d := ⟨w1, w2, h1, h2, c0, by omega, d0, by omega⟩; have sl := sideL_lt hs; refine Ev.step (fun _ => rfl) ?_; simp only [spec_ValidLayout.l1]; refine ev_pos (by omega) ?_; rw [spec_l4to_eq w h c d hs]; refine ev_letv (ev_pos d0 (ev_pos (by show d < ((4 : Nat) : Int); omega) ?_)); rw [rdOf_bits e d d0 (by omega)]; have go : WAY w h cost e c d → Ev (fun k => spec_ValidLayout.l1 k (w * h) c [bt e 0, bt e 1, bt e 2, bt e 3] (wrap64 (d + 1)) w h cost ex ts) (allB (WAY w h cost e c) d 4 && R) := by
   intro q; rw [allB_yes q, wrap64_id (by omega) (by omega)]; exact ih _ (by omega) (by omega)
  have no : ¬ WAY w h cost e c d → Ev (fun _ => some false) (allB (WAY w h cost e c) d 4 && R) := by
   intro q; rw [allB_no (by omega) q, Bool.false_and]; exact Ev.now _
  refine ev_ite (fun b => ev_ite (fun s => no (fun q => by have := (q b).1; omega)) (fun s => ev_pos (by omega) (ev_pos (by omega) (ev_ite (fun z => no (fun q => (q b).2 z)) (fun z => go (fun _ => ⟨by omega, z⟩)))))) (fun b => go (fun q => absurd q b))
theorem spec_vl_targets (w h : Int) (cost ex : List Int) (ts : List S49) (lt : (ts.length : Int) ≤ 30) (tb : ∀ j : Int, 0 ≤ j → j < ts.length → 0 ≤ (rd_T49 ts j).f2 ∧ (rd_T49 ts j).f2 < cost.length) (m : Nat) : ∀ j : Int, 0 ≤ j → (ts.length : Int) - j = m →
  Ev (fun k => spec_ValidLayout.l2 k j w h cost ex ts) (allB (TC cost ts) j ts.length) := by
 induction m with
 | zero =>
  intro j j0 hd; refine Ev.step (fun _ => rfl) ?_; simp only [spec_ValidLayout.l2]; refine ev_neg (by omega) ?_; rw [allB_end (by omega)]; exact Ev.now _
 | succ m ih =>
  intro j j0 hd; have b := tb j j0 (by omega); refine Ev.step (fun _ => rfl) ?_; simp only [spec_ValidLayout.l2]; refine ev_pos (by omega) (ev_pos j0 (ev_pos b.1 (ev_pos b.2 (ev_ite (fun z => ?_) (fun z => ?_)))))
  ·rw [allB_no (by omega) (fun q => q z)]; exact Ev.now _
  ·rw [allB_yes (S := TC cost ts) z, wrap64_id (by omega) (by omega)]; exact ih _ (by omega) (by omega)
theorem spec_vl_cells (w h : Int) (w1 : 1 ≤ w) (w2 : w ≤ 40) (h1 : 1 ≤ h) (h2 : h ≤ 40) (cost ex : List Int) (ts : List S49) (lc : (cost.length : Int) = w * h) (le : (ex.length : Int) = w * h) (ht : tok ts (w * h) = true) (m : Nat) : ∀ c : Int, 0 ≤ c → w * h - c = m →
  Ev (fun k => spec_ValidLayout.l0 k (w * h) c w h cost ex ts) (allB (CELL w h cost ex) c (w * h) && allB (TC cost ts) 0 ts.length) := by
 have wh := wh_le w1 w2 h1 h2; have t30 := (tok_iff.1 ht).1
 induction m with
 | zero =>
  intro c c0 hd; refine Ev.step (fun _ => rfl) ?_; simp only [spec_ValidLayout.l0]; refine ev_neg (by omega) ?_; rw [allB_end (by omega), Bool.true_and]; exact spec_vl_targets w h cost ex ts t30 (by rw [lc]; exact tc_bounds ht) ts.length 0 (by omega) (by omega)
 | succ m ih =>
  intro c c0 hd; have j3t : ¬ CELL w h cost ex c → Ev (fun k => spec_ValidLayout.j3 k (w * h) c true w h cost ex ts) (allB (CELL w h cost ex) c (w * h) && allB (TC cost ts) 0 ts.length) := by
   intro q; rw [allB_no (by omega) q, Bool.false_and]; refine Ev.step (fun _ => rfl) ?_; simp only [spec_ValidLayout.j3]; exact ev_pos (by trivial) (Ev.now _)
  have j3f : 0 ≤ rd cost c → rd cost c ≤ 9 → 0 ≤ rd ex c → rd ex c ≤ 15 → (rd cost c = 0 → rd ex c = 0) → Ev (fun k => spec_ValidLayout.j3 k (w * h) c false w h cost ex ts) (allB (CELL w h cost ex) c (w * h) && allB (TC cost ts) 0 ts.length) := by
   intro q0 q1 q2 q3 q4; refine Ev.step (fun _ => rfl) ?_; simp only [spec_ValidLayout.j3]; refine ev_neg (by simp) (ev_pos c0 (ev_pos (by omega) (Ev.bind (l4bits_ev _ q2 q3) ?_))); have L := spec_vl_ways w h w1 w2 h1 h2 cost ex ts lc c (rd ex c) c0 (by omega) _ (ih (c + 1) (by omega) (by omega)) 4 0 (by omega) (by omega); have e : (allB (WAY w h cost (rd ex c) c) 0 4 && (allB (CELL w h cost ex) (c + 1) (w * h) && allB (TC cost ts) 0 ts.length)) = (allB (CELL w h cost ex) c (w * h) && allB (TC cost ts) 0 ts.length) := by
    cases a : allB (WAY w h cost (rd ex c) c) 0 4 with
    | true => rw [Bool.true_and, allB_yes (S := CELL w h cost ex) (i := c) ⟨q0, q1, q2, q3, q4, fun d d0 d1 b => allB_iff.1 a d d0 d1 b⟩]
    | false =>
     rw [allB_no (S := CELL w h cost ex) (i := c) (by omega) (fun q => by rw [allB_iff (S := WAY w h cost (rd ex c) c) |>.2 (fun d d0 d1 b => q.ways d d0 d1 b)] at a; cases a)]
     rfl
   rw [e] at L; exact L
  refine Ev.step (fun _ => rfl) ?_; simp only [spec_ValidLayout.l0]; refine ev_pos (by omega) (ev_pos c0 (ev_pos (by omega) (ev_ite (fun a => j3t (fun q => by have := q.c0; omega)) (fun a => ev_ite (fun b => j3t (fun q => by have := q.c9; omega)) (fun b => ev_pos (by omega) (ev_ite (fun a => j3t (fun q => by have := q.e0; omega)) (fun a => ev_ite (fun b => j3t (fun q => by have := q.e15; omega)) (fun b => ev_ite (fun z => ?_) (fun z => ?_)))))))))
  ·by_cases y : rd ex c = 0
   ·rw [y, show ((0 : Int) != 0) = false from rfl]; exact j3f (by omega) (by omega) (by omega) (by omega) (fun _ => y)
   ·rw [show (rd ex c != 0) = true from by rw [bne_iff_ne]; exact y]; exact j3t (fun q => y (q.wall z))
  ·exact j3f (by omega) (by omega) (by omega) (by omega) (fun q => absurd q z)
theorem spec_ValidLayout_ev (w h : Int) (cost ex : List Int) (ts : List S49) (nb : Names ts) : Ev (fun k => spec_ValidLayout.f k w h cost ex ts) (vl w h cost ex ts) := by
 simp only [spec_ValidLayout.f]; have no : vl w h cost ex ts = false → Ev (fun k => spec_ValidLayout.j0 k true w h cost ex ts) (vl w h cost ex ts) := by
  intro q; rw [q]; refine Ev.step (fun _ => rfl) ?_; simp only [spec_ValidLayout.j0]; exact ev_pos (by trivial) (Ev.now _)
 have nos : ¬ (1 ≤ w ∧ w ≤ 40 ∧ 1 ≤ h ∧ h ≤ 40) → Ev (fun k => spec_ValidLayout.j0 k true w h cost ex ts) (vl w h cost ex ts) := by
  intro q; refine no ?_; unfold vl; rw [decide_eq_false q, Bool.false_and]
 refine ev_ite (fun a => nos (by omega)) (fun a => ev_ite (fun b => nos (by omega)) (fun b => ev_ite (fun c => nos (by omega)) (fun c => ?_)))
 by_cases d : h > 40
 ·rw [decide_eq_true d]; exact nos (by omega)
 rw [decide_eq_false d]; have wh := wh_le (w := w) (h := h) (by omega) (by omega) (by omega) (by omega); unfold vl; rw [decide_eq_true (show 1 ≤ w ∧ w ≤ 40 ∧ 1 ≤ h ∧ h ≤ 40 by omega), Bool.true_and]; have j1t : ∀ n, Ev (fun k => spec_ValidLayout.j1 k n true w h cost ex ts) false := by
  intro n; refine Ev.step (fun _ => rfl) ?_; simp only [spec_ValidLayout.j1]; exact ev_pos (by trivial) (Ev.now _)
 refine Ev.step (fun _ => rfl) ?_; simp only [spec_ValidLayout.j0]; rw [wrap64_id (x := w * h) (by omega) (by omega)]; refine ev_neg (by simp) (ev_ite (fun lc => ev_ite (fun le => Ev.bind (spec_l4targetsOK_ev ts (w * h) nb) ?_) (fun le => ?_)) (fun lc => ?_))
 ·rw [decide_eq_true (show (cost.length : Int) = w * h ∧ (ex.length : Int) = w * h from ⟨lc, le⟩), Bool.true_and]; cases ht : tok ts (w * h) with
  | false => rw [Bool.false_and]; exact j1t _
  | true =>
   rw [Bool.true_and]; refine Ev.step (fun _ => rfl) ?_; simp only [spec_ValidLayout.j1]; exact ev_neg (by simp) (spec_vl_cells w h (by omega) (by omega) (by omega) (by omega) cost ex ts lc le ht (w * h).toNat 0 (by omega) (by omega))
 ·rw [decide_eq_false (fun q => le q.2), Bool.false_and]; exact j1t _
 ·rw [decide_eq_false (fun q => lc q.1), Bool.false_and]; exact j1t _
theorem free_ev (w h : Int) (w1 : 1 ≤ w) (w2 : w ≤ 40) (h1 : 1 ≤ h) (h2 : h ≤ 40) (cost : List Int) (lc : (cost.length : Int) = w * h) (c : Int) (c0 : 0 ≤ c) (c1 : c < w * h) :
  Ev (fun k => impl_free.f k w h cost c) (fb (wayB w h cost c 0) (wayB w h cost c 1) (wayB w h cost c 2) (wayB w h cost c 3)) := by
 have wh := wh_le w1 w2 h1 h2; simp only [impl_free.f]; have st : ∀ (x d r : Int), 0 ≤ d → d < 4 → Ev (fun k => impl_free.l0 k w h cost c (if wayB w h cost c d = true then Go.bits .or .i64 x (shl .i64 1 d) else x) (d + 1)) r → Ev (fun k => impl_free.l0 k w h cost c x d) r := by
  intro x d r d0 d1 H; have hs : sideIn w h c d := ⟨w1, w2, h1, h2, c0, by omega, d0, by omega⟩; have sl := sideL_lt hs; refine Ev.step (fun _ => rfl) ?_; simp only [impl_free.l0]; refine ev_pos d1 ?_; rw [impl_side_eq w h c d hs, wrap64_id (x := d + 1) (by omega) (by omega)]; refine ev_letv (ev_ite (fun a => ev_pos a (ev_pos (by omega) (ev_ite (fun b => ev_pos d0 ?_) (fun b => ?_)))) (fun a => ?_))
  ·rw [if_pos (show wayB w h cost c d = true from decide_eq_true ⟨a, b⟩)] at H; exact H
  ·rw [if_neg (show ¬ wayB w h cost c d = true from fun q => b (of_decide_eq_true q).2)] at H; exact H
  ·rw [if_neg (show ¬ wayB w h cost c d = true from fun q => a (of_decide_eq_true q).1)] at H; exact H
 refine st 0 0 _ (by omega) (by omega) ?_; generalize wayB w h cost c 0 = b0; have e0 : (if b0 = true then Go.bits .or .i64 0 (shl .i64 1 0) else 0) = fb b0 false false false := by cases b0 <;> rfl
 rw [e0]; refine st _ (0 + 1) _ (by omega) (by omega) ?_; rw [show (0 + 1 : Int) = 1 from rfl]; generalize wayB w h cost c 1 = b1; have e1 : (if b1 = true then Go.bits .or .i64 (fb b0 false false false) (shl .i64 1 1) else fb b0 false false false) = fb b0 b1 false false := by cases b0 <;> cases b1 <;> rfl
 rw [e1]; refine st _ (1 + 1) _ (by omega) (by omega) ?_; rw [show (1 + 1 : Int) = 2 from rfl]; generalize wayB w h cost c 2 = b2; have e2 : (if b2 = true then Go.bits .or .i64 (fb b0 b1 false false) (shl .i64 1 2) else fb b0 b1 false false) = fb b0 b1 b2 false := by cases b0 <;> cases b1 <;> cases b2 <;> rfl
 rw [e2]; refine st _ (2 + 1) _ (by omega) (by omega) ?_; rw [show (2 + 1 : Int) = 3 from rfl]; generalize wayB w h cost c 3 = b3; have e3 : (if b3 = true then Go.bits .or .i64 (fb b0 b1 b2 false) (shl .i64 1 3) else fb b0 b1 b2 false) = fb b0 b1 b2 b3 := by cases b0 <;> cases b1 <;> cases b2 <;> cases b3 <;> rfl
 rw [e3]; refine Ev.step (fun _ => rfl) ?_; simp only [impl_free.l0]; exact ev_neg (by omega) (Ev.now _)
theorem any_eq (ts : List S49) (cost : List Int) (tb : ∀ j : Int, 0 ≤ j → j < ts.length → 0 ≤ (rd_T49 ts j).f2 ∧ (rd_T49 ts j).f2 < cost.length) (m : Nat) : ∀ j : Int, 0 ≤ j → (ts.length : Int) - j = m →
  ∃ r, impl_ValidLayout_any.at ts cost m j = some r ∧ (!decide (0 ≤ r)) = allB (TC cost ts) j ts.length := by
 induction m with
 | zero =>
  intro j j0 hd; exact ⟨-1, rfl, by rw [allB_end (by omega)]; rfl⟩
 | succ m ih =>
  intro j j0 hd; have b := tb j j0 (by omega); unfold impl_ValidLayout_any.at; rw [if_pos (by omega), if_pos b]
  by_cases z : rd cost (rd_T49 ts j).f2 = 0
  ·rw [if_pos (by rw [beq_iff_eq]; exact z)]; exact ⟨j, rfl, by rw [decide_eq_true j0, allB_no (by omega) (fun q => q z)]; rfl⟩
  ·rw [if_neg (by rw [beq_iff_eq]; exact z), allB_yes (S := TC cost ts) z]; exact ih (j + 1) (by omega) (by omega)
def EXI (w h : Int) (cost ex : List Int) (c : Int) : Prop := 0 ≤ rd ex c ∧ Go.bits .andNot .i64 (rd ex c) (fb (wayB w h cost c 0) (wayB w h cost c 1) (wayB w h cost c 2) (wayB w h cost c 3)) = 0 ∧ (rd cost c = 0 → rd ex c = 0)
def COST (cost : List Int) (c : Int) : Prop := 0 ≤ rd cost c ∧ rd cost c ≤ 9
theorem cell_split (w h : Int) (w1 : 1 ≤ w) (w2 : w ≤ 40) (h1 : 1 ≤ h) (h2 : h ≤ 40) (cost ex : List Int) (hx : ∀ c : Int, 0 ≤ c → c < w * h → rd ex c ≤ 9223372036854775807) :
  (allB (COST cost) 0 (w * h) && allB (EXI w h cost ex) 0 (w * h)) = allB (CELL w h cost ex) 0 (w * h) := by
 have wh := wh_le w1 w2 h1 h2; rw [Bool.eq_iff_iff, Bool.and_eq_true, allB_iff, allB_iff, allB_iff]
 constructor
 ·intro ⟨A, B⟩ c c0 c1; obtain ⟨a0, a1⟩ := A c c0 c1; obtain ⟨b0, b1, b2⟩ := B c c0 c1; obtain ⟨k, k0, k1, k2, k3⟩ := (andNot_iff _ _ _ _ b0 (hx c c0 c1)).1 b1; have cv : ∀ d, wayB w h cost c d = true → 0 ≤ sideL w h c d ∧ rd cost (sideL w h c d) ≠ 0 := fun d q => by
   have := of_decide_eq_true q; exact ⟨this.1, by omega⟩
  refine ⟨a0, a1, b0, k, b2, fun d d0 d1 b => ?_⟩; have : d = 0 ∨ d = 1 ∨ d = 2 ∨ d = 3 := by omega
  rcases this with rfl | rfl | rfl | rfl
  ·exact cv _ (k0 b)
  ·exact cv _ (k1 b)
  ·exact cv _ (k2 b)
  ·exact cv _ (k3 b)
 ·intro C; refine ⟨fun c c0 c1 => ⟨(C c c0 c1).c0, (C c c0 c1).c9⟩, fun c c0 c1 => ?_⟩; have q := C c c0 c1; have cv : ∀ d : Int, 0 ≤ d → d < 4 → bt (rd ex c) d = true → wayB w h cost c d = true := fun d d0 d1 b => by
   have s := q.ways d d0 d1 b; have sl := sideL_lt (w := w) (h := h) (c := c) (d := d) ⟨w1, w2, h1, h2, c0, by omega, d0, by omega⟩; have := (C (sideL w h c d) s.1 sl.2).c0; exact decide_eq_true ⟨s.1, by omega⟩
  exact ⟨q.e0, (andNot_iff _ _ _ _ q.e0 (hx c c0 c1)).2 ⟨q.e15, cv 0 (by omega) (by omega), cv 1 (by omega) (by omega), cv 2 (by omega) (by omega), cv 3 (by omega) (by omega)⟩, q.wall⟩
theorem impl_vl_exits (w h : Int) (w1 : 1 ≤ w) (w2 : w ≤ 40) (h1 : 1 ≤ h) (h2 : h ≤ 40) (cost ex : List Int) (ts : List S49) (nb : Names ts) (lc : (cost.length : Int) = w * h) (le : (ex.length : Int) = w * h) (m : Nat) : ∀ c : Int, 0 ≤ c → w * h - c = m →
  Ev (fun k => impl_ValidLayout.l1 k ex (ex.length : Int) c w h cost ex ts) (allB (EXI w h cost ex) c (w * h) && (tok ts (w * h) && allB (TC cost ts) 0 ts.length)) := by
 have wh := wh_le w1 w2 h1 h2
 induction m with
 | zero =>
  intro c c0 hd; refine Ev.step (fun _ => rfl) ?_; simp only [impl_ValidLayout.l1]; refine ev_neg (by omega) ?_; rw [allB_end (by omega), Bool.true_and, wrap64_id (x := w * h) (by omega) (by omega)]; refine Ev.bind (impl_targetsOk_ev ts (w * h) nb (by omega)) ?_; cases ht : tok ts (w * h) with
  | false => exact ev_neg (by simp) (Ev.now _)
  | true =>
   have t30 := (tok_iff.1 ht).1; refine ev_pos (by trivial) ?_; obtain ⟨r, e, q⟩ := any_eq ts cost (by rw [lc]; exact tc_bounds ht) ts.length 0 (by omega) (by omega); rw [show impl_ValidLayout_any.f ts w h cost ex ts = some (decide (0 ≤ r)) from by unfold impl_ValidLayout_any.f; rw [if_pos (by omega), e]; rfl, ← q]; exact ev_letv (Ev.now _)
 | succ m ih =>
  intro c c0 hd; have no : ¬ EXI w h cost ex c → Ev (fun _ => some false) (allB (EXI w h cost ex) c (w * h) && (tok ts (w * h) && allB (TC cost ts) 0 ts.length)) := by
   intro q; rw [allB_no (by omega) q, Bool.false_and]; exact Ev.now _
  have go : EXI w h cost ex c → Ev (fun k => impl_ValidLayout.l1 k ex (ex.length : Int) (wrap64 (c + 1)) w h cost ex ts) (allB (EXI w h cost ex) c (w * h) && (tok ts (w * h) && allB (TC cost ts) 0 ts.length)) := by
   intro q; rw [allB_yes q, wrap64_id (by omega) (by omega)]; exact ih _ (by omega) (by omega)
  refine Ev.step (fun _ => rfl) ?_; simp only [impl_ValidLayout.l1]; refine ev_pos (by omega) (ev_pos c0 (ev_pos (by omega) (ev_ite (fun a => no (fun q => by have := q.1; omega)) (fun a => Ev.bind (free_ev w h w1 w2 h1 h2 cost lc c c0 (by omega)) (ev_ite (fun b => ev_pos (by omega) (ev_ite (fun z => ev_ite (fun y => go ⟨by omega, b, fun _ => y⟩) (fun y => no (fun q => y (q.2.2 z)))) (fun z => go ⟨by omega, b, fun q => absurd q z⟩))) (fun b => no (fun q => b q.2.1)))))))
theorem impl_vl_costs (w h : Int) (w1 : 1 ≤ w) (w2 : w ≤ 40) (h1 : 1 ≤ h) (h2 : h ≤ 40) (cost ex : List Int) (ts : List S49) (nb : Names ts) (lc : (cost.length : Int) = w * h) (le : (ex.length : Int) = w * h) (m : Nat) : ∀ c : Int, 0 ≤ c → w * h - c = m →
  Ev (fun k => impl_ValidLayout.l0 k cost (cost.length : Int) c w h cost ex ts) (allB (COST cost) c (w * h) && (allB (EXI w h cost ex) 0 (w * h) && (tok ts (w * h) && allB (TC cost ts) 0 ts.length))) := by
 have wh := wh_le w1 w2 h1 h2
 induction m with
 | zero =>
  intro c c0 hd; refine Ev.step (fun _ => rfl) ?_; simp only [impl_ValidLayout.l0]; refine ev_neg (by omega) ?_; rw [allB_end (by omega), Bool.true_and]; exact impl_vl_exits w h w1 w2 h1 h2 cost ex ts nb lc le (w * h).toNat 0 (by omega) (by omega)
 | succ m ih =>
  intro c c0 hd; have no : ¬ COST cost c → Ev (fun _ => some false) (allB (COST cost) c (w * h) && (allB (EXI w h cost ex) 0 (w * h) && (tok ts (w * h) && allB (TC cost ts) 0 ts.length))) := by
   intro q; rw [allB_no (by omega) q, Bool.false_and]; exact Ev.now _
  refine Ev.step (fun _ => rfl) ?_; simp only [impl_ValidLayout.l0]; refine ev_pos (by omega) (ev_pos c0 (ev_pos (by omega) (ev_ite (fun a => no (fun q => by have := q.1; omega)) (fun a => ev_ite (fun b => no (fun q => by have := q.2; omega)) (fun b => ?_))))); rw [allB_yes (S := COST cost) (i := c) ⟨by omega, by omega⟩, wrap64_id (by omega) (by omega)]; exact ih _ (by omega) (by omega)
theorem impl_ValidLayout_ev (w h : Int) (cost ex : List Int) (ts : List S49) (nb : Names ts) (hx : ∀ c : Int, 0 ≤ c → c < ex.length → rd ex c ≤ 9223372036854775807) : Ev (fun k => impl_ValidLayout.f k w h cost ex ts) (vl w h cost ex ts) := by
 simp only [impl_ValidLayout.f]; have no : vl w h cost ex ts = false → Ev (fun k => impl_ValidLayout.j0 k true w h cost ex ts) (vl w h cost ex ts) := by
  intro q; rw [q]; refine Ev.step (fun _ => rfl) ?_; simp only [impl_ValidLayout.j0]; exact ev_pos (by trivial) (Ev.now _)
 have nos : ¬ (1 ≤ w ∧ w ≤ 40 ∧ 1 ≤ h ∧ h ≤ 40) → Ev (fun k => impl_ValidLayout.j0 k true w h cost ex ts) (vl w h cost ex ts) := by
  intro q; refine no ?_; unfold vl; rw [decide_eq_false q, Bool.false_and]
 rw [sideOk_eq, sideOk_eq]; refine ev_letv (ev_ite (fun a => ev_letv (ev_ite (fun b => ?_) (fun b => nos (fun q => b (decide_eq_true (by omega)))))) (fun a => nos (fun q => a (decide_eq_true (by omega))))); have a := of_decide_eq_true a; have b := of_decide_eq_true b; have wh := wh_le (w := w) (h := h) (by omega) (by omega) (by omega) (by omega); rw [wrap64_id (x := w * h) (by omega) (by omega)]; refine ev_ite (fun lc => ?_) (fun lc => no (by unfold vl; rw [decide_eq_false (fun q : (cost.length : Int) = w * h ∧ (ex.length : Int) = w * h => lc q.1), Bool.false_and, Bool.and_false]))
 by_cases le : (ex.length : Int) = w * h
 ·rw [show ((ex.length : Int) != w * h) = false from by rw [le]; simp]; refine Ev.step (fun _ => rfl) ?_; simp only [impl_ValidLayout.j0]; refine ev_neg (by simp) ?_; have L := impl_vl_costs w h a.1 a.2 b.1 b.2 cost ex ts nb lc le (w * h).toNat 0 (by omega) (by omega); have e : vl w h cost ex ts = (allB (COST cost) 0 (w * h) && (allB (EXI w h cost ex) 0 (w * h) && (tok ts (w * h) && allB (TC cost ts) 0 ts.length))) := by
   unfold vl; rw [decide_eq_true (show 1 ≤ w ∧ w ≤ 40 ∧ 1 ≤ h ∧ h ≤ 40 by omega), decide_eq_true (show (cost.length : Int) = w * h ∧ (ex.length : Int) = w * h from ⟨lc, le⟩), ← cell_split w h a.1 a.2 b.1 b.2 cost ex (by rw [← le]; exact hx)]; cases tok ts (w * h) <;> cases allB (COST cost) 0 (w * h) <;> cases allB (EXI w h cost ex) 0 (w * h) <;> cases allB (TC cost ts) 0 ts.length <;> rfl
  rw [e]; exact L
 ·rw [show ((ex.length : Int) != w * h) = true from by rw [bne_iff_ne]; exact le]; exact no (by unfold vl; rw [decide_eq_false (fun q : (cost.length : Int) = w * h ∧ (ex.length : Int) = w * h => le q.2), Bool.false_and, Bool.and_false])

structure VL (w h : Int) (cost ex : List Int) : Prop where
 w1 : 1 ≤ w
 w2 : w ≤ 40
 h1 : 1 ≤ h
 h2 : h ≤ 40
 lc : (cost.length : Int) = w * h
 le : (ex.length : Int) = w * h
 cell : ∀ c : Int, 0 ≤ c → c < w * h → CELL w h cost ex c
theorem vl_facts {w h : Int} {cost ex : List Int} {ts : List S49} (v : vl w h cost ex ts = true) : VL w h cost ex := by
 unfold vl at v; rw [Bool.and_eq_true, Bool.and_eq_true, Bool.and_eq_true, Bool.and_eq_true, decide_eq_true_eq, decide_eq_true_eq, allB_iff] at v; obtain ⟨⟨a, b, c, d⟩, ⟨e, f⟩, _, g, _⟩ := v; exact ⟨a, b, c, d, e, f, g⟩

def upbyte (a : Int) (n : Nat) : List Int := (List.range n).map (fun (j : Nat) => (a + (j : Int)) % 256)
theorem upbyte_length (a : Int) (n : Nat) : (upbyte a n).length = n := by simp [upbyte]
theorem upbyte_rd {a : Int} {n : Nat} {i : Int} (h0 : 0 ≤ i) (h1 : i < n) : rd (upbyte a n) i = (a + i) % 256 := by
 rw [rd_get h0 (by rw [upbyte_length]; omega)]; simp only [upbyte, List.getElem_map, List.getElem_range]; omega

theorem heldByteS_loop (n : Nat) (a : Int) (ha : 0 ≤ a) (hn : a + n ≤ 9223372036854775807) (d : Nat) : ∀ (i : Int), 0 ≤ i → (n : Int) - i = d →
  Ev (fun k => laws_heldByteS.l0 k (upbyte a n) (a + i) i) (a + n) := by
 induction d with
 | zero =>
  intro i h0 hd; refine Ev.step (fun _ => rfl) ?_; simp only [laws_heldByteS.l0, upbyte_length]; refine ev_neg (by omega) ?_; have e2 : i = n := by omega
  rw [e2]; exact Ev.now _
 | succ d ih =>
  intro i h0 hd; refine Ev.step (fun _ => rfl) ?_; simp only [laws_heldByteS.l0, upbyte_length]; refine ev_pos (by omega) (ev_pos (by omega) (ev_pos (upbyte_rd h0 (by omega)) ?_)); rw [wrap64_id (by omega) (by omega), wrap64_id (by omega) (by omega), show a + i + 1 = a + (i + 1) by omega]; exact ih _ (by omega) (by omega)
theorem heldByteS_ev (n : Nat) (a : Int) (ha : 0 ≤ a) (hn : a + n ≤ 9223372036854775807) : Ev (fun k => laws_heldByteS.f k (upbyte a n) a) (a + n) := by
 have := heldByteS_loop n a ha hn n 0 (by omega) (by omega)
 simpa only [laws_heldByteS.f, Int.add_zero] using this

theorem markByteS_loop (n : Nat) (a : Int) (ha : 0 ≤ a) (hn : a + n ≤ 9223372036854775807) (d : Nat) : ∀ (x : List Int) (i : Int), 0 ≤ i → x.length = n → (n : Int) - i = d →
  (∀ j : Int, 0 ≤ j → j < i → rd x j = (a + j) % 256) → Ev (fun k => laws_markByteS.l0 k x (a + i) i) (a + n, upbyte a n) := by
 induction d with
 | zero =>
  intro x i h0 hl hd he; refine Ev.step (fun _ => rfl) ?_; simp only [laws_markByteS.l0]; refine ev_neg (by omega) ?_; have e1 : x = upbyte a n := rd_ext (by rw [hl, upbyte_length]) (fun j p q => by rw [he j p (by omega), upbyte_rd p (by omega)]); have e2 : i = n := by omega
  rw [e1, e2]; exact Ev.now _
 | succ d ih =>
  intro x i h0 hl hd he; refine Ev.step (fun _ => rfl) ?_; simp only [laws_markByteS.l0]; refine ev_pos (by omega) (ev_pos (by omega) ?_); rw [wrap64_id (by omega) (by omega), wrap64_id (by omega) (by omega), show a + i + 1 = a + (i + 1) by omega]; refine ih _ _ (by omega) (by simpa using hl) (by omega) ?_; intro j p q
  by_cases e : j = i
  ·subst e; exact rd_set_eq (by omega) (by omega)
  ·rw [rd_set_ne (by omega) (by omega) (by omega)]; exact he j p (by omega)
theorem markByteS_ev (l : List Int) (a : Int) (ha : 0 ≤ a) (hn : a + l.length ≤ 9223372036854775807) : Ev (fun k => laws_markByteS.f k l a) (a + l.length, upbyte a l.length) := by
 have := markByteS_loop l.length a ha hn l.length l 0 (by omega) rfl (by omega) (fun j p q => by omega)
 simpa only [laws_markByteS.f, Int.add_zero] using this

def atD (w kind c : Int) : S43 := ⟨kind, c % w, c / w, c % w, c / w, 0, 0, [], 0⟩
def selB (b0 b1 b2 b3 : Bool) (d : Int) : Bool := if d = 0 then b0 else if d = 1 then b1 else if d = 2 then b2 else b3
def barsD (w h : Int) (cost ex : List Int) (c : Int) : Nat → List S43
 | 0 => []
 | d + 1 => barsD w h cost ex c d ++ (if wayB w h cost c d = true ∧ bt (rd ex c) d = false then [⟨12, c % w, c / w, c % w, c / w, d, 0, [], 0⟩] else [])
def zoneD (w : Int) (cost : List Int) (c : Int) : List S43 := if rd cost c = 1 then [] else [⟨13, c % w, c / w, c % w, c / w, 0, rd cost c, [], 0⟩]
def cellD (w h : Int) (cost ex : List Int) (c : Int) : List S43 := if rd cost c = 0 then [atD w 8 c] else zoneD w cost c ++ barsD w h cost ex c 4
def cellsD (w h : Int) (cost ex : List Int) : Nat → List S43
 | 0 => []
 | c + 1 => cellsD w h cost ex c ++ cellD w h cost ex c
def tgtD (w : Int) (t : S49) : S43 := ⟨14 + t.f1, t.f2 % w, t.f2 / w, t.f2 % w, t.f2 / w, 0, 0, t.f0, 0⟩
def tgtsD (w : Int) (ts : List S49) : Nat → List S43
 | 0 => []
 | j + 1 => tgtsD w ts j ++ [tgtD w (rd_T49 ts j)]
def declsR (w h : Int) (cost ex : List Int) (ts : List S49) : List S43 := [⟨7, w, h, w, h, 0, 0, [], 0⟩] ++ cellsD w h cost ex (w * h).toNat ++ tgtsD w ts ts.length
theorem barsD_len (w h : Int) (cost ex : List Int) (c : Int) : ∀ m : Nat, (barsD w h cost ex c m).length ≤ m
 | 0 => by simp [barsD]
 | m + 1 => by
  have := barsD_len w h cost ex c m; rw [barsD, List.length_append]
  split
  ·rw [List.length_singleton]; omega
  ·rw [List.length_nil]; omega
theorem cellD_len (w h : Int) (cost ex : List Int) (c : Int) : (cellD w h cost ex c).length ≤ 5 := by
 have := barsD_len w h cost ex c 4; unfold cellD zoneD
 split
 ·simp
 ·rw [List.length_append]
  split
  ·simp; omega
  ·simp; omega
theorem cellsD_len (w h : Int) (cost ex : List Int) : ∀ m : Nat, (cellsD w h cost ex m).length ≤ 5 * m
 | 0 => by simp [cellsD]
 | m + 1 => by
  have := cellsD_len w h cost ex m; have := cellD_len w h cost ex m; rw [cellsD, List.length_append]; omega
theorem tgtsD_len (w : Int) (ts : List S49) : ∀ m : Nat, (tgtsD w ts m).length = m
 | 0 => by simp [tgtsD]
 | m + 1 => by rw [tgtsD, List.length_append, tgtsD_len w ts m, List.length_singleton]
theorem divmod_le {w h c : Int} (w1 : 1 ≤ w) (c0 : 0 ≤ c) (c1 : c ≤ 2000) : 0 ≤ c / w ∧ c / w ≤ 2000 := by
 have h1 : 0 ≤ c / w := Int.ediv_nonneg c0 (by omega); have h2 : c / w ≤ c := Int.ediv_le_self _ c0
 omega
theorem l4at_eq {w h : Int} {cost ex : List Int} {ts : List S49} {kind c : Int} (w1 : 1 ≤ w) (c0 : 0 ≤ c) (c1 : c ≤ 2000) : spec_l4at.f w h cost ex ts kind c = some (kind, c % w, c / w, c % w, c / w, 0, 0, [], 0) := by
 have := divmod_le (h := h) w1 c0 c1; unfold spec_l4at.f; rw [if_neg (by omega), tmod_nn c0, tdiv_nn c0, wrap64_id (by omega) (by omega)]
theorem iat_eq {w h : Int} {cost ex : List Int} {ts : List S49} {kind c : Int} (w1 : 1 ≤ w) (w2 : w ≤ 40) (c0 : 0 ≤ c) (c1 : c ≤ 2000) : impl_LayoutDecls_at.f kind c w h cost ex ts = some (kind, c % w, c / w, c % w, c / w, 0, 0, [], 0) := by
 unfold impl_LayoutDecls_at.f; rw [if_pos ⟨by omega, by omega, c0, by omega⟩, tmod_nn c0, tdiv_nn c0]
theorem barbit (e : Int) (e0 : 0 ≤ e) (e1 : e ≤ 15) (b0 b1 b2 b3 : Bool) (d : Int) (d0 : 0 ≤ d) (d1 : d < 4) : (Go.bits .and .i64 (shr .i64 (Go.bits .andNot .i64 (fb b0 b1 b2 b3) e) d) 1) = 1 ↔ (selB b0 b1 b2 b3 d = true ∧ bt e d = false) := by
 have key : ∀ (a : Fin 16) (b0 b1 b2 b3 : Bool) (b : Fin 4), (Go.bits .and .i64 (shr .i64 (Go.bits .andNot .i64 (fb b0 b1 b2 b3) (a.val : Int)) (b.val : Int)) 1) = 1 ↔ (selB b0 b1 b2 b3 b.val = true ∧ bt a.val b.val = false) := by decide +kernel
 have := key ⟨e.toNat, by omega⟩ b0 b1 b2 b3 ⟨d.toNat, by omega⟩; rw [show (((⟨e.toNat, by omega⟩ : Fin 16).val : Nat) : Int) = e from by show ((e.toNat : Nat) : Int) = e; omega, show (((⟨d.toNat, by omega⟩ : Fin 4).val : Nat) : Int) = d from by show ((d.toNat : Nat) : Int) = d; omega] at this; exact this
theorem sel_way (w h : Int) (cost : List Int) (c d : Int) (d0 : 0 ≤ d) (d1 : d < 4) : selB (wayB w h cost c 0) (wayB w h cost c 1) (wayB w h cost c 2) (wayB w h cost c 3) d = wayB w h cost c d := by
 unfold selB; have : d = 0 ∨ d = 1 ∨ d = 2 ∨ d = 3 := by omega
 rcases this with rfl | rfl | rfl | rfl <;> rfl
section
variable {w h : Int} {cost ex : List Int} {ts : List S49} (v : VL w h cost ex)
include v
theorem spec_ld_row (c : Nat) (hc : (c : Int) < w * h) (p : List S43) (hp : p.length ≤ 100000) (R : List S43)
  (H : Ev (fun k => spec_LayoutDecls.l0 k (p ++ barsD w h cost ex c 4) ((c : Int) + 1) w h cost ex ts) R) (m : Nat) : ∀ d : Nat, d + m = 4 →
  Ev (fun k => spec_LayoutDecls.l1 k (p ++ barsD w h cost ex c d) c [bt (rd ex c) 0, bt (rd ex c) 1, bt (rd ex c) 2, bt (rd ex c) 3] d w h cost ex ts) R := by
 have wh := wh_le v.w1 v.w2 v.h1 v.h2
 induction m with
 | zero =>
  intro d hd; obtain rfl : d = 4 := by omega
  refine Ev.step (fun _ => rfl) ?_; simp only [spec_LayoutDecls.l1]; refine ev_neg (by omega) ?_; rw [wrap64_id (x := (c : Int) + 1) (by omega) (by omega)]; exact H
 | succ m ih =>
  intro d hd; have hs : sideIn w h c d := ⟨v.w1, v.w2, v.h1, v.h2, by omega, by omega, by omega, by omega⟩; have sl := sideL_lt hs; have K := ih (d + 1) (by omega); have ln := barsD_len w h cost ex c d; have ll : (p ++ barsD w h cost ex c d).length ≤ 200000 := by rw [List.length_append]; omega
  have no : ¬ (wayB w h cost c d = true ∧ bt (rd ex c) d = false) → Ev (fun k => spec_LayoutDecls.l1 k (p ++ barsD w h cost ex c d) c [bt (rd ex c) 0, bt (rd ex c) 1, bt (rd ex c) 2, bt (rd ex c) 3] (wrap64 ((d : Int) + 1)) w h cost ex ts) R := by
   intro hn; rw [wrap64_id (x := (d : Int) + 1) (by omega) (by omega)]; rw [barsD, if_neg hn, List.append_nil] at K; exact K
  refine Ev.step (fun _ => rfl) ?_; simp only [spec_LayoutDecls.l1]; refine ev_pos (by omega) ?_; rw [spec_l4to_eq w h c d hs]; refine ev_letv (ev_ite (fun g0 => ev_pos (by omega) (ev_pos (by rw [v.lc]; exact sl.2) (ev_ite (fun g1 => ev_pos (by omega) (ev_pos (by show (d : Int) < ((4 : Nat) : Int); omega) ?_)) (fun g1 => ?_)))) (fun g0 => ?_))
  ·rw [rdOf_bits _ _ (by omega) (by omega)]; refine ev_ite (fun b => no (fun a => by rw [b] at a; exact absurd a.2 (by simp))) (fun b => ?_); rw [l4at_eq v.w1 (by omega) (by omega)]; refine ev_letv (ev_pos (by omega) ?_); rw [wrap64_id (x := (d : Int) + 1) (by omega) (by omega)]; rw [barsD, if_pos ⟨decide_eq_true ⟨by omega, g1⟩, Bool.eq_false_iff.2 b⟩, ← List.append_assoc] at K; exact K
  ·exact no (fun a => g1 (of_decide_eq_true a.1).2)
  ·exact no (fun a => g0 (of_decide_eq_true a.1).1)
theorem spec_ld_rows (ht : tok ts (w * h) = true) (n : Nat) (hn : (n : Int) = w * h) (m : Nat) (R : List S43) (p : List S43) (hp : p.length ≤ 1)
  (H : Ev (fun k => spec_LayoutDecls.l2 k (p ++ cellsD w h cost ex n) 0 w h cost ex ts) R) : ∀ c : Nat, c + m = n →
  Ev (fun k => spec_LayoutDecls.l0 k (p ++ cellsD w h cost ex c) c w h cost ex ts) R := by
 have wh := wh_le v.w1 v.w2 v.h1 v.h2
 induction m with
 | zero =>
  intro c hc; obtain rfl : c = n := by omega
  refine Ev.step (fun _ => rfl) ?_; simp only [spec_LayoutDecls.l0]; rw [wrap64_id (x := w * h) (by omega) (by omega)]; exact ev_neg (by omega) H
 | succ m ih =>
  intro c hc; have C := v.cell c (by omega) (by omega); have K := ih (c + 1) (by omega); have cl := cellsD_len w h cost ex c; have ll : (p ++ cellsD w h cost ex c).length ≤ 50000 := by rw [List.length_append]; omega
  have row : ∀ q : List S43, q.length ≤ 60000 → q ++ barsD w h cost ex c 4 = p ++ cellsD w h cost ex (c + 1) → Ev (fun k => spec_LayoutDecls.j1 k q c w h cost ex ts) R := by
   intro q hq he; refine Ev.step (fun _ => rfl) ?_; simp only [spec_LayoutDecls.j1]; refine ev_pos (by omega) (ev_pos (by rw [v.le]; omega) (Ev.bind (l4bits_ev _ C.e0 C.e15) ?_)); have := spec_ld_row v (ts := ts) c (by omega) q (by omega) R (by rw [he]; exact K) 4 0 (by omega); rw [barsD, List.append_nil] at this; exact this
  refine Ev.step (fun _ => rfl) ?_; simp only [spec_LayoutDecls.l0]; rw [wrap64_id (x := w * h) (by omega) (by omega)]; refine ev_pos (by omega) (ev_pos (by omega) (ev_pos (by rw [v.lc]; omega) (ev_ite (fun z => ?_) (fun z => ev_ite (fun o => ?_) (fun o => ?_)))))
  ·rw [l4at_eq v.w1 (by omega) (by omega)]; refine ev_letv (ev_pos (by omega) ?_); rw [wrap64_id (x := (c : Int) + 1) (by omega) (by omega)]; rw [cellsD, cellD, if_pos z, ← List.append_assoc] at K; exact K
  ·refine row _ (by omega) ?_; rw [cellsD, cellD, if_neg z, zoneD, if_pos o, List.nil_append, ← List.append_assoc]
  ·rw [l4at_eq v.w1 (by omega) (by omega)]; refine ev_letv (ev_pos (by omega) (row _ (by rw [List.length_append, List.length_singleton]; omega) ?_)); rw [cellsD, cellD, if_neg z, zoneD, if_neg o]; simp only [List.append_assoc]
theorem spec_ld_targets (ht : tok ts (w * h) = true) (p : List S43) (hp : p.length ≤ 60000) (m : Nat) : ∀ j : Nat, j + m = ts.length →
  Ev (fun k => spec_LayoutDecls.l2 k (p ++ tgtsD w ts j) j w h cost ex ts) (p ++ tgtsD w ts ts.length) := by
 have wh := wh_le v.w1 v.w2 v.h1 v.h2; have t30 := (tok_iff.1 ht).1
 induction m with
 | zero =>
  intro j hj; obtain rfl : j = ts.length := by omega
  refine Ev.step (fun _ => rfl) ?_; simp only [spec_LayoutDecls.l2]; exact ev_neg (by omega) (Ev.now _)
 | succ m ih =>
  intro j hj; have T := (tok_iff.1 ht).2 j (by omega) (by omega); have K := ih (j + 1) (by omega); have tl := tgtsD_len w ts j; have k0 := T.k0; have k1 := T.k1; have c0 := T.c0; have c1 := T.c1; have n2 := T.n2; refine Ev.step (fun _ => rfl) ?_; simp only [spec_LayoutDecls.l2]; refine ev_pos (by omega) (ev_pos (by omega) ?_); rw [l4at_eq v.w1 c0 (by omega)]; refine ev_letv (ev_pos (by simp only [List.length_nil]; omega) (ev_pos (by rw [List.length_append]; omega) ?_)); rw [wrap64_id (x := (j : Int) + 1) (by omega) (by omega), wrap64_id (x := 14 + _) (by omega) (by omega)]; rw [tgtsD, ← List.append_assoc] at K; exact K
theorem impl_ld_row (c : Nat) (hc : (c : Int) < w * h) (p : List S43) (hp : p.length ≤ 100000) (R : List S43)
  (H : Ev (fun k => impl_LayoutDecls.l0 k (p ++ barsD w h cost ex c 4) cost (cost.length : Int) ((c : Int) + 1) w h cost ex ts) R) (m : Nat) : ∀ d : Nat, d + m = 4 →
  Ev (fun k => impl_LayoutDecls.l1 k (p ++ barsD w h cost ex c d) c cost (cost.length : Int) c d w h cost ex ts) R := by
 have wh := wh_le v.w1 v.w2 v.h1 v.h2; have C := v.cell c (by omega) hc
 induction m with
 | zero =>
  intro d hd; obtain rfl : d = 4 := by omega
  refine Ev.step (fun _ => rfl) ?_; simp only [impl_LayoutDecls.l1]; refine ev_neg (by omega) ?_; rw [wrap64_id (x := (c : Int) + 1) (by omega) (by omega)]; exact H
 | succ m ih =>
  intro d hd; have K := ih (d + 1) (by omega); have ln := barsD_len w h cost ex c d; have ll : (p ++ barsD w h cost ex c d).length ≤ 200000 := by rw [List.length_append]; omega
  have hbit := barbit (rd ex c) C.e0 C.e15 (wayB w h cost c 0) (wayB w h cost c 1) (wayB w h cost c 2) (wayB w h cost c 3) d (by omega) (by omega); rw [sel_way w h cost c d (by omega) (by omega)] at hbit; refine Ev.step (fun _ => rfl) ?_; simp only [impl_LayoutDecls.l1]; refine ev_pos (by omega) (Ev.bind (free_ev w h v.w1 v.w2 v.h1 v.h2 cost v.lc c (by omega) hc) (ev_pos (by omega) (ev_pos (by rw [v.le]; exact hc) (ev_pos (by omega) (ev_ite (fun b => ?_) (fun b => ?_))))))
  ·have b := hbit.1 b; rw [iat_eq v.w1 v.w2 (by omega) (by omega)]; refine ev_letv (ev_pos (by omega) ?_); rw [wrap64_id (x := (d : Int) + 1) (by omega) (by omega)]; rw [barsD, if_pos b, ← List.append_assoc] at K; exact K
  ·rw [wrap64_id (x := (d : Int) + 1) (by omega) (by omega)]; rw [barsD, if_neg (fun a => b (hbit.2 a)), List.append_nil] at K; exact K
theorem impl_ld_rows (n : Nat) (hn : (n : Int) = w * h) (m : Nat) (R : List S43) (p : List S43) (hp : p.length ≤ 1)
  (H : Ev (fun k => impl_LayoutDecls.l2 k (p ++ cellsD w h cost ex n) ts (ts.length : Int) 0 w h cost ex ts) R) : ∀ c : Nat, c + m = n →
  Ev (fun k => impl_LayoutDecls.l0 k (p ++ cellsD w h cost ex c) cost (cost.length : Int) c w h cost ex ts) R := by
 have wh := wh_le v.w1 v.w2 v.h1 v.h2
 induction m with
 | zero =>
  intro c hc; obtain rfl : c = n := by omega
  refine Ev.step (fun _ => rfl) ?_; simp only [impl_LayoutDecls.l0]; exact ev_neg (by rw [v.lc]; omega) H
 | succ m ih =>
  intro c hc; have K := ih (c + 1) (by omega); have cl := cellsD_len w h cost ex c; have ll : (p ++ cellsD w h cost ex c).length ≤ 50000 := by rw [List.length_append]; omega
  have row : ∀ q : List S43, q.length ≤ 60000 → q ++ barsD w h cost ex c 4 = p ++ cellsD w h cost ex (c + 1) → Ev (fun k => impl_LayoutDecls.j1 k q c cost (cost.length : Int) c w h cost ex ts) R := by
   intro q hq he; refine Ev.step (fun _ => rfl) ?_; simp only [impl_LayoutDecls.j1]; have := impl_ld_row v (ts := ts) c (by omega) q (by omega) R (by rw [he]; exact K) 4 0 (by omega); rw [barsD, List.append_nil] at this; exact this
  refine Ev.step (fun _ => rfl) ?_; simp only [impl_LayoutDecls.l0]; refine ev_pos (by rw [v.lc]; omega) (ev_pos (by omega) (ev_pos (by rw [v.lc]; omega) (ev_ite (fun z => ?_) (fun z => ev_ite (fun o => ?_) (fun o => ?_)))))
  ·rw [iat_eq v.w1 v.w2 (by omega) (by omega)]; refine ev_letv (ev_pos (by omega) ?_); rw [wrap64_id (x := (c : Int) + 1) (by omega) (by omega)]; rw [cellsD, cellD, if_pos z, ← List.append_assoc] at K; exact K
  ·refine row _ (by omega) ?_; rw [cellsD, cellD, if_neg z, zoneD, if_pos o, List.nil_append, ← List.append_assoc]
  ·rw [iat_eq v.w1 v.w2 (by omega) (by omega)]; refine ev_letv (ev_pos (by omega) (row _ (by rw [List.length_append, List.length_singleton]; omega) ?_)); rw [cellsD, cellD, if_neg z, zoneD, if_neg o]; simp only [List.append_assoc]
theorem impl_ld_targets (ht : tok ts (w * h) = true) (p : List S43) (hp : p.length ≤ 60000) (m : Nat) : ∀ j : Nat, j + m = ts.length →
  Ev (fun k => impl_LayoutDecls.l2 k (p ++ tgtsD w ts j) ts (ts.length : Int) j w h cost ex ts) (p ++ tgtsD w ts ts.length) := by
 have wh := wh_le v.w1 v.w2 v.h1 v.h2; have t30 := (tok_iff.1 ht).1
 induction m with
 | zero =>
  intro j hj; obtain rfl : j = ts.length := by omega
  refine Ev.step (fun _ => rfl) ?_; simp only [impl_LayoutDecls.l2]; exact ev_neg (by omega) (Ev.now _)
 | succ m ih =>
  intro j hj; have T := (tok_iff.1 ht).2 j (by omega) (by omega); have K := ih (j + 1) (by omega); have tl := tgtsD_len w ts j; have k0 := T.k0; have k1 := T.k1; have c0 := T.c0; have c1 := T.c1; have n2 := T.n2; have ek : rd [14, 15] (rd_T49 ts j).f1 = 14 + (rd_T49 ts j).f1 := by
   have : (rd_T49 ts j).f1 = 0 ∨ (rd_T49 ts j).f1 = 1 := by omega
   rcases this with e | e <;> rw [e] <;> rfl
  refine Ev.step (fun _ => rfl) ?_; simp only [impl_LayoutDecls.l2]; refine ev_pos (by omega) (ev_pos (by omega) (ev_pos (by omega) (ev_letv (ev_pos k0 (ev_pos (by simp only [List.length_cons, List.length_nil]; omega) ?_))))); rw [iat_eq v.w1 v.w2 c0 (by omega), ek]; have hc : bytes_Clone.f (rd_T49 ts j).f0 = some (rd_T49 ts j).f0 := by unfold bytes_Clone.f; rw [if_pos (by omega)]
  rw [hc]; refine ev_letv (ev_letv (ev_pos (by rw [List.length_append]; omega) ?_)); rw [wrap64_id (x := (j : Int) + 1) (by omega) (by omega)]; rw [tgtsD, ← List.append_assoc] at K; exact K
end
theorem ldecls_both (w h : Int) (cost ex : List Int) (ts : List S49) (nb : Names ts) (hx : ∀ c : Int, 0 ≤ c → c < ex.length → rd ex c ≤ 9223372036854775807) :
  ∃ r, Ev (fun k => spec_LayoutDecls.f k w h cost ex ts) r ∧ Ev (fun k => impl_LayoutDecls.f k w h cost ex ts) r ∧ r.length ≤ 20000 ∧ ∀ j : Int, 0 ≤ j → j < r.length → ((rd_T43 r j).f7.length : Int) ≤ 60 := by
 simp only [spec_LayoutDecls.f, impl_LayoutDecls.f]; have s := spec_ValidLayout_ev w h cost ex ts nb; have i := impl_ValidLayout_ev w h cost ex ts nb hx
 by_cases hv : vl w h cost ex ts = true
 case neg => exact ⟨[], Ev.bind s (ev_neg hv (Ev.now _)), Ev.bind i (ev_neg hv (Ev.now _)), by simp, fun j a b => by simp at b; omega⟩
 have v := vl_facts hv; have ht : tok ts (w * h) = true := by
  unfold vl at hv; rw [Bool.and_eq_true, Bool.and_eq_true, Bool.and_eq_true] at hv; exact hv.2.2.1
 have wh := wh_le v.w1 v.w2 v.h1 v.h2; have t30 := (tok_iff.1 ht).1; have hn : (((w * h).toNat : Nat) : Int) = w * h := by omega
 have cl := cellsD_len w h cost ex (w * h).toNat; have lp : ([⟨7, w, h, w, h, 0, 0, [], 0⟩] ++ cellsD w h cost ex (w * h).toNat : List S43).length ≤ 60000 := by rw [List.length_append, List.length_singleton]; omega
 have s2 := spec_ld_targets v ht _ lp ts.length 0 (by omega); have i2 := impl_ld_targets v ht _ lp ts.length 0 (by omega); rw [tgtsD, List.append_nil] at s2 i2; have s1 := spec_ld_rows v ht (w * h).toNat hn (w * h).toNat _ [⟨7, w, h, w, h, 0, 0, [], 0⟩] (by simp) s2 0 (by omega); have i1 := impl_ld_rows v (w * h).toNat hn (w * h).toNat _ [⟨7, w, h, w, h, 0, 0, [], 0⟩] (by simp) i2 0 (by omega); refine ⟨declsR w h cost ex ts, Ev.bind s (ev_pos hv s1), Ev.bind i (ev_pos hv i1), ?_, ?_⟩
 ·have := tgtsD_len w ts ts.length; unfold declsR; rw [List.length_append, List.length_append, List.length_singleton]; omega
 ·have key : ∀ x ∈ declsR w h cost ex ts, (x.f7.length : Int) ≤ 60 := by
   have hb : ∀ (c : Int) (m : Nat), ∀ x ∈ barsD w h cost ex c m, x.f7 = [] := by
    intro c m
    induction m with
    | zero => intro x hx; simp [barsD] at hx
    | succ m ih =>
     intro x hx; rw [barsD, List.mem_append] at hx
     rcases hx with hx | hx
     ·exact ih x hx
     ·split at hx
      ·rw [List.mem_singleton] at hx; rw [hx]
      ·simp at hx
   have hc : ∀ (m : Nat), ∀ x ∈ cellsD w h cost ex m, x.f7 = [] := by
    intro m
    induction m with
    | zero => intro x hx; simp [cellsD] at hx
    | succ m ih =>
     intro x hx; rw [cellsD, List.mem_append] at hx
     rcases hx with hx | hx
     ·exact ih x hx
     ·unfold cellD zoneD at hx
      split at hx
      ·rw [List.mem_singleton] at hx; rw [hx]; rfl
      ·rw [List.mem_append] at hx
       rcases hx with hx | hx
       ·split at hx
        ·simp at hx
        ·rw [List.mem_singleton] at hx; rw [hx]
       ·exact hb _ _ x hx
   have hg : ∀ (m : Nat), m ≤ ts.length → ∀ x ∈ tgtsD w ts m, (x.f7.length : Int) ≤ 60 := by
    intro m
    induction m with
    | zero => intro _ x hx; simp [tgtsD] at hx
    | succ m ih =>
     intro hm x hx; rw [tgtsD, List.mem_append] at hx
     rcases hx with hx | hx
     ·exact ih (by omega) x hx
     ·rw [List.mem_singleton] at hx; rw [hx]; exact ((tok_iff.1 ht).2 m (by omega) (by omega)).n2
   intro x hx; unfold declsR at hx; rw [List.mem_append, List.mem_append, List.mem_singleton] at hx
   rcases hx with (hx | hx) | hx
   ·rw [hx]; simp
   ·rw [hc _ x hx]; simp
   ·exact hg _ (Nat.le_refl _) x hx
  intro j a b; exact key _ (getD_mem a b)
theorem mkB_exact (l : List Int) (a : Int) (ha : 0 ≤ a) (hb : a ≤ 2305843009213693952) (hl : l.length ≤ 1048576) : laws_markByteS.f (l.length + 1) l a = some (a + l.length, upbyte a l.length) := by
 obtain ⟨y, hy⟩ := mkC_some l a ha hb hl; obtain ⟨K, hK⟩ := markByteS_ev l a ha (by omega); have h1 := at_rounds (g := fun k => laws_markByteS.f k l a) (laws_markByteS.mono l a) (show l.length + 1 ≤ max (l.length + 1) K from Nat.le_max_left _ _) hy; have h2 : laws_markByteS.f (max (l.length + 1) K) l a = some (a + l.length, upbyte a l.length) := hK (max (l.length + 1) K) (Nat.le_max_right _ _); rw [h1] at h2; rw [hy, ← h2]
theorem rdset_eq {xs : List S43} {i : Int} {x : S43} (h0 : 0 ≤ i) (h1 : i < xs.length) : rd_T43 (xs.set i.toNat x) i = x := getD_set_eq h0 h1
theorem rdset_ne {xs : List S43} {i j : Int} {x : S43} (h0 : 0 ≤ i) (h1 : 0 ≤ j) (h : i ≠ j) : rd_T43 (xs.set i.toNat x) j = rd_T43 xs j := getD_set_ne h0 h1 h
theorem mark_held (d : Nat) : ∀ (l : List S43) (a i : Int), 0 ≤ i → (l.length : Int) - i = d → l.length ≤ 20000 → 0 ≤ a → a ≤ 100 * i + 1 → (∀ j : Int, 0 ≤ j → j < l.length → ((rd_T43 l j).f7.length : Int) ≤ 60) →
  ∃ m g, (∀ K : Nat, d < K → laws_markDeclS.l0 K l a i = some (m, g)) ∧ g.length = l.length ∧ (∀ j : Int, 0 ≤ j → j < i → rd_T43 g j = rd_T43 l j) ∧ 0 ≤ m ∧ Ev (fun k => laws_heldDeclS.l0 k g a i) m := by
 induction d with
 | zero =>
  intro l a i h0 hd hl ha hb hs; refine ⟨a, l, fun K hK => ?_, rfl, fun _ _ _ => rfl, ha, Ev.step (fun _ => rfl) ?_⟩
  ·obtain ⟨K', rfl⟩ : ∃ K', K = K' + 1 := ⟨K - 1, by omega⟩; rw [laws_markDeclS.l0, if_neg (by omega)]
  ·simp only [laws_heldDeclS.l0]; exact ev_neg (by omega) (Ev.now _)
 | succ d ih =>
  intro l a i h0 hd hl ha hb hs; have hsi := hs i h0 (by omega); have e7 : wrap64 (wrap64 (wrap64 (wrap64 (wrap64 (wrap64 (wrap64 (a + 1) + 1) + 1) + 1) + 1) + 1) + 1) = a + 7 := by unfold wrap64; omega
  obtain ⟨x, hx⟩ : ∃ x : S43, x = ⟨a, wrap64 (a + 1), wrap64 (wrap64 (a + 1) + 1), wrap64 (wrap64 (wrap64 (a + 1) + 1) + 1), wrap64 (wrap64 (wrap64 (wrap64 (a + 1) + 1) + 1) + 1), wrap64 (wrap64 (wrap64 (wrap64 (wrap64 (a + 1) + 1) + 1) + 1) + 1), wrap64 (wrap64 (wrap64 (wrap64 (wrap64 (wrap64 (a + 1) + 1) + 1) + 1) + 1) + 1), upbyte (a + 7) (rd_T43 l i).f7.length, a + 7 + ((rd_T43 l i).f7.length : Int)⟩ := ⟨_, rfl⟩
  obtain ⟨m, g, hg, hgl, hgp, hm0, hgh⟩ := ih (l.set i.toNat x) (a + 7 + ((rd_T43 l i).f7.length : Int) + 1) (i + 1) (by omega) (by rw [List.length_set]; omega) (by rw [List.length_set]; exact hl) (by omega) (by omega) (fun j j0 j1 => by
   rw [List.length_set] at j1
   by_cases e : j = i
   ·subst e; rw [rdset_eq j0 j1, hx]; show ((upbyte _ _).length : Int) ≤ 60; rw [upbyte_length]; exact hsi
   ·rw [rdset_ne h0 j0 (Ne.symm e)]; exact hs j j0 j1)
  have hgi : rd_T43 g i = x := by rw [hgp i h0 (by omega), rdset_eq h0 (by omega)]
  refine ⟨m, g, fun K hK => ?_, by rw [hgl, List.length_set], fun j j0 j1 => ?_, hm0, ?_⟩
  ·obtain ⟨K', rfl⟩ : ∃ K', K = K' + 1 := ⟨K - 1, by omega⟩; rw [laws_markDeclS.l0, if_pos (by omega), if_pos ⟨by omega, by omega⟩]; rw [e7, mkB_exact _ _ (by omega) (by omega) (by omega)]; simp only [Option.bind_some]; rw [← hx, wrap64_id (x := a + 7 + ((rd_T43 l i).f7.length : Int) + 1) (by omega) (by omega)]; exact hg K' (by omega)
  ·rw [hgp j j0 (by omega), rdset_ne h0 j0 (by omega)]
  ·refine Ev.step (fun _ => rfl) ?_; simp only [laws_heldDeclS.l0]; rw [hgi, hx, e7]; have hh := heldByteS_ev (rd_T43 l i).f7.length (a + 7) (by omega) (by omega); rw [hgl, List.length_set]; refine ev_pos (by omega) (ev_pos h0 (ev_pos (by first | trivial | rfl) (ev_pos (by first | trivial | rfl) (ev_pos (by first | trivial | rfl) (ev_pos (by first | trivial | rfl) (ev_pos (by first | trivial | rfl) (ev_pos (by first | trivial | rfl) (ev_pos (by first | trivial | rfl) (Ev.bind hh (ev_neg (by omega) (ev_pos (by first | trivial | rfl) ?_))))))))))); rw [wrap64_id (x := a + 7 + ((rd_T43 l i).f7.length : Int) + 1) (by omega) (by omega), wrap64_id (x := i + 1) (by omega) (by omega)]; exact hgh
theorem eqDecl_self (l : List S43) (hl : l.length ≤ 20000) (hs : ∀ j : Int, 0 ≤ j → j < l.length → ((rd_T43 l j).f7.length : Int) ≤ 60) : Ev (fun k => laws_eqDeclS.f k l l) true := by
 simp only [laws_eqDeclS.f]; refine ev_pos (by first | trivial | rfl) ?_; have loop : ∀ d : Nat, ∀ i : Int, 0 ≤ i → (l.length : Int) - i = d → Ev (fun k => laws_eqDeclS.l0 k l l i) true := by
  intro d
  induction d with
  | zero =>
   intro i h0 hd; refine Ev.step (fun _ => rfl) ?_; simp only [laws_eqDeclS.l0]; exact ev_neg (by omega) (Ev.now _)
  | succ d ih =>
   intro i h0 hd; have hsi := hs i h0 (by omega); refine Ev.step (fun _ => rfl) ?_; simp only [laws_eqDeclS.l0, laws_eqDecl.f]; refine ev_pos (by omega) (ev_pos h0 (ev_pos (by omega) (Ev.bind (ev_pos (by first | trivial | rfl) (ev_pos (by first | trivial | rfl) (ev_pos (by first | trivial | rfl) (ev_pos (by first | trivial | rfl) (ev_pos (by first | trivial | rfl) (ev_pos (by first | trivial | rfl) (ev_pos (by first | trivial | rfl) (Ev.bind (eqByteS_self _ (by omega)) (ev_pos (by first | trivial | rfl) (ev_pos (by first | trivial | rfl) (Ev.now _))))))))))) (ev_pos (by first | trivial | rfl) ?_)))); rw [wrap64_id (by omega) (by omega)]; exact ih _ (by omega) (by omega)
 exact loop l.length 0 (by omega) (by omega)

theorem markLayout_some (w h : Int) (cost ex : List Int) (ts : List S49) (h1 : cost.length ≤ 1048576) (h2 : ex.length ≤ 1048576) (c3 : ts.length ≤ 1048576 ∧ ∀ j : Int, 0 ≤ j → j < ts.length → ((rd_T49 ts j).f0.length : Int) ≤ 1048576) :
  ∃ r, laws_markLayout.f w h cost ex ts 1 = some r ∧ 0 ≤ r := by
 have s2 : ∀ x ∈ ts, x.f0.length ≤ 1048576 := by
  intro x hx; obtain ⟨j, hj, rfl⟩ := List.getElem_of_mem hx; have := c3.2 (j : Int) (by omega) (by omega); unfold rd_T49 at this; rw [List.getD_eq_getElem?_getD, Int.toNat_natCast, List.getElem?_eq_getElem hj] at this; simp only [Option.getD_some] at this
  omega
 have t := totalT_le s2; refine ⟨1 + cost.length + ex.length + totalT ts, ?_, by omega⟩; unfold laws_markLayout.f laws_markTargetS.f; rw [if_pos ⟨h1, h2, by omega, by omega⟩, if_pos ⟨smallT_iff.2 ⟨c3.1, s2⟩, by omega, by omega⟩]

theorem FnExactLayoutDecls : laws_FnExactLayoutDecls.Pure := by
 intro w h cost ex ts ww wh w2 w3 w4; have m0 : ∀ x ∈ ts, x.f0.length ≤ 9223372036854775807 := fun x hx => (w4.2 x hx).1.1
 have hb : ∀ x ∈ ts, Bytes x.f0 := fun x hx => Bytes.of (w4.2 x hx).1
 have hx : ∀ c : Int, 0 ≤ c → c < ex.length → rd ex c ≤ 9223372036854775807 := fun c c0 c1 => (ints_of w3.2 c c0 c1).2
 refine Ev.rounds (g := fun k => laws_FnExactLayoutDecls.f k w h cost ex ts) ?_; simp only [laws_FnExactLayoutDecls.f]; obtain ⟨r, e, q⟩ := szLayout_or w h cost ex ts w2.1 w3.1 m0 w4.1
 rcases q with rfl | ⟨q0, c1, c2, c3⟩
 ·exact Ev.bind e (ev_pos (by omega) (Ev.now _))
 have t := toLayout_ev w h cost ex ts c1 c2 c3; have nb := names_of hb c3.2; have cm := map_small c3; obtain ⟨g, s, i, l1, l2⟩ := ldecls_both w h cost ex (ts.map convT) nb hx; obtain ⟨kk, ek, k0⟩ := markLayout_some w h cost ex (ts.map convT) c1 c2 cm; obtain ⟨m, g1, hm, hgl, _, hm0, hh⟩ := mark_held g.length g 1 0 (by omega) (by omega) l1 (by omega) (by omega) l2; have hf : laws_markDeclS.f g 1 = some (m, g1) := by unfold laws_markDeclS.f; rw [if_pos ⟨by omega, by omega, by omega⟩]; exact hm _ (by omega)
 have hh2 : Ev (fun k => laws_heldDeclS.f k g1 1) m := by simp only [laws_heldDeclS.f]; exact hh
 refine Ev.bind e (ev_neg (by omega) (Ev.bind t (Ev.bind s (Ev.bind i (Ev.bind (eqDecl_self g l1 l2) (ev_pos (by trivial) (Ev.bind (eqLayout_self w h cost ex _ c1 c2 cm) (ev_pos (by trivial) ?_)))))))); rw [ek]; refine ev_letv (ev_pos k0 ?_); rw [hf]; exact ev_letv (Ev.bind hh2 (ev_pos ⟨hm0, rfl⟩ (Ev.now _)))

end Go.Proofs.YtibipjpmeekifaaDoor.Pure
