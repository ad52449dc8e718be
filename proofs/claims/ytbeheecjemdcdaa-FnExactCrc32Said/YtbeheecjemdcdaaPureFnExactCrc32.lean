/- The program's Crc32 returns what the reference's returns, for all bytes: no condition. -/
import Derived.Test.YtbeheecjemdcdaaPFnExactCrc32x1
import Derived.OpenShut
namespace Go.Proofs.Ytbeheecjemdcdaa.Pure
set_option linter.unusedVariables false
set_option linter.unusedSimpArgs false
open Go.RowKit Go.Proofs.Ytbeheecjemdcdaa.PFnExactCrc32 Go.Proofs.YtbeheecjemdcdaaW.PrintWords Go.Proofs.YtbeheecjemdcdaaW.PrintLast Go.Proofs.YtbeheecjemdcdaaW.PrintMore
/-! ### general words: from some number of rounds on -/
section EvLib
variable {α β : Type}
theorem ev_pos {c : Prop} [Decidable c] {A B : Nat → Option α} {r : α} (h : c) (k : Ev A r) : Ev (fun n => if c then A n else B n) r :=
  Ev.congr (fun _ => if_pos h) k
theorem ev_neg {c : Prop} [Decidable c] {A B : Nat → Option α} {r : α} (h : ¬ c) (k : Ev B r) : Ev (fun n => if c then A n else B n) r :=
  Ev.congr (fun _ => if_neg h) k
theorem ev_ite {c : Prop} [Decidable c] {A B : Nat → Option α} {r : α} (h1 : c → Ev A r) (h2 : ¬ c → Ev B r) : Ev (fun n => if c then A n else B n) r := by
  by_cases h : c
  · exact ev_pos h (h1 h)
  · exact ev_neg h (h2 h)
theorem ev_letv {a : α} {f : Nat → α → Option β} {r : β} (k : Ev (fun n => f n a) r) : Ev (fun n => (some a).bind (f n)) r := Ev.bind (Ev.now a) k
end EvLib
theorem wrap64_id {x : Int} (h0 : -9223372036854775808 ≤ x) (h1 : x ≤ 9223372036854775807) : wrap64 x = x := by unfold wrap64; omega
theorem tdiv_nn {x y : Int} (h0 : 0 ≤ x) : Int.tdiv x y = x / y := Int.tdiv_eq_ediv_of_nonneg h0
theorem tmod_nn {x y : Int} (h0 : 0 ≤ x) : Int.tmod x y = x % y := Int.tmod_eq_emod_of_nonneg h0
theorem rd_nat (l : List Int) (i : Nat) : rd l (i : Int) = l.getD i 0 := by simp [rd]
theorem rd_get {l : List Int} {i : Int} (h0 : 0 ≤ i) (h1 : i.toNat < l.length) : rd l i = l[i.toNat] := by
  unfold rd; rw [List.getD_eq_getElem?_getD, List.getElem?_eq_getElem h1]; rfl
theorem rd_mem {l : List Int} {i : Int} (h0 : 0 ≤ i) (h1 : i < l.length) : rd l i ∈ l := by
  have h : i.toNat < l.length := by omega
  rw [rd_get h0 h]; exact List.getElem_mem h
theorem rd_set_eq {l : List Int} {i : Int} {v : Int} (h0 : 0 ≤ i) (h1 : i < l.length) : rd (l.set i.toNat v) i = v := by
  have h : i.toNat < l.length := by omega
  unfold rd; rw [List.getD_eq_getElem?_getD, List.getElem?_set_self h]; rfl
theorem rd_set_ne {l : List Int} {i j : Int} {v : Int} (h0 : 0 ≤ i) (h1 : 0 ≤ j) (h : i ≠ j) : rd (l.set i.toNat v) j = rd l j := by
  unfold rd; rw [List.getD_eq_getElem?_getD, List.getElem?_set_ne (by omega), ← List.getD_eq_getElem?_getD]
theorem rd_ext {l m : List Int} (h : l.length = m.length) (e : ∀ i : Int, 0 ≤ i → i < l.length → rd l i = rd m i) : l = m := by
  apply List.ext_getElem h
  intro i h1 h2
  have := e i (by omega) (by omega)
  rw [rd_get (by omega) (by simpa using h1), rd_get (by omega) (by simpa using h2)] at this
  simpa using this

theorem wf_u8 {x : Int} (h : (Lit.int .u8 x).wf = true) : 0 ≤ x ∧ x ≤ 255 := by
  simp [Lit.wf, IntKind.min, IntKind.max, IntKind.signed, IntKind.bits] at h; omega
theorem wf_i64 {x : Int} (h : (Lit.int .i64 x).wf = true) : -9223372036854775808 ≤ x ∧ x ≤ 9223372036854775807 := by
  simp [Lit.wf, IntKind.min, IntKind.max, IntKind.signed, IntKind.bits] at h; omega
theorem bytes_of {l : List Int} (h : ∀ x ∈ l, (Lit.int .u8 x).wf = true) : ∀ i : Int, 0 ≤ i → i < l.length → 0 ≤ rd l i ∧ rd l i ≤ 255 :=
  fun i h0 h1 => wf_u8 (h _ (rd_mem h0 h1))
theorem ints_of {l : List Int} (h : ∀ x ∈ l, (Lit.int .i64 x).wf = true) : ∀ i : Int, 0 ≤ i → i < l.length → -9223372036854775808 ≤ rd l i ∧ rd l i ≤ 9223372036854775807 :=
  fun i h0 h1 => wf_i64 (h _ (rd_mem h0 h1))

theorem toByteS_loop (x0 : List Int) (hb : x0.length ≤ 281474976710656) (d : Nat) : ∀ (x3 : List Int) (i : Int), 0 ≤ i → x3.length = x0.length → (x0.length : Int) - i = d →
    (∀ j : Int, 0 ≤ j → j < i → rd x3 j = rd x0 j) → Ev (fun k => laws_toByteS.l0 k x0 x3 i) x0 := by
  induction d with
  | zero =>
    intro x3 i h0 hl hd he
    refine Ev.step (fun _ => rfl) ?_
    simp only [laws_toByteS.l0]
    refine ev_neg (by omega) ?_
    have : x3 = x0 := rd_ext hl (fun j a b => he j a (by omega))
    rw [this]; exact Ev.now _
  | succ d ih =>
    intro x3 i h0 hl hd he
    refine Ev.step (fun _ => rfl) ?_
    simp only [laws_toByteS.l0]
    refine ev_pos (by omega) (ev_pos (by omega) (ev_pos (by omega) ?_))
    rw [wrap64_id (by omega) (by omega)]
    refine ih _ _ (by omega) (by simpa using hl) (by omega) ?_
    intro j a b
    by_cases e : j = i
    · subst e; exact rd_set_eq (by omega) (by omega)
    · rw [rd_set_ne (by omega) (by omega) (by omega)]; exact he j a (by omega)
theorem toByteS_ev (l : List Int) (hb : l.length ≤ 281474976710656) : Ev (fun k => laws_toByteS.f k l) l := by
  simp only [laws_toByteS.f]
  refine ev_pos (by omega) (ev_pos (by omega) ?_)
  exact toByteS_loop l hb l.length _ 0 (by omega) (by simp) (by omega) (fun j a b => by omega)

theorem eqByteS_loop (a b : List Int) (hl : a.length = b.length) (hb : a.length ≤ 9223372036854775800) (d : Nat) : ∀ (i : Int), 0 ≤ i → (a.length : Int) - i = d →
    (∀ j : Int, 0 ≤ j → j < i → rd a j = rd b j) → Ev (fun k => laws_eqByteS.l0 k a b i) (decide (a = b)) := by
  induction d with
  | zero =>
    intro i h0 hd he
    refine Ev.step (fun _ => rfl) ?_
    simp only [laws_eqByteS.l0]
    refine ev_neg (by omega) ?_
    have : a = b := rd_ext hl (fun j p q => he j p (by omega))
    rw [decide_eq_true this]; exact Ev.now _
  | succ d ih =>
    intro i h0 hd he
    refine Ev.step (fun _ => rfl) ?_
    simp only [laws_eqByteS.l0]
    refine ev_pos (by omega) (ev_pos (by omega) (ev_pos (by omega) (ev_ite (fun e => ?_) (fun e => ?_))))
    · rw [wrap64_id (by omega) (by omega)]
      refine ih _ (by omega) (by omega) ?_
      intro j p q
      by_cases e' : j = i
      · subst e'; exact e
      · exact he j p (by omega)
    · have : a ≠ b := fun h => e (by rw [h])
      rw [decide_eq_false this]; exact Ev.now _
theorem eqByteS_ev (a b : List Int) (hb : a.length ≤ 9223372036854775800) : Ev (fun k => laws_eqByteS.f k a b) (decide (a = b)) := by
  simp only [laws_eqByteS.f]
  refine ev_ite (fun e => ?_) (fun e => ?_)
  · exact eqByteS_loop a b (by omega) hb a.length 0 (by omega) (by omega) (fun j p q => by omega)
  · have : a ≠ b := fun h => e (by rw [h])
    rw [decide_eq_false this]; exact Ev.now _
theorem eqByteS_self (a : List Int) (hb : a.length ≤ 9223372036854775800) : Ev (fun k => laws_eqByteS.f k a a) true := by
  have := eqByteS_ev a a hb
  rwa [decide_eq_true rfl] at this

theorem xor32_range (a b : Int) : 0 ≤ Go.bits .xor .u32 a b ∧ Go.bits .xor .u32 a b ≤ 4294967295 := by
  have := wf_bits .xor .u32 a b
  simp [Lit.wf, IntKind.min, IntKind.max, IntKind.signed, IntKind.bits] at this
  omega
theorem xor32_comm (a b : Int) : Go.bits .xor .u32 a b = Go.bits .xor .u32 b a := by
  simp only [Go.bits, BitVec.xor_comm]
theorem and32_one {x : Int} (h0 : 0 ≤ x) (h1 : x ≤ 4294967295) : Go.bits .and .u32 x 1 = x % 2 := by
  have := bits_mask .u32 32 (by decide) (fun n a b => by rw [IntKind.wrap_u32]; omega) 1 (by decide) x h0 (by omega)
  simpa using this
def crcStep (h : Int) : Int := if h % 2 = 1 then Go.bits .xor .u32 (h / 2) 3988292384 else h / 2
def crcSteps : Nat → Int → Int
  | 0, h => h
  | n + 1, h => crcSteps n (crcStep h)
def crcByte (h b : Int) : Int := crcSteps 8 (Go.bits .xor .u32 h b)
def crcOf (l : List Int) : Int := Go.bits .xor .u32 (l.foldl crcByte 4294967295) 4294967295
theorem crcStep_range {h : Int} (h0 : 0 ≤ h) (h1 : h ≤ 4294967295) : 0 ≤ crcStep h ∧ crcStep h ≤ 4294967295 := by
  unfold crcStep; split
  · exact xor32_range _ _
  · omega
theorem crcSteps_range (n : Nat) : ∀ {h : Int}, 0 ≤ h → h ≤ 4294967295 → 0 ≤ crcSteps n h ∧ crcSteps n h ≤ 4294967295 := by
  induction n with
  | zero => intro h h0 h1; exact ⟨h0, h1⟩
  | succ n ih => intro h h0 h1; exact ih (crcStep_range h0 h1).1 (crcStep_range h0 h1).2
theorem crcByte_range (h b : Int) : 0 ≤ crcByte h b ∧ crcByte h b ≤ 4294967295 := crcSteps_range 8 (xor32_range _ _).1 (xor32_range _ _).2
theorem crcOf_range (l : List Int) : 0 ≤ crcOf l ∧ crcOf l ≤ 4294967295 := xor32_range _ _
theorem drop_rd {l : List Int} {i : Nat} (h : i < l.length) : l.drop i = rd l (i : Int) :: l.drop (i + 1) := by
  rw [rd_get (by omega) (by simpa using h)]
  exact List.drop_eq_getElem_cons h

theorem spec_crc_bits {R : Int} (l : List Int) (i : Int) (d : Nat) : ∀ (j h : Int), 0 ≤ j → 8 - j = d → 0 ≤ h → h ≤ 4294967295 →
    Ev (fun k => spec_Crc32.l0 k l (crcSteps d h) (wrap64 (i + 1))) R → Ev (fun k => spec_Crc32.l1 k l h i j) R := by
  induction d with
  | zero =>
    intro j h j0 hd h0 h1 hR
    refine Ev.step (fun _ => rfl) ?_
    simp only [spec_Crc32.l1]
    exact ev_neg (by omega) hR
  | succ d ih =>
    intro j h j0 hd h0 h1 hR
    refine Ev.step (fun _ => rfl) ?_
    simp only [spec_Crc32.l1]
    refine ev_pos (by omega) ?_
    simp (disch := omega) only [wrap64_id, tdiv_nn, tmod_nn]
    rw [Int.emod_eq_of_lt (show 0 ≤ h / 2 by omega) (show h / 2 < 4294967296 by omega)]
    refine ev_ite (fun e => ?_) (fun e => ?_)
    · refine ih _ _ (by omega) (by omega) (xor32_range _ _).1 (xor32_range _ _).2 ?_
      simpa only [crcSteps, crcStep, if_pos e] using hR
    · refine ih _ _ (by omega) (by omega) (by omega) (by omega) ?_
      simpa only [crcSteps, crcStep, if_neg e] using hR
theorem spec_crc_loop (l : List Int) (hb : l.length ≤ 9223372036854775800) (hl : ∀ i : Int, 0 ≤ i → i < l.length → 0 ≤ rd l i ∧ rd l i ≤ 255) (d : Nat) : ∀ (i : Nat) (h : Int), i + d = l.length → 0 ≤ h → h ≤ 4294967295 →
    Ev (fun k => spec_Crc32.l0 k l h i) (Go.bits .xor .u32 ((l.drop i).foldl crcByte h) 4294967295) := by
  induction d with
  | zero =>
    intro i h hi h0 h1
    refine Ev.step (fun _ => rfl) ?_
    simp only [spec_Crc32.l0]
    refine ev_neg (by omega) ?_
    rw [List.drop_of_length_le (by omega)]
    exact Ev.now _
  | succ d ih =>
    intro i h hi h0 h1
    refine Ev.step (fun _ => rfl) ?_
    simp only [spec_Crc32.l0]
    refine ev_pos (by omega) (ev_pos (by omega) ?_)
    have hr := hl i (by omega) (by omega)
    rw [Int.emod_eq_of_lt (show 0 ≤ rd l i by omega) (show rd l i < 4294967296 by omega)]
    refine spec_crc_bits l i 8 0 _ (by omega) (by omega) (xor32_range _ _).1 (xor32_range _ _).2 ?_
    rw [wrap64_id (by omega) (by omega), drop_rd (by omega)]
    have := ih (i + 1) (crcByte h (rd l i)) (by omega) (crcByte_range _ _).1 (crcByte_range _ _).2
    simpa only [List.foldl_cons, crcByte, Int.natCast_add, Int.natCast_one] using this
theorem spec_Crc32_ev (l : List Int) (hb : l.length ≤ 9223372036854775800) (hl : ∀ i : Int, 0 ≤ i → i < l.length → 0 ≤ rd l i ∧ rd l i ≤ 255) : Ev (fun k => spec_Crc32.f k l) (crcOf l) := by
  have := spec_crc_loop l hb hl l.length 0 4294967295 (by omega) (by omega) (by omega)
  simpa only [spec_Crc32.f, crcOf, List.drop_zero, Int.natCast_zero] using this

theorem impl_crc_bits {R : Int} (l : List Int) (i : Int) (d : Nat) : ∀ (j h : Int), 0 ≤ j → 8 - j = d → 0 ≤ h → h ≤ 4294967295 →
    Ev (fun k => impl_Crc32.l0 k (crcSteps d h) l l.length (wrap64 (i + 1))) R → Ev (fun k => impl_Crc32.l1 k h l l.length i j) R := by
  induction d with
  | zero =>
    intro j h j0 hd h0 h1 hR
    refine Ev.step (fun _ => rfl) ?_
    simp only [impl_Crc32.l1]
    exact ev_neg (by omega) hR
  | succ d ih =>
    intro j h j0 hd h0 h1 hR
    refine Ev.step (fun _ => rfl) ?_
    simp only [impl_Crc32.l1]
    refine ev_pos (by omega) ?_
    rw [and32_one h0 h1]
    simp (disch := omega) only [wrap64_id]
    refine ev_ite (fun e => ?_) (fun e => ?_)
    · refine ih _ _ (by omega) (by omega) (xor32_range _ _).1 (xor32_range _ _).2 ?_
      simpa only [crcSteps, crcStep, if_pos e] using hR
    · refine ih _ _ (by omega) (by omega) (by omega) (by omega) ?_
      simpa only [crcSteps, crcStep, if_neg e] using hR
theorem impl_crc_loop (l : List Int) (hb : l.length ≤ 9223372036854775800) (hl : ∀ i : Int, 0 ≤ i → i < l.length → 0 ≤ rd l i ∧ rd l i ≤ 255) (d : Nat) : ∀ (i : Nat) (h : Int), i + d = l.length → 0 ≤ h → h ≤ 4294967295 →
    Ev (fun k => impl_Crc32.l0 k h l l.length i) (Go.bits .xor .u32 ((l.drop i).foldl crcByte h) 4294967295) := by
  induction d with
  | zero =>
    intro i h hi h0 h1
    refine Ev.step (fun _ => rfl) ?_
    simp only [impl_Crc32.l0]
    refine ev_neg (by omega) ?_
    rw [List.drop_of_length_le (by omega), xor32_comm]
    exact Ev.now _
  | succ d ih =>
    intro i h hi h0 h1
    refine Ev.step (fun _ => rfl) ?_
    simp only [impl_Crc32.l0]
    refine ev_pos (by omega) (ev_pos (by omega) (ev_pos (by omega) ?_))
    have hr := hl i (by omega) (by omega)
    rw [Int.emod_eq_of_lt (show 0 ≤ rd l i by omega) (show rd l i < 4294967296 by omega)]
    refine impl_crc_bits l i 8 0 _ (by omega) (by omega) (xor32_range _ _).1 (xor32_range _ _).2 ?_
    rw [wrap64_id (by omega) (by omega), drop_rd (by omega)]
    have := ih (i + 1) (crcByte h (rd l i)) (by omega) (crcByte_range _ _).1 (crcByte_range _ _).2
    simpa only [List.foldl_cons, crcByte, Int.natCast_add, Int.natCast_one] using this
theorem impl_Crc32_ev (l : List Int) (hb : l.length ≤ 9223372036854775800) (hl : ∀ i : Int, 0 ≤ i → i < l.length → 0 ≤ rd l i ∧ rd l i ≤ 255) : Ev (fun k => impl_Crc32.f k l) (crcOf l) := by
  have := impl_crc_loop l hb hl l.length 0 4294967295 (by omega) (by omega) (by omega)
  simpa only [impl_Crc32.f, crcOf, List.drop_zero, Int.natCast_zero] using this

theorem FnExactCrc32 : laws_FnExactCrc32.Pure := by
  intro l0 h1 h2 h3
  have hb := bytes_of h3
  refine Ev.rounds (g := fun k => laws_FnExactCrc32.f k l0) ?_
  simp only [laws_FnExactCrc32.f]
  by_cases hc : (l0.length : Int) > 1048576
  · exact ev_pos hc (Ev.now _)
  refine ev_neg hc ?_
  have e1 := toByteS_ev l0 (by omega)
  have e2 := spec_Crc32_ev l0 (by omega) hb
  have e3 := impl_Crc32_ev l0 (by omega) hb
  refine Ev.bind e1 (Ev.bind e2 (Ev.bind e1 (Ev.bind e3 (ev_pos rfl (Ev.bind e1 (Ev.bind (eqByteS_self l0 (by omega)) ?_))))))
  exact ev_pos rfl (Ev.now _)

end Go.Proofs.Ytbeheecjemdcdaa.Pure
