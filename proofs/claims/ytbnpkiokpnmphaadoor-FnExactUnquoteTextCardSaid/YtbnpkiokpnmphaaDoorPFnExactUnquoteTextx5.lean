-- made by wip/tools/myprint.py (this session's own program, over the kit's printer)
import Derived.Test.YtbnpkiokpnmphaaDoorPFnExactUnquoteTextx0
namespace Go.Proofs.YtbnpkiokpnmphaaDoor.PFnExactUnquoteText
open Go.RowKit Go.Proofs.YtbnpkiokpnmphaaDoorW.PrintWords Go.Proofs.YtbnpkiokpnmphaaDoorW.PrintLast Go.Proofs.YtbnpkiokpnmphaaDoorW.PrintMore
attribute [local go_sem] max2_int min2_int max_two min_two max_three min_three max_four min_four   -- for this text's walks alone
set_option linter.unusedVariables false
set_option linter.unusedSimpArgs false

/-! ### impl_literal: function 12 -/
-- only: true
-- only: true
def impl_literal.hexd (c : Int) : Bool := decide ((48 ≤ c ∧ c ≤ 57) ∨ (97 ≤ c ∧ c ≤ 102) ∨ (65 ≤ c ∧ c ≤ 70))
def impl_literal.hx (c : Int) : Int := if c ≤ 57 then c - 48 else if c < 97 then c - 55 else c - 87
def impl_literal.val (l : List Int) : Int := l.foldl (fun a c => a * 16 + impl_literal.hx c) 0
theorem impl_literal.val_step (l : List Int) (i : Nat) (h : i < l.length) : impl_literal.val (l.take (i + 1)) = impl_literal.val (l.take i) * 16 + impl_literal.hx (rd l i) := by
 unfold impl_literal.val; rw [List.take_add_one, List.getElem?_eq_getElem h]; simp only [Option.toList_some, List.foldl_append, List.foldl_cons, List.foldl_nil]
 congr 2
 unfold rd; simp [List.getD_eq_getElem?_getD, List.getElem?_eq_getElem h]
theorem impl_literal.hx_le (c : Int) (h : impl_literal.hexd c = true) : 0 ≤ impl_literal.hx c ∧ impl_literal.hx c ≤ 15 := by
 have h := of_decide_eq_true h; unfold impl_literal.hx
 split
 ·omega
 ·split <;> omega
theorem impl_literal.val_le (l : List Int) (h : ∀ x ∈ l, impl_literal.hexd x = true) : ∀ a : Int, 0 ≤ a → 0 ≤ l.foldl (fun a c => a * 16 + impl_literal.hx c) a ∧ l.foldl (fun a c => a * 16 + impl_literal.hx c) a < (a + 1) * 16 ^ l.length := by
 induction l with
 | nil => intro a ha; simp; omega
 | cons c l ih =>
  intro a ha; have hc := impl_literal.hx_le c (h c (by simp)); have := ih (fun x hx => h x (by simp [hx])) (a * 16 + impl_literal.hx c) (by omega); rw [List.foldl_cons]; refine ⟨this.1, Int.lt_of_lt_of_le this.2 ?_⟩; rw [List.length_cons, Int.pow_succ, Int.mul_comm (16 ^ l.length) (16 : Int), ← Int.mul_assoc]; have hp : (0 : Int) ≤ 16 ^ l.length := Int.le_of_lt (Int.pow_pos (show (0 : Int) < 16 by decide)); exact Int.mul_le_mul_of_nonneg_right (show a * 16 + impl_literal.hx c + 1 ≤ (a + 1) * 16 by omega) hp
theorem impl_literal.val_lt (l : List Int) (h : ∀ x ∈ l, impl_literal.hexd x = true) (h6 : l.length ≤ 6) : 0 ≤ impl_literal.val l ∧ impl_literal.val l < 16777216 := by
 have := impl_literal.val_le l h 0 (by omega); refine ⟨this.1, Int.lt_of_lt_of_le this.2 ?_⟩; have : l.length = 0 ∨ l.length = 1 ∨ l.length = 2 ∨ l.length = 3 ∨ l.length = 4 ∨ l.length = 5 ∨ l.length = 6 := by omega
 rcases this with e | e | e | e | e | e | e <;> rw [e] <;> decide
theorem impl_literal.orc : ∀ n : Nat, n < 128 → impl_literal.hexd (n : Int) = true → 57 < n → Go.bits .or .u8 (n : Int) 32 = (if n < 97 then ((n : Int) + 32) else (n : Int)) := by decide +kernel
theorem impl_literal.low (c : Int) (w : World) : Calls Tryd.prog 37 #[.int .u8 c] w fun e w' => e = .returned (.int .u8 (Go.bits .or .u8 c 32)) ∧ w' = w := by
 go_enter Tryd.func37, Tryd.ntmps37; go_wp2; go_ret; exact ⟨rfl, rfl⟩
set_option maxHeartbeats 4000000 in
set_option maxRecDepth 100000 in
theorem impl_literal.ipu (t : ByteArray) (h1 : 1 ≤ t.size) (h6 : t.size ≤ 6) (hx : ∀ x ∈ bytesOf t, impl_literal.hexd x = true) (w : World) : Calls Tryd.prog 33 #[.string t, .int .i64 16, .int .i64 32] w fun e w' => e = .returned (.tuple #[.int .u64 (impl_literal.val (bytesOf t)), .nilIface]) ∧ Below w.heap.size w w' := by
 have LN := zA (bytesOf_length t); have HX := zA hx; have HZ := zA (And.intro h1 h6); have hne : t.toList.isEmpty = false := by
  rw [ByteArray.toList_eq]; cases e : t.data.toList with
  | nil =>
   have : t.data.toList.length = 0 := by rw [e]; rfl
   rw [data_length] at this; omega
  | cons _ _ => rfl
 clear hx h1 h6; have hcv : ∀ W : World, (convert 9 22 (.string t)).run Tryd.prog W = _ := fun W => Lib.run_convert_string_bytes W 9 22 5 t Tryd.underlying9 Tryd.underlying22 Tryd.underlying5
 go_enter Tryd.func33, Tryd.ntmps33; go_wp2; have RD := zA (bytes_reads w 5 t (by have := HZ.out.2; omega)); have HB := zA (bytes_below (Below.refl w.heap.size w) (Nat.le_refl _) 5 t); have sz6 : (t.size : Int) ≤ 6 := by have := HZ.out.2; omega
 generalize Lib.bytesWorld w 5 t = w1 at RD HB; obtain ⟨g, hg⟩ : ∃ g, w.heap.size = g := ⟨_, rfl⟩; rw [hg] at RD ⊢; have GG := zA hg; clear hg; generalize grownCap w t.size 0 5 = cap; obtain ⟨L, hL⟩ : ∃ L, bytesOf t = L := ⟨_, rfl⟩; rw [hL] at LN HX RD; have EL := zA hL; clear hL; clear hcv hne
 go_loopg [101, 12, 13] (L.length + 1) (fun kq v101 v12 v13 w' => ∃ (i : Nat), v101 = .int .i64 i ∧ v12 = .bool false ∧ v13 = .int .u64 (impl_literal.val (L.take i)) ∧ Aside0 (kq + i = L.length + 1) ∧ Aside0 (ReadsInt w' .u8 (some ⟨g, 0, none⟩) t.size L) ∧ Aside0 (Below w.heap.size w w'))
 case atStart => exact ⟨0, rfl, rfl, rfl, ⟨rfl⟩, RD, HB⟩
 case round =>
  clear RD HB; obtain ⟨i, rfl, rfl, rfl, HK, RD, HB⟩ := hrel
  by_cases c1 : i < t.size
  ·have hv := impl_literal.val_lt (L.take i) (fun x hx => HX.out x (List.mem_of_mem_take hx)) (by have := HZ.out.2; rw [List.length_take]; omega); have hi : i < L.length := by have := LN.out; omega
   have hst := impl_literal.val_step L i hi; have hv2 := impl_literal.val_lt (L.take (i + 1)) (fun x hx => HX.out x (List.mem_of_mem_take hx)) (by have := HZ.out.2; rw [List.length_take]; omega); have hc := HX.out (rd L i) (by unfold rd; simp only [Int.toNat_natCast, List.getD_eq_getElem?_getD, List.getElem?_eq_getElem hi, Option.getD_some]; exact List.getElem_mem hi); obtain ⟨ad, ea, hcell⟩ := RD.out.at_ (i : Int) (by omega) (by omega); cases ea; rw [Int.toNat_natCast, Addr.add_lit, Nat.zero_add] at hcell; have HV := zA hv; have HV2 := zA hv2; have HC := zA hc; have HST := zA hst; have H1 := zA c1; clear hv hi hst hv2 hc c1; generalize rd L (i : Int) = c at hcell HC HST; generalize impl_literal.val (L.take i) = n at HV HST ⊢; obtain ⟨m, hm⟩ : ∃ m, impl_literal.val (L.take (i + 1)) = m := ⟨_, rfl⟩; rw [hm] at HV2 HST; have hdle := impl_literal.hx_le c HC.out; obtain ⟨d, hd⟩ : ∃ d, impl_literal.hx c = d := ⟨_, rfl⟩; rw [hd] at HST hdle; have hst := HST.out; obtain ⟨k1, rfl⟩ : ∃ k1, gk = k1 + 1 := ⟨gk - 1, by have := HK.out; have := H1.out; have := LN.out; omega⟩; have c1b : decide (i < t.size) = true := decide_eq_true H1.out; have c1c : (i < t.size) = True := eq_true H1.out; have b3 : (16 ≤ d) = False := eq_false (by omega); have b3d : decide (16 ≤ d) = false := decide_eq_false (by omega); have b4 : (1152921504606846976 ≤ n) = False := eq_false (by have := HV.out; omega); have b4d : decide (1152921504606846976 ≤ n) = false := decide_eq_false (by have := HV.out; omega); have b5 : (m < n * 16) = False := eq_false (by have := HV.out; omega)
   have b5d : decide (m < n * 16) = false := decide_eq_false (by have := HV.out; omega); have b6 : (4294967295 < m) = False := eq_false (by have := HV2.out; omega); have b6d : decide (4294967295 < m) = false := decide_eq_false (by have := HV2.out; omega); have ew1 : IntKind.u64.wrap (n * 16) = n * 16 := by have := HV.out; rw [IntKind.wrap_u64]; omega
   have ew2 : IntKind.u64.wrap (n * 16 + d) = m := by have := HV.out; have := HV2.out; rw [IntKind.wrap_u64]; omega
   clear hst hdle
   by_cases q : c ≤ 57
   ·have q1 : 48 ≤ c := by have := of_decide_eq_true HC.out; omega
    have b0 : (c == 95) = false := beq_eq_false_iff_ne.2 (by omega); have b1 : decide (48 ≤ c) = true := decide_eq_true q1; have b2 : decide (c ≤ 57) = true := decide_eq_true q; have e0 : (c - 48) % 256 = d := by unfold impl_literal.hx at hd; rw [if_pos q] at hd; omega
    have hst : True := trivial; clear q q1 hd; clear hst; go_wp2; go_roundg k1
    case measure => exact Nat.lt_succ_self _
    case rel => exact ⟨i + 1, by (simp; have := H1.out; unfold wrap64; omega), rfl, by rw [hm], ⟨by have := HK.out; omega⟩, RD, HB⟩
   ·have hq := of_decide_eq_true HC.out; have b0 : (c == 95) = false := beq_eq_false_iff_ne.2 (by omega); have b1 : decide (48 ≤ c) = true := decide_eq_true (by omega); have b2 : decide (c ≤ 57) = false := decide_eq_false q; obtain ⟨lo, elow, hlo⟩ : ∃ lo : Int, Go.bits .or .u8 c 32 = lo ∧ lo = (if c < 97 then c + 32 else c) := by
     refine ⟨_, rfl, ?_⟩; have h := impl_literal.orc c.toNat (by omega) (by rw [Int.toNat_of_nonneg (by omega)]; exact HC.out) (by omega); rw [Int.toNat_of_nonneg (by omega)] at h; rw [h]
     by_cases z : c < 97
     ·rw [if_pos (by omega), if_pos z]
     ·rw [if_neg (by omega), if_neg z]
    have b7 : decide (97 ≤ lo) = true := decide_eq_true (by rw [hlo]; split <;> omega); have b8 : decide (lo ≤ 122) = true := decide_eq_true (by rw [hlo]; split <;> omega); have e0 : ((lo - 97) % 256 + 10) % 256 = d := by
     unfold impl_literal.hx at hd; rw [if_neg q] at hd; rw [hlo, ← hd]
     by_cases z : c < 97
     ·rw [if_pos z, if_pos z]; omega
     ·rw [if_neg z, if_neg z]; omega
    have hst : True := trivial; clear q hq hd hlo; clear hst; go_wp2_with (first | (go_at_call 37; refine (impl_literal.low c _).mono ?_; rintro e w9 ⟨rfl, hw⟩; obtain rfl := hw.symm; rw [elow])); go_roundg k1
    case measure => exact Nat.lt_succ_self _
    case rel => exact ⟨i + 1, by (simp; have := H1.out; unfold wrap64; omega), rfl, by rw [hm], ⟨by have := HK.out; omega⟩, RD, HB⟩
  ·have c1b : decide (i < t.size) = false := decide_eq_false c1; have c1c : (i < t.size) = False := eq_false c1; have eL : L.take i = L := List.take_of_length_le (by have := LN.out; omega); rw [eL]; clear c1; go_wp2; go_ret2; exact ⟨by (rw [EL.out]; rfl), HB.out⟩
set_option maxHeartbeats 4000000 in
theorem impl_literal.pu (t : ByteArray) (h1 : 1 ≤ t.size) (h6 : t.size ≤ 6) (hx : ∀ x ∈ bytesOf t, impl_literal.hexd x = true) (w : World) : Calls Tryd.prog 27 #[.string t, .int .i64 16, .int .i64 32] w fun e w' => e = .returned (.tuple #[.int .u64 (impl_literal.val (bytesOf t)), .nilIface]) ∧ Below w.heap.size w w' := by
 have HX := zA hx; clear hx; go_enter Tryd.func27, Tryd.ntmps27; go_wp2_with (first | (go_at_call 33; refine (impl_literal.ipu t h1 h6 HX.out w).mono ?_; rintro e w2 ⟨rfl, hb⟩; have HB := zA hb; clear hb)); go_ret2; exact ⟨rfl, HB.out⟩
def impl_literal.rl (t : ByteArray) : Nat → Nat → Option Bool
 | 0, _ => none
 | m + 1, pos => if pos < t.size then (if impl_literal.hexd ((Utf8.decode t pos).1 : Int) = true then impl_literal.rl t m (pos + (Utf8.decode t pos).2) else some false) else some true
def impl_literal.escC (t : ByteArray) (e : Int) (ok : Bool) : Option (Int × Int) :=
 if ok = true then (if 1 ≤ t.size ∧ t.size ≤ 6 ∧ (∀ x ∈ bytesOf t, impl_literal.hexd x = true) then (if 1114111 < impl_literal.val (bytesOf t) then some (0, -1) else if Lib.validRune (impl_literal.val (bytesOf t)) = true then some (impl_literal.val (bytesOf t), e + 1) else some (0, -1)) else none) else some (0, -1)
def impl_literal.escB (s : ByteArray) (e : Int) : Option (Int × Int) :=
 if e < 4 then some (0, -1) else if 9 < e then some (0, -1) else if e.toNat ≤ s.size then (impl_literal.rl (s.extract 3 e.toNat) 8 0).bind fun ok => impl_literal.escC (s.extract 3 e.toNat) e ok else none
def impl_literal.esc (s : ByteArray) : Option (Int × Int) :=
 if 1 < s.size ∧ (bt s 1 = 34 ∨ bt s 1 = 92) then some (bt s 1, 2) else if Lib.hasPrefix s.data.toList [92, 117, 123] = true then impl_literal.escB s (Lib.indexByte s.data.toList 125) else some (0, -1)
theorem impl_literal.bt_le (s : ByteArray) (i : Int) : 0 ≤ bt s i ∧ bt s i ≤ 255 := by
 unfold bt
 split
 ·rename_i h; have := (s[i.toNat]'h).toNat_lt
  omega
 ·omega
set_option maxHeartbeats 4000000 in
set_option maxRecDepth 100000 in
theorem impl_literal.es (s : ByteArray) (r1 r2 : Int) (w : World) (hs : s.size ≤ 100000000000) (h : impl_literal.esc s = some (r1, r2)) : Calls Tryd.prog 17 #[.string s] w fun e w' => e = .returned (.tuple #[.int .i32 r1, .int .i64 r2]) ∧ Below w.heap.size w w' := by
 have HS := zA hs; have BL := zA (impl_literal.bt_le s 1); clear hs; unfold impl_literal.esc at h
 by_cases c1 : 1 < s.size
 ·have d1i : ((1 : Int) < (s.size : Int)) = True := eq_true (by omega); have d1c : (1 < s.size) = True := eq_true c1; have hat : (((s[1]'c1).toNat : Nat) : Int) = bt s 1 := by unfold bt; rw [dif_pos (show (1 : Int).toNat < s.size from c1)]; rfl
  obtain ⟨x, hx⟩ : ∃ x, bt s 1 = x := ⟨_, rfl⟩; rw [hx] at hat h BL; clear hx; have ew : wrap32 x = x := by have := BL.out; unfold wrap32; omega
  by_cases c2 : x = 34 ∨ x = 92
  ·rw [if_pos ⟨c1, c2⟩] at h; have e := Option.some.inj h; injection e with e1 e2; subst e1 e2; clear h BL
   rcases c2 with c2 | c2
   ·subst c2; go_enter Tryd.func17, Tryd.ntmps17; go_wp2; go_ret2; exact ⟨rfl, Below.refl _ _⟩
   ·subst c2; go_enter Tryd.func17, Tryd.ntmps17; go_wp2; go_ret2; exact ⟨rfl, Below.refl _ _⟩
  ·rw [if_neg (fun a => c2 a.2)] at h; have b0 : (x == 34) = false := beq_eq_false_iff_ne.2 (by omega); have b0c : (x = 34) = False := eq_false (by omega); have b1 : (x == 92) = false := beq_eq_false_iff_ne.2 (by omega); have b1c : (x = 92) = False := eq_false (by omega); have HH := zA h; have C1 := zA c1; clear h c2; go_enter Tryd.func17, Tryd.ntmps17
   go_upto_region 3 with (fail)
   clear b0 b0c b1 b1c ew hat BL; have hh := HH.out
   by_cases c3 : Lib.hasPrefix s.data.toList [92, 117, 123] = true
   ·rw [if_pos c3] at hh; have HP := zA c3; obtain ⟨en, hen⟩ : ∃ en, Lib.indexByte s.data.toList 125 = en := ⟨_, rfl⟩; rw [hen] at hh; have HH := zA hh; have EN := zA hen; clear hh hen c3
    go_upto_region 5 with (first | (go_at_call 25; refine (Any.strings_HasPrefix Tryd.lays_99 s _ _).mono ?_; rintro e w2 ⟨rfl, hw⟩; obtain rfl := hw.symm; rw [show Lib.hasPrefix s.data.toList (⟨#[92, 117, 123]⟩ : ByteArray).data.toList = true from HP.out]))
    go_upto_region 6 with (first | (go_at_call 26; refine (Any.strings_IndexByte Tryd.lays_137 s _ _).mono ?_; rintro e w2 ⟨rfl, hw⟩; obtain rfl := hw.symm; rw [show Lib.indexByte s.data.toList ((125 : Int).toNat.toUInt8) = en from EN.out]))
    have hh := HH.out; unfold impl_literal.escB at hh
    by_cases c4 : en < 4
    ·rw [if_pos c4] at hh; have e := Option.some.inj hh; injection e with e1 e2; subst e1 e2; have b4 : decide (en < 4) = true := decide_eq_true c4; have b4c : (en < 4) = True := eq_true c4; clear hh c4; go_wp2; go_ret2; exact ⟨rfl, Below.refl _ _⟩
    ·rw [if_neg c4] at hh; have b4 : decide (en < 4) = false := decide_eq_false c4; have b4c : (en < 4) = False := eq_false c4
     by_cases c5 : 9 < en
     ·rw [if_pos c5] at hh; have e := Option.some.inj hh; injection e with e1 e2; subst e1 e2; have b5 : decide (9 < en) = true := decide_eq_true c5; have b5c : (9 < en) = True := eq_true c5; clear hh c5 c4; go_wp2; go_ret2; exact ⟨rfl, Below.refl _ _⟩
     ·rw [if_neg c5] at hh; have b5 : decide (9 < en) = false := decide_eq_false c5; have b5c : (9 < en) = False := eq_false c5
      by_cases c6 : en.toNat ≤ s.size
      case neg => rw [if_neg c6] at hh; cases hh
      rw [if_pos c6] at hh; obtain ⟨ok, hrl, hc⟩ := Option.bind_eq_some_iff.mp hh; have RL := zA hrl; have CC := zA hc; have E4 := zA (show 4 ≤ en ∧ en ≤ 9 ∧ en.toNat ≤ s.size from ⟨by omega, by omega, c6⟩); have b6 : ((0 : Int) ≤ 3) = True := eq_true (by decide); have b7 : ((3 : Int) ≤ en) = True := eq_true (by omega); have b8 : (en ≤ (s.size : Int)) = True := eq_true (by omega); clear hh hrl hc c4 c5 c6 HH; go_wp2; have IT := zA (show (w.iter (s.extract 3 en.toNat) 0).heap[w.heap.size]? = some (.stringIter (s.extract 3 en.toNat) 0) from World.iter_heap w _ 0); have HB := zA (show Below w.heap.size w (w.iter (s.extract 3 en.toNat) 0) from below_alloc (Below.refl _ _) _); have NB := zA (Nat.le_refl w.heap.size); generalize (w.iter (s.extract 3 en.toNat) 0) = w9 at IT HB ⊢; obtain ⟨bi, hbi⟩ : ∃ bi, w.heap.size = bi := ⟨_, rfl⟩; rw [hbi] at IT ⊢; have BI := zA hbi; obtain ⟨t, ht⟩ : ∃ t, s.extract 3 en.toNat = t := ⟨_, rfl⟩; rw [ht] at IT RL CC ⊢; have ET := zA ht; clear ht hbi NB
      go_loopg [] 8 (fun kq w' => ∃ (pos : Nat), Aside0 (impl_literal.rl t kq pos = some ok) ∧ Aside0 (Below w.heap.size w w') ∧ Aside0 (w'.heap[bi]? = some (.stringIter t pos)))
      case atStart => exact ⟨0, RL, HB, IT⟩
      case round =>
       clear RL HB IT; obtain ⟨pos, RL, HB, IT⟩ := hrel; cases gk with
       | zero => exact absurd RL.out (by simp [impl_literal.rl])
       | succ k1 =>
        have hq := RL.out; rw [impl_literal.rl] at hq
        by_cases hp : pos < t.size
        ·rw [if_pos hp] at hq; have hnx : ∀ ty, (Instr.next (.pointer (some ⟨bi, 0, none⟩)) true ty).run Tryd.prog wr = _ := fun ty => Lib.run_next_any_at wr bi t pos ty IT.out hp
         have n0_ := zA (Lib.below_iterAt HB.out (by rw [BI.out]; exact Nat.le_refl _) t (pos + (Utf8.decode t pos).2)); have n1_ := zA (Lib.iterAt_heap wr bi t pos (pos + (Utf8.decode t pos).2) IT.out); generalize (wr.iterAt bi t (pos + (Utf8.decode t pos).2)) = w10 at hnx n0_ n1_; generalize pos + (Utf8.decode t pos).2 = pos2 at hq n1_; generalize ((Utf8.decode t pos).1 : Int) = rr at hq hnx; clear RL HB IT hp; have HB := n0_; have IT := n1_; clear n0_ n1_
         by_cases qh : impl_literal.hexd rr = true
         ·rw [if_pos qh] at hq; have RL2 := zA hq; have qq := of_decide_eq_true qh; clear hq qh
          rcases qq with qq | qq | qq
          ·have kk0 : decide (48 ≤ rr) = true := decide_eq_true (by omega); have kk0c : (48 ≤ rr) = True := eq_true (by omega); have kk1 : decide (rr ≤ 57) = true := decide_eq_true (by omega); have kk1c : (rr ≤ 57) = True := eq_true (by omega); clear qq; go_wp2; go_roundg k1
           case measure => exact Nat.lt_succ_self _
           case rel => exact ⟨pos2, RL2, HB, IT⟩
          ·have kk0 : decide (48 ≤ rr) = true := decide_eq_true (by omega); have kk0c : (48 ≤ rr) = True := eq_true (by omega); have kk1 : decide (rr ≤ 57) = false := decide_eq_false (by omega); have kk1c : (rr ≤ 57) = False := eq_false (by omega); have kk2 : decide (97 ≤ rr) = true := decide_eq_true (by omega); have kk2c : (97 ≤ rr) = True := eq_true (by omega); have kk3 : decide (rr ≤ 102) = true := decide_eq_true (by omega); have kk3c : (rr ≤ 102) = True := eq_true (by omega); clear qq; go_wp2; go_roundg k1
           case measure => exact Nat.lt_succ_self _
           case rel => exact ⟨pos2, RL2, HB, IT⟩
          ·have kk0 : decide (48 ≤ rr) = true := decide_eq_true (by omega); have kk0c : (48 ≤ rr) = True := eq_true (by omega); have kk1 : decide (rr ≤ 57) = false := decide_eq_false (by omega); have kk1c : (rr ≤ 57) = False := eq_false (by omega); have kk2 : decide (97 ≤ rr) = false := decide_eq_false (by omega); have kk2c : (97 ≤ rr) = False := eq_false (by omega); have kk3 : decide (65 ≤ rr) = true := decide_eq_true (by omega); have kk3c : (65 ≤ rr) = True := eq_true (by omega); have kk4 : decide (rr ≤ 70) = true := decide_eq_true (by omega); have kk4c : (rr ≤ 70) = True := eq_true (by omega); clear qq; go_wp2; go_roundg k1
           case measure => exact Nat.lt_succ_self _
           case rel => exact ⟨pos2, RL2, HB, IT⟩
         ·rw [if_neg qh] at hq; have e := Option.some.inj hq; subst e; have qq : ¬ ((48 ≤ rr ∧ rr ≤ 57) ∨ (97 ≤ rr ∧ rr ≤ 102) ∨ (65 ≤ rr ∧ rr ≤ 70)) := fun a => qh (decide_eq_true a)
          have hcc := CC.out; unfold impl_literal.escC at hcc; rw [if_neg (by decide)] at hcc; have e := Option.some.inj hcc; injection e with e1 e2; subst e1 e2; clear hq qh hcc; have qd : rr < 48 ∨ (57 < rr ∧ rr < 65) ∨ (70 < rr ∧ rr < 97) ∨ 102 < rr := by omega
          clear qq; have qq := qd; clear qd
          rcases qq with qq | qq | qq | qq
          ·have kk0 : decide (48 ≤ rr) = false := decide_eq_false (by omega); have kk0c : (48 ≤ rr) = False := eq_false (by omega); have kk1 : decide (97 ≤ rr) = false := decide_eq_false (by omega); have kk1c : (97 ≤ rr) = False := eq_false (by omega); have kk2 : decide (65 ≤ rr) = false := decide_eq_false (by omega); have kk2c : (65 ≤ rr) = False := eq_false (by omega); clear qq; go_wp2; go_ret2; exact ⟨rfl, HB.out⟩
          ·have kk0 : decide (48 ≤ rr) = true := decide_eq_true (by omega); have kk0c : (48 ≤ rr) = True := eq_true (by omega); have kk1 : decide (rr ≤ 57) = false := decide_eq_false (by omega); have kk1c : (rr ≤ 57) = False := eq_false (by omega); have kk2 : decide (97 ≤ rr) = false := decide_eq_false (by omega); have kk2c : (97 ≤ rr) = False := eq_false (by omega); have kk3 : decide (65 ≤ rr) = false := decide_eq_false (by omega); have kk3c : (65 ≤ rr) = False := eq_false (by omega); clear qq; go_wp2; go_ret2; exact ⟨rfl, HB.out⟩
          ·have kk0 : decide (48 ≤ rr) = true := decide_eq_true (by omega); have kk0c : (48 ≤ rr) = True := eq_true (by omega); have kk1 : decide (rr ≤ 57) = false := decide_eq_false (by omega); have kk1c : (rr ≤ 57) = False := eq_false (by omega); have kk2 : decide (97 ≤ rr) = false := decide_eq_false (by omega); have kk2c : (97 ≤ rr) = False := eq_false (by omega); have kk3 : decide (65 ≤ rr) = true := decide_eq_true (by omega); have kk3c : (65 ≤ rr) = True := eq_true (by omega); have kk4 : decide (rr ≤ 70) = false := decide_eq_false (by omega); have kk4c : (rr ≤ 70) = False := eq_false (by omega); clear qq; go_wp2; go_ret2; exact ⟨rfl, HB.out⟩
          ·have kk0 : decide (48 ≤ rr) = true := decide_eq_true (by omega); have kk0c : (48 ≤ rr) = True := eq_true (by omega); have kk1 : decide (rr ≤ 57) = false := decide_eq_false (by omega); have kk1c : (rr ≤ 57) = False := eq_false (by omega); have kk2 : decide (97 ≤ rr) = true := decide_eq_true (by omega); have kk2c : (97 ≤ rr) = True := eq_true (by omega); have kk3 : decide (rr ≤ 102) = false := decide_eq_false (by omega); have kk3c : (rr ≤ 102) = False := eq_false (by omega); have kk4 : decide (65 ≤ rr) = true := decide_eq_true (by omega); have kk4c : (65 ≤ rr) = True := eq_true (by omega); have kk5 : decide (rr ≤ 70) = false := decide_eq_false (by omega); have kk5c : (rr ≤ 70) = False := eq_false (by omega); clear qq; go_wp2; go_ret2; exact ⟨rfl, HB.out⟩
        ·rw [if_neg hp] at hq; have e := Option.some.inj hq; subst e; have hnx : ∀ ty, (Instr.next (.pointer (some ⟨bi, 0, none⟩)) true ty).run Tryd.prog wr = _ := fun ty => Lib.run_next_end_at wr bi t pos ty IT.out hp
         have hcc := CC.out; unfold impl_literal.escC at hcc; rw [if_pos rfl] at hcc
         by_cases g1 : 1 ≤ t.size ∧ t.size ≤ 6 ∧ (∀ x ∈ bytesOf t, impl_literal.hexd x = true)
         case neg => rw [if_neg g1] at hcc; cases hcc
         rw [if_pos g1] at hcc; have hv := impl_literal.val_lt (bytesOf t) g1.2.2 (by rw [bytesOf_length]; exact g1.2.1); have G1 := zA g1; have HV := zA hv; clear g1 hv hq hp; obtain ⟨v, hv⟩ : ∃ v, impl_literal.val (bytesOf t) = v := ⟨_, rfl⟩; rw [hv] at hcc HV; have VE := zA hv; have ew : wrap32 v = v := by have := HV.out; unfold wrap32; omega
         clear hv
         by_cases c7 : 1114111 < v
         ·rw [if_pos c7] at hcc; have e := Option.some.inj hcc; injection e with e1 e2; subst e1 e2; have k7 : decide (1114111 < v) = true := decide_eq_true c7; have kk7c : (1114111 < v) = True := eq_true c7; clear hcc c7; go_wp2_with (first | (go_at_call 27; (try rw [ET.out]); refine (impl_literal.pu t G1.out.1 G1.out.2.1 G1.out.2.2 _).mono ?_; rintro e w11 ⟨rfl, hb⟩; rw [VE.out]; replace HB := zA (below_step HB.out hb); clear hb)); go_ret2; exact ⟨rfl, HB.out⟩
         ·rw [if_neg c7] at hcc; have k7 : decide (1114111 < v) = false := decide_eq_false c7; have kk7c : (1114111 < v) = False := eq_false c7
          by_cases c8 : Lib.validRune v = true
          ·rw [if_pos c8] at hcc; have e := Option.some.inj hcc; injection e with e1 e2; subst e1 e2; have V8 := zA c8; have en1 : wrap64 (en + 1) = en + 1 := by have := E4.out; unfold wrap64; omega
           clear hcc c7 c8; go_wp2_with (first | (go_at_call 27; (try rw [ET.out]); refine (impl_literal.pu t G1.out.1 G1.out.2.1 G1.out.2.2 _).mono ?_; rintro e w11 ⟨rfl, hb⟩; rw [VE.out]; replace HB := zA (below_step HB.out hb); clear hb) | (go_at_call 28; (try rw [ew]); refine (Any.utf8_ValidRune Tryd.lays_119 v _).mono ?_; rintro e w12 ⟨rfl, hw⟩; obtain rfl := hw.symm; rw [V8.out])); go_ret2; exact ⟨by (rw [ew, en1]; rfl), HB.out⟩
          ·rw [if_neg c8] at hcc; have e := Option.some.inj hcc; injection e with e1 e2; subst e1 e2; have V8 := zA (Bool.eq_false_iff.2 c8); clear hcc c7 c8; go_wp2_with (first | (go_at_call 27; (try rw [ET.out]); refine (impl_literal.pu t G1.out.1 G1.out.2.1 G1.out.2.2 _).mono ?_; rintro e w11 ⟨rfl, hb⟩; rw [VE.out]; replace HB := zA (below_step HB.out hb); clear hb) | (go_at_call 28; (try rw [ew]); refine (Any.utf8_ValidRune Tryd.lays_119 v _).mono ?_; rintro e w12 ⟨rfl, hw⟩; obtain rfl := hw.symm; rw [V8.out])); go_ret2; exact ⟨rfl, HB.out⟩
   ·rw [if_neg c3] at hh; have e := Option.some.inj hh; injection e with e1 e2; subst e1 e2; have HP := zA (show Lib.hasPrefix s.data.toList [92, 117, 123] = false from Bool.eq_false_iff.2 c3); clear hh c3; go_wp2_with (first | (go_at_call 25; refine (Any.strings_HasPrefix Tryd.lays_99 s _ _).mono ?_; rintro e w2 ⟨rfl, hw⟩; obtain rfl := hw.symm; rw [show Lib.hasPrefix s.data.toList (⟨#[92, 117, 123]⟩ : ByteArray).data.toList = false from HP.out])); go_ret2; exact ⟨rfl, Below.refl _ _⟩
 ·rw [if_neg (fun a => c1 a.1)] at h; have d1i : ((1 : Int) < (s.size : Int)) = False := eq_false (by omega); have hp : Lib.hasPrefix s.data.toList [92, 117, 123] = false := by
   have hl : s.data.toList.length ≤ 1 := by rw [data_length]; omega
   unfold Lib.hasPrefix
   match e : s.data.toList with
   | [] => rfl
   | [a] => simp [List.isPrefixOf]
   | a :: b :: c => rw [e] at hl; simp at hl
  rw [hp] at h; have e := Option.some.inj h; injection e with e1 e2; subst e1 e2; have HP := zA hp; clear h BL hp c1; go_enter Tryd.func17, Tryd.ntmps17; go_wp2_with (first | (go_at_call 25; refine (Any.strings_HasPrefix Tryd.lays_99 s _ _).mono ?_; rintro e w2 ⟨rfl, hw⟩; obtain rfl := hw.symm; rw [show Lib.hasPrefix s.data.toList (⟨#[92, 117, 123]⟩ : ByteArray).data.toList = false from HP.out])); go_ret2; exact ⟨rfl, Below.refl _ _⟩
def impl_literal.ll (s : ByteArray) : Nat → Nat → List Int → Option (List Int × Int)
 | 0, _, _ => none
 | m + 1, i, out => if i < s.size then (if ((Utf8.decode s i).1 : Int) = 34 then some (out, (i : Int) + 1)
   else if ((Utf8.decode s i).1 : Int) = 10 then some ([], -1)
   else if ((Utf8.decode s i).1 : Int) = 65533 ∧ ((Utf8.decode s i).2 : Int) ≤ 1 then some ([], -1)
   else if ((Utf8.decode s i).1 : Int) = 92 then (impl_literal.esc (s.extract i s.size)).bind fun c => if c.2 < 0 then some ([], -1) else if (-2147483648 ≤ c.1 ∧ c.1 ≤ 2147483647) ∧ out.length ≤ 100000000000 ∧ c.2 ≤ 100 then impl_literal.ll s m (i + c.2.toNat) (out ++ Lib.encodeRuneZ c.1) else none
   else if i + (Utf8.decode s i).2 ≤ s.size ∧ out.length ≤ 100000000000 then impl_literal.ll s m (i + (Utf8.decode s i).2) (out ++ bytesOf (s.extract i (i + (Utf8.decode s i).2))) else none) else some ([], -1)
def impl_literal.f (k : Nat) (a0 : ByteArray) : Option (List Int × Int) :=
 if a0.size ≤ 1000000000 then (if 0 < a0.size ∧ bt a0 0 = 34 then impl_literal.ll a0 (a0.size + 1) 1 [] else some ([], -1)) else none
theorem impl_literal.mono : ∀ a0 k, LeO (impl_literal.f k a0) (impl_literal.f (k + 1) a0) := by
 intro a0 k; exact LeO.refl _
theorem impl_literal.get_ext (s : ByteArray) (i j : Nat) (hi : i ≤ s.size) : (s.extract i s.size).get! j = s.get! (i + j) := by
 have e1 : ∀ (t : ByteArray) (k : Nat), t.get! k = t.data[k]! := fun _ _ => rfl
 rw [e1, e1]; have hd : (s.extract i s.size).data = s.data.extract i s.size := by simp [ByteArray.data_extract]
 rw [hd]; simp only [getElem!_def]; rw [Array.getElem?_extract]; have : s.data.size = s.size := rfl
 by_cases h : j < min s.size s.data.size - i
 ·rw [if_pos h]
 ·rw [if_neg h, Array.getElem?_eq_none (by omega)]
theorem impl_literal.dec_ext (s : ByteArray) (i : Nat) (hi : i < s.size) : Lib.decodeGo (s.extract i s.size) = Utf8.decode s i := by
 have hsz : (s.extract i s.size).size = s.size - i := by simp [ByteArray.size_extract]
 unfold Lib.decodeGo; rw [if_neg (by rw [hsz]; omega), Lib.decode_at, Lib.decode_at, hsz]; simp only [impl_literal.get_ext s i _ (Nat.le_of_lt hi), Nat.sub_zero, Nat.add_zero, Nat.zero_add]
theorem impl_literal.strc (s : ByteArray) : encs (Value.int .u8) (bytesOf s) = Lib.strCells s := by
 unfold encs bytesOf Lib.strCells; rw [List.map_map]; rfl
theorem impl_literal.dec_le (s : ByteArray) (i : Nat) : (Utf8.decode s i).1 ≤ 1114111 ∧ (Utf8.decode s i).2 ≤ 4 := by
 rw [Lib.decode_at]; unfold Lib.decodeN; repeat' split
 all_goals (simp only; omega)
theorem impl_literal.hbyte : (Tryd.prog.info? 5).map (fun i => (i.zero, i.size, i.bytes)) = some (some (.int .u8 0), 1, 1) := by kernel_rfl
set_option maxHeartbeats 4000000 in
set_option maxRecDepth 100000 in
theorem impl_literal.calls (k : Nat) (a0 : ByteArray) (r1 : List Int) (r2 : Int) (w : World) (hL : LaidW w) (h : impl_literal.f k a0 = some (r1, r2)) : Calls Tryd.prog 12 #[.string a0] w fun e w' => ∃ v0_ : Value, e = .returned (.tuple #[v0_, .int .i64 r2]) ∧ Kd.R (Kd.int .u8) 5 w' w.heap.size (fun _ => True) v0_ r1 ∧ Below w.heap.size w w' := by
 have HL := zA hL; clear hL; obtain ⟨ti, hi, hz0, hz1, hz2⟩ := info_parts info5; have HI := zA (show Tryd.prog.info? 5 = some ti ∧ ti.zero = some (.int .u8 0) ∧ ti.size = 1 ∧ ti.bytes = 1 from ⟨hi, hz0, hz1, hz2⟩); clear hi hz0 hz1 hz2; unfold impl_literal.f at h
 by_cases g0 : a0.size ≤ 1000000000
 case neg => rw [if_neg g0] at h; cases h
 rw [if_pos g0] at h; have G0 := zA g0
 by_cases c0 : 0 < a0.size
 ·have hne : a0.toList.isEmpty = false := by
   rw [ByteArray.toList_eq]; cases e : a0.data.toList with
   | nil =>
    have : a0.data.toList.length = 0 := by rw [e]; rfl
    rw [data_length] at this; omega
   | cons _ _ => rfl
  have d0 : (0 < a0.size) = True := eq_true c0; have d0i : ((0 : Int) < (a0.size : Int)) = True := eq_true (by omega); have hat : (((a0[0]'c0).toNat : Nat) : Int) = bt a0 0 := by unfold bt; rw [dif_pos (show (0 : Int).toNat < a0.size from c0)]; rfl
  obtain ⟨x, hx⟩ : ∃ x, bt a0 0 = x := ⟨_, rfl⟩; rw [hx] at hat h; clear hx
  by_cases c1 : x = 34
  ·rw [if_pos ⟨c0, c1⟩] at h; subst c1; have HH := zA h; clear h g0; go_enter Tryd.func12, Tryd.ntmps12; go_wp2; clear hat d0 d0i hne; have OW := zA (show (w.alloc (.cells #[] 5)).ownsRow w.heap.size 5 1 (.slice (some ⟨w.heap.size, 0, none⟩) ([] : List Int).length 0) ([] : List Int).length (encs (Value.int .u8) []) from World.ownsRow_made w #[] 0 (Nat.le_refl _) (Nat.zero_le _) rfl); have HB := zA (show Below w.heap.size w (w.alloc (.cells #[] 5)) from below_alloc (Below.refl _ _) _); generalize (w.alloc (.cells #[] 5)) = w9 at OW HB ⊢
   go_loopg [4, 5] (a0.size + 1) (fun kq v4 v5 w' => ∃ (i : Nat) (out : List Int), v5 = .int .i64 i ∧ Aside0 (impl_literal.ll a0 kq i out = some (r1, r2)) ∧ Aside0 (w'.ownsRow w.heap.size 5 1 v4 out.length (encs (Value.int .u8) out)) ∧ Aside0 (Below w.heap.size w w'))
   case atStart => exact ⟨1, [], rfl, HH, OW, HB⟩
   case round =>
    clear HH OW HB; obtain ⟨i, out, rfl, HH, OW, HB⟩ := hrel; cases gk with
    | zero => exact absurd HH.out (by simp [impl_literal.ll])
    | succ k1 =>
     have hq := HH.out; rw [impl_literal.ll] at hq
     by_cases ci : i < a0.size
     ·rw [if_pos ci] at hq; have i0 : (i < a0.size) = True := eq_true ci; have i1 : decide (i < a0.size) = true := decide_eq_true ci; have i2 : (i ≤ a0.size) = True := eq_true (Nat.le_of_lt ci); have hde := impl_literal.dec_ext a0 i ci; have hdl := impl_literal.dec_le a0 i; have DE := zA hde; have CI := zA ci; obtain ⟨rr, hrr⟩ : ∃ rr : Int, ((Utf8.decode a0 i).1 : Int) = rr := ⟨_, rfl⟩; obtain ⟨n, hn⟩ : ∃ n : Nat, (Utf8.decode a0 i).2 = n := ⟨_, rfl⟩; rw [hrr, hn] at hq; have DL := zA (show 0 ≤ rr ∧ rr ≤ 1114111 ∧ n ≤ 4 from by rw [← hrr, ← hn]; omega); have ER := zA hrr; have EN := zA hn; have HQ := zA hq; clear HH hde hdl hrr hn hq ci
      go_upto_region 12 with (first | (go_at_call 16; refine (Any.utf8_DecodeRuneInString Tryd.lays_197 _ _ (LaidW.below HL.out HB.out).utf8).mono ?_; rintro e w10 ⟨rfl, hb⟩; rw [DE.out, ER.out, EN.out]; replace HB := zA (below_step HB.out hb); replace OW := zA (own_move OW.out (fun k hk => hb.block k (OW.out.lt k hk).2)); clear hb))
      have hq := HQ.out; clear HQ
      by_cases z1 : rr = 34
      ·rw [if_pos z1] at hq; have e := Option.some.inj hq; injection e with e1 e2; subst e1 e2; subst z1; have ew : wrap64 ((i : Int) + 1) = (i : Int) + 1 := by have := CI.out; have := G0.out; unfold wrap64; omega
       clear hq; go_wp2; go_ret2; exact ⟨_, by (rw [ew]; rfl), Kd.R_of_own OW.out (fun _ _ => trivial), HB.out⟩
      rw [if_neg z1] at hq; have f1 : (rr == 34) = false := beq_eq_false_iff_ne.2 z1; have f1c : (rr = 34) = False := eq_false z1; have f1n : (rr != 34) = true := bne_iff_ne.2 z1
      by_cases z2 : rr = 10
      ·rw [if_pos z2] at hq; have e := Option.some.inj hq; injection e with e1 e2; subst e1 e2; subst z2; clear hq z1; go_wp2; go_ret2; exact ⟨_, rfl, Kd.R_nil _ _ _ _ _, HB.out⟩

      rw [if_neg z2] at hq; have f2 : (rr == 10) = false := beq_eq_false_iff_ne.2 z2; have f2c : (rr = 10) = False := eq_false z2; have f2n : (rr != 10) = true := bne_iff_ne.2 z2
      by_cases z3 : rr = 65533
      ·have nf : 0 ≤ (n : Int) := Int.natCast_nonneg n
       by_cases z4 : (n : Int) ≤ 1
       ·rw [if_pos ⟨z3, z4⟩] at hq; have e := Option.some.inj hq; injection e with e1 e2; subst e1 e2; subst z3; have n1 : decide ((n : Int) ≤ 1) = true := decide_eq_true z4; have n1c : ((n : Int) ≤ 1) = True := eq_true z4; have n1d : (n ≤ 1) = True := eq_true (by omega); clear hq z1 z2 z4 f1 f1c f1n f2 f2c f2n nf; go_wp2; go_ret2; exact ⟨_, rfl, Kd.R_nil _ _ _ _ _, HB.out⟩

       ·rw [if_neg (fun a => z4 a.2), if_neg (by omega)] at hq; subst z3; have n1 : decide ((n : Int) ≤ 1) = false := decide_eq_false z4; have n1c : ((n : Int) ≤ 1) = False := eq_false z4; have n1d : (n ≤ 1) = False := eq_false (by omega); clear z1 z2 z4 f1 f1c f1n f2 f2c f2n nf
        by_cases y3 : i + n ≤ a0.size ∧ out.length ≤ 100000000000
        case neg => rw [if_neg y3] at hq; cases hq
        rw [if_pos y3] at hq; have HQ := zA hq; have Y3 := zA y3; have ew : wrap64 ((i : Int) + (n : Int)) = (i : Int) + (n : Int) := by have := CI.out; have := G0.out; have := DL.out; unfold wrap64; omega
        have e1 : ((i : Int) ≤ (i : Int) + (n : Int)) = True := eq_true (by omega); have e2 : ((i : Int) + (n : Int) ≤ (a0.size : Int)) = True := eq_true (by have := y3.1; omega); clear hq y3; have en : ((i : Int) + (n : Int)).toNat = i + n := by omega
        have esz : (a0.extract i (i + n)).size ≤ 4 := by simp [ByteArray.size_extract]; have := DL.out; omega
        go_wp2_with (first | ((with_reducible refine gate_builtin (b := .append) (xs := #[.tmp 64, .tmp 70]) rfl ?_); at_builtin; refine Lib.wpList_append_own_string _ rfl _ _ 22 9 rfl w.heap.size 5 ti Tryd.underlying22 Tryd.underlying9 HI.out.1 HI.out.2.1 HI.out.2.2.1 HI.out.2.2.2 _ _ _ rfl OW.out (a0.extract i (i + n)) rfl (by (have := Y3.out.2; unfold maxLen; omega)) (by (have := Y3.out.2; omega)) (below_size HB.out) ?_; intro v1 w12 hown hg _; replace HB := zA (HB.out.grown hg (below_size HB.out) (fun k hk => (OW.out.lt k hk).1)); replace OW := zA (show w12.ownsRow w.heap.size 5 1 v1 (out ++ bytesOf (a0.extract i (i + n))).length (encs (Value.int .u8) (out ++ bytesOf (a0.extract i (i + n)))) from by (rw [List.length_append, bytesOf_length, encs_append, impl_literal.strc]; exact hown)); clear hown hg)); go_roundg k1
        case measure => exact Nat.lt_succ_self _
        case rel => exact ⟨i + n, _, by (rw [ew]; simp), HQ, OW, HB⟩
      rw [if_neg (fun a => z3 a.1)] at hq; have f3 : (rr == 65533) = false := beq_eq_false_iff_ne.2 z3; have f3c : (rr = 65533) = False := eq_false z3; have f3n : (rr != 65533) = true := bne_iff_ne.2 z3
      by_cases z5 : rr = 92
      ·rw [if_pos z5] at hq; subst z5; obtain ⟨c, hes, hq⟩ := Option.bind_eq_some_iff.mp hq; obtain ⟨c1, c2⟩ := c; dsimp only at hq; have ESC := zA hes; clear hes z1 z2 z3 f1 f1c f1n f2 f2c f2n f3 f3c f3n
       by_cases y1 : c2 < 0
       ·rw [if_pos y1] at hq; have e := Option.some.inj hq; injection e with e1 e2; subst e1 e2; have d1 : decide (c2 < 0) = true := decide_eq_true y1; have d1c : (c2 < 0) = True := eq_true y1; clear hq y1; go_wp2_with (first | (go_at_call 17; refine (impl_literal.es _ c1 c2 _ (by (simp [ByteArray.size_extract]; have := G0.out; omega)) ESC.out).mono ?_; rintro e w11 ⟨rfl, hb⟩; replace HB := zA (below_step HB.out hb); replace OW := zA (own_move OW.out (fun k hk => hb.block k (OW.out.lt k hk).2)); clear hb)); go_ret2; exact ⟨_, rfl, Kd.R_nil _ _ _ _ _, HB.out⟩
       ·rw [if_neg y1] at hq
        by_cases y2 : (-2147483648 ≤ c1 ∧ c1 ≤ 2147483647) ∧ out.length ≤ 100000000000 ∧ c2 ≤ 100
        case neg => rw [if_neg y2] at hq; cases hq
        rw [if_pos y2] at hq; have HQ := zA hq; have Y2 := zA y2; have d1 : decide (c2 < 0) = false := decide_eq_false y1; have d1c : (c2 < 0) = False := eq_false y1; have Y1 := zA (show 0 ≤ c2 by omega); clear hq y2 y1; have ew : wrap64 ((i : Int) + c2) = ((i + c2.toNat : Nat) : Int) := by have := CI.out; have := G0.out; have := Y2.out.2.2; have := Y1.out; unfold wrap64; omega
        go_wp2_with (first | (go_at_call 17; refine (impl_literal.es _ c1 c2 _ (by (simp [ByteArray.size_extract]; have := G0.out; omega)) ESC.out).mono ?_; rintro e w11 ⟨rfl, hb⟩; replace HB := zA (below_step HB.out hb); replace OW := zA (own_move OW.out (fun k hk => hb.block k (OW.out.lt k hk).2)); clear hb) | (go_at_call 18; refine (Any.utf8_AppendRune_plain Tryd.lays_242 impl_literal.hbyte w.heap.size _ out.length (encs (Value.int .u8) out) c1 Y2.out.1.1 Y2.out.1.2 _ OW.out (by (have := Y2.out.2.1); omega) (below_size HB.out)).mono ?_; rintro e w12 ⟨v1, rfl, hown, o, hg⟩; have hbz := HB.out.alloc (below_size HB.out) o; replace HB := zA (Below.grown hbz hg (below_size hbz) (fun k hk => (OW.out.lt k hk).1)); replace OW := zA (show w12.ownsRow w.heap.size 5 1 v1 (out ++ Lib.encodeRuneZ c1).length (encs (Value.int .u8) (out ++ Lib.encodeRuneZ c1)) from (by (have e : (Lib.runeCells c1).length = (Lib.encodeRuneZ c1).length := List.length_map _); (rw [List.length_append, encs_append, ← e]; exact hown))); clear hown hg hbz)); go_roundg k1
        case measure => exact Nat.lt_succ_self _
        case rel => exact ⟨i + c2.toNat, _, by (rw [ew]), HQ, OW, HB⟩
      rw [if_neg z5] at hq; have f4 : (rr == 92) = false := beq_eq_false_iff_ne.2 z5; have f4c : (rr = 92) = False := eq_false z5; have f4n : (rr != 92) = true := bne_iff_ne.2 z5; clear z1 z2 z3 z5
      by_cases y3 : i + n ≤ a0.size ∧ out.length ≤ 100000000000
      case neg => rw [if_neg y3] at hq; cases hq
      rw [if_pos y3] at hq; have HQ := zA hq; have Y3 := zA y3; have ew : wrap64 ((i : Int) + (n : Int)) = (i : Int) + (n : Int) := by have := CI.out; have := G0.out; have := DL.out; unfold wrap64; omega
      have e1 : ((i : Int) ≤ (i : Int) + (n : Int)) = True := eq_true (by omega); have e2 : ((i : Int) + (n : Int) ≤ (a0.size : Int)) = True := eq_true (by have := y3.1; omega); clear hq y3; have en : ((i : Int) + (n : Int)).toNat = i + n := by omega
      have esz : (a0.extract i (i + n)).size ≤ 4 := by simp [ByteArray.size_extract]; have := DL.out; omega
      go_wp2_with (first | ((with_reducible refine gate_builtin (b := .append) (xs := #[.tmp 64, .tmp 70]) rfl ?_); at_builtin; refine Lib.wpList_append_own_string _ rfl _ _ 22 9 rfl w.heap.size 5 ti Tryd.underlying22 Tryd.underlying9 HI.out.1 HI.out.2.1 HI.out.2.2.1 HI.out.2.2.2 _ _ _ rfl OW.out (a0.extract i (i + n)) rfl (by (have := Y3.out.2; unfold maxLen; omega)) (by (have := Y3.out.2; omega)) (below_size HB.out) ?_; intro v1 w12 hown hg _; replace HB := zA (HB.out.grown hg (below_size HB.out) (fun k hk => (OW.out.lt k hk).1)); replace OW := zA (show w12.ownsRow w.heap.size 5 1 v1 (out ++ bytesOf (a0.extract i (i + n))).length (encs (Value.int .u8) (out ++ bytesOf (a0.extract i (i + n)))) from by (rw [List.length_append, bytesOf_length, encs_append, impl_literal.strc]; exact hown)); clear hown hg)); go_roundg k1
      case measure => exact Nat.lt_succ_self _
      case rel => exact ⟨i + n, _, by (rw [ew]; simp), HQ, OW, HB⟩
     ·rw [if_neg ci] at hq; have e := Option.some.inj hq; injection e with e1 e2; subst e1 e2; have i0 : (i < a0.size) = False := eq_false ci; have i1 : decide (i < a0.size) = false := decide_eq_false ci; clear hq ci; go_wp2; go_ret2; exact ⟨_, rfl, Kd.R_nil _ _ _ _ _, HB.out⟩
  ·rw [if_neg (fun a => c1 a.2)] at h; have e := Option.some.inj h; injection e with e1 e2; subst e1 e2; have b1 : (x == 34) = false := beq_eq_false_iff_ne.2 c1; have b1n : (x != 34) = true := bne_iff_ne.2 c1; clear h g0 c1; go_enter Tryd.func12, Tryd.ntmps12; go_wp2; go_ret2; exact ⟨_, rfl, Kd.R_nil _ _ _ _ _, Below.refl _ _⟩
 ·rw [if_neg (fun a => c0 a.1)] at h; have e := Option.some.inj h; injection e with e1 e2; subst e1 e2; have hne : a0.toList.isEmpty = true := by
   rw [ByteArray.toList_eq]; cases e : a0.data.toList with
   | nil => rfl
   | cons _ _ =>
    have : a0.data.toList.length ≠ 0 := by rw [e]; simp
    rw [data_length] at this; omega
  clear h g0 c0; go_enter Tryd.func12, Tryd.ntmps12; go_wp2; go_ret2; exact ⟨_, rfl, Kd.R_nil _ _ _ _ _, Below.refl _ _⟩

-- NOT PRINTED: function 35 (utf8_decodeRuneSlow)

/-! ### utf8_DecodeRune: function 30 -/
def decI (l : List Int) : Int × Int :=
 if l.length = 0 then (65533, 0) else
  (((Lib.decodeN l.length (rd l 0).toNat (rd l 1).toNat (rd l 2).toNat (rd l 3).toNat).1 : Nat), ((Lib.decodeN l.length (rd l 0).toNat (rd l 1).toNat (rd l 2).toNat (rd l 3).toNat).2 : Nat))
def bytesB (l : List Int) : Bool := l.all fun x => decide (0 ≤ x) && decide (x ≤ 255)
def utf8_DecodeRune.f (l0 : List Int) : Option (Int × Int) := if l0.length = 0 then none else if bytesB l0 = true then some (decI l0) else none
theorem bytesB_at {l : List Int} (h : bytesB l = true) (j : Nat) : 0 ≤ rd l (j : Int) ∧ rd l (j : Int) ≤ 255 := by
 unfold bytesB at h; rw [List.all_eq_true] at h; unfold rd
 by_cases hj : j < l.length
 ·have := h _ (List.getElem_mem hj); simp only [Bool.and_eq_true, decide_eq_true_eq] at this; simp only [Int.toNat_natCast, List.getD_eq_getElem?_getD, List.getElem?_eq_getElem hj, Option.getD_some]; exact this
 ·simp only [Int.toNat_natCast, List.getD_eq_getElem?_getD, List.getElem?_eq_none (Nat.le_of_not_lt hj), Option.getD_none]
  omega
theorem decI_bys {l : List Int} (h : bytesB l = true) : decI l = (((Lib.decodeGo (bys l)).1 : Int), ((Lib.decodeGo (bys l)).2 : Int)) := by
 unfold decI Lib.decodeGo; rw [bys_size]
 by_cases h0 : l.length = 0
 ·rw [if_pos h0, if_pos h0]; rfl
 ·rw [if_neg h0, if_neg h0, Lib.decode_at, bys_size]; have b0 := bytesB_at h 0; have b1 := bytesB_at h 1; have b2 := bytesB_at h 2; have b3 := bytesB_at h 3; rw [bys_get, bys_get, bys_get, bys_get]; simp only [Nat.zero_add, Nat.sub_zero]; rw [Nat.mod_eq_of_lt (by omega), Nat.mod_eq_of_lt (by omega), Nat.mod_eq_of_lt (by omega), Nat.mod_eq_of_lt (by omega)]
  rfl
theorem utf8_DecodeRune.calls (A0 : Option Addr) (c0 : Nat) (l0 : List Int) (r1 : Int) (r2 : Int) (w : World) (hr0 : Kd.C (Kd.int .u8) w A0 l0.length l0) (hc0 : l0.length ≤ c0) (hL : LaidW w) (h : utf8_DecodeRune.f l0 = some (r1, r2)) :
  Calls Tryd.prog 30 #[.slice A0 l0.length c0] w fun e w' => e = .returned (.tuple #[.int .i32 r1, .int .i64 r2]) ∧ Below w.heap.size w w' := by
 unfold utf8_DecodeRune.f at h
 by_cases h0 : l0.length = 0
 ·rw [if_pos h0] at h; cases h
 rw [if_neg h0] at h
 by_cases hb : bytesB l0 = true
 ·rw [if_pos hb] at h; injection h with h; rw [decI_bys hb] at h; injection h with h1 h2; subst h1 h2; obtain ⟨ad, rfl, hx⟩ := Kd.at_int hr0 0 (by omega) (by omega); obtain ⟨b, off, sp⟩ := ad; obtain rfl : sp = none := by
   have e : (Addr.add ⟨b, off, sp⟩ (0 : Int).toNat) = ⟨b, off, sp⟩ := by simp [Addr.add]
   rw [e] at hx; exact cell_spot hx
  have hp : ∀ j, j < (bys l0).size → w.cell? ⟨b, off + j, none⟩ = some (.int .u8 ((bys l0).get! j).toNat) := by
   intro j hj; rw [bys_size] at hj; obtain ⟨ad, e, hx⟩ := Kd.at_int hr0 (j : Int) (by omega) (by omega); injection e with e; subst e; rw [Addr.add_lit] at hx; have hr := bytesB_at hb j; rw [bys_get, Nat.mod_eq_of_lt (by omega), Int.toNat_of_nonneg hr.1]; exact hx
  have := Any7.utf8_DecodeRune Tryd.lays7_32 (bys l0) b off c0 w (LaidW.utf8 hL) hp; rw [bys_size] at this; exact this
 ·rw [if_neg hb] at h; cases h

end Go.Proofs.YtbnpkiokpnmphaaDoor.PFnExactUnquoteText
