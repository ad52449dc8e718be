-- made by wip/tools/myprint.py (this session's own program, over the kit's printer)
import Derived.Test.YtiboccbaaphbhaaDoorPFnExactQuoteTextx0
import Derived.Test.YtiboccbaaphbhaaDoorPFnExactQuoteTextx3
namespace Go.Proofs.YtiboccbaaphbhaaDoor.PFnExactQuoteText
open Go.RowKit Go.Proofs.YtiboccbaaphbhaaDoorW.PrintWords Go.Proofs.YtiboccbaaphbhaaDoorW.PrintLast Go.Proofs.YtiboccbaaphbhaaDoorW.PrintMore
set_option linter.unusedVariables false
set_option linter.unusedSimpArgs false

/-! ### impl_wellFormed: function 60 -/
def impl_wellFormed.f (k : Nat) (l0 : List Int) : Option (Bool) := (impl_CheckText.f k l0).bind fun bt192 => (some (bt192.1 == 0))
theorem impl_wellFormed.mono : ∀ a0 k, LeO (impl_wellFormed.f k a0) (impl_wellFormed.f (k + 1) a0) := by
 intro a0 k; unfold impl_wellFormed.f; have m1 := @impl_CheckText.mono; exact zm
set_option maxHeartbeats 8000000 in
set_option maxRecDepth 100000 in
theorem impl_wellFormed.calls (k : Nat) (A0 : Option Addr) (c0 : Nat) (l0 : List Int) (r : Bool) (w : World) (hr0 : Kd.C (Kd.int .u8) w A0 l0.length l0) (hc0 : l0.length ≤ c0) (hL : LaidW w) (h : impl_wellFormed.f k l0 = some r) :
  Calls Tryd.prog 60 #[.slice A0 l0.length c0] w fun e w' => e = .returned (.bool r) ∧ Below w.heap.size w w' := by
 have HR0 := zA hr0; have HC0 := zA hc0; clear hr0 hc0; have HLD := zA hL; clear hL; have HB := zA (Below.refl w.heap.size w); have H : ((impl_CheckText.f k l0).bind fun bt192 => (some (bt192.1 == 0))) = some r := h; clear h; replace H := Option.bind_eq_some_iff.mp H; obtain ⟨⟨Ba, Bb⟩, A20, H⟩ := H; (try dsimp only at H); have A2 := zA A20; clear A20; obtain rfl := Option.some.inj H; go_enter Tryd.func60, Tryd.ntmps60; go_wp2_with (first | ((with_reducible refine gate_callee (f := 94) rfl ?_); refine goesL_ (some 7) rfl rfl Tryd.func94 (by kernel_rfl) rfl #[.slice A0 l0.length c0] rfl za ?_; (with_reducible refine (impl_CheckText.calls k _ _ l0 Ba Bb _ ?s1 ?s2 ?s3 A2.out).mono ?_); (case s1 => exact zc (HR0.out)); (case s2 => exact HC0.out); (case s3 => exact LaidW.below HLD.out z_); rintro e w3 ⟨rfl, hb⟩; refine ⟨_, rfl, ?_⟩; replace HB := zA (below_step z_ hb); (try clear hb))); go_ret; exact ⟨ze, z_⟩

-- NOT PRINTED: function 105 (abi_NoEscape)

-- NOT PRINTED: function 95 (strings_Builder_copyCheck)

-- NOT PRINTED: function 61 (strings_Builder_WriteByte)

-- NOT PRINTED: function 62 (strings_Builder_WriteString)

-- NOT PRINTED: function 106 (strconv_small)

-- NOT PRINTED: function 113 (strconv_log10Pow2)

-- NOT PRINTED: function 114 (bits_Len64)

-- NOT PRINTED: function 115 (strconv_bool2_int)

-- NOT PRINTED: function 107 (strconv_numDigits)

-- NOT PRINTED: function 108 (strconv_formatBase10)

-- NOT PRINTED: function 116 (strconv_isPowerOfTwo)

-- NOT PRINTED: function 118 (bits_TrailingZeros32)

-- NOT PRINTED: function 119 (bits_TrailingZeros64)

-- NOT PRINTED: function 117 (bits_TrailingZeros)

-- NOT PRINTED: function 109 (strconv_formatBits)

-- NOT PRINTED: function 96 (strconv_FormatInt_96)

-- NOT PRINTED: function 63 (strconv_FormatInt_63)

-- NOT PRINTED: function 110 (utf8_appendRuneNonASCII)

-- NOT PRINTED: function 97 (utf8_AppendRune)

-- NOT PRINTED: function 64 (strings_Builder_WriteRune)

-- NOT PRINTED: function 65 (strings_Builder_String)

/-! ### impl_QuoteText: function 21 -/
-- only: true
def impl_QuoteText.DIG : ByteArray := ⟨#[48, 49, 50, 51, 52, 53, 54, 55, 56, 57, 97, 98, 99, 100, 101, 102, 103, 104, 105, 106, 107, 108, 109, 110, 111, 112, 113, 114, 115, 116, 117, 118, 119, 120, 121, 122]⟩
def impl_QuoteText.dg (x : Int) : UInt8 := impl_QuoteText.DIG.get! x.toNat
theorem impl_QuoteText.digAt (x : Int) (h : x.toNat < (⟨#[48, 49, 50, 51, 52, 53, 54, 55, 56, 57, 97, 98, 99, 100, 101, 102, 103, 104, 105, 106, 107, 108, 109, 110, 111, 112, 113, 114, 115, 116, 117, 118, 119, 120, 121, 122]⟩ : ByteArray).size) : (⟨#[48, 49, 50, 51, 52, 53, 54, 55, 56, 57, 97, 98, 99, 100, 101, 102, 103, 104, 105, 106, 107, 108, 109, 110, 111, 112, 113, 114, 115, 116, 117, 118, 119, 120, 121, 122]⟩ : ByteArray)[x.toNat]'h = impl_QuoteText.dg x := by
 show impl_QuoteText.DIG[x.toNat]'h = impl_QuoteText.DIG.get! x.toNat; unfold ByteArray.get!; exact (getElem!_pos impl_QuoteText.DIG.data x.toNat h).symm
def impl_QuoteText.dgi (x : Int) : Int := ((impl_QuoteText.dg x).toNat : Int)
def impl_QuoteText.hexL (u : Int) : List Int := if u < 16 then [impl_QuoteText.dgi u] else [impl_QuoteText.dgi (u / 16), impl_QuoteText.dgi (u % 16)]
theorem impl_QuoteText.digAt2 (x : Int) (h : x.toNat < (⟨#[48, 49, 50, 51, 52, 53, 54, 55, 56, 57, 97, 98, 99, 100, 101, 102, 103, 104, 105, 106, 107, 108, 109, 110, 111, 112, 113, 114, 115, 116, 117, 118, 119, 120, 121, 122]⟩ : ByteArray).size) : (((((⟨#[48, 49, 50, 51, 52, 53, 54, 55, 56, 57, 97, 98, 99, 100, 101, 102, 103, 104, 105, 106, 107, 108, 109, 110, 111, 112, 113, 114, 115, 116, 117, 118, 119, 120, 121, 122]⟩ : ByteArray)[x.toNat]'h).toNat : Nat)) : Int) = impl_QuoteText.dgi x := by rw [impl_QuoteText.digAt]; rfl
attribute [local go_sem] impl_QuoteText.digAt2
theorem impl_QuoteText.cv (W : World) (g o : Nat) (xs : List Int) (n c : Nat) (hn : n = xs.length) (hl : xs.length ≤ 100) (hx : ∀ j, j < xs.length → W.cell? ⟨g, o + j, none⟩ = some (.int .u8 (xs.getD j 0))) : (convert 22 9 (.slice (some ⟨g, o, none⟩) n c)).run Tryd.prog W = .ok (.string (strOfNums xs)) W :=
 string_of_reads Tryd.underlying22 Tryd.underlying5 Tryd.underlying9 ⟨hn.symm, by omega, fun _ => ⟨_, rfl, fun j hj => by rw [Addr.add_lit]; exact hx j (by omega)⟩⟩
theorem impl_QuoteText.pow2 (w : World) : Calls Tryd.prog 116 #[.int .i64 16] w fun e w' => e = .returned (.bool true) ∧ w' = w := by
 have h1 : Go.bits .and .i64 16 15 = 0 := by decide
 go_enter Tryd.func116, Tryd.ntmps116; go_wp2; go_ret; exact ⟨rfl, rfl⟩
theorem impl_QuoteText.m16 {x : Int} (h0 : 0 ≤ x) (h1 : x < 4294967296) : Go.bits .and .u64 x 15 = x % 16 := by
 have := bits_mask .u64 64 (by decide) (fun n a b => by rw [IntKind.wrap_u64]; omega) 4 (by decide) x h0 (by omega); simp at this; rw [this]
theorem impl_QuoteText.zc (i : Nat) (h : i < 65) : Tryd.zeroCells140[i]? = some (.int .u8 0) := by
 have e : Tryd.zeroCells140 = (List.replicate 65 (Value.int .u8 0)).toArray := by kernel_rfl
 rw [e, List.getElem?_toArray, List.getElem?_replicate, if_pos h]
theorem impl_QuoteText.zsz : Tryd.zeroCells140.size = 65 := by kernel_rfl
theorem impl_QuoteText.zs (cs : Array Value) (i : Nat) (v : Value) (h : i < cs.size) : (cs.setIfInBounds i v)[i]? = some v := by simp [h]
theorem impl_QuoteText.zn (cs : Array Value) (i j : Nat) (v : Value) (h : i ≠ j) : (cs.setIfInBounds i v)[j]? = cs[j]? := by rw [Array.getElem?_setIfInBounds_ne h]
set_option maxHeartbeats 4000000 in
set_option maxRecDepth 100000 in
theorem impl_QuoteText.fb (u : Int) (h0 : 0 ≤ u) (h1 : u < 128) (w : World) (hL : LaidW w) : Calls Tryd.prog 109 #[.slice none 0 0, .int .u64 u, .int .i64 16, .bool false, .bool false] w fun e w' => e = .returned (.tuple #[.slice none 0 0, .string (strOfNums (impl_QuoteText.hexL u))]) ∧ Below w.heap.size w w' := by
 have HL := zA hL; have H0 := zA (And.intro h0 h1); clear hL h0 h1; go_enter Tryd.func109, Tryd.ntmps109
 go_upto_region 4 with (fail)
 have BX := zA (blk_new w (.cells Tryd.zeroCells140 140)); have HL2 := zA (LaidW.below HL.out (below_alloc (Below.refl _ _) (.cells Tryd.zeroCells140 140))); have HB := zA (below_alloc (Below.refl w.heap.size w) (.cells Tryd.zeroCells140 140)); generalize (w.alloc (.cells Tryd.zeroCells140 140)) = w1 at BX HL2 HB ⊢; generalize hg : w.heap.size = g at BX ⊢; have GG := zA (show w.heap.size ≤ g by omega); clear hg; go_wp2_with (first | (go_at_call 116; refine (impl_QuoteText.pow2 _).mono ?_; rintro e w2 ⟨rfl, hw⟩; obtain rfl := hw.symm) | (go_at_call 117; refine (Any7.bits_TrailingZeros Tryd.lays7_27 16 (by decide) w1 (fun _ => HL2.out.2)).mono ?_; rintro e w3 ⟨rfl, hw⟩; obtain rfl := hw.symm; rw [show Lib.ctz 64 16 = 4 by decide]))
 go_loopg [1, 13] 2 (fun kq v1 v13 w' => ∃ (x i : Int) (cs : Array Value), v1 = .int .u64 x ∧ v13 = .int .i64 i ∧ Aside0 ((x = u ∧ i = 65 ∧ cs = Tryd.zeroCells140 ∧ kq = 2) ∨ (16 ≤ u ∧ x = u / 16 ∧ i = 64 ∧ cs = Tryd.zeroCells140.setIfInBounds 64 (.int .u8 (impl_QuoteText.dgi (u % 16))) ∧ kq = 1)) ∧ Aside0 (w'.heap[g]? = some (.cells cs 140 (0, 0))) ∧ Aside0 (Below w.heap.size w w'))
 case atStart => exact ⟨u, 65, _, rfl, rfl, ⟨.inl ⟨rfl, rfl, rfl, rfl⟩⟩, BX, HB⟩
 case round =>
  clear BX HB HL2 HL; obtain ⟨x, i, cs, rfl, rfl, HA, BX, HB⟩ := hrel
  rcases HA.out with ⟨rfl, rfl, rfl, hk⟩ | ⟨h16, rfl, rfl, rfl, hk⟩
  ·by_cases c46 : 16 ≤ x
   ·have c46b : decide (16 ≤ x) = true := decide_eq_true c46; have hx : wr.cell? ⟨g, 64, none⟩ = some (.int .u8 0) := (blk_cell BX.out 64).trans (impl_QuoteText.zc 64 (by decide)); have hf : wr.frozen? ⟨g, 64, none⟩ = false := blk_frozen BX.out 64; have h15 : Go.bits .and .u64 x 15 = x % 16 := impl_QuoteText.m16 H0.out.1 (by have := H0.out.2; omega); have q0 : (0 ≤ x % 16) = True := eq_true (by omega); have q1 : (x % 16 < 36) = True := eq_true (by omega); have C46 := zA c46; clear c46 HA; subst hk; go_wp2; go_roundg 1
    case measure => omega
    case rel => exact ⟨x / 16, 64, _, rfl, rfl, ⟨.inr ⟨C46.out, rfl, rfl, rfl, rfl⟩⟩, ⟨blk_put BX.out 64 _ rfl⟩, ⟨below_set HB.out GG.out⟩⟩
   ·have c46b : decide (16 ≤ x) = false := decide_eq_false c46; have hx : wr.cell? ⟨g, 64, none⟩ = some (.int .u8 0) := (blk_cell BX.out 64).trans (impl_QuoteText.zc 64 (by decide)); have hf : wr.frozen? ⟨g, 64, none⟩ = false := blk_frozen BX.out 64; have B2 := zA (blk_put BX.out 64 (.int .u8 (impl_QuoteText.dgi x)) rfl)
    have hcv := impl_QuoteText.cv (wr.setCell ⟨g, 64, none⟩ (.int .u8 (impl_QuoteText.dgi x))) g 64 [impl_QuoteText.dgi x] 1 1 rfl (by simp) (fun j hj => by
     obtain rfl : j = 0 := by simp at hj; omega
     exact (blk_cell B2.out 64).trans (impl_QuoteText.zs _ 64 _ (by rw [impl_QuoteText.zsz]; decide)))
    have q0 : (0 ≤ x) = True := eq_true H0.out.1; have q1 : (x < 36) = True := eq_true (by omega); have C46 := zA c46; clear c46 HA; subst hk; go_wp2; go_ret2; exact ⟨by (have e : impl_QuoteText.hexL x = [impl_QuoteText.dgi x] := if_pos (by have := C46.out; omega)); rw [e]; rfl, below_set HB.out GG.out⟩
  ·have X8 := zA (show 0 ≤ u / 16 ∧ u / 16 < 8 ∧ 16 ≤ u by have := H0.out; omega); have B2 := zA (blk_put BX.out 63 (.int .u8 (impl_QuoteText.dgi (u / 16))) rfl)
   have hcv := impl_QuoteText.cv (wr.setCell ⟨g, 63, none⟩ (.int .u8 (impl_QuoteText.dgi (u / 16)))) g 63 [impl_QuoteText.dgi (u / 16), impl_QuoteText.dgi (u % 16)] 2 2 rfl (by simp) (fun j hj => by
    have hj2 : j = 0 ∨ j = 1 := by simp at hj; omega
    rcases hj2 with rfl | rfl
    ·exact (blk_cell B2.out 63).trans (impl_QuoteText.zs _ 63 _ (by rw [Array.size_setIfInBounds, impl_QuoteText.zsz]; decide))
    ·exact (blk_cell B2.out 64).trans ((impl_QuoteText.zn _ 63 64 _ (by decide)).trans (impl_QuoteText.zs _ 64 _ (by rw [impl_QuoteText.zsz]; decide))))
   have c46b : decide (16 ≤ u / 16) = false := decide_eq_false (by have := X8.out; omega); have hx : wr.cell? ⟨g, 63, none⟩ = some (.int .u8 0) := (blk_cell BX.out 63).trans ((impl_QuoteText.zn _ 64 63 _ (by decide)).trans (impl_QuoteText.zc 63 (by decide))); have hf : wr.frozen? ⟨g, 63, none⟩ = false := blk_frozen BX.out 63; have q0 : (0 ≤ u / 16) = True := eq_true X8.out.1; have q1 : (u / 16 < 36) = True := eq_true (by have := X8.out; omega); have e : impl_QuoteText.hexL u = [impl_QuoteText.dgi (u / 16), impl_QuoteText.dgi (u % 16)] := if_neg (by have := X8.out; omega); have E := zA e; clear h16 HA e; subst hk; go_wp2; go_ret2; exact ⟨by rw [E.out]; rfl, below_set HB.out GG.out⟩
theorem impl_QuoteText.fi (u : Int) (h0 : 0 ≤ u) (h1 : u < 128) (w : World) (hL : LaidW w) : Calls Tryd.prog 96 #[.int .i64 u, .int .i64 16] w fun e w' => e = .returned (.string (strOfNums (impl_QuoteText.hexL u))) ∧ Below w.heap.size w w' := by
 have HL := zA hL; have H0 := zA (And.intro h0 h1); have w0 : IntKind.u64.wrap u = u := by rw [IntKind.wrap_u64]; omega
 have c0 : decide (u < 0) = false := decide_eq_false (by omega); clear hL h0 h1; go_enter Tryd.func96, Tryd.ntmps96; go_wp2_with (go_at_call 109; refine (impl_QuoteText.fb u H0.out.1 H0.out.2 w HL.out).mono ?_; rintro e w2 ⟨rfl, hb⟩; have HB := zA hb; clear hb); go_ret; exact ⟨rfl, HB.out⟩
theorem impl_QuoteText.fmt (u : Int) (h0 : 0 ≤ u) (h1 : u < 128) (w : World) (hL : LaidW w) : Calls Tryd.prog 63 #[.int .i64 u, .int .i64 16] w fun e w' => e = .returned (.string (strOfNums (impl_QuoteText.hexL u))) ∧ Below w.heap.size w w' := by
 have HL := zA hL; have H0 := zA (And.intro h0 h1); clear hL h0 h1; go_enter Tryd.func63, Tryd.ntmps63; go_wp2_with (go_at_call 96; refine (impl_QuoteText.fi u H0.out.1 H0.out.2 w HL.out).mono ?_; rintro e w2 ⟨rfl, hb⟩; have HB := zA hb; clear hb); go_ret; exact ⟨rfl, HB.out⟩
def impl_QuoteText.BP (w0 W : World) (b : Nat) (p : Value) (l : List Int) : Prop := Lib.BuilderAtF 86 5 w0.heap.size b p (encs (Value.int .u8) l) W ∧ Below w0.heap.size w0 W
def impl_QuoteText.BD (w0 W : World) (b : Nat) (l : List Int) : Prop := Lib.IsBuilderF 86 5 w0.heap.size b (encs (Value.int .u8) l) W ∧ Below w0.heap.size w0 W
theorem impl_QuoteText.BP.bd {w0 W : World} {b : Nat} {l : List Int} (h : impl_QuoteText.BP w0 W b (.pointer (some ⟨b, 0, none⟩)) l) : impl_QuoteText.BD w0 W b l := ⟨.inr h.1, h.2⟩
theorem impl_QuoteText.BP.form {w0 W : World} {b : Nat} {p : Value} {l : List Int} (h : impl_QuoteText.BP w0 W b p l) : ∃ A c, W.heap[b]? = some (.cells #[p, .slice A l.length c] 86 (0, 0)) ∧ W.ownsRowF w0.heap.size 5 1 (.slice A l.length c) l.length (encs (Value.int .u8) l) ∧ (Value.slice A l.length c).ownBlock ≠ some b ∧ w0.heap.size ≤ b := by
 obtain ⟨⟨hB, v, hbk, hown, hne⟩, _⟩ := h; rw [encs_length] at hown; obtain ⟨A, c, rfl⟩ : ∃ A c, v = .slice A l.length c := by
  rcases hown.2 with ⟨e, z⟩ | ⟨g, cap, _, _, e, _⟩
  ·exact ⟨none, 0, by rw [e, z]⟩
  ·exact ⟨_, _, e⟩
 exact ⟨A, c, hbk, hown, hne, hB⟩
theorem impl_QuoteText.BP.put {w0 W : World} {b : Nat} {p v v' : Value} {l : List Int} (hB : w0.heap.size ≤ b) (hb : W.heap[b]? = some (.cells #[p, v] 86 (0, 0))) (hown : W.ownsRowF w0.heap.size 5 1 v' l.length (encs (Value.int .u8) l)) (hw : Below w0.heap.size w0 W) : impl_QuoteText.BP w0 (W.setCell ⟨b, 1, none⟩ v') b p l :=
 ⟨Lib.BuilderAtF.put (T := 86) (e := 5) hB hb (bs' := encs (Value.int .u8) l) (by rw [encs_length]; exact hown) (by decide), hw.setCell (p := ⟨b, 1, none⟩) hB _⟩
theorem impl_QuoteText.size : (Tryd.prog.info? 86).map (·.size) = some 2 := by kernel_rfl
theorem impl_QuoteText.lies : liesAt Tryd.prog Tryd.prog.depth 86 (2 / Tryd.prog.cellsOf 86) 0 86 1 = true := by kernel_rfl
set_option maxHeartbeats 4000000 in
set_option maxRecDepth 100000 in
theorem impl_QuoteText.cc (b : Nat) (l : List Int) (w0 w : World) (h : impl_QuoteText.BD w0 w b l) : Calls Tryd.prog 95 #[.pointer (some ⟨b, 0, none⟩)] w fun e w' => e = .returned (.tuple #[]) ∧ impl_QuoteText.BP w0 w' b (.pointer (some ⟨b, 0, none⟩)) l ∧ Lib.OthersKept 5 (some b) w w' := by
 have hu86 := Tryd.underlying86; obtain ⟨hI, hB0⟩ := h; have HB := zA hB0; clear hB0
 rcases hI with h | h
 ·have HX := zA h; obtain ⟨A, c, h1, _, _, hg⟩ := impl_QuoteText.BP.form (w0 := w0) ⟨h, HB.out⟩; have HG := zA hg; obtain ⟨hc0, hc1, hf0, hf1⟩ := zh2 h1; obtain ⟨j, hj, hjs⟩ := Option.map_eq_some_iff.1 impl_QuoteText.size; have hsh : w.shape? b = some (86, 2) := by simp [World.shape?, h1]
  clear h1 h hg; go_enter Tryd.func95, Tryd.ntmps95; go_wp2; rw [Lib.run_to_unsafe w ⟨b, 0, none⟩ Tryd.underlying84 Tryd.underlying126 hj (by rw [hjs]; decide) hsh (Nat.zero_lt_succ 1)]; simp only [Result.andThen]; rw [Oper.upon_value]; go_wp2; rw [run_callFunc_extern Tryd.func105 (by kernel_rfl) (by kernel_rfl) (by kernel_rfl) (e := Extern.AbiNoEscape.same) (by kernel_rfl)]; rw [Lib.run_noEscape]; simp only [Result.andThen]; rw [Oper.upon_value]; go_wp2; rw [Lib.run_from_unsafe w ⟨b, 0, none⟩ Tryd.underlying126 Tryd.underlying84 hj hsh impl_QuoteText.lies]; simp only [Result.andThen]; rw [Oper.upon_value]; go_wp2; exact ⟨rfl, .tuple #[], results_none rfl _ _ _, rfl, ⟨HX.out.used _, HB.out.setCell (p := ⟨b, 0, none⟩) HG.out _⟩, (Lib.OthersKept.refl _ _ w).setCell ⟨b, 0, none⟩ rfl _⟩
 ·have HX := zA h; obtain ⟨A, c, h1, _, _, _⟩ := impl_QuoteText.BP.form (w0 := w0) ⟨h, HB.out⟩; obtain ⟨hc0, hc1, hf0, hf1⟩ := zh2 h1; obtain ⟨j, hj, _⟩ := Option.map_eq_some_iff.1 impl_QuoteText.size; clear h1 h; go_enter Tryd.func95, Tryd.ntmps95; go_wp2; rw [Lib.run_neq_ptr_same w _ Tryd.underlying84 hj]; go_wp2; exact ⟨rfl, .tuple #[], results_none rfl _ _ _, rfl, ⟨HX.out, HB.out⟩, Lib.OthersKept.refl _ _ w⟩
theorem impl_QuoteText.extra : Builder.Extra Tryd.prog Tryd.lays_169_ren where
 sizeBuilder := by kernel_rfl
 liesBuilder := by kernel_rfl
 t5 := Tryd.underlying5
 a5 := Tryd.isAgg5
 z5 := Tryd.sizeOf5
 v5 := Tryd.zeroValue5
 infoByte := by kernel_rfl
 cellsByte := by kernel_rfl
 sizeByte := by kernel_rfl
 neB5 := by decide
def impl_QuoteText.u8s (l : List Int) : List UInt8 := l.map fun n => UInt8.ofNat n.toNat
theorem impl_QuoteText.cells (l : List Int) (h : ∀ x ∈ l, 0 ≤ x ∧ x ≤ 255) : Lib.byteCells (impl_QuoteText.u8s l) = encs (Value.int .u8) l := by
 unfold Lib.byteCells impl_QuoteText.u8s encs; rw [List.map_map]; refine List.map_congr_left fun x hx => ?_
 have := h x hx; simp only [Function.comp, UInt8.toNat_ofNat']
 congr 1
 omega
theorem impl_QuoteText.bytes_enc (s : ByteArray) : encs (Value.int .u8) (bytesOf s) = Lib.strCells s := by
 unfold encs bytesOf Lib.strCells; rw [List.map_map]; rfl
def impl_QuoteText.ren242 : Go.Shelf.Ren := ⟨Tryd.lays_242_ren.f, fun n => if n = 72 then 86 else Tryd.lays_242_ren.t n, Tryd.lays_242_ren.g⟩
theorem impl_QuoteText.lays242 : Lays.n242 Tryd.prog impl_QuoteText.ren242 := { Tryd.lays_242 with }
theorem impl_QuoteText.extra242 : Builder.Extra Tryd.prog impl_QuoteText.ren242 where
 sizeBuilder := by kernel_rfl
 liesBuilder := by kernel_rfl
 t5 := Tryd.underlying5
 a5 := Tryd.isAgg5
 z5 := Tryd.sizeOf5
 v5 := Tryd.zeroValue5
 infoByte := by kernel_rfl
 cellsByte := by kernel_rfl
 sizeByte := by kernel_rfl
 neB5 := by decide
set_option maxHeartbeats 4000000 in
set_option maxRecDepth 100000 in
theorem impl_QuoteText.wb (b : Nat) (l : List Int) (x : Int) (w0 w : World) (h : impl_QuoteText.BD w0 w b l) (hl : l.length ≤ 100000000000) : Calls Tryd.prog 61 #[.pointer (some ⟨b, 0, none⟩), .int .u8 x] w fun e w' => e = .returned .nilIface ∧ impl_QuoteText.BD w0 w' b (l ++ [x]) ∧ Lib.OthersKept 5 (some b) w w' := by
 have hu86 := Tryd.underlying86; have HX := zA h; have HL := zA hl; clear h hl; obtain ⟨i0, hi, hz0, hz1, hz2⟩ := info_parts info5; have HI := zA (show Tryd.prog.info? 5 = some i0 ∧ i0.zero = some (.int .u8 0) ∧ i0.size = 1 ∧ i0.bytes = 1 from ⟨hi, hz0, hz1, hz2⟩); clear hi hz0 hz1 hz2; go_enter Tryd.func61, Tryd.ntmps61
 go_upto_region 2 with (first | (go_at_call 95; refine (impl_QuoteText.cc b l w0 w HX.out).mono ?_; rintro e w1 ⟨rfl, h1, k1⟩; obtain ⟨A, c, h2, h3, h4, h5⟩ := h1.form; have BX := zA h2; have HO := zA h3; have HN := zA h4; have HG := zA h5; have HB := zA h1.2; have K1 := zA k1; clear h1 h2 h3 h4 h5 k1 HX; obtain ⟨hc0, hc1, hf0, hf1⟩ := zh2 BX.out))
 go_wp2_with (first | ((with_reducible refine gate_builtin (b := .append) (xs := #[.tmp 11, .tmp 13]) rfl ?_); at_builtin; refine wpList_append_ownF _ rfl _ _ 22 rfl w0.heap.size 5 i0 (.int .u8 0) 1 1 Tryd.underlying22 HI.out.1 HI.out.2.1 HI.out.2.2.1 HI.out.2.2.2 rfl (by decide) _ _ _ rfl (HO.out.alloc _) ⟨w1.heap.size, 0, none⟩ 1 1 [.int .u8 x] rfl rfl (fun j u hj => (by cases j with | zero => (simp at hj; subst hj; simp [Addr.add]) | succ j => simp at hj)) (fun u hu => (by simp at hu; subst hu; rfl)) (by have := HL.out; unfold maxLen; omega) (by have := HL.out; omega) (below_size (HB.out.alloc (below_size HB.out) _)) ?_; intro v1 w5 hown hg _; have n0_ := zA ((hg.block b (by (have := blk_lt BX.out); simp; omega) (fun e => HN.out e.symm)).trans ((Lib.alloc_old w1 _ b (blk_lt BX.out)).trans BX.out)); have n1_ := zA ((K1.out.alloc _).grown hg (Lib.ownsRowF_kind (HO.out.alloc _))); have n2_ := zA ((HB.out.alloc (below_size HB.out) _).grown hg (below_size (HB.out.alloc (below_size HB.out) _)) (fun k hk => (HO.out.lt k hk).1)); clear BX K1 HO HB HN hg hc0 hc1 hf0 hf1; have BX := n0_; have K1 := n1_; have HB := n2_; have HO := zA (show w5.ownsRowF w0.heap.size 5 1 v1 (l ++ [x]).length (encs (Value.int .u8) (l ++ [x])) from by (rw [List.length_append, encs_append]; exact hown)); clear n0_ n1_ n2_ hown; obtain ⟨A3, c3, ev⟩ : ∃ A3 c3, v1 = .slice A3 (l.length + 1) c3 := (by rcases HO.out.2 with ⟨_, z⟩ | ⟨g, cap, _, _, e, _⟩; (exfalso; simp at z); (exact ⟨_, cap, (by rw [e, List.length_append]; rfl)⟩)); subst ev; obtain ⟨hc0, hc1, hf0, hf1⟩ := zh2 BX.out))
 go_ret; exact ⟨rfl, (impl_QuoteText.BP.put HG.out BX.out HO.out HB.out).bd, K1.out.setCell ⟨b, 1, none⟩ rfl _⟩
set_option maxHeartbeats 4000000 in
set_option maxRecDepth 100000 in
theorem impl_QuoteText.ws (b : Nat) (l : List Int) (s : ByteArray) (w0 w : World) (h : impl_QuoteText.BD w0 w b l) (hl : l.length + s.size ≤ 100000000000) : Calls Tryd.prog 62 #[.pointer (some ⟨b, 0, none⟩), .string s] w fun e w' => e = .returned (.tuple #[.int .i64 s.size, .nilIface]) ∧ impl_QuoteText.BD w0 w' b (l ++ bytesOf s) ∧ Lib.OthersKept 5 (some b) w w' := by
 have hu86 := Tryd.underlying86; have HX := zA h; have HL := zA hl; clear h hl; obtain ⟨i0, hi, hz0, hz1, hz2⟩ := info_parts info5; have HI := zA (show Tryd.prog.info? 5 = some i0 ∧ i0.zero = some (.int .u8 0) ∧ i0.size = 1 ∧ i0.bytes = 1 from ⟨hi, hz0, hz1, hz2⟩); clear hi hz0 hz1 hz2; go_enter Tryd.func62, Tryd.ntmps62
 go_upto_region 2 with (first | (go_at_call 95; refine (impl_QuoteText.cc b l w0 w HX.out).mono ?_; rintro e w1 ⟨rfl, h1, k1⟩; obtain ⟨A, c, h2, h3, h4, h5⟩ := h1.form; have BX := zA h2; have HO := zA h3; have HN := zA h4; have HG := zA h5; have HB := zA h1.2; have K1 := zA k1; clear h1 h2 h3 h4 h5 k1 HX; obtain ⟨hc0, hc1, hf0, hf1⟩ := zh2 BX.out))
 go_wp2_with (first | ((with_reducible refine gate_builtin (b := .append) (xs := #[.tmp 12, .tmp 13]) rfl ?_); at_builtin; refine Lib.wpList_append_own_stringF _ rfl _ _ 22 9 rfl w0.heap.size 5 i0 Tryd.underlying22 Tryd.underlying9 HI.out.1 HI.out.2.1 HI.out.2.2.1 HI.out.2.2.2 _ _ _ rfl HO.out s rfl (by have := HL.out; unfold maxLen; omega) (by have := HL.out; omega) (below_size HB.out) ?_; intro v1 w5 hown hg _; have n0_ := zA ((hg.block b (blk_lt BX.out) (fun e => HN.out e.symm)).trans BX.out); have n1_ := zA (K1.out.grown hg (Lib.ownsRowF_kind HO.out)); have n2_ := zA (HB.out.grown hg (below_size HB.out) (fun k hk => (HO.out.lt k hk).1)); clear BX K1 HO HB HN hg hc0 hc1 hf0 hf1; have BX := n0_; have K1 := n1_; have HB := n2_; have HO := zA (show w5.ownsRowF w0.heap.size 5 1 v1 (l ++ bytesOf s).length (encs (Value.int .u8) (l ++ bytesOf s)) from by (rw [List.length_append, bytesOf_length, encs_append, impl_QuoteText.bytes_enc]; exact hown)); clear n0_ n1_ n2_ hown; obtain ⟨A3, c3, ev⟩ : ∃ A3 c3, v1 = .slice A3 (l ++ bytesOf s).length c3 := (by rcases HO.out.2 with ⟨e, z⟩ | ⟨g, cap, _, _, e, _⟩; (exact ⟨none, 0, by rw [e, z]⟩); (exact ⟨_, cap, e⟩)); subst ev; obtain ⟨hc0, hc1, hf0, hf1⟩ := zh2 BX.out)); go_ret2; exact ⟨rfl, by (have e := (impl_QuoteText.BP.put HG.out BX.out HO.out HB.out).bd); (rw [List.length_append] at e); exact e, K1.out.setCell ⟨b, 1, none⟩ rfl _⟩
set_option maxHeartbeats 4000000 in
set_option maxRecDepth 100000 in
theorem impl_QuoteText.wr (b : Nat) (l : List Int) (r : Int) (w0 w : World) (h : impl_QuoteText.BD w0 w b l) (hr0 : -2147483648 ≤ r) (hr1 : r ≤ 2147483647) (hl : l.length ≤ 100000000000) : Calls Tryd.prog 64 #[.pointer (some ⟨b, 0, none⟩), .int .i32 r] w fun e w' => (∃ v, e = .returned v) ∧ impl_QuoteText.BD w0 w' b (l ++ Lib.encodeRuneZ r) ∧ Lib.OthersKept 5 (some b) w w' := by
 have hu86 := Tryd.underlying86; have HX := zA h; have HL := zA hl; have HR := zA (And.intro hr0 hr1); clear h hl hr0 hr1; go_enter Tryd.func64, Tryd.ntmps64
 go_upto_region 2 with (first | (go_at_call 95; refine (impl_QuoteText.cc b l w0 w HX.out).mono ?_; rintro e w1 ⟨rfl, h1, k1⟩; obtain ⟨A, c, h2, h3, h4, h5⟩ := h1.form; have BX := zA h2; have HO := zA h3; have HN := zA h4; have HG := zA h5; have HB := zA h1.2; have K1 := zA k1; clear h1 h2 h3 h4 h5 k1 HX; obtain ⟨hc0, hc1, hf0, hf1⟩ := zh2 BX.out))
 go_wp2_with (first | (go_at_call 97; refine (Any.utf8_AppendRune_own impl_QuoteText.lays242 impl_QuoteText.extra242 w0.heap.size _ l.length (encs (Value.int .u8) l) r HR.out.1 HR.out.2 w1 HO.out (by have := HL.out; omega) (below_size HB.out)).mono ?_; rintro e w5 ⟨v1, rfl, hown, o, hg⟩; have n0_ := zA ((hg.block b (by (have := blk_lt BX.out); simp; omega) (fun e => HN.out e.symm)).trans ((Lib.alloc_old w1 _ b (blk_lt BX.out)).trans BX.out)); have n1_ := zA ((K1.out.alloc _).grown hg (Lib.ownsRowF_kind (HO.out.alloc _))); have n2_ := zA ((HB.out.alloc (below_size HB.out) _).grown hg (below_size (HB.out.alloc (below_size HB.out) _)) (fun k hk => (HO.out.lt k hk).1)); clear BX K1 HO HB HN hg hc0 hc1 hf0 hf1; have BX := n0_; have K1 := n1_; have HB := n2_; have HO := zA (show w5.ownsRowF w0.heap.size 5 1 v1 (l ++ Lib.encodeRuneZ r).length (encs (Value.int .u8) (l ++ Lib.encodeRuneZ r)) from by (have e : (Lib.runeCells r).length = (Lib.encodeRuneZ r).length := List.length_map _); (rw [List.length_append, encs_append, ← e]; exact hown)); clear n0_ n1_ n2_ hown; obtain ⟨A3, c3, ev⟩ : ∃ A3 c3, v1 = .slice A3 (l ++ Lib.encodeRuneZ r).length c3 := (by rcases HO.out.2 with ⟨e, z⟩ | ⟨g, cap, _, _, e, _⟩; (exact ⟨none, 0, by rw [e, z]⟩); (exact ⟨_, cap, e⟩)); subst ev; obtain ⟨hc0, hc1, hf0, hf1⟩ := zh2 BX.out)); go_ret2; exact ⟨⟨_, rfl⟩, by (have e := (impl_QuoteText.BP.put HG.out BX.out HO.out HB.out).bd); (rw [List.length_append] at e); exact e, K1.out.setCell ⟨b, 1, none⟩ rfl _⟩
theorem impl_QuoteText.str (b : Nat) (l : List Int) (w0 w : World) (h : impl_QuoteText.BD w0 w b l) (hb : ∀ x ∈ l, 0 ≤ x ∧ x ≤ 255) : Calls Tryd.prog 65 #[.pointer (some ⟨b, 0, none⟩)] w fun e w' => e = .returned (.string (strOfNums l)) ∧ Below w0.heap.size w0 w' := by
 obtain ⟨hI, hB⟩ := h; rw [← impl_QuoteText.cells l hb] at hI; refine (Any.Builder_String_any_k Tryd.lays_169 impl_QuoteText.extra w0.heap.size b (impl_QuoteText.u8s l) w hI (below_size hB)).mono ?_; rintro e w' ⟨rfl, _, hb2, _⟩; exact ⟨rfl, hB.trans hb2⟩
theorem impl_QuoteText.bsa (s t : ByteArray) : bytesOf (s ++ t) = bytesOf s ++ bytesOf t := by simp [bytesOf]
theorem impl_QuoteText.bsn (l : List Int) (h : ∀ x ∈ l, 0 ≤ x ∧ x ≤ 255) : bytesOf (strOfNums l) = l := by
 unfold bytesOf; rw [strOfNums_data, List.map_map]
 conv => rhs; rw [← List.map_id l]
 refine List.map_congr_left fun x hx => ?_
 have := h x hx; simp only [Function.comp, UInt8.toNat_ofNat', id]
 omega
theorem impl_QuoteText.hexb (u : Int) : ∀ x ∈ impl_QuoteText.hexL u, 0 ≤ x ∧ x ≤ 255 := by
 have hd : ∀ y, 0 ≤ impl_QuoteText.dgi y ∧ impl_QuoteText.dgi y ≤ 255 := fun y => by
  have := (impl_QuoteText.dg y).toNat_lt; unfold impl_QuoteText.dgi; omega
 intro x hx; unfold impl_QuoteText.hexL at hx
 split at hx
 ·simp at hx; subst hx; exact hd _
 ·simp at hx; rcases hx with rfl | rfl <;> exact hd _
theorem impl_QuoteText.hexl (u : Int) : (impl_QuoteText.hexL u).length ≤ 2 := by unfold impl_QuoteText.hexL; split <;> simp
theorem impl_QuoteText.BD.below {w0 W W' : World} {b : Nat} {l : List Int} (h : impl_QuoteText.BD w0 W b l) (hb : Below W.heap.size W W') : impl_QuoteText.BD w0 W' b l := by
 have go : ∀ p, Lib.BuilderAtF 86 5 w0.heap.size b p (encs (Value.int .u8) l) W → Lib.BuilderAtF 86 5 w0.heap.size b p (encs (Value.int .u8) l) W' := by
  rintro p ⟨h1, v, h2, h3, h4⟩; refine ⟨h1, v, (hb.block b (Array.getElem?_eq_some_iff.1 h2).1).trans h2, ⟨h3.1, ?_⟩, h4⟩
  rcases h3.2 with h5 | ⟨g, cap, cur, fz, e1, hg, hh, r⟩
  ·exact .inl h5
  ·exact .inr ⟨g, cap, cur, fz, e1, hg, (hb.block g (Array.getElem?_eq_some_iff.1 hh).1).trans hh, r⟩
 exact ⟨h.1.imp (go _) (go _), h.2.trans (Below.mono hb (below_size h.2))⟩
def impl_QuoteText.lq (s : ByteArray) : Nat → Nat → List Int → Option (List Int)
 | 0, _, _ => none
 | m + 1, pos, acc => if pos < s.size then (if acc.length ≤ 50000000000 ∧ (Utf8.decode s pos).1 ≤ 1114111 then (if ((Utf8.decode s pos).1 : Int) = 34 ∨ ((Utf8.decode s pos).1 : Int) = 92 then impl_QuoteText.lq s m (pos + (Utf8.decode s pos).2) (acc ++ [92, ((Utf8.decode s pos).1 : Int)]) else if ((Utf8.decode s pos).1 : Int) < 32 ∨ ((Utf8.decode s pos).1 : Int) = 127 then impl_QuoteText.lq s m (pos + (Utf8.decode s pos).2) (acc ++ ([92, 117, 123] ++ impl_QuoteText.hexL ((Utf8.decode s pos).1 : Int) ++ [125])) else impl_QuoteText.lq s m (pos + (Utf8.decode s pos).2) (acc ++ Lib.encodeRuneZ ((Utf8.decode s pos).1 : Int))) else none) else some acc
def impl_QuoteText.f (k : Nat) (l0 : List Int) : Option (List Int) :=
 (impl_wellFormed.f k l0).bind fun t => if t = true then (if l0.length ≤ 1000000000 then (impl_QuoteText.lq (strOfNums l0) (l0.length + 1) 0 [34]).bind fun acc => if acc.length ≤ 50000000000 ∧ (acc.all fun x => decide (0 ≤ x ∧ x ≤ 255)) = true then some (acc ++ [34]) else none else none) else some []
theorem impl_QuoteText.mono : ∀ a0 k, LeO (impl_QuoteText.f k a0) (impl_QuoteText.f (k + 1) a0) := by
 intro a0 k; unfold impl_QuoteText.f; exact LeO.bind (impl_wellFormed.mono _ _) fun _ => LeO.refl _
set_option maxHeartbeats 4000000 in
set_option maxRecDepth 100000 in
theorem impl_QuoteText.calls (k : Nat) (A0 : Option Addr) (c0 : Nat) (l0 : List Int) (r : List Int) (w : World) (hr0 : Kd.C (Kd.int .u8) w A0 l0.length l0) (hc0 : l0.length ≤ c0) (hL : LaidW w) (h : impl_QuoteText.f k l0 = some r) : Calls Tryd.prog 21 #[.slice A0 l0.length c0] w fun e w' => ∃ v0_ : Value, e = .returned v0_ ∧ FR 5 w' w.heap.size (fun _ => True) v0_ r ∧ Below w.heap.size w w' := by
 have hu86 := Tryd.underlying86; have HR := zA hr0; have HC := zA hc0; have HL := zA hL; clear hr0 hc0 hL; unfold impl_QuoteText.f at h; obtain ⟨t, av, H⟩ := Option.bind_eq_some_iff.mp h; have AV := zA av; clear av h; cases t with
 | false =>
  rw [if_neg (by decide)] at H; injection H with e1; subst e1; go_enter Tryd.func21, Tryd.ntmps21; go_wp2_with (first | (go_at_call 60; refine (impl_wellFormed.calls k _ _ l0 false _ ?s1 ?s2 ?s3 AV.out).mono ?_; (case s1 => exact HR.out); (case s2 => exact HC.out); (case s3 => exact HL.out); rintro e w6 ⟨rfl, hb⟩; have HB := zA hb; clear hb)); go_ret; exact ⟨_, rfl, FR_of (Kd.R_nil _ _ _ _ _), HB.out⟩
 | true =>
  rw [if_pos rfl] at H
  by_cases g0 : l0.length ≤ 1000000000
  case neg => rw [if_neg g0] at H; cases H
  rw [if_pos g0] at H; obtain ⟨acc, hq, H⟩ := Option.bind_eq_some_iff.mp H
  by_cases g1 : acc.length ≤ 50000000000 ∧ (acc.all fun x => decide (0 ≤ x ∧ x ≤ 255)) = true
  case neg => rw [if_neg g1] at H; cases H
  rw [if_pos g1] at H; have e := Option.some.inj H; subst e; have HQ := zA hq; have G1 := zA g1; have G0 := zA g0; have hcv := Kd.C_string Tryd.underlying22 Tryd.underlying5 Tryd.underlying9 HR.out (c := c0); clear H hq g0 g1; go_enter Tryd.func21, Tryd.ntmps21
  go_upto_region 3 with (first | (go_at_call 60; refine (impl_wellFormed.calls k _ _ l0 true _ ?s1 ?s2 ?s3 AV.out).mono ?_; (case s1 => exact HR.out); (case s2 => exact HC.out); (case s3 => exact HL.out); rintro e w6 ⟨rfl, hb⟩; have HB := zA hb; clear hb))
  clear hcv
  go_upto_region 4 with (fail)
  have BB := zA (show impl_QuoteText.BD w (w6.alloc (.cells #[.pointer none, .slice none 0 0] 86)) w6.heap.size [] from ⟨.inl ⟨below_size HB.out, .slice none 0 0, blk_new _ _, World.ownsRowF_nil _ _ _ _, by simp [Value.ownBlock]⟩, below_alloc HB.out _⟩); clear HB; generalize (w6.alloc (.cells #[.pointer none, .slice none 0 0] 86)) = w7 at BB ⊢; generalize w6.heap.size = b at BB ⊢
  go_upto_region 5 with (first | (go_at_call 61; refine (impl_QuoteText.wb b [] 34 w w7 BB.out (by simp)).mono ?_; rintro e w8 ⟨rfl, hd, _⟩; replace BB := zA hd; clear hd))
  have hcv := Kd.C_string Tryd.underlying22 Tryd.underlying5 Tryd.underlying9 (Kd.C_below HR.out BB.out.2) (c := c0); go_wp2; have IT := zA (show (w8.iter (strOfNums l0) 0).heap[w8.heap.size]? = some (.stringIter (strOfNums l0) 0) from World.iter_heap w8 _ 0); have n0_ := zA (show impl_QuoteText.BD w (w8.iter (strOfNums l0) 0) b [34] from ⟨BB.out.1.alloc _, below_alloc BB.out.2 _⟩)
  have NB := zA (show w8.heap.size ≠ b ∧ w.heap.size ≤ w8.heap.size from ⟨fun e => by
   have h : b < w8.heap.size := BB.out.1.elim (fun x => x.lt) (fun x => x.lt)
   omega, below_size BB.out.2⟩)
  have hq := HQ.out; have SZ := zA (strOfNums_size l0); clear BB HQ hcv; have BB := n0_; clear n0_; generalize (w8.iter (strOfNums l0) 0) = w9 at IT BB ⊢; generalize w8.heap.size = bi at IT NB ⊢; generalize strOfNums l0 = s at hq IT SZ ⊢; have HQ := zA hq; clear hq
  go_loopg [] (l0.length + 1) (fun kq w' => ∃ (pos : Nat) (a : List Int), Aside0 (impl_QuoteText.lq s kq pos a = some acc) ∧ Aside0 (impl_QuoteText.BD w w' b a) ∧ Aside0 (w'.heap[bi]? = some (.stringIter s pos)))
  case atStart => exact ⟨0, [34], HQ, BB, IT⟩
  case round =>
   clear HQ BB IT; obtain ⟨pos, a, HQ, BB, IT⟩ := hrel; cases gk with
   | zero => exact absurd HQ.out (by simp [impl_QuoteText.lq])
   | succ k1 =>
    have hq := HQ.out; rw [impl_QuoteText.lq] at hq
    by_cases hp : pos < s.size
    ·rw [if_pos hp] at hq
     by_cases gg : a.length ≤ 50000000000 ∧ (Utf8.decode s pos).1 ≤ 1114111
     case neg => rw [if_neg gg] at hq; cases hq
     rw [if_pos gg] at hq; have hnx : ∀ ty, (Instr.next (.pointer (some ⟨bi, 0, none⟩)) true ty).run Tryd.prog wr = _ := fun ty => Lib.run_next_any_at wr bi s pos ty IT.out hp
     have n0_ := zA (show impl_QuoteText.BD w (wr.iterAt bi s (pos + (Utf8.decode s pos).2)) b a from ⟨BB.out.1.iterAt IT.out _, Lib.below_iterAt BB.out.2 NB.out.2 s _⟩); have n1_ := zA (Lib.iterAt_heap wr bi s pos (pos + (Utf8.decode s pos).2) IT.out); generalize (wr.iterAt bi s (pos + (Utf8.decode s pos).2)) = w10 at hnx n0_ n1_; generalize pos + (Utf8.decode s pos).2 = pos2 at hq n1_; have R0 := zA (show (0 : Int) ≤ ((Utf8.decode s pos).1 : Int) ∧ ((Utf8.decode s pos).1 : Int) ≤ 1114111 from by omega); generalize ((Utf8.decode s pos).1 : Int) = rr at hq hnx R0; have HQ2 := zA hq; have AL := zA gg.1; clear hq HQ BB IT gg hp; have BB := n0_; have IT := n1_; clear n0_ n1_
     by_cases q1 : rr = 34 ∨ rr = 92
     ·have hq := HQ2.out; rw [if_pos q1] at hq; have HQ := zA hq; clear hq HQ2
      rcases q1 with q1 | q1
      ·subst q1; have eb : bytesOf ((⟨#[92]⟩ : ByteArray) ++ Utf8.encode 34) = [92, 34] := by kernel_rfl
       have es : ((⟨#[92]⟩ : ByteArray) ++ Utf8.encode 34).size = 2 := by kernel_rfl
       go_wp2_with (first | (go_at_call 62; refine (impl_QuoteText.ws b a _ w w10 BB.out (by (have := AL.out); (rw [es]); omega)).mono ?_; rintro e w11 ⟨rfl, hd, ko⟩; rw [eb] at hd; replace BB := zA hd; replace IT := zA (ko bi (.stringIter s pos2) IT.out (fun e => NB.out.1 (Option.some.inj e)) (fun _ _ e => (by cases e))); clear hd ko)); go_roundg k1
       case measure => exact Nat.lt_succ_self _
       case rel => exact ⟨pos2, _, HQ, BB, IT⟩
      ·subst q1; have eb : bytesOf ((⟨#[92]⟩ : ByteArray) ++ Utf8.encode 92) = [92, 92] := by kernel_rfl
       have es : ((⟨#[92]⟩ : ByteArray) ++ Utf8.encode 92).size = 2 := by kernel_rfl
       go_wp2_with (first | (go_at_call 62; refine (impl_QuoteText.ws b a _ w w10 BB.out (by (have := AL.out); (rw [es]); omega)).mono ?_; rintro e w11 ⟨rfl, hd, ko⟩; rw [eb] at hd; replace BB := zA hd; replace IT := zA (ko bi (.stringIter s pos2) IT.out (fun e => NB.out.1 (Option.some.inj e)) (fun _ _ e => (by cases e))); clear hd ko)); go_roundg k1
       case measure => exact Nat.lt_succ_self _
       case rel => exact ⟨pos2, _, HQ, BB, IT⟩
     ·by_cases q2 : rr < 32 ∨ rr = 127
      ·have hq := HQ2.out; rw [if_neg q1, if_pos q2] at hq; have HQ := zA hq
       have Q2 := zA (show 0 ≤ rr ∧ rr < 128 ∧ wrap64 rr = rr from by
        have := R0.out; have e : wrap64 rr = rr := by unfold wrap64; omega
        exact ⟨by omega, by omega, e⟩)
       have b1 : (rr == 34) = false := beq_eq_false_iff_ne.2 (fun e => q1 (.inl e)); have b2 : (rr == 92) = false := beq_eq_false_iff_ne.2 (fun e => q1 (.inr e)); clear hq HQ2 q1; have eb : bytesOf (((⟨#[92, 117, 123]⟩ : ByteArray) ++ strOfNums (impl_QuoteText.hexL rr)) ++ (⟨#[125]⟩ : ByteArray)) = [92, 117, 123] ++ impl_QuoteText.hexL rr ++ [125] := by rw [impl_QuoteText.bsa, impl_QuoteText.bsa, impl_QuoteText.bsn _ (impl_QuoteText.hexb rr)]; rfl
       have es : (((⟨#[92, 117, 123]⟩ : ByteArray) ++ strOfNums (impl_QuoteText.hexL rr)) ++ (⟨#[125]⟩ : ByteArray)).size ≤ 6 := by rw [← bytesOf_length, eb]; have := impl_QuoteText.hexl rr; simp; omega
       have hz : (strOfNums (impl_QuoteText.hexL rr)).size ≤ 2 := by rw [strOfNums_size]; exact impl_QuoteText.hexl rr
       have s1 : (9223372036854775807 < 3 + (strOfNums (impl_QuoteText.hexL rr)).size) = False := eq_false (by omega); have s2 : (9223372036854775807 < 3 + (strOfNums (impl_QuoteText.hexL rr)).size + 1) = False := eq_false (by omega); clear hz; have e64 : wrap64 rr = rr := Q2.out.2.2
       rcases q2 with q2 | q2
       ·have b3 : decide (rr < 32) = true := decide_eq_true q2; clear q2; go_wp2_with (first | (go_at_call 63; rw [e64]; refine (impl_QuoteText.fmt rr Q2.out.1 Q2.out.2.1 w10 (LaidW.below HL.out BB.out.2)).mono ?_; rintro e w11 ⟨rfl, hb⟩; replace BB := zA (BB.out.below hb); replace IT := zA (blk_below IT.out hb); clear hb) | (go_at_call 62; refine (impl_QuoteText.ws b a _ w w11 BB.out (by (have := AL.out); (have := es); omega)).mono ?_; rintro e w12 ⟨rfl, hd, ko⟩; rw [eb] at hd; replace BB := zA hd; replace IT := zA (ko bi (.stringIter s pos2) IT.out (fun e => NB.out.1 (Option.some.inj e)) (fun _ _ e => (by cases e))); clear hd ko)); go_roundg k1
        case measure => exact Nat.lt_succ_self _
        case rel => exact ⟨pos2, _, HQ, BB, IT⟩
       ·have b3 : decide (rr < 32) = false := decide_eq_false (by omega); have b4 : (rr == 127) = true := beq_iff_eq.2 q2; clear q2; go_wp2_with (first | (go_at_call 63; rw [e64]; refine (impl_QuoteText.fmt rr Q2.out.1 Q2.out.2.1 w10 (LaidW.below HL.out BB.out.2)).mono ?_; rintro e w11 ⟨rfl, hb⟩; replace BB := zA (BB.out.below hb); replace IT := zA (blk_below IT.out hb); clear hb) | (go_at_call 62; refine (impl_QuoteText.ws b a _ w w11 BB.out (by (have := AL.out); (have := es); omega)).mono ?_; rintro e w12 ⟨rfl, hd, ko⟩; rw [eb] at hd; replace BB := zA hd; replace IT := zA (ko bi (.stringIter s pos2) IT.out (fun e => NB.out.1 (Option.some.inj e)) (fun _ _ e => (by cases e))); clear hd ko)); go_roundg k1
        case measure => exact Nat.lt_succ_self _
        case rel => exact ⟨pos2, _, HQ, BB, IT⟩
      ·have hq := HQ2.out; rw [if_neg q1, if_neg q2] at hq; have HQ := zA hq; have b1 : (rr == 34) = false := beq_eq_false_iff_ne.2 (fun e => q1 (.inl e)); have b2 : (rr == 92) = false := beq_eq_false_iff_ne.2 (fun e => q1 (.inr e)); have b3 : decide (rr < 32) = false := decide_eq_false (fun e => q2 (.inl e)); have b4 : (rr == 127) = false := beq_eq_false_iff_ne.2 (fun e => q2 (.inr e)); clear hq HQ2 q1 q2; go_wp2_with (first | (go_at_call 64; refine (impl_QuoteText.wr b a rr w w10 BB.out (by (have := R0.out); omega) (by (have := R0.out); omega) (by (have := AL.out); omega)).mono ?_; rintro e w11 ⟨⟨v, rfl⟩, hd, ko⟩; replace BB := zA hd; replace IT := zA (ko bi (.stringIter s pos2) IT.out (fun e => NB.out.1 (Option.some.inj e)) (fun _ _ e => (by cases e))); clear hd ko)); go_roundg k1
       case measure => exact Nat.lt_succ_self _
       case rel => exact ⟨pos2, _, HQ, BB, IT⟩
    ·rw [if_neg hp] at hq; have e := Option.some.inj hq; subst e; have hnx : ∀ ty, (Instr.next (.pointer (some ⟨bi, 0, none⟩)) true ty).run Tryd.prog wr = _ := fun ty => Lib.run_next_end_at wr bi s pos ty IT.out hp
     clear hq
     have G2 := zA (show ∀ x ∈ a ++ [34], 0 ≤ x ∧ x ≤ 255 from by
      intro x hx; have h2 := List.all_eq_true.1 G1.out.2
      rcases List.mem_append.1 hx with h | h
      ·simpa using h2 x h
      ·simp at h; omega)
     have hcv : ∀ W : World, (convert 9 22 (.string (strOfNums (a ++ [34])))).run Tryd.prog W = _ := fun W => Lib.run_convert_string_bytes W 9 22 5 (strOfNums (a ++ [34])) Tryd.underlying9 Tryd.underlying22 Tryd.underlying5
     go_wp2_with (first | (go_at_call 61; refine (impl_QuoteText.wb b a 34 w wr BB.out (by (have := G1.out.1); omega)).mono ?_; rintro e w10 ⟨rfl, hd, _⟩; replace BB := zA hd; clear hd) | (go_at_call 65; refine (impl_QuoteText.str b (a ++ [34]) w w10 BB.out G2.out).mono ?_; rintro e w11 ⟨rfl, hd⟩; replace BB := zA hd; clear hd)); go_ret; have e2 := impl_QuoteText.bsn (a ++ [34]) G2.out; have SZ2 : (strOfNums (a ++ [34])).size ≤ maxLen := by rw [strOfNums_size]; have := G1.out.1; simp [maxLen]; omega
     have F := FR_bytes (e := 5) (W := w11) (strOfNums (a ++ [34])) SZ2; rw [e2] at F; exact ⟨_, rfl, FR_lower F (below_size BB.out), bytes_below BB.out (below_size BB.out) _ _⟩

/-! ### laws_markByteS: function 22 -/
def laws_markByteS.l0 : Nat → List Int → Int → Int → Option (Int × List Int)
 | 0, _, _, _ => none
 | k + 1, x0, x1, x5 => if x5 < (x0.length : Int) then (if 0 ≤ x5 then (laws_markByteS.l0 k (x0.set (x5 : Int).toNat ((x1) % 256)) (wrap64 (x1 + 1)) (wrap64 (x5 + 1))) else (none)) else (some (x1, x0))
def laws_markByteS.f (k : Nat) (l0 : List Int) (a1 : Int) : Option (Int × List Int) := laws_markByteS.l0 k l0 a1 0
theorem laws_markByteS.mono_l : ∀ k, (∀ y0 y1 y2, LeO (laws_markByteS.l0 k y0 y1 y2) (laws_markByteS.l0 (k + 1) y0 y1 y2))
 | 0 => fun _ _ _ r h => by simp [laws_markByteS.l0] at h
 | k + 1 => by
  have ih0 := laws_markByteS.mono_l k
  ·intro y0 y1 y2; unfold laws_markByteS.l0; exact zm
theorem laws_markByteS.mono : ∀ a0 a1 k, LeO (laws_markByteS.f k a0 a1) (laws_markByteS.f (k + 1) a0 a1) := by
 intro a0 a1 k; have ih0 := laws_markByteS.mono_l k; unfold laws_markByteS.f; exact zm
set_option maxHeartbeats 8000000 in
set_option maxRecDepth 100000 in
theorem laws_markByteS.calls (k : Nat) (P0_ : Nat → Prop) (u9000_ : Value) (l0 : List Int) (a1 : Int) (r1 : Int) (r2 : List Int) (w0 w : World) (hB : Below w0.heap.size w0 w) (ho0 : FR 5 w w0.heap.size P0_ u9000_ l0) (h : laws_markByteS.f k l0 a1 = some (r1, r2)) :
  Calls Tryd.prog 22 #[u9000_, .int .i64 a1] w fun e w' => e = .returned (.int .i64 r1) ∧ FR 5 w' w0.heap.size (fun k_ => (P0_ k_ ∨ w.heap.size ≤ k_)) u9000_ r2 ∧ Below w0.heap.size w0 w' ∧ Kept w w' (fun k_ => P0_ k_) := by
 have Bg := zA (show FR 5 w w0.heap.size (fun k_ => (P0_ k_ ∨ w.heap.size ≤ k_)) u9000_ l0 from FR_mono ho0 (fun k_ hk => (.inl hk))); have HK := zA (Kept.refl w (fun k_ => P0_ k_)); have HW0 := zA hB.size; have HB := zA hB; clear hB; have H : (laws_markByteS.l0 k l0 a1 0) = some (r1, r2) := h; clear h; have H' := zA H; clear H; go_enter Tryd.func22, Tryd.ntmps22; go_wp2
 go_loopg [1, 5] k (fun kq v1 v5 w' => ∃ (Bd : List Int) (Bc : Int) (Ba : Int), v1 = .int .i64 Bc ∧ v5 = .int .i64 Ba ∧ Aside0 (laws_markByteS.l0 kq Bd Bc Ba = some (r1, r2)) ∧ Aside0 (kq ≤ k) ∧ Aside0 (FR 5 w' w0.heap.size (fun k_ => (P0_ k_ ∨ w.heap.size ≤ k_)) u9000_ Bd) ∧ Aside0 (Kept w w' (fun k_ => P0_ k_)) ∧ Aside0 (Below w0.heap.size w0 w'))
 case atStart => exact ⟨(l0), (a1), (0), zr, zr, H', ⟨Nat.le_refl _⟩, ⟨zRF Bg.out⟩, ⟨by repeat (first | (with_reducible first | exact HK.out | apply Kept.alloc | apply Kept.drewN | apply Kept.drew) | exact HK.out)⟩, ⟨z_⟩⟩
 case round =>
  clear H'; (try clear c2); obtain ⟨Bd, Bc, Ba, rfl, rfl, HA, HK1, Bb, HK, HB⟩ := hrel; cases gk with
  | zero => exact absurd HA.out (by simp [laws_markByteS.l0])
  | succ k1 =>
   have H := HA.out; clear HA; simp only [laws_markByteS.l0] at H
   by_cases c3 : Ba < (Bd.length : Int)
   ·rw [if_pos c3] at H; have c3b0 := decide_eq_true c3; clear c3
    by_cases c4 : 0 ≤ Ba
    ·rw [if_pos c4] at H; have c4b0 := decide_eq_true c4; clear c4; obtain ⟨y194, hy194⟩ : ∃ y_ : List Int, y_ = (Bd.set (Ba : Int).toNat ((Bc) % 256)) := ⟨_, rfl⟩; replace H : (laws_markByteS.l0 k1 y194 (wrap64 (Bc + 1)) (wrap64 (Ba + 1))) = some (r1, r2) := zh hy194; have Ny194 := zA hy194; clear hy194; have H' := zA H; clear H; obtain ⟨Bk, Bh, Bi⟩ := FR_slice Bb.out; subst Bi; have p5 : 0 ≤ (Ba : Int) := zd; have q5 : (Ba : Int) < ((Bd.length : Int) : Int) := zd; obtain ⟨go5, Bm, Be, Bf, gl5, cl5, HG5⟩ := FR_form Bb.out (by omega)
     (first | cases Be | (injection Be with ea_ en_ ec_; (first | subst ea_ | (injection ea_ with ea_; subst ea_)); subst ec_; clear en_))
     have GB5 := zA Bf; have GG5 := zA HG5; clear Bf gl5 HG5; have HMgo5 := zA (show (P0_ go5 ∨ w.heap.size ≤ go5) from (Bb.out.1 _ rfl)); obtain ⟨haa, hf5_0⟩ := FR_celln 0 Bb.out (Ba : Int) p5 q5; replace p5 := eq_true p5; replace q5 := eq_true q5; have HP7 := FR_putg Bb.out (Ba : Int) ((Bc) % 256); go_wp2_with (first | ((with_reducible refine gate_store (t := 5) (p := 16) rfl ?_); refine store_event (t := 5) (p := 16) (v := ?vo_w8) (w1 := (wr.setCell ⟨go5, (Ba : Int).toNat, none⟩ (.int .u8 ((Bc) % 256)))) ?hg ?ho ?hn ?hr ?_; (case ho => rfl); (case hg => rfl); (case hn => rfl); (case hr => first | (go_simp; done) | (go_simp; rfl)); intro w8 hw; have hg : wr.grownBy w8 (some go5) := (by rw [hw]; exact HP7.2); have hp_ : FR 5 w8 w0.heap.size (fun k_ => (P0_ k_ ∨ w.heap.size ≤ k_)) (.slice (some ⟨go5, 0, none⟩) Bd.length Bh) y194 := (by rw [hw, Ny194.out]; exact HP7.1); clear HP7; replace HB := zA ((by rw [hw]; exact below_set (HB.out) GB5.out : Below w0.heap.size w0 w8)); replace HK := zA (Kept.of_grown (S := (fun k_ => P0_ k_)) hg (by repeat (first | (with_reducible first | exact HK.out | apply Kept.alloc | apply Kept.drewN | apply Kept.drew) | exact HK.out)) (fun k_ e_ => (Bb.out.1 k_ e_))); replace Bb := zA (hp_); clear hg hw hp_)); go_roundg k1
     case measure => have := HK1.out; omega
     case rel => exact ⟨(y194), (wrap64 (Bc + 1)), (wrap64 (Ba + 1)), zr, zr, H', ⟨by have := HK1.out; omega⟩, ⟨zRF Bb.out⟩, ⟨by repeat (first | (with_reducible first | exact HK.out | apply Kept.alloc | apply Kept.drewN | apply Kept.drew) | exact HK.out)⟩, ⟨z_⟩⟩
    ·rw [if_neg c4] at H; exact absurd H (by simp)
   ·rw [if_neg c3] at H; have c3b0 := decide_eq_false c3; clear c3; simp only [Option.some.injEq, Prod.mk.injEq] at H; obtain ⟨rfl, rfl⟩ := H; obtain ⟨Bl, Bn, Bj⟩ := FR_slice Bb.out; subst Bj; go_wp2; go_ret; exact ⟨ze, by (with_reducible repeat (first | apply FR_alloc | apply FR_drewN | apply FR_drew)); exact Bb.out, z_, by repeat (first | (with_reducible first | exact HK.out | apply Kept.alloc | apply Kept.drewN | apply Kept.drew) | exact HK.out)⟩

/-! ### laws_heldByteS: function 23 -/
def laws_heldByteS.l0 : Nat → List Int → Int → Int → Option (Int)
 | 0, _, _, _ => none
 | k + 1, x0, x1, x5 => if x5 < (x0.length : Int) then (if 0 ≤ x5 then (if (rd x0 x5) = ((x1) % 256) then (laws_heldByteS.l0 k x0 (wrap64 (x1 + 1)) (wrap64 (x5 + 1))) else (some (-1))) else (none)) else (some x1)
def laws_heldByteS.f (k : Nat) (l0 : List Int) (a1 : Int) : Option (Int) := laws_heldByteS.l0 k l0 a1 0
theorem laws_heldByteS.mono_l : ∀ k, (∀ y0 y1 y2, LeO (laws_heldByteS.l0 k y0 y1 y2) (laws_heldByteS.l0 (k + 1) y0 y1 y2))
 | 0 => fun _ _ _ r h => by simp [laws_heldByteS.l0] at h
 | k + 1 => by
  have ih0 := laws_heldByteS.mono_l k
  ·intro y0 y1 y2; unfold laws_heldByteS.l0; exact zm
theorem laws_heldByteS.mono : ∀ a0 a1 k, LeO (laws_heldByteS.f k a0 a1) (laws_heldByteS.f (k + 1) a0 a1) := by
 intro a0 a1 k; have ih0 := laws_heldByteS.mono_l k; unfold laws_heldByteS.f; exact zm
set_option maxHeartbeats 8000000 in
set_option maxRecDepth 100000 in
theorem laws_heldByteS.calls (k : Nat) (A0 : Option Addr) (c0 : Nat) (l0 : List Int) (a1 : Int) (r : Int) (w : World) (hr0 : Kd.C (Kd.int .u8) w A0 l0.length l0) (hc0 : l0.length ≤ c0) (h : laws_heldByteS.f k l0 a1 = some r) :
  Calls Tryd.prog 23 #[.slice A0 l0.length c0, .int .i64 a1] w fun e w' => e = .returned (.int .i64 r) ∧ Drawn0 w w' := by
 have HR0 := zA hr0; have HC0 := zA hc0; clear hr0 hc0; have H : (laws_heldByteS.l0 k l0 a1 0) = some r := h; clear h; have H' := zA H; clear H; go_enter Tryd.func23, Tryd.ntmps23; go_wp2
 go_loopg [1, 5] k (fun kq v1 v5 w' => ∃ (Bb : Int) (Ba : Int), v1 = .int .i64 Bb ∧ v5 = .int .i64 Ba ∧ Aside0 (laws_heldByteS.l0 kq l0 Bb Ba = some r) ∧ Aside0 (kq ≤ k) ∧ Drawn0 w w')
 case atStart => exact ⟨(a1), (0), zr, zr, H', ⟨Nat.le_refl _⟩, by repeat (first | exact Drawn0.refl _ | apply Drawn0.step)⟩
 case round =>
  clear H'; (try clear c2); obtain ⟨Bb, Ba, rfl, rfl, HA, HK1, ⟨m1, rfl⟩⟩ := hrel; cases gk with
  | zero => exact absurd HA.out (by simp [laws_heldByteS.l0])
  | succ k1 =>
   have H := HA.out; clear HA; simp only [laws_heldByteS.l0] at H
   by_cases c3 : Ba < (l0.length : Int)
   ·rw [if_pos c3] at H; have c3b0 := decide_eq_true c3; clear c3
    by_cases c4 : 0 ≤ Ba
    ·rw [if_pos c4] at H; have c4b0 := decide_eq_true c4; clear c4
     by_cases c5 : (rd l0 Ba) = ((Bb) % 256)
     ·rw [if_pos c5] at H; have c5b0 := beq_iff_eq.mpr c5; have c5b1 := bne_eq_false_iff_eq.mpr c5; clear c5; have H' := zA H; clear H; have p195 : 0 ≤ (Ba : Int) := zd; have q195 : Ba < (l0.length : Int) := zd; obtain ⟨Bc, e195, haa⟩ := Kd.at_int HR0.out Ba p195 q195; cases e195; replace p195 := eq_true p195; replace q195 := eq_true q195; go_wp2; go_roundg k1
      case measure => have := HK1.out; omega
      case rel => exact ⟨(wrap64 (Bb + 1)), (wrap64 (Ba + 1)), zr, zr, H', ⟨by have := HK1.out; omega⟩, by repeat (first | exact Drawn0.refl _ | apply Drawn0.step)⟩
     ·rw [if_neg c5] at H; have c5b0 := beq_eq_false_iff_ne.mpr c5; have c5b1 := bne_iff_ne.mpr c5; obtain rfl := Option.some.inj H; have p195 : 0 ≤ (Ba : Int) := zd; have q195 : Ba < (l0.length : Int) := zd; obtain ⟨Bc, e195, haa⟩ := Kd.at_int HR0.out Ba p195 q195; cases e195; replace p195 := eq_true p195; replace q195 := eq_true q195; go_wp2; go_ret; exact ⟨by first | rfl | (simp; done) | (simp [*]; done), by repeat (first | exact Drawn0.refl _ | apply Drawn0.step)⟩
    ·rw [if_neg c4] at H; exact absurd H (by simp)
   ·rw [if_neg c3] at H; have c3b0 := decide_eq_false c3; clear c3; obtain rfl := Option.some.inj H; go_wp2; go_ret; exact ⟨by first | rfl | (simp; done) | (simp [*]; done), by repeat (first | exact Drawn0.refl _ | apply Drawn0.step)⟩

end Go.Proofs.YtiboccbaaphbhaaDoor.PFnExactQuoteText
