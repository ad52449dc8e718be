/- The two tables of the library's decoder, as they are listed, lie in memory cell by cell, and stay: no condition. -/
import Derived.Test.YtbnpkiokpnmphaaDoorRows
import Derived.Test.YtbnpkiokpnmphaaDoorShelf
import Derived.Shelf.Spec.DecodeRune
import Derived.Shelf.Spec.TrailingZeros
import Derived.Lib.LaidU8
import Derived.Test.YtbnpkiokpnmphaaDoorWWords
import Derived.Test.YtbnpkiokpnmphaaDoorWLast
namespace Go.Proofs.YtbnpkiokpnmphaaDoor
open Go.Lib Go.Shelf Go.RowKit Go.Proofs.YtbnpkiokpnmphaaDoorW.PrintWords Go.Proofs.YtbnpkiokpnmphaaDoorW.PrintLast
/-- The decoder's tables lie in this world. -/
def LaidW (w : World) : Prop := Lib.Utf8Tabs 0 1 w ∧ TabAt 7 Lib.deBruijn64tab w
theorem LaidW.below {w w1 : World} (h : LaidW w) (hb : Below w.heap.size w w1) : LaidW w1 :=
  ⟨⟨fun c hc => pw_cell_below hb (h.1.1 c hc), fun i hi => ⟨pw_cell_below hb (h.1.2 i hi).1, pw_cell_below hb (h.1.2 i hi).2⟩⟩, fun j hj => pw_cell_below hb (h.2 j hj)⟩
theorem LaidW.utf8 {w : World} (h : LaidW w) : Lib.Utf8Tabs 0 1 w := h.1
theorem bruijn_eq : (Rows.laid_math_bits_deBruijn64tab : DataW Unit) = tabData .u8 (Lib.deBruijn64tab.map fun (n : Nat) => (n : Int)) := by kernel_rfl
theorem first_eq : Pinned.utf8First = firstData := by kernel_rfl
theorem accept_eq : (Rows.laid_unicode_utf8_acceptRanges : DataW Unit) = acceptData := by kernel_rfl
theorem LaidW.of_reads {n m o : String} {w : World} (h3 : VarReads Tryd.prog w n Rows.laid_unicode_utf8_first) (h4 : VarReads Tryd.prog w m Rows.laid_unicode_utf8_acceptRanges) (h5 : VarReads Tryd.prog w o Rows.laid_math_bits_deBruijn64tab)
    (hn : Tryd.prog.globalNamed n = some 0) (hm : Tryd.prog.globalNamed m = some 1) (ho : Tryd.prog.globalNamed o = some 7) : LaidW w := by
  refine ⟨⟨fun c hc => ?_, fun i hi => ?_⟩, fun j hj => ?_⟩
  · obtain ⟨g, t, cs, fuel, p, hg, hty, hvar, hd⟩ := h3
    obtain rfl := Option.some.inj (hn.symm.trans hg)
    obtain rfl := Option.some.inj ((show (Tryd.prog.globals[0]?).map (·.type) = some 50 by kernel_rfl).symm.trans hty)
    rw [show Rows.laid_unicode_utf8_first = firstData from first_eq] at hd
    have hcs := cells_of_tab Tryd.underlying50 Tryd.underlying5 (by kernel_rfl) (by kernel_rfl) hd
    have := World.var?_cell hg hvar c
    rw [this, ← Array.getElem?_toList, hcs]
    simp [firstTab, hc]
  · obtain ⟨g, t, cs, fuel, p, hg, hty, hvar, hd⟩ := h4
    obtain rfl := Option.some.inj (hm.symm.trans hg)
    obtain rfl := Option.some.inj ((show (Tryd.prog.globals[1]?).map (·.type) = some 54 by kernel_rfl).symm.trans hty)
    rw [accept_eq] at hd
    obtain ⟨fuel', d, q, hdi, he⟩ := array_elem Tryd.underlying54 hd i hi
    simp only [List.getElem?_map, List.getElem?_range hi, Option.map_some, Option.some.injEq] at hdi
    subst hdi
    have c2 : Tryd.prog.cellsOf 53 = 2 := by kernel_rfl
    have c1 : Tryd.prog.cellsOf 5 = 1 := by kernel_rfl
    rw [c2] at he
    have hcs := ints_of_struct Tryd.underlying53 (fun j f hj => by
      match j, hj with
      | 0, hj => simp at hj; subst hj; exact ⟨Tryd.underlying5, rfl, c1⟩
      | 1, hj => simp at hj; subst hj; exact ⟨Tryd.underlying5, rfl, c1⟩
      | j + 2, hj => simp at hj) (by rw [c2]; rfl) he
    have e0 := congrArg (·[0]?) hcs
    have e1 := congrArg (·[1]?) hcs
    simp only [List.getElem?_take, List.getElem?_drop] at e0 e1
    constructor
    · rw [World.var?_cell hg hvar (2 * i), ← Array.getElem?_toList]
      simpa [Nat.mul_comm] using e0
    · rw [World.var?_cell hg hvar (2 * i + 1), ← Array.getElem?_toList]
      simpa [Nat.mul_comm] using e1
  · obtain ⟨g, t, cs, fuel, p, hg, hty, hvar, hd⟩ := h5
    obtain rfl := Option.some.inj (ho.symm.trans hg)
    obtain rfl := Option.some.inj ((show (Tryd.prog.globals[7]?).map (·.type) = some 84 by kernel_rfl).symm.trans hty)
    rw [bruijn_eq] at hd
    have hcs := cells_of_tab Tryd.underlying84 Tryd.underlying5 (by kernel_rfl) (by kernel_rfl) hd
    have := World.var?_cell hg hvar j
    rw [this, ← Array.getElem?_toList, hcs]
    simp [hj, List.getD_eq_getElem?_getD]
/-- A list of numbers as the bytes that it holds. -/
def bys (l : List Int) : ByteArray := ⟨(l.map fun x => UInt8.ofNat x.toNat).toArray⟩
theorem bys_size (l : List Int) : (bys l).size = l.length := by simp [bys, ByteArray.size]
theorem bys_get (l : List Int) (j : Nat) : ((bys l).get! j).toNat = (rd l (j : Int)).toNat % 256 := by
  have hd : (bys l).get! j = (l.map fun x => UInt8.ofNat x.toNat).toArray[j]! := rfl
  rw [hd]
  unfold rd
  by_cases h : j < l.length
  · simp [h, List.getD_eq_getElem?_getD]
  · simp [h, List.getD_eq_getElem?_getD]
    rfl
end Go.Proofs.YtbnpkiokpnmphaaDoor
