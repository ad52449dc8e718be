/- The two tables of the library's decoder, as they are listed, lie in memory cell by cell, and stay: no condition. -/
import Derived.Test.YtibipjpmeekifaaDoorRows
import Derived.Test.YtibipjpmeekifaaDoorShelf
import Derived.Shelf.Spec.DecodeRune
import Derived.Lib.LaidU8
import Derived.Test.YtibipjpmeekifaaDoorWWords
import Derived.Test.YtibipjpmeekifaaDoorWLast
namespace Go.Proofs.YtibipjpmeekifaaDoor
open Go.Lib Go.Shelf Go.RowKit Go.Proofs.YtibipjpmeekifaaDoorW.PrintWords Go.Proofs.YtibipjpmeekifaaDoorW.PrintLast
/-- The decoder's tables lie in this world. -/
def LaidW (w : World) : Prop := Lib.Utf8Tabs 1 2 w
theorem LaidW.below {w w1 : World} (h : LaidW w) (hb : Below w.heap.size w w1) : LaidW w1 :=
  ⟨fun c hc => pw_cell_below hb (h.1 c hc), fun i hi => ⟨pw_cell_below hb (h.2 i hi).1, pw_cell_below hb (h.2 i hi).2⟩⟩
theorem LaidW.utf8 {w : World} (h : LaidW w) : Lib.Utf8Tabs 1 2 w := h
theorem first_eq : Pinned.utf8First = firstData := by kernel_rfl
theorem accept_eq : (Rows.laid_unicode_utf8_acceptRanges : DataW Unit) = acceptData := by kernel_rfl
theorem LaidW.of_reads {n m : String} {w : World} (h3 : VarReads Tryd.prog w n Rows.laid_unicode_utf8_first) (h4 : VarReads Tryd.prog w m Rows.laid_unicode_utf8_acceptRanges)
    (hn : Tryd.prog.globalNamed n = some 1) (hm : Tryd.prog.globalNamed m = some 2) : LaidW w := by
  refine ⟨fun c hc => ?_, fun i hi => ?_⟩
  · obtain ⟨g, t, cs, fuel, p, hg, hty, hvar, hd⟩ := h3
    obtain rfl := Option.some.inj (hn.symm.trans hg)
    obtain rfl := Option.some.inj ((show (Tryd.prog.globals[1]?).map (·.type) = some 81 by kernel_rfl).symm.trans hty)
    rw [show Rows.laid_unicode_utf8_first = firstData from first_eq] at hd
    have hcs := cells_of_tab Tryd.underlying81 Tryd.underlying5 (by kernel_rfl) (by kernel_rfl) hd
    have := World.var?_cell hg hvar c
    rw [this, ← Array.getElem?_toList, hcs]
    simp [firstTab, hc]
  · obtain ⟨g, t, cs, fuel, p, hg, hty, hvar, hd⟩ := h4
    obtain rfl := Option.some.inj (hm.symm.trans hg)
    obtain rfl := Option.some.inj ((show (Tryd.prog.globals[2]?).map (·.type) = some 85 by kernel_rfl).symm.trans hty)
    rw [accept_eq] at hd
    obtain ⟨fuel', d, q, hdi, he⟩ := array_elem Tryd.underlying85 hd i hi
    simp only [List.getElem?_map, List.getElem?_range hi, Option.map_some, Option.some.injEq] at hdi
    subst hdi
    have c2 : Tryd.prog.cellsOf 84 = 2 := by kernel_rfl
    have c1 : Tryd.prog.cellsOf 5 = 1 := by kernel_rfl
    rw [c2] at he
    have hcs := ints_of_struct Tryd.underlying84 (fun j f hj => by
      match j, hj with
      | 0, hj => simp at hj; subst hj; exact ⟨Tryd.underlying5, rfl, c1⟩
      | 1, hj => simp at hj; subst hj; exact ⟨Tryd.underlying5, rfl, c1⟩
      | j + 2, hj => simp at hj) (by rw [c2]; rfl) he
    have e0 := congrArg (·[0]?) hcs
    have e1 := congrArg (·[1]?) hcs
    simp only [List.getElem?_take, List.getElem?_drop] at e0 e1
    constructor
    · rw [World.var?_cell hg hvar (2 * i), ← Array.getElem?_toList]
      simpa [Nat.mul_comm] using e0
    · rw [World.var?_cell hg hvar (2 * i + 1), ← Array.getElem?_toList]
      simpa [Nat.mul_comm] using e1
/-- A list of numbers as the bytes that it holds. -/
def bys (l : List Int) : ByteArray := ⟨(l.map fun x => UInt8.ofNat x.toNat).toArray⟩
theorem bys_size (l : List Int) : (bys l).size = l.length := by simp [bys, ByteArray.size]
theorem bys_get (l : List Int) (j : Nat) : ((bys l).get! j).toNat = (rd l (j : Int)).toNat % 256 := by
  have hd : (bys l).get! j = (l.map fun x => UInt8.ofNat x.toNat).toArray[j]! := rfl
  rw [hd]
  unfold rd
  by_cases h : j < l.length
  · simp [h, List.getD_eq_getElem?_getD]
  · simp [h, List.getD_eq_getElem?_getD]
    rfl
end Go.Proofs.YtibipjpmeekifaaDoor
