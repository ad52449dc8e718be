/-
  DERIVED. GIVEN WITH THE SEED: THE CARDS: each row of YtibipjpmeekifaaDoorRows.lean that lists a variable, with what it lists TIED to the program's text (the seventh form; the later family's looks); each row that meets fmt, with fmt's text TOLD by the authors' own Lean function (tested against real Go, not proved from fmt's source: count such statements apart). THE CARD IS WHAT COUNTS. Prove the row's statement (the work); the ties are given (YtibipjpmeekifaaDoorTie.lean); close each card by the builder's one call (the guide's Derived/Test/ToyasCard.lean, 'card_holds'). Laid BY PROGRAM, IN A SANDBOX (cutbox-door.mjs). By AI agents, Wed Nov 11 2026. No macro, syntax, notation, axiom, sorry.
-/
import Derived.Test.YtibipjpmeekifaaDoorRows
import GoSem.ClaimSeven
namespace Go.Proofs.YtibipjpmeekifaaDoor
namespace Rows

/-- THE TIED CARD OF 'laws.FnExactLayoutDecls'. -/
def fnExactLayoutDeclsCard : Claim7 := { stood := { row := fnExactLayoutDeclsRow, standIns := [], harness := (true, "ef159514e4697e6640c98428c4abdafb1138e0d34f40c18fc3c3c4259a5df39a"), looks := false }, kinds := [], alts := [], laidByText := true, laidKinds := [.data, .pinned], laidTests := true, laidLooks := .later }
def FnExactLayoutDeclsCardSaid : Prop := Claim7.holds Tryd.pinned (.plain (OpenSpec.ofChange fnExactLayoutDeclsSpec)) fnExactLayoutDeclsCard

/-- THE SECOND FORM's CARD OF 'laws.FnExactLayoutDecls'. -/
def fnExactLayoutDeclsUptoCard : Claim7 := { stood := { row := fnExactLayoutDeclsUptoRow, standIns := [], harness := (true, "ef159514e4697e6640c98428c4abdafb1138e0d34f40c18fc3c3c4259a5df39a"), looks := false }, kinds := [], alts := [], laidByText := true, laidKinds := [.data, .pinned], laidTests := true, laidLooks := .later }
def FnExactLayoutDeclsUptoCardSaid : Prop := Claim7.holds Tryd.pinned (.plain (OpenSpec.upto fnExactLayoutDeclsSpec)) fnExactLayoutDeclsUptoCard
end Rows
end Go.Proofs.YtibipjpmeekifaaDoor
