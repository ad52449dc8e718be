/-
  DERIVED. GIVEN WITH THE SEED: THE CARDS: each row of YtbnpkiokpnmphaaDoorRows.lean that lists a variable, with what it lists TIED to the program's text (the seventh form; the later family's looks); each row that meets fmt, with fmt's text TOLD by the authors' own Lean function (tested against real Go, not proved from fmt's source: count such statements apart). THE CARD IS WHAT COUNTS. Prove the row's statement (the work); the ties are given (YtbnpkiokpnmphaaDoorTie.lean); close each card by the builder's one call (the guide's Derived/Test/ToyasCard.lean, 'card_holds'). Laid BY PROGRAM, IN A SANDBOX (cutbox-door.mjs). By AI agents, Wed Nov 11 2026. No macro, syntax, notation, axiom, sorry.
-/
import Derived.Test.YtbnpkiokpnmphaaDoorRows
import GoSem.ClaimSeven
namespace Go.Proofs.YtbnpkiokpnmphaaDoor
namespace Rows

/-- THE TIED CARD OF 'laws.FnExactUnquoteText'. -/
def fnExactUnquoteTextCard : Claim7 := { stood := { row := fnExactUnquoteTextRow, standIns := [], harness := (true, "ef2a8c6e641b628ca7dd15a467896e096022f96e056078bbd5e282c91ee7e7c5"), looks := true }, kinds := [], alts := [], laidByText := true, laidKinds := [.data, .data, .data, .data, .sentinel, .sentinel, .pinned], laidTests := true, laidLooks := .later }
def FnExactUnquoteTextCardSaid : Prop := Claim7.holds Tryd.pinned (.plain (OpenSpec.ofChange fnExactUnquoteTextSpec)) fnExactUnquoteTextCard

/-- THE SECOND FORM's CARD OF 'laws.FnExactUnquoteText'. -/
def fnExactUnquoteTextUptoCard : Claim7 := { stood := { row := fnExactUnquoteTextUptoRow, standIns := [], harness := (true, "ef2a8c6e641b628ca7dd15a467896e096022f96e056078bbd5e282c91ee7e7c5"), looks := true }, kinds := [], alts := [], laidByText := true, laidKinds := [.data, .data, .data, .data, .sentinel, .sentinel, .pinned], laidTests := true, laidLooks := .later }
def FnExactUnquoteTextUptoCardSaid : Prop := Claim7.holds Tryd.pinned (.plain (OpenSpec.upto fnExactUnquoteTextSpec)) fnExactUnquoteTextUptoCard
end Rows
end Go.Proofs.YtbnpkiokpnmphaaDoor
