/-
  DERIVED. GIVEN WITH THE SEED: THE CARDS: each row of YthbeplmihjhoeaaDoorRows.lean that lists a variable, with what it lists TIED to the program's text (the seventh form; the later family's looks); each row that meets fmt, with fmt's text TOLD by the authors' own Lean function (tested against real Go, not proved from fmt's source: count such statements apart). THE CARD IS WHAT COUNTS. Prove the row's statement (the work); the ties are given (YthbeplmihjhoeaaDoorTie.lean); close each card by the builder's one call (the guide's Derived/Test/ToyasCard.lean, 'card_holds'). Laid BY PROGRAM, IN A SANDBOX (cutbox-door.mjs). By AI agents, Wed Nov 11 2026. No macro, syntax, notation, axiom, sorry.
-/
import Derived.Test.YthbeplmihjhoeaaDoorRows
import GoSem.ClaimSeven
namespace Go.Proofs.YthbeplmihjhoeaaDoor
namespace Rows

/-- THE TIED CARD OF 'laws.FnExactBuildGraph'. -/
def fnExactBuildGraphCard : Claim7 := { stood := { row := fnExactBuildGraphRow, standIns := [], harness := (true, "adb0f116edee3cc35478d294ee65188c076e59841fde0388112f6d417e5bdb6b"), looks := true }, kinds := [], alts := [], laidByText := true, laidKinds := [.data, .pinned], laidTests := true, laidLooks := .later }
def FnExactBuildGraphCardSaid : Prop := Claim7.holds Tryd.pinned (.plain (OpenSpec.ofChange fnExactBuildGraphSpec)) fnExactBuildGraphCard

/-- THE TIED CARD OF 'laws.FnExactWalk'. -/
def fnExactWalkCard : Claim7 := { stood := { row := fnExactWalkRow, standIns := [], harness := (true, "adb0f116edee3cc35478d294ee65188c076e59841fde0388112f6d417e5bdb6b"), looks := true }, kinds := [], alts := [], laidByText := true, laidKinds := [.data, .pinned], laidTests := true, laidLooks := .later }
def FnExactWalkCardSaid : Prop := Claim7.holds Tryd.pinned (.plain (OpenSpec.ofChange fnExactWalkSpec)) fnExactWalkCard

/-- THE TIED CARD OF 'laws.FnExactEncodeImage'. -/
def fnExactEncodeImageCard : Claim7 := { stood := { row := fnExactEncodeImageRow, standIns := [], harness := (true, "adb0f116edee3cc35478d294ee65188c076e59841fde0388112f6d417e5bdb6b"), looks := true }, kinds := [], alts := [], laidByText := true, laidKinds := [.data, .pinned], laidTests := true, laidLooks := .later }
def FnExactEncodeImageCardSaid : Prop := Claim7.holds Tryd.pinned (.plain (OpenSpec.ofChange fnExactEncodeImageSpec)) fnExactEncodeImageCard

/-- THE TIED CARD OF 'laws.FnExactLayoutDecls'. -/
def fnExactLayoutDeclsCard : Claim7 := { stood := { row := fnExactLayoutDeclsRow, standIns := [], harness := (true, "adb0f116edee3cc35478d294ee65188c076e59841fde0388112f6d417e5bdb6b"), looks := true }, kinds := [], alts := [], laidByText := true, laidKinds := [.data, .pinned], laidTests := true, laidLooks := .later }
def FnExactLayoutDeclsCardSaid : Prop := Claim7.holds Tryd.pinned (.plain (OpenSpec.ofChange fnExactLayoutDeclsSpec)) fnExactLayoutDeclsCard

/-- THE TIED CARD OF 'laws.FnExactTickFleet'. -/
def fnExactTickFleetCard : Claim7 := { stood := { row := fnExactTickFleetRow, standIns := [], harness := (true, "adb0f116edee3cc35478d294ee65188c076e59841fde0388112f6d417e5bdb6b"), looks := true }, kinds := [], alts := [], laidByText := true, laidKinds := [.data, .pinned], laidTests := true, laidLooks := .later }
def FnExactTickFleetCardSaid : Prop := Claim7.holds Tryd.pinned (.plain (OpenSpec.ofChange fnExactTickFleetSpec)) fnExactTickFleetCard

/-- THE TIED CARD OF 'laws.FnExactUnquoteText'. -/
def fnExactUnquoteTextCard : Claim7 := { stood := { row := fnExactUnquoteTextRow, standIns := [], harness := (true, "adb0f116edee3cc35478d294ee65188c076e59841fde0388112f6d417e5bdb6b"), looks := true }, kinds := [], alts := [], laidByText := true, laidKinds := [.data, .data, .data, .data, .sentinel, .sentinel, .pinned], laidTests := true, laidLooks := .later }
def FnExactUnquoteTextCardSaid : Prop := Claim7.holds Tryd.pinned (.plain (OpenSpec.ofChange fnExactUnquoteTextSpec)) fnExactUnquoteTextCard

/-- THE TIED CARD OF 'laws.FnExactDecodeImage'. -/
def fnExactDecodeImageCard : Claim7 := { stood := { row := fnExactDecodeImageRow, standIns := [], harness := (true, "adb0f116edee3cc35478d294ee65188c076e59841fde0388112f6d417e5bdb6b"), looks := true }, kinds := [], alts := [], laidByText := true, laidKinds := [.data, .pinned], laidTests := true, laidLooks := .later }
def FnExactDecodeImageCardSaid : Prop := Claim7.holds Tryd.pinned (.plain (OpenSpec.ofChange fnExactDecodeImageSpec)) fnExactDecodeImageCard

/-- THE TIED CARD OF 'laws.FnExactRunFleet'. -/
def fnExactRunFleetCard : Claim7 := { stood := { row := fnExactRunFleetRow, standIns := [], harness := (true, "adb0f116edee3cc35478d294ee65188c076e59841fde0388112f6d417e5bdb6b"), looks := true }, kinds := [], alts := [], laidByText := true, laidKinds := [.data, .pinned], laidTests := true, laidLooks := .later }
def FnExactRunFleetCardSaid : Prop := Claim7.holds Tryd.pinned (.plain (OpenSpec.ofChange fnExactRunFleetSpec)) fnExactRunFleetCard

/-- THE TIED CARD OF 'laws.FnExactValidTree'. -/
def fnExactValidTreeCard : Claim7 := { stood := { row := fnExactValidTreeRow, standIns := [], harness := (true, "adb0f116edee3cc35478d294ee65188c076e59841fde0388112f6d417e5bdb6b"), looks := true }, kinds := [], alts := [], laidByText := true, laidKinds := [.data, .listed, .data, .pinned], laidTests := true, laidLooks := .later }
def FnExactValidTreeCardSaid : Prop := Claim7.holds Tryd.pinned (.plain (OpenSpec.ofChange fnExactValidTreeSpec)) fnExactValidTreeCard

/-- THE TIED CARD OF 'laws.FnExactShowLayout'. -/
def fnExactShowLayoutCard : Claim7 := { stood := { row := fnExactShowLayoutRow, standIns := [], harness := (true, "adb0f116edee3cc35478d294ee65188c076e59841fde0388112f6d417e5bdb6b"), looks := true }, kinds := [], alts := [], laidByText := true, laidKinds := [.data, .data, .data, .data, .pinned], laidTests := true, laidLooks := .later }
def FnExactShowLayoutCardSaid : Prop := Claim7.holds Tryd.pinned (.plain (OpenSpec.ofChange fnExactShowLayoutSpec)) fnExactShowLayoutCard

/-- THE SECOND FORM's CARD OF 'laws.FnExactBuildGraph'. -/
def fnExactBuildGraphUptoCard : Claim7 := { stood := { row := fnExactBuildGraphUptoRow, standIns := [], harness := (true, "adb0f116edee3cc35478d294ee65188c076e59841fde0388112f6d417e5bdb6b"), looks := true }, kinds := [], alts := [], laidByText := true, laidKinds := [.data, .pinned], laidTests := true, laidLooks := .later }
def FnExactBuildGraphUptoCardSaid : Prop := Claim7.holds Tryd.pinned (.plain (OpenSpec.upto fnExactBuildGraphSpec)) fnExactBuildGraphUptoCard

/-- THE SECOND FORM's CARD OF 'laws.FnExactWalk'. -/
def fnExactWalkUptoCard : Claim7 := { stood := { row := fnExactWalkUptoRow, standIns := [], harness := (true, "adb0f116edee3cc35478d294ee65188c076e59841fde0388112f6d417e5bdb6b"), looks := true }, kinds := [], alts := [], laidByText := true, laidKinds := [.data, .pinned], laidTests := true, laidLooks := .later }
def FnExactWalkUptoCardSaid : Prop := Claim7.holds Tryd.pinned (.plain (OpenSpec.upto fnExactWalkSpec)) fnExactWalkUptoCard

/-- THE SECOND FORM's CARD OF 'laws.FnExactEncodeImage'. -/
def fnExactEncodeImageUptoCard : Claim7 := { stood := { row := fnExactEncodeImageUptoRow, standIns := [], harness := (true, "adb0f116edee3cc35478d294ee65188c076e59841fde0388112f6d417e5bdb6b"), looks := true }, kinds := [], alts := [], laidByText := true, laidKinds := [.data, .pinned], laidTests := true, laidLooks := .later }
def FnExactEncodeImageUptoCardSaid : Prop := Claim7.holds Tryd.pinned (.plain (OpenSpec.upto fnExactEncodeImageSpec)) fnExactEncodeImageUptoCard

/-- THE SECOND FORM's CARD OF 'laws.FnExactLayoutDecls'. -/
def fnExactLayoutDeclsUptoCard : Claim7 := { stood := { row := fnExactLayoutDeclsUptoRow, standIns := [], harness := (true, "adb0f116edee3cc35478d294ee65188c076e59841fde0388112f6d417e5bdb6b"), looks := true }, kinds := [], alts := [], laidByText := true, laidKinds := [.data, .pinned], laidTests := true, laidLooks := .later }
def FnExactLayoutDeclsUptoCardSaid : Prop := Claim7.holds Tryd.pinned (.plain (OpenSpec.upto fnExactLayoutDeclsSpec)) fnExactLayoutDeclsUptoCard

/-- THE SECOND FORM's CARD OF 'laws.FnExactTickFleet'. -/
def fnExactTickFleetUptoCard : Claim7 := { stood := { row := fnExactTickFleetUptoRow, standIns := [], harness := (true, "adb0f116edee3cc35478d294ee65188c076e59841fde0388112f6d417e5bdb6b"), looks := true }, kinds := [], alts := [], laidByText := true, laidKinds := [.data, .pinned], laidTests := true, laidLooks := .later }
def FnExactTickFleetUptoCardSaid : Prop := Claim7.holds Tryd.pinned (.plain (OpenSpec.upto fnExactTickFleetSpec)) fnExactTickFleetUptoCard

/-- THE SECOND FORM's CARD OF 'laws.FnExactUnquoteText'. -/
def fnExactUnquoteTextUptoCard : Claim7 := { stood := { row := fnExactUnquoteTextUptoRow, standIns := [], harness := (true, "adb0f116edee3cc35478d294ee65188c076e59841fde0388112f6d417e5bdb6b"), looks := true }, kinds := [], alts := [], laidByText := true, laidKinds := [.data, .data, .data, .data, .sentinel, .sentinel, .pinned], laidTests := true, laidLooks := .later }
def FnExactUnquoteTextUptoCardSaid : Prop := Claim7.holds Tryd.pinned (.plain (OpenSpec.upto fnExactUnquoteTextSpec)) fnExactUnquoteTextUptoCard

/-- THE SECOND FORM's CARD OF 'laws.FnExactDecodeImage'. -/
def fnExactDecodeImageUptoCard : Claim7 := { stood := { row := fnExactDecodeImageUptoRow, standIns := [], harness := (true, "adb0f116edee3cc35478d294ee65188c076e59841fde0388112f6d417e5bdb6b"), looks := true }, kinds := [], alts := [], laidByText := true, laidKinds := [.data, .pinned], laidTests := true, laidLooks := .later }
def FnExactDecodeImageUptoCardSaid : Prop := Claim7.holds Tryd.pinned (.plain (OpenSpec.upto fnExactDecodeImageSpec)) fnExactDecodeImageUptoCard

/-- THE SECOND FORM's CARD OF 'laws.FnExactRunFleet'. -/
def fnExactRunFleetUptoCard : Claim7 := { stood := { row := fnExactRunFleetUptoRow, standIns := [], harness := (true, "adb0f116edee3cc35478d294ee65188c076e59841fde0388112f6d417e5bdb6b"), looks := true }, kinds := [], alts := [], laidByText := true, laidKinds := [.data, .pinned], laidTests := true, laidLooks := .later }
def FnExactRunFleetUptoCardSaid : Prop := Claim7.holds Tryd.pinned (.plain (OpenSpec.upto fnExactRunFleetSpec)) fnExactRunFleetUptoCard

/-- THE SECOND FORM's CARD OF 'laws.FnExactValidTree'. -/
def fnExactValidTreeUptoCard : Claim7 := { stood := { row := fnExactValidTreeUptoRow, standIns := [], harness := (true, "adb0f116edee3cc35478d294ee65188c076e59841fde0388112f6d417e5bdb6b"), looks := true }, kinds := [], alts := [], laidByText := true, laidKinds := [.data, .listed, .data, .pinned], laidTests := true, laidLooks := .later }
def FnExactValidTreeUptoCardSaid : Prop := Claim7.holds Tryd.pinned (.plain (OpenSpec.upto fnExactValidTreeSpec)) fnExactValidTreeUptoCard

/-- THE SECOND FORM's CARD OF 'laws.FnExactShowLayout'. -/
def fnExactShowLayoutUptoCard : Claim7 := { stood := { row := fnExactShowLayoutUptoRow, standIns := [], harness := (true, "adb0f116edee3cc35478d294ee65188c076e59841fde0388112f6d417e5bdb6b"), looks := true }, kinds := [], alts := [], laidByText := true, laidKinds := [.data, .data, .data, .data, .pinned], laidTests := true, laidLooks := .later }
def FnExactShowLayoutUptoCardSaid : Prop := Claim7.holds Tryd.pinned (.plain (OpenSpec.upto fnExactShowLayoutSpec)) fnExactShowLayoutUptoCard
end Rows
end Go.Proofs.YthbeplmihjhoeaaDoor
