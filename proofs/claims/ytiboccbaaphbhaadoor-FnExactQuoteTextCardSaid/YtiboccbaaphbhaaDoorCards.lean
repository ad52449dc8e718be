/-
  DERIVED. GIVEN WITH THE SEED: THE CARDS: each row of YtiboccbaaphbhaaDoorRows.lean that lists a variable, with what it lists TIED to the program's text (the seventh form; the later family's looks); each row that meets fmt, with fmt's text TOLD by the authors' own Lean function (tested against real Go, not proved from fmt's source: count such statements apart). THE CARD IS WHAT COUNTS. Prove the row's statement (the work); the ties are given (YtiboccbaaphbhaaDoorTie.lean); close each card by the builder's one call (the guide's Derived/Test/ToyasCard.lean, 'card_holds'). Laid BY PROGRAM, IN A SANDBOX (cutbox-door.mjs). By AI agents, Wed Nov 11 2026. No macro, syntax, notation, axiom, sorry.
-/
import Derived.Test.YtiboccbaaphbhaaDoorRows
import GoSem.ClaimSeven
namespace Go.Proofs.YtiboccbaaphbhaaDoor
namespace Rows

/-- THE TIED CARD OF 'laws.FnExactPosition'. -/
def fnExactPositionCard : Claim7 := { stood := { row := fnExactPositionRow, standIns := [], harness := (true, "9220e3c71cdd9c573a6e4dac0a1043fa8f0b09b05fba5f31f38332b305131d32"), looks := false }, kinds := [], alts := [], laidByText := true, laidKinds := [.data, .pinned], laidTests := true, laidLooks := .later }
def FnExactPositionCardSaid : Prop := Claim7.holds Tryd.pinned (.plain (OpenSpec.ofChange fnExactPositionSpec)) fnExactPositionCard

/-- THE TIED CARD OF 'laws.FnExactValidLayout'. -/
def fnExactValidLayoutCard : Claim7 := { stood := { row := fnExactValidLayoutRow, standIns := [], harness := (true, "9220e3c71cdd9c573a6e4dac0a1043fa8f0b09b05fba5f31f38332b305131d32"), looks := false }, kinds := [], alts := [], laidByText := true, laidKinds := [.data, .pinned], laidTests := true, laidLooks := .later }
def FnExactValidLayoutCardSaid : Prop := Claim7.holds Tryd.pinned (.plain (OpenSpec.ofChange fnExactValidLayoutSpec)) fnExactValidLayoutCard

/-- THE TIED CARD OF 'laws.FnExactQuoteText'. -/
def fnExactQuoteTextCard : Claim7 := { stood := { row := fnExactQuoteTextRow, standIns := [], harness := (true, "9220e3c71cdd9c573a6e4dac0a1043fa8f0b09b05fba5f31f38332b305131d32"), looks := false }, kinds := [], alts := [], laidByText := true, laidKinds := [.data, .data, .data, .data, .pinned], laidTests := true, laidLooks := .later }
def FnExactQuoteTextCardSaid : Prop := Claim7.holds Tryd.pinned (.plain (OpenSpec.ofChange fnExactQuoteTextSpec)) fnExactQuoteTextCard

/-- THE TIED CARD OF 'laws.FnExactValidTables'. -/
def fnExactValidTablesCard : Claim7 := { stood := { row := fnExactValidTablesRow, standIns := [], harness := (true, "9220e3c71cdd9c573a6e4dac0a1043fa8f0b09b05fba5f31f38332b305131d32"), looks := false }, kinds := [], alts := [], laidByText := true, laidKinds := [.data, .pinned], laidTests := true, laidLooks := .later }
def FnExactValidTablesCardSaid : Prop := Claim7.holds Tryd.pinned (.plain (OpenSpec.ofChange fnExactValidTablesSpec)) fnExactValidTablesCard

/-- THE TIED CARD OF 'laws.FnExactFindTarget'. -/
def fnExactFindTargetCard : Claim7 := { stood := { row := fnExactFindTargetRow, standIns := [], harness := (true, "9220e3c71cdd9c573a6e4dac0a1043fa8f0b09b05fba5f31f38332b305131d32"), looks := false }, kinds := [], alts := [], laidByText := true, laidKinds := [.data, .pinned], laidTests := true, laidLooks := .later }
def FnExactFindTargetCardSaid : Prop := Claim7.holds Tryd.pinned (.plain (OpenSpec.ofChange fnExactFindTargetSpec)) fnExactFindTargetCard

/-- THE TIED CARD OF 'laws.FnExactNearest'. -/
def fnExactNearestCard : Claim7 := { stood := { row := fnExactNearestRow, standIns := [], harness := (true, "9220e3c71cdd9c573a6e4dac0a1043fa8f0b09b05fba5f31f38332b305131d32"), looks := false }, kinds := [], alts := [], laidByText := true, laidKinds := [.data, .pinned], laidTests := true, laidLooks := .later }
def FnExactNearestCardSaid : Prop := Claim7.holds Tryd.pinned (.plain (OpenSpec.ofChange fnExactNearestSpec)) fnExactNearestCard

/-- THE TIED CARD OF 'laws.FnExactNext'. -/
def fnExactNextCard : Claim7 := { stood := { row := fnExactNextRow, standIns := [], harness := (true, "9220e3c71cdd9c573a6e4dac0a1043fa8f0b09b05fba5f31f38332b305131d32"), looks := false }, kinds := [], alts := [], laidByText := true, laidKinds := [.data, .pinned], laidTests := true, laidLooks := .later }
def FnExactNextCardSaid : Prop := Claim7.holds Tryd.pinned (.plain (OpenSpec.ofChange fnExactNextSpec)) fnExactNextCard

/-- THE TIED CARD OF 'laws.FnExactValidFleet'. -/
def fnExactValidFleetCard : Claim7 := { stood := { row := fnExactValidFleetRow, standIns := [], harness := (true, "9220e3c71cdd9c573a6e4dac0a1043fa8f0b09b05fba5f31f38332b305131d32"), looks := false }, kinds := [], alts := [], laidByText := true, laidKinds := [.data, .pinned], laidTests := true, laidLooks := .later }
def FnExactValidFleetCardSaid : Prop := Claim7.holds Tryd.pinned (.plain (OpenSpec.ofChange fnExactValidFleetSpec)) fnExactValidFleetCard

/-- THE SECOND FORM's CARD OF 'laws.FnExactPosition'. -/
def fnExactPositionUptoCard : Claim7 := { stood := { row := fnExactPositionUptoRow, standIns := [], harness := (true, "9220e3c71cdd9c573a6e4dac0a1043fa8f0b09b05fba5f31f38332b305131d32"), looks := false }, kinds := [], alts := [], laidByText := true, laidKinds := [.data, .pinned], laidTests := true, laidLooks := .later }
def FnExactPositionUptoCardSaid : Prop := Claim7.holds Tryd.pinned (.plain (OpenSpec.upto fnExactPositionSpec)) fnExactPositionUptoCard

/-- THE SECOND FORM's CARD OF 'laws.FnExactValidLayout'. -/
def fnExactValidLayoutUptoCard : Claim7 := { stood := { row := fnExactValidLayoutUptoRow, standIns := [], harness := (true, "9220e3c71cdd9c573a6e4dac0a1043fa8f0b09b05fba5f31f38332b305131d32"), looks := false }, kinds := [], alts := [], laidByText := true, laidKinds := [.data, .pinned], laidTests := true, laidLooks := .later }
def FnExactValidLayoutUptoCardSaid : Prop := Claim7.holds Tryd.pinned (.plain (OpenSpec.upto fnExactValidLayoutSpec)) fnExactValidLayoutUptoCard

/-- THE SECOND FORM's CARD OF 'laws.FnExactQuoteText'. -/
def fnExactQuoteTextUptoCard : Claim7 := { stood := { row := fnExactQuoteTextUptoRow, standIns := [], harness := (true, "9220e3c71cdd9c573a6e4dac0a1043fa8f0b09b05fba5f31f38332b305131d32"), looks := false }, kinds := [], alts := [], laidByText := true, laidKinds := [.data, .data, .data, .data, .pinned], laidTests := true, laidLooks := .later }
def FnExactQuoteTextUptoCardSaid : Prop := Claim7.holds Tryd.pinned (.plain (OpenSpec.upto fnExactQuoteTextSpec)) fnExactQuoteTextUptoCard

/-- THE SECOND FORM's CARD OF 'laws.FnExactValidTables'. -/
def fnExactValidTablesUptoCard : Claim7 := { stood := { row := fnExactValidTablesUptoRow, standIns := [], harness := (true, "9220e3c71cdd9c573a6e4dac0a1043fa8f0b09b05fba5f31f38332b305131d32"), looks := false }, kinds := [], alts := [], laidByText := true, laidKinds := [.data, .pinned], laidTests := true, laidLooks := .later }
def FnExactValidTablesUptoCardSaid : Prop := Claim7.holds Tryd.pinned (.plain (OpenSpec.upto fnExactValidTablesSpec)) fnExactValidTablesUptoCard

/-- THE SECOND FORM's CARD OF 'laws.FnExactFindTarget'. -/
def fnExactFindTargetUptoCard : Claim7 := { stood := { row := fnExactFindTargetUptoRow, standIns := [], harness := (true, "9220e3c71cdd9c573a6e4dac0a1043fa8f0b09b05fba5f31f38332b305131d32"), looks := false }, kinds := [], alts := [], laidByText := true, laidKinds := [.data, .pinned], laidTests := true, laidLooks := .later }
def FnExactFindTargetUptoCardSaid : Prop := Claim7.holds Tryd.pinned (.plain (OpenSpec.upto fnExactFindTargetSpec)) fnExactFindTargetUptoCard

/-- THE SECOND FORM's CARD OF 'laws.FnExactNearest'. -/
def fnExactNearestUptoCard : Claim7 := { stood := { row := fnExactNearestUptoRow, standIns := [], harness := (true, "9220e3c71cdd9c573a6e4dac0a1043fa8f0b09b05fba5f31f38332b305131d32"), looks := false }, kinds := [], alts := [], laidByText := true, laidKinds := [.data, .pinned], laidTests := true, laidLooks := .later }
def FnExactNearestUptoCardSaid : Prop := Claim7.holds Tryd.pinned (.plain (OpenSpec.upto fnExactNearestSpec)) fnExactNearestUptoCard

/-- THE SECOND FORM's CARD OF 'laws.FnExactNext'. -/
def fnExactNextUptoCard : Claim7 := { stood := { row := fnExactNextUptoRow, standIns := [], harness := (true, "9220e3c71cdd9c573a6e4dac0a1043fa8f0b09b05fba5f31f38332b305131d32"), looks := false }, kinds := [], alts := [], laidByText := true, laidKinds := [.data, .pinned], laidTests := true, laidLooks := .later }
def FnExactNextUptoCardSaid : Prop := Claim7.holds Tryd.pinned (.plain (OpenSpec.upto fnExactNextSpec)) fnExactNextUptoCard

/-- THE SECOND FORM's CARD OF 'laws.FnExactValidFleet'. -/
def fnExactValidFleetUptoCard : Claim7 := { stood := { row := fnExactValidFleetUptoRow, standIns := [], harness := (true, "9220e3c71cdd9c573a6e4dac0a1043fa8f0b09b05fba5f31f38332b305131d32"), looks := false }, kinds := [], alts := [], laidByText := true, laidKinds := [.data, .pinned], laidTests := true, laidLooks := .later }
def FnExactValidFleetUptoCardSaid : Prop := Claim7.holds Tryd.pinned (.plain (OpenSpec.upto fnExactValidFleetSpec)) fnExactValidFleetUptoCard
end Rows
end Go.Proofs.YtiboccbaaphbhaaDoor
