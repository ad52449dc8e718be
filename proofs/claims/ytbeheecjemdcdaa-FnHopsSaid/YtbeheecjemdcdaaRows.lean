/-
  No cell of these rows narrows 'for every input' (looked for: loops, veiled, ifaces, maps, wideKeys, modest, calm, conditions, laid).
  DERIVED. THE GIVEN ROWS OF THIS SEAT. 6 by the template 'for every input the law returns true; each argument reads behind the call as it read before'; 0 by the template 'total and deterministic' (their statements: YtbeheecjemdcdaaTotals.lean).
  GIVEN WITH THE SEED: the statements are not yours to turn. If you find one false, say at which input.
  Laid BY PROGRAM, IN A SANDBOX (cutbox-rows.mjs): the forced cells as the released guide's own fill.sh prints them over the translation 64dd6a187385e510… (all of the seat's roots in one cut). By AI agents, Wed Nov 11 2026. No macro, syntax, notation, axiom, sorry.
-/
import Derived.Test.YtbeheecjemdcdaaChecked
import GoSem.Claim
import GoSem.ClaimJoined
import GoSem.ClaimMapViews
import Derived.JoinedTies
import Derived.KernelRfl
namespace Go.Proofs.Ytbeheecjemdcdaa
/- THE CELL 'sum', in the pinned program and in every row, IS THE sha256 OF THE DUMP (.gsa) THAT YtbeheecjemdcdaaProg.lean LOADS. Nothing in Lean hashes anything: it is a label: what it is worth is what the hold of that sum in a sandbox is worth. -/
noncomputable def Try.pinned : Pinned := { name := "ytbeheecjemdcdaa", sum := "64dd6a187385e5102317a9d6030223ea8de6e2b61ff57e94910d6df0a8eb4650", checked := Try.checked }
namespace Rows
def none {H : Type} : Left H := { results := [], args := [] }

/-- 'laws.FnExactConstants': WHATEVER THE INPUT: true; the input reads as it did. -/
def fnExactConstantsSpec : ChangeSpec := { name := "fnExactConstants", fn := fun _ => fun
  | [] => { results := [.lit (.bool true)], args := [] }
  | _ => none }
def fnExactConstantsRow : OpenClaim := { program := "ytbeheecjemdcdaa", sum := "64dd6a187385e5102317a9d6030223ea8de6e2b61ff57e94910d6df0a8eb4650", func := "loop.example/s02126/laws.FnExactConstants", spec := "fnExactConstants", apart := false }
def FnExactConstantsSaid : Prop := fnExactConstantsRow.holds Try.pinned (OpenSpec.ofChange fnExactConstantsSpec)

/-- ITS FALSE NEIGHBOUR: 'it returns false'. Refute it at one input. -/
def fnExactConstantsWrong : ChangeSpec := { name := "fnExactConstants", fn := fun _ => fun
  | [] => { results := [.lit (.bool false)], args := [] }
  | _ => none }
def FnExactConstantsWrongFalsely : Prop := fnExactConstantsRow.holds Try.pinned (OpenSpec.ofChange fnExactConstantsWrong)

/-- 'laws.FnExactCrc32': WHATEVER THE INPUT: true; the input reads as it did. -/
def fnExactCrc32Spec : ChangeSpec := { name := "fnExactCrc32", fn := fun _ => fun
  | [d] => { results := [.lit (.bool true)], args := [d] }
  | _ => none }
def fnExactCrc32Row : OpenClaim := { program := "ytbeheecjemdcdaa", sum := "64dd6a187385e5102317a9d6030223ea8de6e2b61ff57e94910d6df0a8eb4650", func := "loop.example/s02126/laws.FnExactCrc32", spec := "fnExactCrc32", apart := false }
def FnExactCrc32Said : Prop := fnExactCrc32Row.holds Try.pinned (OpenSpec.ofChange fnExactCrc32Spec)

/-- ITS FALSE NEIGHBOUR: 'it returns false'. Refute it at one input. -/
def fnExactCrc32Wrong : ChangeSpec := { name := "fnExactCrc32", fn := fun _ => fun
  | [d] => { results := [.lit (.bool false)], args := [d] }
  | _ => none }
def FnExactCrc32WrongFalsely : Prop := fnExactCrc32Row.holds Try.pinned (OpenSpec.ofChange fnExactCrc32Wrong)

/-- 'laws.FnExactPackHops': WHATEVER THE INPUT: true; the input reads as it did. -/
def fnExactPackHopsSpec : ChangeSpec := { name := "fnExactPackHops", fn := fun _ => fun
  | [d] => { results := [.lit (.bool true)], args := [d] }
  | _ => none }
def fnExactPackHopsRow : OpenClaim := { program := "ytbeheecjemdcdaa", sum := "64dd6a187385e5102317a9d6030223ea8de6e2b61ff57e94910d6df0a8eb4650", func := "loop.example/s02126/laws.FnExactPackHops", spec := "fnExactPackHops", apart := false }
def FnExactPackHopsSaid : Prop := fnExactPackHopsRow.holds Try.pinned (OpenSpec.ofChange fnExactPackHopsSpec)

/-- ITS FALSE NEIGHBOUR: 'it returns false'. Refute it at one input. -/
def fnExactPackHopsWrong : ChangeSpec := { name := "fnExactPackHops", fn := fun _ => fun
  | [d] => { results := [.lit (.bool false)], args := [d] }
  | _ => none }
def FnExactPackHopsWrongFalsely : Prop := fnExactPackHopsRow.holds Try.pinned (OpenSpec.ofChange fnExactPackHopsWrong)

/-- 'laws.FnExactValidGraph': WHATEVER THE INPUT: true; the input reads as it did. -/
def fnExactValidGraphSpec : ChangeSpec := { name := "fnExactValidGraph", fn := fun _ => fun
  | [d] => { results := [.lit (.bool true)], args := [d] }
  | _ => none }
def fnExactValidGraphRow : OpenClaim := { program := "ytbeheecjemdcdaa", sum := "64dd6a187385e5102317a9d6030223ea8de6e2b61ff57e94910d6df0a8eb4650", func := "loop.example/s02126/laws.FnExactValidGraph", spec := "fnExactValidGraph", apart := false }
def FnExactValidGraphSaid : Prop := fnExactValidGraphRow.holds Try.pinned (OpenSpec.ofChange fnExactValidGraphSpec)

/-- ITS FALSE NEIGHBOUR: 'it returns false'. Refute it at one input. -/
def fnExactValidGraphWrong : ChangeSpec := { name := "fnExactValidGraph", fn := fun _ => fun
  | [d] => { results := [.lit (.bool false)], args := [d] }
  | _ => none }
def FnExactValidGraphWrongFalsely : Prop := fnExactValidGraphRow.holds Try.pinned (OpenSpec.ofChange fnExactValidGraphWrong)

/-- 'laws.FnExactUnpackHops': WHATEVER THE INPUT: true; the input reads as it did. -/
def fnExactUnpackHopsSpec : ChangeSpec := { name := "fnExactUnpackHops", fn := fun _ => fun
  | [d1, d2] => { results := [.lit (.bool true)], args := [d1, d2] }
  | _ => none }
def fnExactUnpackHopsRow : OpenClaim := { program := "ytbeheecjemdcdaa", sum := "64dd6a187385e5102317a9d6030223ea8de6e2b61ff57e94910d6df0a8eb4650", func := "loop.example/s02126/laws.FnExactUnpackHops", spec := "fnExactUnpackHops", apart := false }
def FnExactUnpackHopsSaid : Prop := fnExactUnpackHopsRow.holds Try.pinned (OpenSpec.ofChange fnExactUnpackHopsSpec)

/-- ITS FALSE NEIGHBOUR: 'it returns false'. Refute it at one input. -/
def fnExactUnpackHopsWrong : ChangeSpec := { name := "fnExactUnpackHops", fn := fun _ => fun
  | [d1, d2] => { results := [.lit (.bool false)], args := [d1, d2] }
  | _ => none }
def FnExactUnpackHopsWrongFalsely : Prop := fnExactUnpackHopsRow.holds Try.pinned (OpenSpec.ofChange fnExactUnpackHopsWrong)

/-- 'laws.FnHops': WHATEVER THE INPUT: true; the input reads as it did. -/
def fnHopsSpec : ChangeSpec := { name := "fnHops", fn := fun _ => fun
  | [d] => { results := [.lit (.bool true)], args := [d] }
  | _ => none }
def fnHopsRow : OpenClaim := { program := "ytbeheecjemdcdaa", sum := "64dd6a187385e5102317a9d6030223ea8de6e2b61ff57e94910d6df0a8eb4650", func := "loop.example/s02126/laws.FnHops", spec := "fnHops", apart := false }
def FnHopsSaid : Prop := fnHopsRow.holds Try.pinned (OpenSpec.ofChange fnHopsSpec)

/-- ITS FALSE NEIGHBOUR: 'it returns false'. Refute it at one input. -/
def fnHopsWrong : ChangeSpec := { name := "fnHops", fn := fun _ => fun
  | [d] => { results := [.lit (.bool false)], args := [d] }
  | _ => none }
def FnHopsWrongFalsely : Prop := fnHopsRow.holds Try.pinned (OpenSpec.ofChange fnHopsWrong)

/- THE SECOND FORM. 'bulk': how many values and letters a reading holds, each counted each time it is reached (what is shared counts as often as it is met; a slice's spare places count too). A statement '..UptoSaid' is the law's where the arguments, and the package variables that the reading takes, are together of bulk at most 1048576: NARROWER than '..Said'. Prove '..Said' where nothing that the law and all that it calls make is longer than what came in: it says more and counts as full. Else prove '..UptoSaid'. A law counts once. -/
mutual
def uptoBulk {H : Type} : DataW H → Nat
  | .lit (.string bytes) => bytes.length + 1
  | .lit _ => 1
  | .nil => 1
  | .ptr d => uptoBulk d + 1
  | .slice elems spare => uptoBulkAll elems + uptoBulkAll spare + 1
  | .agg parts => uptoBulkAll parts + 1
  | .iface _ d => uptoBulk d + 1
  | .map entries => uptoBulkEntries entries + 1
  | .held _ => 1
def uptoBulkAll {H : Type} : List (DataW H) → Nat
  | [] => 0
  | d :: r => uptoBulk d + uptoBulkAll r
def uptoBulkEntries {H : Type} : List (Lit × DataW H) → Nat
  | [] => 0
  | x :: r => uptoBulkEntry x + uptoBulkEntries r
def uptoBulkEntry {H : Type} : Lit × DataW H → Nat
  | (.string bytes, d) => bytes.length + uptoBulk d + 1
  | (_, d) => uptoBulk d + 1
 end
def uptoSmall : (H : Type) → List (DataW H) → Bool := fun _ ds => decide (uptoBulkAll ds ≤ 1048576)
def OpenSpec.upto (s : _root_.Go.ChangeSpec) : _root_.Go.OpenSpec := { _root_.Go.OpenSpec.ofChange s with cond := some uptoSmall }

/-- 'laws.FnExactConstants', WHERE WHAT IT READS IS OF BULK AT MOST 1048576: true; the input reads as it did. -/
def fnExactConstantsUptoRow : OpenClaim := { program := "ytbeheecjemdcdaa", sum := "64dd6a187385e5102317a9d6030223ea8de6e2b61ff57e94910d6df0a8eb4650", func := "loop.example/s02126/laws.FnExactConstants", spec := "fnExactConstants", apart := false, narrowed := true }
def FnExactConstantsUptoSaid : Prop := fnExactConstantsUptoRow.holds Try.pinned (OpenSpec.upto fnExactConstantsSpec)

/-- 'laws.FnExactCrc32', WHERE WHAT IT READS IS OF BULK AT MOST 1048576: true; the input reads as it did. -/
def fnExactCrc32UptoRow : OpenClaim := { program := "ytbeheecjemdcdaa", sum := "64dd6a187385e5102317a9d6030223ea8de6e2b61ff57e94910d6df0a8eb4650", func := "loop.example/s02126/laws.FnExactCrc32", spec := "fnExactCrc32", apart := false, narrowed := true }
def FnExactCrc32UptoSaid : Prop := fnExactCrc32UptoRow.holds Try.pinned (OpenSpec.upto fnExactCrc32Spec)

/-- 'laws.FnExactPackHops', WHERE WHAT IT READS IS OF BULK AT MOST 1048576: true; the input reads as it did. -/
def fnExactPackHopsUptoRow : OpenClaim := { program := "ytbeheecjemdcdaa", sum := "64dd6a187385e5102317a9d6030223ea8de6e2b61ff57e94910d6df0a8eb4650", func := "loop.example/s02126/laws.FnExactPackHops", spec := "fnExactPackHops", apart := false, narrowed := true }
def FnExactPackHopsUptoSaid : Prop := fnExactPackHopsUptoRow.holds Try.pinned (OpenSpec.upto fnExactPackHopsSpec)

/-- 'laws.FnExactValidGraph', WHERE WHAT IT READS IS OF BULK AT MOST 1048576: true; the input reads as it did. -/
def fnExactValidGraphUptoRow : OpenClaim := { program := "ytbeheecjemdcdaa", sum := "64dd6a187385e5102317a9d6030223ea8de6e2b61ff57e94910d6df0a8eb4650", func := "loop.example/s02126/laws.FnExactValidGraph", spec := "fnExactValidGraph", apart := false, narrowed := true }
def FnExactValidGraphUptoSaid : Prop := fnExactValidGraphUptoRow.holds Try.pinned (OpenSpec.upto fnExactValidGraphSpec)

/-- 'laws.FnExactUnpackHops', WHERE WHAT IT READS IS OF BULK AT MOST 1048576: true; the input reads as it did. -/
def fnExactUnpackHopsUptoRow : OpenClaim := { program := "ytbeheecjemdcdaa", sum := "64dd6a187385e5102317a9d6030223ea8de6e2b61ff57e94910d6df0a8eb4650", func := "loop.example/s02126/laws.FnExactUnpackHops", spec := "fnExactUnpackHops", apart := false, narrowed := true }
def FnExactUnpackHopsUptoSaid : Prop := fnExactUnpackHopsUptoRow.holds Try.pinned (OpenSpec.upto fnExactUnpackHopsSpec)

/-- 'laws.FnHops', WHERE WHAT IT READS IS OF BULK AT MOST 1048576: true; the input reads as it did. -/
def fnHopsUptoRow : OpenClaim := { program := "ytbeheecjemdcdaa", sum := "64dd6a187385e5102317a9d6030223ea8de6e2b61ff57e94910d6df0a8eb4650", func := "loop.example/s02126/laws.FnHops", spec := "fnHops", apart := false, narrowed := true }
def FnHopsUptoSaid : Prop := fnHopsUptoRow.holds Try.pinned (OpenSpec.upto fnHopsSpec)

end Rows
end Go.Proofs.Ytbeheecjemdcdaa
