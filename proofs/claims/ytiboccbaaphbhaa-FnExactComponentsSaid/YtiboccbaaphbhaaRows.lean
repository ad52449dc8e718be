/-
  No cell of these rows narrows 'for every input' (looked for: loops, veiled, ifaces, maps, wideKeys, modest, calm, conditions, laid).
  DERIVED. THE GIVEN ROWS OF THIS SEAT. 4 by the template 'for every input the law returns true; each argument reads behind the call as it read before'; 0 by the template 'total and deterministic' (their statements: YtiboccbaaphbhaaTotals.lean).
  GIVEN WITH THE SEED: the statements are not yours to turn. If you find one false, say at which input.
  Laid BY PROGRAM, IN A SANDBOX (cutbox-rows.mjs): the forced cells as the released guide's own fill.sh prints them over the translation 0682d74f191bbfa4… (all of the seat's roots in one cut). By AI agents, Wed Nov 11 2026. No macro, syntax, notation, axiom, sorry.
-/
import Derived.Test.YtiboccbaaphbhaaChecked
import GoSem.Claim
import GoSem.ClaimJoined
import GoSem.ClaimMapViews
import Derived.JoinedTies
import Derived.KernelRfl
namespace Go.Proofs.Ytiboccbaaphbhaa
/- THE CELL 'sum', in the pinned program and in every row, IS THE sha256 OF THE DUMP (.gsa) THAT YtiboccbaaphbhaaProg.lean LOADS. Nothing in Lean hashes anything: it is a label: what it is worth is what the hold of that sum in a sandbox is worth. -/
noncomputable def Try.pinned : Pinned := { name := "ytiboccbaaphbhaa", sum := "0682d74f191bbfa4b0a24d09ac13fa40a44af56181ad86d0087e8f65e5faa84d", checked := Try.checked }
namespace Rows
def none {H : Type} : Left H := { results := [], args := [] }

/-- 'laws.FnExactReverse': WHATEVER THE INPUT: true; the input reads as it did. -/
def fnExactReverseSpec : ChangeSpec := { name := "fnExactReverse", fn := fun _ => fun
  | [d] => { results := [.lit (.bool true)], args := [d] }
  | _ => none }
def fnExactReverseRow : OpenClaim := { program := "ytiboccbaaphbhaa", sum := "0682d74f191bbfa4b0a24d09ac13fa40a44af56181ad86d0087e8f65e5faa84d", func := "loop.example/s02126/laws.FnExactReverse", spec := "fnExactReverse", apart := false }
def FnExactReverseSaid : Prop := fnExactReverseRow.holds Try.pinned (OpenSpec.ofChange fnExactReverseSpec)

/-- ITS FALSE NEIGHBOUR: 'it returns false'. Refute it at one input. -/
def fnExactReverseWrong : ChangeSpec := { name := "fnExactReverse", fn := fun _ => fun
  | [d] => { results := [.lit (.bool false)], args := [d] }
  | _ => none }
def FnExactReverseWrongFalsely : Prop := fnExactReverseRow.holds Try.pinned (OpenSpec.ofChange fnExactReverseWrong)

/-- 'laws.FnExactReach': WHATEVER THE INPUT: true; the input reads as it did. -/
def fnExactReachSpec : ChangeSpec := { name := "fnExactReach", fn := fun _ => fun
  | [d1, d2] => { results := [.lit (.bool true)], args := [d1, d2] }
  | _ => none }
def fnExactReachRow : OpenClaim := { program := "ytiboccbaaphbhaa", sum := "0682d74f191bbfa4b0a24d09ac13fa40a44af56181ad86d0087e8f65e5faa84d", func := "loop.example/s02126/laws.FnExactReach", spec := "fnExactReach", unfollowed := true, recurses := true, apart := false }
def FnExactReachSaid : Prop := fnExactReachRow.holds Try.pinned (OpenSpec.ofChange fnExactReachSpec)

/-- ITS FALSE NEIGHBOUR: 'it returns false'. Refute it at one input. -/
def fnExactReachWrong : ChangeSpec := { name := "fnExactReach", fn := fun _ => fun
  | [d1, d2] => { results := [.lit (.bool false)], args := [d1, d2] }
  | _ => none }
def FnExactReachWrongFalsely : Prop := fnExactReachRow.holds Try.pinned (OpenSpec.ofChange fnExactReachWrong)

/-- 'laws.FnExactRoute': WHATEVER THE INPUT: true; the input reads as it did. -/
def fnExactRouteSpec : ChangeSpec := { name := "fnExactRoute", fn := fun _ => fun
  | [d1, d2] => { results := [.lit (.bool true)], args := [d1, d2] }
  | _ => none }
def fnExactRouteRow : OpenClaim := { program := "ytiboccbaaphbhaa", sum := "0682d74f191bbfa4b0a24d09ac13fa40a44af56181ad86d0087e8f65e5faa84d", func := "loop.example/s02126/laws.FnExactRoute", spec := "fnExactRoute", unfollowed := true, recurses := true, apart := false }
def FnExactRouteSaid : Prop := fnExactRouteRow.holds Try.pinned (OpenSpec.ofChange fnExactRouteSpec)

/-- ITS FALSE NEIGHBOUR: 'it returns false'. Refute it at one input. -/
def fnExactRouteWrong : ChangeSpec := { name := "fnExactRoute", fn := fun _ => fun
  | [d1, d2] => { results := [.lit (.bool false)], args := [d1, d2] }
  | _ => none }
def FnExactRouteWrongFalsely : Prop := fnExactRouteRow.holds Try.pinned (OpenSpec.ofChange fnExactRouteWrong)

/-- 'laws.FnExactComponents': WHATEVER THE INPUT: true; the input reads as it did. -/
def fnExactComponentsSpec : ChangeSpec := { name := "fnExactComponents", fn := fun _ => fun
  | [d] => { results := [.lit (.bool true)], args := [d] }
  | _ => none }
def fnExactComponentsRow : OpenClaim := { program := "ytiboccbaaphbhaa", sum := "0682d74f191bbfa4b0a24d09ac13fa40a44af56181ad86d0087e8f65e5faa84d", func := "loop.example/s02126/laws.FnExactComponents", spec := "fnExactComponents", unfollowed := true, recurses := true, apart := false }
def FnExactComponentsSaid : Prop := fnExactComponentsRow.holds Try.pinned (OpenSpec.ofChange fnExactComponentsSpec)

/-- ITS FALSE NEIGHBOUR: 'it returns false'. Refute it at one input. -/
def fnExactComponentsWrong : ChangeSpec := { name := "fnExactComponents", fn := fun _ => fun
  | [d] => { results := [.lit (.bool false)], args := [d] }
  | _ => none }
def FnExactComponentsWrongFalsely : Prop := fnExactComponentsRow.holds Try.pinned (OpenSpec.ofChange fnExactComponentsWrong)

/- THE SECOND FORM. 'bulk': how many values and letters a reading holds, each counted each time it is reached (what is shared counts as often as it is met; a slice's spare places count too). A statement '..UptoSaid' is the law's where the arguments, and the package variables that the reading takes, are together of bulk at most 1048576: NARROWER than '..Said'. Prove '..Said' where nothing that the law and all that it calls make is longer than what came in: it says more and counts as full. Else prove '..UptoSaid'. A law counts once. -/
mutual
def uptoBulk {H : Type} : DataW H → Nat
  | .lit (.string bytes) => bytes.length + 1
  | .lit _ => 1
  | .nil => 1
  | .ptr d => uptoBulk d + 1
  | .slice elems spare => uptoBulkAll elems + uptoBulkAll spare + 1
  | .agg parts => uptoBulkAll parts + 1
  | .iface _ d => uptoBulk d + 1
  | .map entries => uptoBulkEntries entries + 1
  | .held _ => 1
def uptoBulkAll {H : Type} : List (DataW H) → Nat
  | [] => 0
  | d :: r => uptoBulk d + uptoBulkAll r
def uptoBulkEntries {H : Type} : List (Lit × DataW H) → Nat
  | [] => 0
  | x :: r => uptoBulkEntry x + uptoBulkEntries r
def uptoBulkEntry {H : Type} : Lit × DataW H → Nat
  | (.string bytes, d) => bytes.length + uptoBulk d + 1
  | (_, d) => uptoBulk d + 1
 end
def uptoSmall : (H : Type) → List (DataW H) → Bool := fun _ ds => decide (uptoBulkAll ds ≤ 1048576)
def OpenSpec.upto (s : _root_.Go.ChangeSpec) : _root_.Go.OpenSpec := { _root_.Go.OpenSpec.ofChange s with cond := some uptoSmall }

/-- 'laws.FnExactReverse', WHERE WHAT IT READS IS OF BULK AT MOST 1048576: true; the input reads as it did. -/
def fnExactReverseUptoRow : OpenClaim := { program := "ytiboccbaaphbhaa", sum := "0682d74f191bbfa4b0a24d09ac13fa40a44af56181ad86d0087e8f65e5faa84d", func := "loop.example/s02126/laws.FnExactReverse", spec := "fnExactReverse", apart := false, narrowed := true }
def FnExactReverseUptoSaid : Prop := fnExactReverseUptoRow.holds Try.pinned (OpenSpec.upto fnExactReverseSpec)

/-- 'laws.FnExactReach', WHERE WHAT IT READS IS OF BULK AT MOST 1048576: true; the input reads as it did. -/
def fnExactReachUptoRow : OpenClaim := { program := "ytiboccbaaphbhaa", sum := "0682d74f191bbfa4b0a24d09ac13fa40a44af56181ad86d0087e8f65e5faa84d", func := "loop.example/s02126/laws.FnExactReach", spec := "fnExactReach", unfollowed := true, recurses := true, apart := false, narrowed := true }
def FnExactReachUptoSaid : Prop := fnExactReachUptoRow.holds Try.pinned (OpenSpec.upto fnExactReachSpec)

/-- 'laws.FnExactRoute', WHERE WHAT IT READS IS OF BULK AT MOST 1048576: true; the input reads as it did. -/
def fnExactRouteUptoRow : OpenClaim := { program := "ytiboccbaaphbhaa", sum := "0682d74f191bbfa4b0a24d09ac13fa40a44af56181ad86d0087e8f65e5faa84d", func := "loop.example/s02126/laws.FnExactRoute", spec := "fnExactRoute", unfollowed := true, recurses := true, apart := false, narrowed := true }
def FnExactRouteUptoSaid : Prop := fnExactRouteUptoRow.holds Try.pinned (OpenSpec.upto fnExactRouteSpec)

/-- 'laws.FnExactComponents', WHERE WHAT IT READS IS OF BULK AT MOST 1048576: true; the input reads as it did. -/
def fnExactComponentsUptoRow : OpenClaim := { program := "ytiboccbaaphbhaa", sum := "0682d74f191bbfa4b0a24d09ac13fa40a44af56181ad86d0087e8f65e5faa84d", func := "loop.example/s02126/laws.FnExactComponents", spec := "fnExactComponents", unfollowed := true, recurses := true, apart := false, narrowed := true }
def FnExactComponentsUptoSaid : Prop := fnExactComponentsUptoRow.holds Try.pinned (OpenSpec.upto fnExactComponentsSpec)

end Rows
end Go.Proofs.Ytiboccbaaphbhaa
