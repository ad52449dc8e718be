/- The closed facts of one row, by computation: no condition. -/
import Derived.Test.YtiboccbaaphbhaaRows
import Derived.ProofKit
import Derived.HandedFrom
namespace Go.Proofs.Ytiboccbaaphbhaa.fnExactReverseFacts
theorem facts : joinedFacts Try.pinned.checked.prog 3 Try.f3 Rows.fnExactReverseSpec Rows.fnExactReverseRow = true := by kernel_rfl
end Go.Proofs.Ytiboccbaaphbhaa.fnExactReverseFacts
