/- The closed facts of one row, by computation: no condition. -/
import Derived.Test.YtiboccbaaphbhaaRows
import Derived.ProofKit
import Derived.HandedFrom
namespace Go.Proofs.Ytiboccbaaphbhaa.fnExactReachFacts
theorem facts : joinedFacts Try.pinned.checked.prog 4 Try.f4 Rows.fnExactReachSpec Rows.fnExactReachRow = true := by kernel_rfl
end Go.Proofs.Ytiboccbaaphbhaa.fnExactReachFacts
