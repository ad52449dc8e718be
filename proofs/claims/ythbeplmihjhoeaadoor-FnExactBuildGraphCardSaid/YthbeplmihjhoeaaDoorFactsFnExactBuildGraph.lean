/- The closed facts of one row, by computation: no condition. -/
import Derived.Test.YthbeplmihjhoeaaDoorRows
import Derived.ProofKit
import Derived.HandedFrom
namespace Go.Proofs.YthbeplmihjhoeaaDoor.fnExactBuildGraphFacts
theorem facts : joinedFacts Tryd.pinned.checked.prog 3 Tryd.f3 Rows.fnExactBuildGraphSpec Rows.fnExactBuildGraphRow = true := by kernel_rfl
end Go.Proofs.YthbeplmihjhoeaaDoor.fnExactBuildGraphFacts
