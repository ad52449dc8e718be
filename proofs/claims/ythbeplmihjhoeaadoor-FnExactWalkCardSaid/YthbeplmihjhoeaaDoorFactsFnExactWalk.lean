/- The closed facts of one row, by computation: no condition. -/
import Derived.Test.YthbeplmihjhoeaaDoorRows
import Derived.ProofKit
import Derived.HandedFrom
namespace Go.Proofs.YthbeplmihjhoeaaDoor.fnExactWalkFacts
theorem facts : joinedFacts Tryd.pinned.checked.prog 4 Tryd.f4 Rows.fnExactWalkSpec Rows.fnExactWalkRow = true := by kernel_rfl
end Go.Proofs.YthbeplmihjhoeaaDoor.fnExactWalkFacts
