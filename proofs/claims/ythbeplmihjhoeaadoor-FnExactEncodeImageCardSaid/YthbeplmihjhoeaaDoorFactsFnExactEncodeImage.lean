/- The closed facts of one row, by computation: no condition. -/
import Derived.Test.YthbeplmihjhoeaaDoorRows
import Derived.ProofKit
import Derived.HandedFrom
namespace Go.Proofs.YthbeplmihjhoeaaDoor.fnExactEncodeImageFacts
theorem facts : joinedFacts Tryd.pinned.checked.prog 5 Tryd.f5 Rows.fnExactEncodeImageSpec Rows.fnExactEncodeImageRow = true := by kernel_rfl
end Go.Proofs.YthbeplmihjhoeaaDoor.fnExactEncodeImageFacts
