-- made by wip/tools/myprint.py (this session's own program, over the kit's printer)
import Derived.Test.YtbeheecjemdcdaaDoorPFnExactCheckTextx2
import Derived.Test.YtbeheecjemdcdaaDoorOpen
namespace Go.Proofs.YtbeheecjemdcdaaDoor.PFnExactCheckText
open Go.RowKit Go.Proofs.YtbeheecjemdcdaaDoor Go.Proofs.YtbeheecjemdcdaaDoorW.PrintWords Go.Proofs.YtbeheecjemdcdaaDoorW.PrintLast Go.Proofs.YtbeheecjemdcdaaDoorW.PrintMore
set_option linter.unusedVariables false
/-- THE ONE PURE STATEMENT of laws_FnExactCheckText. -/
def laws_FnExactCheckText.Pure : Prop := ∀ (l0 : List Int), (Open.wfL (Open.wfI .u8)) l0 → ∃ k, laws_FnExactCheckText.f k l0 = some true
end Go.Proofs.YtbeheecjemdcdaaDoor.PFnExactCheckText
