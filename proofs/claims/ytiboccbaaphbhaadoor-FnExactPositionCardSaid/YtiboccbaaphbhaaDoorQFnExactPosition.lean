-- made by wip/tools/myprint.py (this session's own program, over the kit's printer)
import Derived.Test.YtiboccbaaphbhaaDoorPFnExactPositionx3
import Derived.Test.YtiboccbaaphbhaaDoorOpen
namespace Go.Proofs.YtiboccbaaphbhaaDoor.PFnExactPosition
open Go.RowKit Go.Proofs.YtiboccbaaphbhaaDoor Go.Proofs.YtiboccbaaphbhaaDoorW.PrintWords Go.Proofs.YtiboccbaaphbhaaDoorW.PrintLast Go.Proofs.YtiboccbaaphbhaaDoorW.PrintMore
set_option linter.unusedVariables false
/-- THE ONE PURE STATEMENT of laws_FnExactPosition. -/
def laws_FnExactPosition.Pure : Prop := ∀ (l0 : List Int) (a1 : Int), (Open.wfL (Open.wfI .u8)) l0 → (Open.wfI .i64) a1 → ∃ k, laws_FnExactPosition.f k l0 a1 = some true
end Go.Proofs.YtiboccbaaphbhaaDoor.PFnExactPosition
