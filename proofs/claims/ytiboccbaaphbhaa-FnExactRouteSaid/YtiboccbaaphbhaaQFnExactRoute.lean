-- made by wip/tools/myprint.py (this session's own program, over the kit's printer)
import Derived.Test.YtiboccbaaphbhaaPFnExactRoutex12
import Derived.Test.YtiboccbaaphbhaaOpen
namespace Go.Proofs.Ytiboccbaaphbhaa.PFnExactRoute
open Go.RowKit Go.Proofs.Ytiboccbaaphbhaa Go.Proofs.YtiboccbaaphbhaaW.PrintWords Go.Proofs.YtiboccbaaphbhaaW.PrintLast Go.Proofs.YtiboccbaaphbhaaW.PrintMore
set_option linter.unusedVariables false
/-- THE ONE PURE STATEMENT of laws_FnExactRoute. -/
def laws_FnExactRoute.Pure : Prop := ∀ (a0_0 : Int) (l0_1 : List Int) (l0_2 : List Int) (l0_3 : List Int) (l0_4 : List Int) (a1 : Int), (Open.wfI .i64) a0_0 → (Open.wfL (Open.wfI .i64)) l0_1 → (Open.wfL (Open.wfI .i64)) l0_2 → (Open.wfL (Open.wfI .i64)) l0_3 → (Open.wfL (Open.wfI .i64)) l0_4 → (Open.wfI .i64) a1 → ∃ k, laws_FnExactRoute.f k a0_0 l0_1 l0_2 l0_3 l0_4 a1 = some true
end Go.Proofs.Ytiboccbaaphbhaa.PFnExactRoute
