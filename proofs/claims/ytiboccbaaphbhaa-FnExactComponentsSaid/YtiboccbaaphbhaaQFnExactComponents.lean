-- made by wip/tools/myprint.py (this session's own program, over the kit's printer)
import Derived.Test.YtiboccbaaphbhaaPFnExactComponentsx12
import Derived.Test.YtiboccbaaphbhaaOpen
namespace Go.Proofs.Ytiboccbaaphbhaa.PFnExactComponents
open Go.RowKit Go.Proofs.Ytiboccbaaphbhaa Go.Proofs.YtiboccbaaphbhaaW.PrintWords Go.Proofs.YtiboccbaaphbhaaW.PrintLast Go.Proofs.YtiboccbaaphbhaaW.PrintMore
set_option linter.unusedVariables false
/-- THE ONE PURE STATEMENT of laws_FnExactComponents. -/
def laws_FnExactComponents.Pure : Prop := ∀ (a0_0 : Int) (l0_1 : List Int) (l0_2 : List Int) (l0_3 : List Int) (l0_4 : List Int), (Open.wfI .i64) a0_0 → (Open.wfL (Open.wfI .i64)) l0_1 → (Open.wfL (Open.wfI .i64)) l0_2 → (Open.wfL (Open.wfI .i64)) l0_3 → (Open.wfL (Open.wfI .i64)) l0_4 → ∃ k, laws_FnExactComponents.f k a0_0 l0_1 l0_2 l0_3 l0_4 = some true
end Go.Proofs.Ytiboccbaaphbhaa.PFnExactComponents
