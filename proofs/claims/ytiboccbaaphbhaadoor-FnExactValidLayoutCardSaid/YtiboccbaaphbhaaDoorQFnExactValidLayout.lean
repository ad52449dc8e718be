-- made by wip/tools/myprint.py (this session's own program, over the kit's printer)
import Derived.Test.YtiboccbaaphbhaaDoorPFnExactValidLayoutx10
import Derived.Test.YtiboccbaaphbhaaDoorOpen
namespace Go.Proofs.YtiboccbaaphbhaaDoor.PFnExactValidLayout
open Go.RowKit Go.Proofs.YtiboccbaaphbhaaDoor Go.Proofs.YtiboccbaaphbhaaDoorW.PrintWords Go.Proofs.YtiboccbaaphbhaaDoorW.PrintLast Go.Proofs.YtiboccbaaphbhaaDoorW.PrintMore
set_option linter.unusedVariables false
/-- A struct of type 112, as it is read. -/
def wf112 (x : S112) : Prop := (Open.wfL (Open.wfI .u8)) x.f0 ∧ (Open.wfI .i64) x.f1 ∧ (Open.wfI .i64) x.f2
/-- THE ONE PURE STATEMENT of laws_FnExactValidLayout. -/
def laws_FnExactValidLayout.Pure : Prop := ∀ (a0_0 : Int) (a0_1 : Int) (l0_2 : List Int) (l0_3 : List Int) (l0_4 : List (S112)), (Open.wfI .i64) a0_0 → (Open.wfI .i64) a0_1 → (Open.wfL (Open.wfI .i64)) l0_2 → (Open.wfL (Open.wfI .i64)) l0_3 → (Open.wfL wf112) l0_4 → ∃ k, laws_FnExactValidLayout.f k a0_0 a0_1 l0_2 l0_3 l0_4 = some true
end Go.Proofs.YtiboccbaaphbhaaDoor.PFnExactValidLayout
