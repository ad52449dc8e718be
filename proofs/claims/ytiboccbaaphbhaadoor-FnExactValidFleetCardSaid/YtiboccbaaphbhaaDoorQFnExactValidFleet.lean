-- made by wip/tools/myprint.py (this session's own program, over the kit's printer)
import Derived.Test.YtiboccbaaphbhaaDoorPFnExactValidFleetx15
import Derived.Test.YtiboccbaaphbhaaDoorOpen
namespace Go.Proofs.YtiboccbaaphbhaaDoor.PFnExactValidFleet
open Go.RowKit Go.Proofs.YtiboccbaaphbhaaDoor Go.Proofs.YtiboccbaaphbhaaDoorW.PrintWords Go.Proofs.YtiboccbaaphbhaaDoorW.PrintLast Go.Proofs.YtiboccbaaphbhaaDoorW.PrintMore
set_option linter.unusedVariables false
/-- A struct of type 112, as it is read. -/
def wf112 (x : S112) : Prop := (Open.wfL (Open.wfI .u8)) x.f0 ∧ (Open.wfI .i64) x.f1 ∧ (Open.wfI .i64) x.f2
/-- A struct of type 106, as it is read. -/
def wf106 (x : S106) : Prop := (Open.wfI .i64) x.f0 ∧ (Open.wfI .i64) x.f1 ∧ (Open.wfI .i64) x.f2 ∧ (Open.wfI .i64) x.f3 ∧ Open.wfB x.f4
/-- THE ONE PURE STATEMENT of laws_FnExactValidFleet. -/
def laws_FnExactValidFleet.Pure : Prop := ∀ (a0_0 : Int) (a0_1 : Int) (l0_2 : List (S112)) (l0_3 : List (List Int)) (l0_4 : List (List Int)) (l1 : List (S106)), (Open.wfI .i64) a0_0 → (Open.wfI .i64) a0_1 → (Open.wfL wf112) l0_2 → (Open.wfL (Open.wfL (Open.wfI .i64))) l0_3 → (Open.wfL (Open.wfL (Open.wfI .i64))) l0_4 → (Open.wfL wf106) l1 → ∃ k, laws_FnExactValidFleet.f k a0_0 a0_1 l0_2 l0_3 l0_4 l1 = some true
end Go.Proofs.YtiboccbaaphbhaaDoor.PFnExactValidFleet
