-- made by wip/tools/myprint.py (this session's own program, over the kit's printer)
import Derived.Test.YthbeplmihjhoeaaDoorPFnExactRunFleetx20
import Derived.Test.YthbeplmihjhoeaaDoorOpen
namespace Go.Proofs.YthbeplmihjhoeaaDoor.PFnExactRunFleet
open Go.RowKit Go.Proofs.YthbeplmihjhoeaaDoor Go.Proofs.YthbeplmihjhoeaaDoorW.PrintWords Go.Proofs.YthbeplmihjhoeaaDoorW.PrintLast Go.Proofs.YthbeplmihjhoeaaDoorW.PrintMore
set_option linter.unusedVariables false
/-- A struct of type 185, as it is read. -/
def wf185 (x : S185) : Prop := (Open.wfL (Open.wfI .u8)) x.f0 ∧ (Open.wfI .i64) x.f1 ∧ (Open.wfI .i64) x.f2
/-- A struct of type 136, as it is read. -/
def wf136 (x : S136) : Prop := (Open.wfI .i64) x.f0 ∧ (Open.wfI .i64) x.f1 ∧ (Open.wfI .i64) x.f2 ∧ (Open.wfI .i64) x.f3 ∧ Open.wfB x.f4
/-- THE ONE PURE STATEMENT of laws_FnExactRunFleet. -/
def laws_FnExactRunFleet.Pure : Prop := ∀ (a0_0 : Int) (a0_1 : Int) (l0_2 : List (S185)) (l0_3 : List (List Int)) (l0_4 : List (List Int)) (l1 : List (S136)) (a2 : Int), (Open.wfI .i64) a0_0 → (Open.wfI .i64) a0_1 → (Open.wfL wf185) l0_2 → (Open.wfL (Open.wfL (Open.wfI .i64))) l0_3 → (Open.wfL (Open.wfL (Open.wfI .i64))) l0_4 → (Open.wfL wf136) l1 → (Open.wfI .i64) a2 → ∃ k, laws_FnExactRunFleet.f k a0_0 a0_1 l0_2 l0_3 l0_4 l1 a2 = some true
end Go.Proofs.YthbeplmihjhoeaaDoor.PFnExactRunFleet
