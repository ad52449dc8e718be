-- made by wip/tools/myprint.py (this session's own program, over the kit's printer)
import Derived.Test.YtibipjpmeekifaaDoorPFnExactLayoutDeclsx16
import Derived.Test.YtibipjpmeekifaaDoorOpen
namespace Go.Proofs.YtibipjpmeekifaaDoor.PFnExactLayoutDecls
open Go.RowKit Go.Proofs.YtibipjpmeekifaaDoor Go.Proofs.YtibipjpmeekifaaDoorW.PrintWords Go.Proofs.YtibipjpmeekifaaDoorW.PrintLast Go.Proofs.YtibipjpmeekifaaDoorW.PrintMore
set_option linter.unusedVariables false
/-- A struct of type 61, as it is read. -/
def wf61 (x : S61) : Prop := (Open.wfL (Open.wfI .u8)) x.f0 ∧ (Open.wfI .i64) x.f1 ∧ (Open.wfI .i64) x.f2
/-- THE ONE PURE STATEMENT of laws_FnExactLayoutDecls. -/
def laws_FnExactLayoutDecls.Pure : Prop := ∀ (a0_0 : Int) (a0_1 : Int) (l0_2 : List Int) (l0_3 : List Int) (l0_4 : List (S61)), (Open.wfI .i64) a0_0 → (Open.wfI .i64) a0_1 → (Open.wfL (Open.wfI .i64)) l0_2 → (Open.wfL (Open.wfI .i64)) l0_3 → (Open.wfL wf61) l0_4 → ∃ k, laws_FnExactLayoutDecls.f k a0_0 a0_1 l0_2 l0_3 l0_4 = some true
end Go.Proofs.YtibipjpmeekifaaDoor.PFnExactLayoutDecls
