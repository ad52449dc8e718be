-- made by wip/tools/myprint.py (this session's own program, over the kit's printer)
import Derived.Test.YtbnpkiokpnmphaaDoorPFnExactUnquoteTextx7
import Derived.Test.YtbnpkiokpnmphaaDoorOpen
namespace Go.Proofs.YtbnpkiokpnmphaaDoor.PFnExactUnquoteText
open Go.RowKit Go.Proofs.YtbnpkiokpnmphaaDoor Go.Proofs.YtbnpkiokpnmphaaDoorW.PrintWords Go.Proofs.YtbnpkiokpnmphaaDoorW.PrintLast Go.Proofs.YtbnpkiokpnmphaaDoorW.PrintMore
set_option linter.unusedVariables false
/-- THE ONE PURE STATEMENT of laws_FnExactUnquoteText. -/
def laws_FnExactUnquoteText.Pure : Prop := ∀ (l0 : List Int), (Open.wfL (Open.wfI .u8)) l0 → ∃ k, laws_FnExactUnquoteText.f k l0 = some true
end Go.Proofs.YtbnpkiokpnmphaaDoor.PFnExactUnquoteText
