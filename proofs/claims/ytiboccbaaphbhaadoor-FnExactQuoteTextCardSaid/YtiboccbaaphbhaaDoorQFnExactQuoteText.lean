-- made by wip/tools/myprint.py (this session's own program, over the kit's printer)
import Derived.Test.YtiboccbaaphbhaaDoorPFnExactQuoteTextx5
import Derived.Test.YtiboccbaaphbhaaDoorOpen
namespace Go.Proofs.YtiboccbaaphbhaaDoor.PFnExactQuoteText
open Go.RowKit Go.Proofs.YtiboccbaaphbhaaDoor Go.Proofs.YtiboccbaaphbhaaDoorW.PrintWords Go.Proofs.YtiboccbaaphbhaaDoorW.PrintLast Go.Proofs.YtiboccbaaphbhaaDoorW.PrintMore
set_option linter.unusedVariables false
/-- THE ONE PURE STATEMENT of laws_FnExactQuoteText. -/
def laws_FnExactQuoteText.Pure : Prop := ∀ (l0 : List Int), (Open.wfL (Open.wfI .u8)) l0 → ∃ k, laws_FnExactQuoteText.f k l0 = some true
end Go.Proofs.YtiboccbaaphbhaaDoor.PFnExactQuoteText
