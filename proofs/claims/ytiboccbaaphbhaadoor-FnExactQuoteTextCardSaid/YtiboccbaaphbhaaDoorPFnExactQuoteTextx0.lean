-- made by wip/tools/myprint.py (this session's own program, over the kit's printer)
import Derived.Test.YtiboccbaaphbhaaDoorProg
import Derived.Below
import Derived.Deep.Draws
import Derived.Deep.AppendLies
import Derived.Maps.AppendAt
import Derived.OwnWalk
import Derived.Laws.BytesArg
import Derived.Laws.MakeOwn
import Derived.Laws.OwnMore
import Derived.Deep.OwnRows
import Derived.Tactics
import Derived.Lib.ConvBytes
import Derived.Laws.Slices
import Derived.WalkKit
import Derived.KernelRfl
import Derived.RowKit3
import Derived.Deep.LoopGhost
import Derived.Deep.QuietTactic
import Derived.BigQuiet
import Derived.WideLaws
import Derived.Deep.DeepCutAuto
import Derived.Deep.CutBlock
import Derived.Deep.RegionHeld3
import Derived.Laws.Rows
import Derived.Lib.AppendStr
import Derived.ArgAppend
import Derived.Laws.IdiomCopy
import Derived.OrdersHeld
import Derived.Laws.BitsLemmas
import Derived.RowKit
import Derived.Laws.Cover1
import Derived.StillTailTactics
import Derived.Test.YtiboccbaaphbhaaDoorLaid
import Derived.Test.YtiboccbaaphbhaaDoorZed
import Derived.Deep.RegionHeld3
import Derived.Shelf.Strings.BuilderRune
import Derived.Shelf.Spec.TrailingZeros
import Derived.Test.YtiboccbaaphbhaaDoorShelf
import Derived.Test.YtiboccbaaphbhaaDoorFr
import Derived.Test.YtiboccbaaphbhaaDoorWWords
import Derived.Test.YtiboccbaaphbhaaDoorWLast
import Derived.Test.YtiboccbaaphbhaaDoorWTab
import Derived.Test.YtiboccbaaphbhaaDoorWFour
import Derived.Test.YtiboccbaaphbhaaDoorWQPut
import Derived.Test.YtiboccbaaphbhaaDoorWApart
import Derived.Test.YtiboccbaaphbhaaDoorWArr
import Derived.Test.YtiboccbaaphbhaaDoorWZeros
import Derived.Test.YtiboccbaaphbhaaDoorWFoot
import Derived.Test.YtiboccbaaphbhaaDoorWKept
import Derived.Test.YtiboccbaaphbhaaDoorWShare
import Derived.Test.YtiboccbaaphbhaaDoorWN
import Derived.Test.YtiboccbaaphbhaaDoorWFootNe
import Derived.Test.YtiboccbaaphbhaaDoorWAt
import Derived.Test.YtiboccbaaphbhaaDoorWEqStruct
import Derived.Test.YtiboccbaaphbhaaDoorWRepsOne
import Derived.Test.YtiboccbaaphbhaaDoorWInv
import Derived.Test.YtiboccbaaphbhaaDoorWInvWords
import Derived.Test.YtiboccbaaphbhaaDoorWGuard
import Derived.Test.YtiboccbaaphbhaaDoorWNEv
import Derived.Test.YtiboccbaaphbhaaDoorWMore
namespace Go.Proofs.YtiboccbaaphbhaaDoor.PFnExactQuoteText
open Go.RowKit Go.Proofs.YtiboccbaaphbhaaDoorW.PrintWords Go.Proofs.YtiboccbaaphbhaaDoorW.PrintLast Go.Proofs.YtiboccbaaphbhaaDoorW.PrintMore
attribute [local go_sem] max2_int min2_int max_two min_two max_three min_three max_four min_four   -- for this text's walks alone
set_option linter.unusedVariables false
set_option linter.unusedSimpArgs false



def errW : Option Int → Value
 | none => .nilIface
 | some c => .iface 0 (.int .i64 c)
theorem errW_none : errW none = .nilIface := rfl
theorem errW_some (c : Int) : errW (some c) = .iface 0 (.int .i64 c) := rfl

theorem info5 : (Tryd.prog.info? 5).map (fun i => (i.zero, i.size, i.bytes)) = some (some (.int .u8 0), 1, 1) := by kernel_rfl
-- the values' own types

end Go.Proofs.YtiboccbaaphbhaaDoor.PFnExactQuoteText
