-- made by wip/tools/myprint.py (this session's own program, over the kit's printer)
import Derived.Test.YtbnpkiokpnmphaaDoorProg
import Derived.Below
import Derived.Deep.Draws
import Derived.Deep.AppendLies
import Derived.Maps.AppendAt
import Derived.OwnWalk
import Derived.Laws.BytesArg
import Derived.Laws.MakeOwn
import Derived.Laws.OwnMore
import Derived.Deep.OwnRows
import Derived.Tactics
import Derived.Lib.ConvBytes
import Derived.Laws.Slices
import Derived.WalkKit
import Derived.KernelRfl
import Derived.RowKit3
import Derived.Deep.LoopGhost
import Derived.Deep.QuietTactic
import Derived.BigQuiet
import Derived.WideLaws
import Derived.Deep.DeepCutAuto
import Derived.Deep.CutBlock
import Derived.Deep.RegionHeld3
import Derived.Laws.Rows
import Derived.Lib.AppendStr
import Derived.ArgAppend
import Derived.Laws.IdiomCopy
import Derived.OrdersHeld
import Derived.Laws.BitsLemmas
import Derived.RowKit
import Derived.Laws.Cover1
import Derived.StillTailTactics
import Derived.Test.YtbnpkiokpnmphaaDoorLaid
import Derived.Test.YtbnpkiokpnmphaaDoorZed
import Derived.Deep.RegionHeld3
import Derived.Shelf.Unicode.DecodeAny
import Derived.Shelf.Small.Strs
import Derived.Shelf.Small.Utf8
import Derived.Shelf.Strings.Prefix
import Derived.Shelf.Utf8.AppendRunePlain
import Derived.Test.YtbnpkiokpnmphaaDoorShelf
import Derived.Test.YtbnpkiokpnmphaaDoorWWords
import Derived.Test.YtbnpkiokpnmphaaDoorWLast
import Derived.Test.YtbnpkiokpnmphaaDoorWTab
import Derived.Test.YtbnpkiokpnmphaaDoorWFour
import Derived.Test.YtbnpkiokpnmphaaDoorWQPut
import Derived.Test.YtbnpkiokpnmphaaDoorWApart
import Derived.Test.YtbnpkiokpnmphaaDoorWArr
import Derived.Test.YtbnpkiokpnmphaaDoorWZeros
import Derived.Test.YtbnpkiokpnmphaaDoorWFoot
import Derived.Test.YtbnpkiokpnmphaaDoorWKept
import Derived.Test.YtbnpkiokpnmphaaDoorWShare
import Derived.Test.YtbnpkiokpnmphaaDoorWN
import Derived.Test.YtbnpkiokpnmphaaDoorWFootNe
import Derived.Test.YtbnpkiokpnmphaaDoorWAt
import Derived.Test.YtbnpkiokpnmphaaDoorWEqStruct
import Derived.Test.YtbnpkiokpnmphaaDoorWRepsOne
import Derived.Test.YtbnpkiokpnmphaaDoorWInv
import Derived.Test.YtbnpkiokpnmphaaDoorWInvWords
import Derived.Test.YtbnpkiokpnmphaaDoorWGuard
import Derived.Test.YtbnpkiokpnmphaaDoorWNEv
import Derived.Test.YtbnpkiokpnmphaaDoorWMore
namespace Go.Proofs.YtbnpkiokpnmphaaDoor.PFnExactUnquoteText
open Go.RowKit Go.Proofs.YtbnpkiokpnmphaaDoorW.PrintWords Go.Proofs.YtbnpkiokpnmphaaDoorW.PrintLast Go.Proofs.YtbnpkiokpnmphaaDoorW.PrintMore
attribute [local go_sem] max2_int min2_int max_two min_two max_three min_three max_four min_four   -- for this text's walks alone
set_option linter.unusedVariables false
set_option linter.unusedSimpArgs false



def errW : Option Int → Value
 | none => .nilIface
 | some c => .iface 0 (.int .i64 c)
theorem errW_none : errW none = .nilIface := rfl
theorem errW_some (c : Int) : errW (some c) = .iface 0 (.int .i64 c) := rfl

theorem info5 : (Tryd.prog.info? 5).map (fun i => (i.zero, i.size, i.bytes)) = some (some (.int .u8 0), 1, 1) := by kernel_rfl
-- the values' own types

end Go.Proofs.YtbnpkiokpnmphaaDoor.PFnExactUnquoteText
