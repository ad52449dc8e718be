-- made by wip/tools/myprint.py (this session's own program, over the kit's printer)
import Derived.Test.YtbeheecjemdcdaaDoorProg
import Derived.Below
import Derived.Deep.Draws
import Derived.Deep.AppendLies
import Derived.Maps.AppendAt
import Derived.OwnWalk
import Derived.Laws.BytesArg
import Derived.Laws.MakeOwn
import Derived.Laws.OwnMore
import Derived.Deep.OwnRows
import Derived.Tactics
import Derived.Lib.ConvBytes
import Derived.Laws.Slices
import Derived.WalkKit
import Derived.KernelRfl
import Derived.RowKit3
import Derived.Deep.LoopGhost
import Derived.Deep.QuietTactic
import Derived.BigQuiet
import Derived.WideLaws
import Derived.Deep.DeepCutAuto
import Derived.Deep.CutBlock
import Derived.Deep.RegionHeld3
import Derived.Laws.Rows
import Derived.Lib.AppendStr
import Derived.ArgAppend
import Derived.Laws.IdiomCopy
import Derived.OrdersHeld
import Derived.Laws.BitsLemmas
import Derived.RowKit
import Derived.Test.YtbeheecjemdcdaaDoorLaid
import Derived.Test.YtbeheecjemdcdaaDoorWWords
import Derived.Test.YtbeheecjemdcdaaDoorWLast
import Derived.Test.YtbeheecjemdcdaaDoorWTab
import Derived.Test.YtbeheecjemdcdaaDoorWFour
import Derived.Test.YtbeheecjemdcdaaDoorWQPut
import Derived.Test.YtbeheecjemdcdaaDoorWApart
import Derived.Test.YtbeheecjemdcdaaDoorWArr
import Derived.Test.YtbeheecjemdcdaaDoorWZeros
import Derived.Test.YtbeheecjemdcdaaDoorWFoot
import Derived.Test.YtbeheecjemdcdaaDoorWKept
import Derived.Test.YtbeheecjemdcdaaDoorWShare
import Derived.Test.YtbeheecjemdcdaaDoorWN
import Derived.Test.YtbeheecjemdcdaaDoorWFootNe
import Derived.Test.YtbeheecjemdcdaaDoorWAt
import Derived.Test.YtbeheecjemdcdaaDoorWEqStruct
import Derived.Test.YtbeheecjemdcdaaDoorWRepsOne
import Derived.Test.YtbeheecjemdcdaaDoorWInv
import Derived.Test.YtbeheecjemdcdaaDoorWInvWords
import Derived.Test.YtbeheecjemdcdaaDoorWGuard
import Derived.Test.YtbeheecjemdcdaaDoorWNEv
import Derived.Test.YtbeheecjemdcdaaDoorWMore
namespace Go.Proofs.YtbeheecjemdcdaaDoor.PFnExactCheckText
open Go.RowKit Go.Proofs.YtbeheecjemdcdaaDoorW.PrintWords Go.Proofs.YtbeheecjemdcdaaDoorW.PrintLast Go.Proofs.YtbeheecjemdcdaaDoorW.PrintMore
attribute [local go_sem] max2_int min2_int max_two min_two max_three min_three max_four min_four   -- for this text's walks alone
set_option linter.unusedVariables false
set_option linter.unusedSimpArgs false



def errW : Option Int → Value
  | none => .nilIface
  | some c => .iface 0 (.int .i64 c)
theorem errW_none : errW none = .nilIface := rfl
theorem errW_some (c : Int) : errW (some c) = .iface 0 (.int .i64 c) := rfl

theorem info5 : (Tryd.prog.info? 5).map (fun i => (i.zero, i.size, i.bytes)) = some (some (.int .u8 0), 1, 1) := by kernel_rfl
-- the values' own types

end Go.Proofs.YtbeheecjemdcdaaDoor.PFnExactCheckText
