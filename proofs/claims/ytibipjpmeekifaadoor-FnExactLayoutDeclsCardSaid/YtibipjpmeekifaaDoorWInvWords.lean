-- the kit's words for this seat, as its print.sh lays them, with what this seat's texts do not name left out by wip/tools/prune.py
import Derived.Test.YtibipjpmeekifaaDoorWInv
import Derived.Test.YtibipjpmeekifaaDoorWFootNe
namespace Go.Proofs.YtibipjpmeekifaaDoorW.PrintWords
open Go.RowKit
end Go.Proofs.YtibipjpmeekifaaDoorW.PrintWords
namespace Go.Proofs.YtibipjpmeekifaaDoorW.PrintLast
section
variable {ops : Array Oper} {a : Act} {o og : Oper} {g : Nat} {t : Tmp} {u : Bool}
end
end Go.Proofs.YtibipjpmeekifaaDoorW.PrintLast

