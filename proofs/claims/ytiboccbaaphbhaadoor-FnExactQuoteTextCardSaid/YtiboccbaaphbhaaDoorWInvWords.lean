-- the kit's words for this seat, as its print.sh lays them, with what this seat's texts do not name left out by wip/tools/prune.py
import Derived.Test.YtiboccbaaphbhaaDoorWInv
import Derived.Test.YtiboccbaaphbhaaDoorWFootNe
namespace Go.Proofs.YtiboccbaaphbhaaDoorW.PrintWords
open Go.RowKit
end Go.Proofs.YtiboccbaaphbhaaDoorW.PrintWords
namespace Go.Proofs.YtiboccbaaphbhaaDoorW.PrintLast
section
variable {ops : Array Oper} {a : Act} {o og : Oper} {g : Nat} {t : Tmp} {u : Bool}
end
end Go.Proofs.YtiboccbaaphbhaaDoorW.PrintLast

