-- the kit's words for this seat, as its print.sh lays them, with what this seat's texts do not name left out by wip/tools/prune.py
import Derived.Test.YtiboccbaaphbhaaWInv
import Derived.Test.YtiboccbaaphbhaaWFootNe
namespace Go.Proofs.YtiboccbaaphbhaaW.PrintWords
open Go.RowKit
end Go.Proofs.YtiboccbaaphbhaaW.PrintWords
namespace Go.Proofs.YtiboccbaaphbhaaW.PrintLast
section
variable {ops : Array Oper} {a : Act} {o og : Oper} {g : Nat} {t : Tmp} {u : Bool}
end
end Go.Proofs.YtiboccbaaphbhaaW.PrintLast

