-- the kit's words for this seat, as its print.sh lays them, with what this seat's texts do not name left out by wip/tools/prune.py
import Derived.Test.YtbnpkiokpnmphaaDoorWInv
import Derived.Test.YtbnpkiokpnmphaaDoorWFootNe
namespace Go.Proofs.YtbnpkiokpnmphaaDoorW.PrintWords
open Go.RowKit
end Go.Proofs.YtbnpkiokpnmphaaDoorW.PrintWords
namespace Go.Proofs.YtbnpkiokpnmphaaDoorW.PrintLast
section
variable {ops : Array Oper} {a : Act} {o og : Oper} {g : Nat} {t : Tmp} {u : Bool}
end
end Go.Proofs.YtbnpkiokpnmphaaDoorW.PrintLast

