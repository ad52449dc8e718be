-- the kit's words for this seat, as its print.sh lays them, with what this seat's texts do not name left out by wip/tools/prune.py
import Derived.Test.YtbnpkiokpnmphaaDoorWLast
import Derived.Test.YtbnpkiokpnmphaaDoorWWords
namespace Go.Proofs.YtbnpkiokpnmphaaDoorW.PrintLast
open Go.Proofs.YtbnpkiokpnmphaaDoorW.PrintWords (Aside0)
section
variable {md : Region.Mode} {ops : Array Oper} {T : Bool × List (List Nat × List Nat)} {l l' li lj lk : Array Bool} {ds : List Nat} {i j k : Nat}
end
end Go.Proofs.YtbnpkiokpnmphaaDoorW.PrintLast

