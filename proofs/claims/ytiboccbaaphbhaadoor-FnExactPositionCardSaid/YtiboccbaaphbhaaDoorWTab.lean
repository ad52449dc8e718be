-- the kit's words for this seat, as its print.sh lays them, with what this seat's texts do not name left out by wip/tools/prune.py
import Derived.Test.YtiboccbaaphbhaaDoorWLast
import Derived.Test.YtiboccbaaphbhaaDoorWWords
namespace Go.Proofs.YtiboccbaaphbhaaDoorW.PrintLast
open Go.Proofs.YtiboccbaaphbhaaDoorW.PrintWords (Aside0)
section
variable {md : Region.Mode} {ops : Array Oper} {T : Bool × List (List Nat × List Nat)} {l l' li lj lk : Array Bool} {ds : List Nat} {i j k : Nat}
end
end Go.Proofs.YtiboccbaaphbhaaDoorW.PrintLast

