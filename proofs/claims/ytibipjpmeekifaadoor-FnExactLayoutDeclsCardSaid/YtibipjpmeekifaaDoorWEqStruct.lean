-- the kit's words for this seat, as its print.sh lays them, with what this seat's texts do not name left out by wip/tools/prune.py
import Derived.Test.YtibipjpmeekifaaDoorWWords
import Derived.Laws.StructEq
namespace Go.Proofs.YtibipjpmeekifaaDoorW.PrintWords
open Go.RowKit
section
variable {P : Program} {d : Nat} {xs ys : Array Value} {f : Field} {fs : List Field} {a b : Value} {r s : Bool} {w : World}
end
end Go.Proofs.YtibipjpmeekifaaDoorW.PrintWords

