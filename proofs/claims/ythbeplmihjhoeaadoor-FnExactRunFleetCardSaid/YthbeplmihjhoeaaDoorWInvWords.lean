-- the kit's words for this seat, as its print.sh lays them, with what this seat's texts do not name left out by wip/tools/prune.py
import Derived.Test.YthbeplmihjhoeaaDoorWInv
import Derived.Test.YthbeplmihjhoeaaDoorWFootNe
namespace Go.Proofs.YthbeplmihjhoeaaDoorW.PrintWords
open Go.RowKit
end Go.Proofs.YthbeplmihjhoeaaDoorW.PrintWords
namespace Go.Proofs.YthbeplmihjhoeaaDoorW.PrintLast
section
variable {ops : Array Oper} {a : Act} {o og : Oper} {g : Nat} {t : Tmp} {u : Bool}
end
end Go.Proofs.YthbeplmihjhoeaaDoorW.PrintLast

