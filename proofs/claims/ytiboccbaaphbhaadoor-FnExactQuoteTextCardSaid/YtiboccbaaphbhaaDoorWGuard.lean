-- the kit's words for this seat, as its print.sh lays them, with what this seat's texts do not name left out by wip/tools/prune.py
import Derived.Test.YtiboccbaaphbhaaDoorWWords
namespace Go.Proofs.YtiboccbaaphbhaaDoorW.PrintWords
open Go.RowKit
section
variable {P : Program} {ops : Array Oper} {rest : List Oper} {o : Oper} {a : Act} {Q : Exit → Act → World → Prop} {W : World}
end
end Go.Proofs.YtiboccbaaphbhaaDoorW.PrintWords

