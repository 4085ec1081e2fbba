-- Words of the print, cut by wip/prt/prune.py to what this claim names.
import Derived.Test.YtmlkllbaehegjaaDoorWInv
import Derived.Test.YtmlkllbaehegjaaDoorWFootNe
namespace Go.Proofs.YtmlkllbaehegjaaDoorW.PrintWords
open Go.RowKit
end Go.Proofs.YtmlkllbaehegjaaDoorW.PrintWords
namespace Go.Proofs.YtmlkllbaehegjaaDoorW.PrintLast
section
variable {ops : Array Oper} {a : Act} {o og : Oper} {g : Nat} {t : Tmp} {u : Bool}
end
end Go.Proofs.YtmlkllbaehegjaaDoorW.PrintLast
