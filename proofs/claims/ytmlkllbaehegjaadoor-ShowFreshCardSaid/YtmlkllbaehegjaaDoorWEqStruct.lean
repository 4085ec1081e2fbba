-- Words of the print, cut by wip/prt/prune.py to what this claim names.
import Derived.Test.YtmlkllbaehegjaaDoorWWords
import Derived.Laws.StructEq
namespace Go.Proofs.YtmlkllbaehegjaaDoorW.PrintWords
open Go.RowKit
section
variable {P : Program} {d : Nat} {xs ys : Array Value} {f : Field} {fs : List Field} {a b : Value} {r s : Bool} {w : World}
end
end Go.Proofs.YtmlkllbaehegjaaDoorW.PrintWords
