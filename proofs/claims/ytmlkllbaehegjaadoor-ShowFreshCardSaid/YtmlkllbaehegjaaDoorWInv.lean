-- Words of the print, cut by wip/prt/prune.py to what this claim names.
import Derived.Test.YtmlkllbaehegjaaDoorWTab
namespace Go.Proofs.YtmlkllbaehegjaaDoorW.PrintLast
section
variable {P : Program} {ops : Array Oper} {Q : Exit → Act → World → Prop} {md : Region.Mode} {T : Bool × List (List Nat × List Nat)} {B : List Nat} {O : List Nat} {b : Nat → Bool} {i j n : Nat}
end
end Go.Proofs.YtmlkllbaehegjaaDoorW.PrintLast
