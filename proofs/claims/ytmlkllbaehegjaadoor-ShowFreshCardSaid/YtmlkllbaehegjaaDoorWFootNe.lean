-- Words of the print, cut by wip/prt/prune.py to what this claim names.
import Derived.Test.YtmlkllbaehegjaaDoorWN
namespace Go.Proofs.YtmlkllbaehegjaaDoorW.PrintWords
open Go.RowKit
namespace Kd
section
variable {α : Type} {d : Kd α} {W : World} {g n : Nat} {S ok : Nat → Prop} {A : Option Addr} {ad : Addr} {xs : List α}
end
end Kd
end Go.Proofs.YtmlkllbaehegjaaDoorW.PrintWords
