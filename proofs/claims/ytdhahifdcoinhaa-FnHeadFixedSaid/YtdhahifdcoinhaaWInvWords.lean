-- WRITTEN BY a turned print (wip/tools of the prover's repo)
import Derived.Test.YtdhahifdcoinhaaWInv
import Derived.Test.YtdhahifdcoinhaaWFootNe
namespace Go.Proofs.YtdhahifdcoinhaaW.PrintWords
open Go.RowKit
end Go.Proofs.YtdhahifdcoinhaaW.PrintWords
namespace Go.Proofs.YtdhahifdcoinhaaW.PrintLast
section
variable {ops : Array Oper} {a : Act} {o og : Oper} {g : Nat} {t : Tmp} {u : Bool}
end
end Go.Proofs.YtdhahifdcoinhaaW.PrintLast
