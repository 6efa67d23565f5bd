-- WRITTEN BY a turned print (wip/tools of the prover's repo)
import Derived.Test.YtlpibelofcabhaaWInv
import Derived.Test.YtlpibelofcabhaaWFootNe
namespace Go.Proofs.YtlpibelofcabhaaW.PrintWords
open Go.RowKit
end Go.Proofs.YtlpibelofcabhaaW.PrintWords
namespace Go.Proofs.YtlpibelofcabhaaW.PrintLast
section
variable {ops : Array Oper} {a : Act} {o og : Oper} {g : Nat} {t : Tmp} {u : Bool}
end
end Go.Proofs.YtlpibelofcabhaaW.PrintLast
