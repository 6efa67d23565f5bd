-- WRITTEN BY a turned print (wip/tools of the prover's repo)
import Derived.Test.YtdhahifdcoinhaaWTab
namespace Go.Proofs.YtdhahifdcoinhaaW.PrintLast
section
variable {P : Program} {ops : Array Oper} {Q : Exit → Act → World → Prop} {md : Region.Mode} {S : World → Prop} {ds : List Nat} {T : Bool × List (List Nat × List Nat)}
end
end Go.Proofs.YtdhahifdcoinhaaW.PrintLast
