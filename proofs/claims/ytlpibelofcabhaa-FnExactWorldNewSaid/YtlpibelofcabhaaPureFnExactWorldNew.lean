/- The plain law of FnExactWorldNew: for every input that fits, what the printed functions reckon is true. No condition but the row's own. -/
import Derived.Test.YtlpibelofcabhaaPFnExactWorldNewx6
namespace Go.Proofs.Ytlpibelofcabhaa.Pure
open Go.RowKit Go.Proofs.Ytlpibelofcabhaa.PFnExactWorldNew Go.Proofs.YtlpibelofcabhaaW.PrintWords Go.Proofs.YtlpibelofcabhaaW.PrintLast Go.Proofs.YtlpibelofcabhaaW.PrintMore Go.Proofs.Ytlpibelofcabhaa.Lm
set_option linter.unusedVariables false
set_option linter.unusedSimpArgs false

theorem FnExactWorldNew : laws_FnExactWorldNew.Pure := ⟨10, by decide +kernel⟩

end Go.Proofs.Ytlpibelofcabhaa.Pure
