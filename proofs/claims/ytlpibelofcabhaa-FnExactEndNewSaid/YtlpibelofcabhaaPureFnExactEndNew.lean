/- The plain law of FnExactEndNew: for every input that fits, what the printed functions reckon is true. No condition but the row's own. -/
import Derived.Test.YtlpibelofcabhaaPFnExactEndNewx5
namespace Go.Proofs.Ytlpibelofcabhaa.Pure
open Go.RowKit Go.Proofs.Ytlpibelofcabhaa.PFnExactEndNew Go.Proofs.YtlpibelofcabhaaW.PrintWords Go.Proofs.YtlpibelofcabhaaW.PrintLast Go.Proofs.YtlpibelofcabhaaW.PrintMore Go.Proofs.Ytlpibelofcabhaa.Lm
set_option linter.unusedVariables false
set_option linter.unusedSimpArgs false

theorem FnExactEndNew : laws_FnExactEndNew.Pure := fun a0 => ⟨10, by cases a0 <;> decide +kernel⟩

end Go.Proofs.Ytlpibelofcabhaa.Pure
