/- The plain law of FnAddTwo: for every input that fits, what the printed functions reckon is true. No condition but the row's own. -/
import Derived.Test.YtdhahifdcoinhaaPFnAddTwox8
namespace Go.Proofs.Ytdhahifdcoinhaa.Pure
open Go.RowKit Go.Proofs.Ytdhahifdcoinhaa.PFnAddTwo Go.Proofs.YtdhahifdcoinhaaW.PrintWords Go.Proofs.YtdhahifdcoinhaaW.PrintLast Go.Proofs.YtdhahifdcoinhaaW.PrintMore Go.Proofs.Ytdhahifdcoinhaa.Lm
set_option linter.unusedVariables false
set_option linter.unusedSimpArgs false


end Go.Proofs.Ytdhahifdcoinhaa.Pure
