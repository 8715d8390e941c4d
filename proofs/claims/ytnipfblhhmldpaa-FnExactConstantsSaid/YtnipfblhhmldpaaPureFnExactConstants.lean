/- The constants of the program are those of the document. The plain part: what the printed functions compute answers true. Conditions: the argument fits the machine, as the row says. -/
import Derived.Test.YtnipfblhhmldpaaPFnExactConstantsx0
import Derived.Test.YtnipfblhhmldpaaPFnExactConstantsx1
import Derived.Test.YtnipfblhhmldpaaPlain
namespace Go.Proofs.Ytnipfblhhmldpaa.Pure
open Go.RowKit Go.Proofs.Ytnipfblhhmldpaa.PFnExactConstants Go.Proofs.YtnipfblhhmldpaaW.PrintWords Go.Proofs.YtnipfblhhmldpaaW.PrintLast Go.Proofs.YtnipfblhhmldpaaW.PrintMore Go.Proofs.YtnipfblhhmldpaaE
set_option linter.unusedVariables false
set_option linter.unusedSimpArgs false

theorem FnExactConstants : laws_FnExactConstants.Pure := rfl

end Go.Proofs.Ytnipfblhhmldpaa.Pure
