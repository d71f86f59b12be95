/- The chapter's examples of the two lists have the results given there: LruKnown returns true. -/
import Derived.Test.YtaofihdmgdpenaaX71
namespace Go.Proofs.Ytaofihdmgdpenaa.Pure
open Go.RowKit Go.Proofs.Ytaofihdmgdpenaa.X Go.Proofs.YtaofihdmgdpenaaW.PrintWords Go.Proofs.YtaofihdmgdpenaaW.PrintLast
set_option linter.unusedVariables false
set_option linter.unusedSimpArgs false

theorem LruKnown : headgatelaw07_LruKnown.Pure := rfl

end Go.Proofs.Ytaofihdmgdpenaa.Pure
