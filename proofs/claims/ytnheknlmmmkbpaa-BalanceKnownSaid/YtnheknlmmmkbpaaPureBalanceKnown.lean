/- The chapter's examples of ratios, targets, parts and steps have the results given there: BalanceKnown returns true. -/
import Derived.Test.YtnheknlmmmkbpaaX66
namespace Go.Proofs.Ytnheknlmmmkbpaa.Pure
open Go.RowKit Go.Proofs.Ytnheknlmmmkbpaa.X Go.Proofs.YtnheknlmmmkbpaaW.PrintWords Go.Proofs.YtnheknlmmmkbpaaW.PrintLast
set_option linter.unusedVariables false
set_option linter.unusedSimpArgs false

theorem BalanceKnown : headgatelaw31_BalanceKnown.Pure := rfl

end Go.Proofs.Ytnheknlmmmkbpaa.Pure
