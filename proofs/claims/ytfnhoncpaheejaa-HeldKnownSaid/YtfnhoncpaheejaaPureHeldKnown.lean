/- The chapter's examples of the writes under way have the results given there: HeldKnown returns true. -/
import Derived.Test.YtfnhoncpaheejaaX70
namespace Go.Proofs.Ytfnhoncpaheejaa.Pure
open Go.RowKit Go.Proofs.Ytfnhoncpaheejaa.X Go.Proofs.YtfnhoncpaheejaaW.PrintWords Go.Proofs.YtfnhoncpaheejaaW.PrintLast
set_option linter.unusedVariables false
set_option linter.unusedSimpArgs false

theorem HeldKnown : headgatelaw19_HeldKnown.Pure := rfl

end Go.Proofs.Ytfnhoncpaheejaa.Pure
