/- The chapter's examples of slots have the results given there: SlotsKnown returns true. -/
import Derived.Test.YtofonnfkffbjkaaX14
namespace Go.Proofs.Ytofonnfkffbjkaa.Pure
open Go.RowKit Go.Proofs.Ytofonnfkffbjkaa.X Go.Proofs.YtofonnfkffbjkaaW.PrintWords Go.Proofs.YtofonnfkffbjkaaW.PrintLast

theorem SlotsKnown : headgatelaw18_SlotsKnown.Pure := rfl

end Go.Proofs.Ytofonnfkffbjkaa.Pure
