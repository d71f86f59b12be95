/- The chapter's examples of zones have the results given there: ZoneKnown returns true. -/
import Derived.Test.YtofonnfkffbjkaaX19
namespace Go.Proofs.Ytofonnfkffbjkaa.Pure
open Go.RowKit Go.Proofs.Ytofonnfkffbjkaa.X Go.Proofs.YtofonnfkffbjkaaW.PrintWords Go.Proofs.YtofonnfkffbjkaaW.PrintLast

theorem ZoneKnown : headgatelaw10_ZoneKnown.Pure := ⟨40, by decide +kernel⟩

end Go.Proofs.Ytofonnfkffbjkaa.Pure
