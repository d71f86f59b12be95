/-
  No cell of these rows narrows 'for every input' (looked for: loops, veiled, ifaces, maps, wideKeys, modest, calm, conditions, laid).
  DERIVED. THE GIVEN ROWS OF THIS SEAT. 6 by the template 'for every input the law returns true; each argument reads behind the call as it read before'; 0 by the template 'total and deterministic' (their statements: YtnheknlmmmkbpaaTotals.lean).
  GIVEN WITH THE SEED: the statements are not yours to turn. If you find one false, say at which input.
  Laid BY PROGRAM, IN A SANDBOX (cutbox-rows.mjs): the forced cells as the released guide's own fill.sh prints them over the translation 33c936dc6f028093… (all of the seat's roots in one cut). By AI agents, Wed Nov 11 2026. No macro, syntax, notation, axiom, sorry.
-/
import Derived.Test.YtnheknlmmmkbpaaChecked
import GoSem.Claim
import GoSem.ClaimJoined
import GoSem.ClaimMapViews
import Derived.JoinedTies
import Derived.KernelRfl
namespace Go.Proofs.Ytnheknlmmmkbpaa
/- THE CELL 'sum', in the pinned program and in every row, IS THE sha256 OF THE DUMP (.gsa) THAT YtnheknlmmmkbpaaProg.lean LOADS. Nothing in Lean hashes anything: it is a label: what it is worth is what the hold of that sum in a sandbox is worth. -/
noncomputable def Try.pinned : Pinned := { name := "ytnheknlmmmkbpaa", sum := "33c936dc6f0280934f6a7db6264be041a7af2f52432f87f3d7431c5c103bf40c", checked := Try.checked }
namespace Rows
def none {H : Type} : Left H := { results := [], args := [] }

/-- 'headgatelaw31.BalanceGrows': WHATEVER THE INPUT: true; the input reads as it did. -/
def balanceGrowsSpec : ChangeSpec := { name := "balanceGrows", fn := fun _ => fun
  | [d] => { results := [.lit (.bool true)], args := [d] }
  | _ => none }
def balanceGrowsRow : OpenClaim := { program := "ytnheknlmmmkbpaa", sum := "33c936dc6f0280934f6a7db6264be041a7af2f52432f87f3d7431c5c103bf40c", func := "headgate/headgatelaw31.BalanceGrows", spec := "balanceGrows", apart := false }
def BalanceGrowsSaid : Prop := balanceGrowsRow.holds Try.pinned (OpenSpec.ofChange balanceGrowsSpec)

/-- ITS FALSE NEIGHBOUR: 'it returns false'. Refute it at one input. -/
def balanceGrowsWrong : ChangeSpec := { name := "balanceGrows", fn := fun _ => fun
  | [d] => { results := [.lit (.bool false)], args := [d] }
  | _ => none }
def BalanceGrowsWrongFalsely : Prop := balanceGrowsRow.holds Try.pinned (OpenSpec.ofChange balanceGrowsWrong)

/-- 'headgatelaw31.BalanceParts': WHATEVER THE INPUT: true; the input reads as it did. -/
def balancePartsSpec : ChangeSpec := { name := "balanceParts", fn := fun _ => fun
  | [d1, d2, d3] => { results := [.lit (.bool true)], args := [d1, d2, d3] }
  | _ => none }
def balancePartsRow : OpenClaim := { program := "ytnheknlmmmkbpaa", sum := "33c936dc6f0280934f6a7db6264be041a7af2f52432f87f3d7431c5c103bf40c", func := "headgate/headgatelaw31.BalanceParts", spec := "balanceParts", apart := false }
def BalancePartsSaid : Prop := balancePartsRow.holds Try.pinned (OpenSpec.ofChange balancePartsSpec)

/-- ITS FALSE NEIGHBOUR: 'it returns false'. Refute it at one input. -/
def balancePartsWrong : ChangeSpec := { name := "balanceParts", fn := fun _ => fun
  | [d1, d2, d3] => { results := [.lit (.bool false)], args := [d1, d2, d3] }
  | _ => none }
def BalancePartsWrongFalsely : Prop := balancePartsRow.holds Try.pinned (OpenSpec.ofChange balancePartsWrong)

/-- 'headgatelaw31.BalanceNumbers': WHATEVER THE INPUT: true; the input reads as it did. -/
def balanceNumbersSpec : ChangeSpec := { name := "balanceNumbers", fn := fun _ => fun
  | [d1, d2, d3] => { results := [.lit (.bool true)], args := [d1, d2, d3] }
  | _ => none }
def balanceNumbersRow : OpenClaim := { program := "ytnheknlmmmkbpaa", sum := "33c936dc6f0280934f6a7db6264be041a7af2f52432f87f3d7431c5c103bf40c", func := "headgate/headgatelaw31.BalanceNumbers", spec := "balanceNumbers", apart := false }
def BalanceNumbersSaid : Prop := balanceNumbersRow.holds Try.pinned (OpenSpec.ofChange balanceNumbersSpec)

/-- ITS FALSE NEIGHBOUR: 'it returns false'. Refute it at one input. -/
def balanceNumbersWrong : ChangeSpec := { name := "balanceNumbers", fn := fun _ => fun
  | [d1, d2, d3] => { results := [.lit (.bool false)], args := [d1, d2, d3] }
  | _ => none }
def BalanceNumbersWrongFalsely : Prop := balanceNumbersRow.holds Try.pinned (OpenSpec.ofChange balanceNumbersWrong)

/-- 'headgatelaw31.BalanceEnds': WHATEVER THE INPUT: true; the input reads as it did. -/
def balanceEndsSpec : ChangeSpec := { name := "balanceEnds", fn := fun _ => fun
  | [d] => { results := [.lit (.bool true)], args := [d] }
  | _ => none }
def balanceEndsRow : OpenClaim := { program := "ytnheknlmmmkbpaa", sum := "33c936dc6f0280934f6a7db6264be041a7af2f52432f87f3d7431c5c103bf40c", func := "headgate/headgatelaw31.BalanceEnds", spec := "balanceEnds", inPlace := ["slices.overlaps[int]"], unfollowed := true, recurses := true, apart := false }
def BalanceEndsSaid : Prop := balanceEndsRow.holds Try.pinned (OpenSpec.ofChange balanceEndsSpec)

/-- ITS FALSE NEIGHBOUR: 'it returns false'. Refute it at one input. -/
def balanceEndsWrong : ChangeSpec := { name := "balanceEnds", fn := fun _ => fun
  | [d] => { results := [.lit (.bool false)], args := [d] }
  | _ => none }
def BalanceEndsWrongFalsely : Prop := balanceEndsRow.holds Try.pinned (OpenSpec.ofChange balanceEndsWrong)

/-- 'headgatelaw31.BalanceWhich': WHATEVER THE INPUT: true; the input reads as it did. -/
def balanceWhichSpec : ChangeSpec := { name := "balanceWhich", fn := fun _ => fun
  | [d] => { results := [.lit (.bool true)], args := [d] }
  | _ => none }
def balanceWhichRow : OpenClaim := { program := "ytnheknlmmmkbpaa", sum := "33c936dc6f0280934f6a7db6264be041a7af2f52432f87f3d7431c5c103bf40c", func := "headgate/headgatelaw31.BalanceWhich", spec := "balanceWhich", inPlace := ["slices.overlaps[int]"], unfollowed := true, recurses := true, apart := false }
def BalanceWhichSaid : Prop := balanceWhichRow.holds Try.pinned (OpenSpec.ofChange balanceWhichSpec)

/-- ITS FALSE NEIGHBOUR: 'it returns false'. Refute it at one input. -/
def balanceWhichWrong : ChangeSpec := { name := "balanceWhich", fn := fun _ => fun
  | [d] => { results := [.lit (.bool false)], args := [d] }
  | _ => none }
def BalanceWhichWrongFalsely : Prop := balanceWhichRow.holds Try.pinned (OpenSpec.ofChange balanceWhichWrong)

/-- 'headgatelaw31.BalanceKnown': WHATEVER THE INPUT: true; the input reads as it did. -/
def balanceKnownSpec : ChangeSpec := { name := "balanceKnown", fn := fun _ => fun
  | [] => { results := [.lit (.bool true)], args := [] }
  | _ => none }
def balanceKnownRow : OpenClaim := { program := "ytnheknlmmmkbpaa", sum := "33c936dc6f0280934f6a7db6264be041a7af2f52432f87f3d7431c5c103bf40c", func := "headgate/headgatelaw31.BalanceKnown", spec := "balanceKnown", inPlace := ["slices.overlaps[int]"], unfollowed := true, recurses := true, apart := false }
def BalanceKnownSaid : Prop := balanceKnownRow.holds Try.pinned (OpenSpec.ofChange balanceKnownSpec)

/-- ITS FALSE NEIGHBOUR: 'it returns false'. Refute it at one input. -/
def balanceKnownWrong : ChangeSpec := { name := "balanceKnown", fn := fun _ => fun
  | [] => { results := [.lit (.bool false)], args := [] }
  | _ => none }
def BalanceKnownWrongFalsely : Prop := balanceKnownRow.holds Try.pinned (OpenSpec.ofChange balanceKnownWrong)

/- THE SECOND FORM. 'bulk': how many values and letters a reading holds, each counted each time it is reached (what is shared counts as often as it is met; a slice's spare places count too). A statement '..UptoSaid' is the law's where the arguments, and the package variables that the reading takes, are together of bulk at most 1048576: NARROWER than '..Said'. Prove '..Said' where nothing that the law and all that it calls make is longer than what came in: it says more and counts as full. Else prove '..UptoSaid'. A law counts once. -/
mutual
def uptoBulk {H : Type} : DataW H → Nat
  | .lit (.string bytes) => bytes.length + 1
  | .lit _ => 1
  | .nil => 1
  | .ptr d => uptoBulk d + 1
  | .slice elems spare => uptoBulkAll elems + uptoBulkAll spare + 1
  | .agg parts => uptoBulkAll parts + 1
  | .iface _ d => uptoBulk d + 1
  | .map entries => uptoBulkEntries entries + 1
  | .held _ => 1
def uptoBulkAll {H : Type} : List (DataW H) → Nat
  | [] => 0
  | d :: r => uptoBulk d + uptoBulkAll r
def uptoBulkEntries {H : Type} : List (Lit × DataW H) → Nat
  | [] => 0
  | x :: r => uptoBulkEntry x + uptoBulkEntries r
def uptoBulkEntry {H : Type} : Lit × DataW H → Nat
  | (.string bytes, d) => bytes.length + uptoBulk d + 1
  | (_, d) => uptoBulk d + 1
 end
def uptoSmall : (H : Type) → List (DataW H) → Bool := fun _ ds => decide (uptoBulkAll ds ≤ 1048576)
def OpenSpec.upto (s : _root_.Go.ChangeSpec) : _root_.Go.OpenSpec := { _root_.Go.OpenSpec.ofChange s with cond := some uptoSmall }

/-- 'headgatelaw31.BalanceGrows', WHERE WHAT IT READS IS OF BULK AT MOST 1048576: true; the input reads as it did. -/
def balanceGrowsUptoRow : OpenClaim := { program := "ytnheknlmmmkbpaa", sum := "33c936dc6f0280934f6a7db6264be041a7af2f52432f87f3d7431c5c103bf40c", func := "headgate/headgatelaw31.BalanceGrows", spec := "balanceGrows", apart := false, narrowed := true }
def BalanceGrowsUptoSaid : Prop := balanceGrowsUptoRow.holds Try.pinned (OpenSpec.upto balanceGrowsSpec)

/-- 'headgatelaw31.BalanceParts', WHERE WHAT IT READS IS OF BULK AT MOST 1048576: true; the input reads as it did. -/
def balancePartsUptoRow : OpenClaim := { program := "ytnheknlmmmkbpaa", sum := "33c936dc6f0280934f6a7db6264be041a7af2f52432f87f3d7431c5c103bf40c", func := "headgate/headgatelaw31.BalanceParts", spec := "balanceParts", apart := false, narrowed := true }
def BalancePartsUptoSaid : Prop := balancePartsUptoRow.holds Try.pinned (OpenSpec.upto balancePartsSpec)

/-- 'headgatelaw31.BalanceNumbers', WHERE WHAT IT READS IS OF BULK AT MOST 1048576: true; the input reads as it did. -/
def balanceNumbersUptoRow : OpenClaim := { program := "ytnheknlmmmkbpaa", sum := "33c936dc6f0280934f6a7db6264be041a7af2f52432f87f3d7431c5c103bf40c", func := "headgate/headgatelaw31.BalanceNumbers", spec := "balanceNumbers", apart := false, narrowed := true }
def BalanceNumbersUptoSaid : Prop := balanceNumbersUptoRow.holds Try.pinned (OpenSpec.upto balanceNumbersSpec)

/-- 'headgatelaw31.BalanceEnds', WHERE WHAT IT READS IS OF BULK AT MOST 1048576: true; the input reads as it did. -/
def balanceEndsUptoRow : OpenClaim := { program := "ytnheknlmmmkbpaa", sum := "33c936dc6f0280934f6a7db6264be041a7af2f52432f87f3d7431c5c103bf40c", func := "headgate/headgatelaw31.BalanceEnds", spec := "balanceEnds", inPlace := ["slices.overlaps[int]"], unfollowed := true, recurses := true, apart := false, narrowed := true }
def BalanceEndsUptoSaid : Prop := balanceEndsUptoRow.holds Try.pinned (OpenSpec.upto balanceEndsSpec)

/-- 'headgatelaw31.BalanceWhich', WHERE WHAT IT READS IS OF BULK AT MOST 1048576: true; the input reads as it did. -/
def balanceWhichUptoRow : OpenClaim := { program := "ytnheknlmmmkbpaa", sum := "33c936dc6f0280934f6a7db6264be041a7af2f52432f87f3d7431c5c103bf40c", func := "headgate/headgatelaw31.BalanceWhich", spec := "balanceWhich", inPlace := ["slices.overlaps[int]"], unfollowed := true, recurses := true, apart := false, narrowed := true }
def BalanceWhichUptoSaid : Prop := balanceWhichUptoRow.holds Try.pinned (OpenSpec.upto balanceWhichSpec)

/-- 'headgatelaw31.BalanceKnown', WHERE WHAT IT READS IS OF BULK AT MOST 1048576: true; the input reads as it did. -/
def balanceKnownUptoRow : OpenClaim := { program := "ytnheknlmmmkbpaa", sum := "33c936dc6f0280934f6a7db6264be041a7af2f52432f87f3d7431c5c103bf40c", func := "headgate/headgatelaw31.BalanceKnown", spec := "balanceKnown", inPlace := ["slices.overlaps[int]"], unfollowed := true, recurses := true, apart := false, narrowed := true }
def BalanceKnownUptoSaid : Prop := balanceKnownUptoRow.holds Try.pinned (OpenSpec.upto balanceKnownSpec)

end Rows
end Go.Proofs.Ytnheknlmmmkbpaa
