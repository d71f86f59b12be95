/-
  No cell of these rows narrows 'for every input' (looked for: loops, veiled, ifaces, maps, wideKeys, modest, calm, conditions, laid).
  DERIVED. THE GIVEN ROWS OF THIS SEAT. 6 by the template 'for every input the law returns true; each argument reads behind the call as it read before'; 0 by the template 'total and deterministic' (their statements: YtfnhoncpaheejaaTotals.lean).
  GIVEN WITH THE SEED: the statements are not yours to turn. If you find one false, say at which input.
  Laid BY PROGRAM, IN A SANDBOX (cutbox-rows.mjs): the forced cells as the released guide's own fill.sh prints them over the translation 2045ca1ee0818f53… (all of the seat's roots in one cut). By AI agents, Wed Nov 11 2026. No macro, syntax, notation, axiom, sorry.
-/
import Derived.Test.YtfnhoncpaheejaaChecked
import GoSem.Claim
import GoSem.ClaimJoined
import GoSem.ClaimMapViews
import Derived.JoinedTies
import Derived.KernelRfl
namespace Go.Proofs.Ytfnhoncpaheejaa
/- THE CELL 'sum', in the pinned program and in every row, IS THE sha256 OF THE DUMP (.gsa) THAT YtfnhoncpaheejaaProg.lean LOADS. Nothing in Lean hashes anything: it is a label: what it is worth is what the hold of that sum in a sandbox is worth. -/
noncomputable def Try.pinned : Pinned := { name := "ytfnhoncpaheejaa", sum := "2045ca1ee0818f53b6ba97df9671bd8d8ee3ce6fa79f514263756e27b276aa3a", checked := Try.checked }
namespace Rows
def none {H : Type} : Left H := { results := [], args := [] }

/-- 'headgatelaw19.HeldOne': WHATEVER THE INPUT: true; the input reads as it did. -/
def heldOneSpec : ChangeSpec := { name := "heldOne", fn := fun _ => fun
  | [d1, d2, d3] => { results := [.lit (.bool true)], args := [d1, d2, d3] }
  | _ => none }
def heldOneRow : OpenClaim := { program := "ytfnhoncpaheejaa", sum := "2045ca1ee0818f53b6ba97df9671bd8d8ee3ce6fa79f514263756e27b276aa3a", func := "headgate/headgatelaw19.HeldOne", spec := "heldOne", plainKeys := false, apart := false }
def HeldOneSaid : Prop := heldOneRow.holds Try.pinned (OpenSpec.ofChange heldOneSpec)

/-- ITS FALSE NEIGHBOUR: 'it returns false'. Refute it at one input. -/
def heldOneWrong : ChangeSpec := { name := "heldOne", fn := fun _ => fun
  | [d1, d2, d3] => { results := [.lit (.bool false)], args := [d1, d2, d3] }
  | _ => none }
def HeldOneWrongFalsely : Prop := heldOneRow.holds Try.pinned (OpenSpec.ofChange heldOneWrong)

/-- 'headgatelaw19.HeldOrder': WHATEVER THE INPUT: true; the input reads as it did. -/
def heldOrderSpec : ChangeSpec := { name := "heldOrder", fn := fun _ => fun
  | [d1, d2, d3] => { results := [.lit (.bool true)], args := [d1, d2, d3] }
  | _ => none }
def heldOrderRow : OpenClaim := { program := "ytfnhoncpaheejaa", sum := "2045ca1ee0818f53b6ba97df9671bd8d8ee3ce6fa79f514263756e27b276aa3a", func := "headgate/headgatelaw19.HeldOrder", spec := "heldOrder", plainKeys := false, apart := false }
def HeldOrderSaid : Prop := heldOrderRow.holds Try.pinned (OpenSpec.ofChange heldOrderSpec)

/-- ITS FALSE NEIGHBOUR: 'it returns false'. Refute it at one input. -/
def heldOrderWrong : ChangeSpec := { name := "heldOrder", fn := fun _ => fun
  | [d1, d2, d3] => { results := [.lit (.bool false)], args := [d1, d2, d3] }
  | _ => none }
def HeldOrderWrongFalsely : Prop := heldOrderRow.holds Try.pinned (OpenSpec.ofChange heldOrderWrong)

/-- 'headgatelaw19.HeldChanges': WHATEVER THE INPUT: true; the input reads as it did. -/
def heldChangesSpec : ChangeSpec := { name := "heldChanges", fn := fun _ => fun
  | [d1, d2, d3] => { results := [.lit (.bool true)], args := [d1, d2, d3] }
  | _ => none }
def heldChangesRow : OpenClaim := { program := "ytfnhoncpaheejaa", sum := "2045ca1ee0818f53b6ba97df9671bd8d8ee3ce6fa79f514263756e27b276aa3a", func := "headgate/headgatelaw19.HeldChanges", spec := "heldChanges", plainKeys := false, apart := false }
def HeldChangesSaid : Prop := heldChangesRow.holds Try.pinned (OpenSpec.ofChange heldChangesSpec)

/-- ITS FALSE NEIGHBOUR: 'it returns false'. Refute it at one input. -/
def heldChangesWrong : ChangeSpec := { name := "heldChanges", fn := fun _ => fun
  | [d1, d2, d3] => { results := [.lit (.bool false)], args := [d1, d2, d3] }
  | _ => none }
def HeldChangesWrongFalsely : Prop := heldChangesRow.holds Try.pinned (OpenSpec.ofChange heldChangesWrong)

/-- 'headgatelaw19.HeldUndo': WHATEVER THE INPUT: true; the input reads as it did. -/
def heldUndoSpec : ChangeSpec := { name := "heldUndo", fn := fun _ => fun
  | [d1, d2, d3] => { results := [.lit (.bool true)], args := [d1, d2, d3] }
  | _ => none }
def heldUndoRow : OpenClaim := { program := "ytfnhoncpaheejaa", sum := "2045ca1ee0818f53b6ba97df9671bd8d8ee3ce6fa79f514263756e27b276aa3a", func := "headgate/headgatelaw19.HeldUndo", spec := "heldUndo", plainKeys := false, apart := false }
def HeldUndoSaid : Prop := heldUndoRow.holds Try.pinned (OpenSpec.ofChange heldUndoSpec)

/-- ITS FALSE NEIGHBOUR: 'it returns false'. Refute it at one input. -/
def heldUndoWrong : ChangeSpec := { name := "heldUndo", fn := fun _ => fun
  | [d1, d2, d3] => { results := [.lit (.bool false)], args := [d1, d2, d3] }
  | _ => none }
def HeldUndoWrongFalsely : Prop := heldUndoRow.holds Try.pinned (OpenSpec.ofChange heldUndoWrong)

/-- 'headgatelaw19.HeldClaims': WHATEVER THE INPUT: true; the input reads as it did. -/
def heldClaimsSpec : ChangeSpec := { name := "heldClaims", fn := fun _ => fun
  | [d1, d2, d3] => { results := [.lit (.bool true)], args := [d1, d2, d3] }
  | _ => none }
def heldClaimsRow : OpenClaim := { program := "ytfnhoncpaheejaa", sum := "2045ca1ee0818f53b6ba97df9671bd8d8ee3ce6fa79f514263756e27b276aa3a", func := "headgate/headgatelaw19.HeldClaims", spec := "heldClaims", unfollowed := true, recurses := true, plainKeys := false, apart := false }
def HeldClaimsSaid : Prop := heldClaimsRow.holds Try.pinned (OpenSpec.ofChange heldClaimsSpec)

/-- ITS FALSE NEIGHBOUR: 'it returns false'. Refute it at one input. -/
def heldClaimsWrong : ChangeSpec := { name := "heldClaims", fn := fun _ => fun
  | [d1, d2, d3] => { results := [.lit (.bool false)], args := [d1, d2, d3] }
  | _ => none }
def HeldClaimsWrongFalsely : Prop := heldClaimsRow.holds Try.pinned (OpenSpec.ofChange heldClaimsWrong)

/-- 'headgatelaw19.HeldKnown': WHATEVER THE INPUT: true; the input reads as it did. -/
def heldKnownSpec : ChangeSpec := { name := "heldKnown", fn := fun _ => fun
  | [] => { results := [.lit (.bool true)], args := [] }
  | _ => none }
def heldKnownRow : OpenClaim := { program := "ytfnhoncpaheejaa", sum := "2045ca1ee0818f53b6ba97df9671bd8d8ee3ce6fa79f514263756e27b276aa3a", func := "headgate/headgatelaw19.HeldKnown", spec := "heldKnown", unfollowed := true, recurses := true, plainKeys := false, apart := false }
def HeldKnownSaid : Prop := heldKnownRow.holds Try.pinned (OpenSpec.ofChange heldKnownSpec)

/-- ITS FALSE NEIGHBOUR: 'it returns false'. Refute it at one input. -/
def heldKnownWrong : ChangeSpec := { name := "heldKnown", fn := fun _ => fun
  | [] => { results := [.lit (.bool false)], args := [] }
  | _ => none }
def HeldKnownWrongFalsely : Prop := heldKnownRow.holds Try.pinned (OpenSpec.ofChange heldKnownWrong)

/- THE SECOND FORM. 'bulk': how many values and letters a reading holds, each counted each time it is reached (what is shared counts as often as it is met; a slice's spare places count too). A statement '..UptoSaid' is the law's where the arguments, and the package variables that the reading takes, are together of bulk at most 1048576: NARROWER than '..Said'. Prove '..Said' where nothing that the law and all that it calls make is longer than what came in: it says more and counts as full. Else prove '..UptoSaid'. A law counts once. -/
mutual
def uptoBulk {H : Type} : DataW H → Nat
  | .lit (.string bytes) => bytes.length + 1
  | .lit _ => 1
  | .nil => 1
  | .ptr d => uptoBulk d + 1
  | .slice elems spare => uptoBulkAll elems + uptoBulkAll spare + 1
  | .agg parts => uptoBulkAll parts + 1
  | .iface _ d => uptoBulk d + 1
  | .map entries => uptoBulkEntries entries + 1
  | .held _ => 1
def uptoBulkAll {H : Type} : List (DataW H) → Nat
  | [] => 0
  | d :: r => uptoBulk d + uptoBulkAll r
def uptoBulkEntries {H : Type} : List (Lit × DataW H) → Nat
  | [] => 0
  | x :: r => uptoBulkEntry x + uptoBulkEntries r
def uptoBulkEntry {H : Type} : Lit × DataW H → Nat
  | (.string bytes, d) => bytes.length + uptoBulk d + 1
  | (_, d) => uptoBulk d + 1
 end
def uptoSmall : (H : Type) → List (DataW H) → Bool := fun _ ds => decide (uptoBulkAll ds ≤ 1048576)
def OpenSpec.upto (s : _root_.Go.ChangeSpec) : _root_.Go.OpenSpec := { _root_.Go.OpenSpec.ofChange s with cond := some uptoSmall }

/-- 'headgatelaw19.HeldOne', WHERE WHAT IT READS IS OF BULK AT MOST 1048576: true; the input reads as it did. -/
def heldOneUptoRow : OpenClaim := { program := "ytfnhoncpaheejaa", sum := "2045ca1ee0818f53b6ba97df9671bd8d8ee3ce6fa79f514263756e27b276aa3a", func := "headgate/headgatelaw19.HeldOne", spec := "heldOne", plainKeys := false, apart := false, narrowed := true }
def HeldOneUptoSaid : Prop := heldOneUptoRow.holds Try.pinned (OpenSpec.upto heldOneSpec)

/-- 'headgatelaw19.HeldOrder', WHERE WHAT IT READS IS OF BULK AT MOST 1048576: true; the input reads as it did. -/
def heldOrderUptoRow : OpenClaim := { program := "ytfnhoncpaheejaa", sum := "2045ca1ee0818f53b6ba97df9671bd8d8ee3ce6fa79f514263756e27b276aa3a", func := "headgate/headgatelaw19.HeldOrder", spec := "heldOrder", plainKeys := false, apart := false, narrowed := true }
def HeldOrderUptoSaid : Prop := heldOrderUptoRow.holds Try.pinned (OpenSpec.upto heldOrderSpec)

/-- 'headgatelaw19.HeldChanges', WHERE WHAT IT READS IS OF BULK AT MOST 1048576: true; the input reads as it did. -/
def heldChangesUptoRow : OpenClaim := { program := "ytfnhoncpaheejaa", sum := "2045ca1ee0818f53b6ba97df9671bd8d8ee3ce6fa79f514263756e27b276aa3a", func := "headgate/headgatelaw19.HeldChanges", spec := "heldChanges", plainKeys := false, apart := false, narrowed := true }
def HeldChangesUptoSaid : Prop := heldChangesUptoRow.holds Try.pinned (OpenSpec.upto heldChangesSpec)

/-- 'headgatelaw19.HeldUndo', WHERE WHAT IT READS IS OF BULK AT MOST 1048576: true; the input reads as it did. -/
def heldUndoUptoRow : OpenClaim := { program := "ytfnhoncpaheejaa", sum := "2045ca1ee0818f53b6ba97df9671bd8d8ee3ce6fa79f514263756e27b276aa3a", func := "headgate/headgatelaw19.HeldUndo", spec := "heldUndo", plainKeys := false, apart := false, narrowed := true }
def HeldUndoUptoSaid : Prop := heldUndoUptoRow.holds Try.pinned (OpenSpec.upto heldUndoSpec)

/-- 'headgatelaw19.HeldClaims', WHERE WHAT IT READS IS OF BULK AT MOST 1048576: true; the input reads as it did. -/
def heldClaimsUptoRow : OpenClaim := { program := "ytfnhoncpaheejaa", sum := "2045ca1ee0818f53b6ba97df9671bd8d8ee3ce6fa79f514263756e27b276aa3a", func := "headgate/headgatelaw19.HeldClaims", spec := "heldClaims", unfollowed := true, recurses := true, plainKeys := false, apart := false, narrowed := true }
def HeldClaimsUptoSaid : Prop := heldClaimsUptoRow.holds Try.pinned (OpenSpec.upto heldClaimsSpec)

/-- 'headgatelaw19.HeldKnown', WHERE WHAT IT READS IS OF BULK AT MOST 1048576: true; the input reads as it did. -/
def heldKnownUptoRow : OpenClaim := { program := "ytfnhoncpaheejaa", sum := "2045ca1ee0818f53b6ba97df9671bd8d8ee3ce6fa79f514263756e27b276aa3a", func := "headgate/headgatelaw19.HeldKnown", spec := "heldKnown", unfollowed := true, recurses := true, plainKeys := false, apart := false, narrowed := true }
def HeldKnownUptoSaid : Prop := heldKnownUptoRow.holds Try.pinned (OpenSpec.upto heldKnownSpec)

end Rows
end Go.Proofs.Ytfnhoncpaheejaa
