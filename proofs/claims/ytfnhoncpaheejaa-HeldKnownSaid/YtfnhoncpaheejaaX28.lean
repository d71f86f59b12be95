/- What Go functions of this seat compute, told as Lean functions, and that each call of the Go code comes to that answer; for a law: its row, for every input. Written by a program of the session. -/
import Derived.Test.YtfnhoncpaheejaaX0
import Derived.Test.YtfnhoncpaheejaaX7
namespace Go.Proofs.Ytfnhoncpaheejaa.X
open Go.RowKit Go.Proofs.YtfnhoncpaheejaaW.PrintWords Go.Proofs.YtfnhoncpaheejaaW.PrintLast Go.Proofs.YtfnhoncpaheejaaW.PrintMore
attribute [local go_sem] max2_int min2_int max_two min_two max_three min_three max_four min_four   -- for this text's walks alone
set_option linter.unusedVariables false
set_option linter.unusedSimpArgs false

/-! ### held_Check: function 19 -/
def held_Check.f (l0 : List S32) : Option (Int × Int) := some ((heldCheck l0).1, (heldCheck l0).2.1)
set_option maxHeartbeats 4000000 in
set_option maxRecDepth 100000 in
theorem held_Check.calls (A0 : Option Addr) (c0 : Nat) (l0 : List S32) (r1 : Int) (r2 : Int) (w : World) (hr0 : Kd.C k32 w A0 l0.length l0) (hc0 : l0.length ≤ c0) (h : held_Check.f l0 = some (r1, r2)) :
  Calls Try.prog 19 #[.slice A0 l0.length c0] w fun e w' => e = .returned (.tuple #[.int .i64 r1, .int .i64 r2]) ∧ Below w.heap.size w w' := by
 obtain ⟨rfl, rfl⟩ := Prod.mk.inj (Option.some.inj h)
 clear h
 go_enter Try.func19, Try.ntmps19
 go_wp2_with fail
 refine (held_check.calls A0 c0 l0 _ hr0 hc0).mono ?_
 rintro e w1 ⟨⟨m, rfl, hm⟩, hb1⟩
 have HB1 := Aside0.mk hb1
 clear hm hb1
 go_wp2
 go_ret2
 exact ⟨rfl, HB1.out⟩


end Go.Proofs.Ytfnhoncpaheejaa.X
