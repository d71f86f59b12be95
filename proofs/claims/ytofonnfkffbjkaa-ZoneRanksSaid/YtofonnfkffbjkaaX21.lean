/- What Go functions of this seat compute, told as Lean functions, and that each call of the Go code comes to that answer; for a law: its row, for every input. Written by a program of the session. -/
import Derived.Test.YtofonnfkffbjkaaX0
import Derived.Test.YtofonnfkffbjkaaX20
namespace Go.Proofs.Ytofonnfkffbjkaa.X
open Go.RowKit Go.Proofs.YtofonnfkffbjkaaW.PrintWords Go.Proofs.YtofonnfkffbjkaaW.PrintLast Go.Proofs.YtofonnfkffbjkaaW.PrintMore
attribute [local go_sem] max2_int min2_int max_two min_two max_three min_three max_four min_four   -- for this text's walks alone
set_option linter.unusedVariables false
set_option linter.unusedSimpArgs false

/-! ### headgatelaw10_made: function 18 -/
def headgatelaw10_made.f (a0 : Int) : Option (Int × Int × Int × Int × Int) := (headgatekit_Mod.f a0 1073741824).bind fun t207 => (some (Int.tmod t207 20, wrap64 ((wrap64 ((Int.tmod t207 20) + 1)) + (Int.tmod (wrap64 (Int.tdiv t207 20)) 20)), wrap64 ((wrap64 ((wrap64 ((wrap64 ((Int.tmod t207 20) + 1)) + (Int.tmod (wrap64 (Int.tdiv t207 20)) 20))) + 1)) + (Int.tmod (wrap64 (Int.tdiv t207 400)) 20)), wrap64 (1 + (Int.tmod (wrap64 (Int.tdiv t207 8000)) 3)), Int.tmod (wrap64 (Int.tdiv t207 24000)) 100))
set_option maxHeartbeats 2000000 in
set_option maxRecDepth 100000 in
theorem headgatelaw10_made.calls (a0 : Int) (r1 : Int) (r2 : Int) (r3 : Int) (r4 : Int) (r5 : Int) (w : World) (h : headgatelaw10_made.f a0 = some (r1, r2, r3, r4, r5)) :
    Calls Try.prog 18 #[.int .i64 a0] w fun e w' => e = .returned (.tuple #[.agg #[.int .i64 r1, .int .i64 r2, .int .i64 r3], .int .i64 r4, .int .i64 r5]) ∧ Below w.heap.size w w' := by
  unfold headgatelaw10_made.f at h
  obtain ⟨t, ht, H⟩ := Option.bind_eq_some_iff.mp h
  have HT := Aside0.mk ht
  clear h ht
  simp only [Option.some.injEq, Prod.mk.injEq] at H
  obtain ⟨rfl, rfl, rfl, rfl, rfl⟩ := H
  go_enter Try.func18, Try.ntmps18
  go_wp2_with (first | (go_at_call 19; (with_reducible refine (headgatekit_Mod.calls _ _ _ _ HT.out).mono ?_); rintro e w1 ⟨rfl, ⟨nd, rfl⟩⟩))
  exact bodyPost_ret (v := .tuple #[.agg #[.int .i64 _, .int .i64 _, .int .i64 _], .int .i64 _, .int .i64 _]) (by simp [results, Try.results18, go_sem]) rfl ⟨rfl, (by repeat (first | with_reducible exact Below.refl _ _ | with_reducible apply below_alloc | with_reducible apply pw_below_drewN | with_reducible apply below_drew1 | refine below_set ?_ (Nat.le_refl _)))⟩


end Go.Proofs.Ytofonnfkffbjkaa.X
