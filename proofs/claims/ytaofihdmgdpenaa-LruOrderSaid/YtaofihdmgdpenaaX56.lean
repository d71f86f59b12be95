/- What Go functions of this seat compute, told as Lean functions, and that each call of the Go code comes to that answer; for a law: its row, for every input. Written by a program of the session. -/
import Derived.Test.YtaofihdmgdpenaaX0
namespace Go.Proofs.Ytaofihdmgdpenaa.X
open Go.RowKit Go.Proofs.YtaofihdmgdpenaaW.PrintWords Go.Proofs.YtaofihdmgdpenaaW.PrintLast Go.Proofs.YtaofihdmgdpenaaW.PrintMore
attribute [local go_sem] max2_int min2_int max_two min_two max_three min_three max_four min_four   -- for this text's walks alone
set_option linter.unusedVariables false
set_option linter.unusedSimpArgs false

/-! ### slices_Grow_int_int: function 65 -/
set_option maxHeartbeats 2000000 in
set_option maxRecDepth 100000 in
theorem slices_Grow_int_int.atNil (m : Nat) (w : World) (hm : m < 17592186044416) :
  Calls Try.prog 65 #[.slice none 0 0, .int .i64 m] w fun e w' => ∃ v0_ : Value, e = .returned (v0_) ∧ Kd.R (Kd.int .i64) 3 w' w.heap.size (fun _ => True) v0_ ([] : List Int) ∧ Below w.heap.size w w' := by
 have LM := Aside0.mk hm
 have c0 : decide ((m : Int) < 0) = false := decide_eq_false (by omega)
 by_cases c1 : 0 < m
 ·
  have c1b : decide (0 < (m : Int)) = true := decide_eq_true (by omega)
  have c1c : decide (0 < m) = true := decide_eq_true c1
  have HP := Aside0.mk c1
  clear c1
  go_enter Try.func65, Try.ntmps65
  go_wp2_with ((with_reducible refine gate_builtin (b := .append) (xs := #[.tmp 20, .tmp 21]) rfl ?_); at_builtin; refine Kd.R_append_zeros (Kd.int .i64) (w0 := w) w.heap.size rfl (.tmp 20) (.tmp 21) 22 3 3 (.int .i64 0) 8 rfl Try.underlying22 Try.underlying3 info3 rfl (by decide) (by omega) (.slice none 0 0) [] 0 (m : Int) (fun _ => True) rfl rfl rfl (fun _ _ => trivial) ?aO ?a0 ?aB ?aS ?aL ?_; (case aO => exact Kd.R_nil _ _ _ _ _); (case a0 => omega); (case aB => exact Below.refl _ _); (case aS => exact Nat.le_refl _); (case aL => have := LM.out; simp only [List.length_nil, Int.toNat_natCast]; omega); intro v1 w1 ho hb _ _; obtain ⟨g, cap, rfl, _⟩ := Kd.R_form ho (by have := HP.out; simp; omega); have HO := Aside0.mk ho; have HB := Aside0.mk hb; clear ho hb)
  go_ret
  exact ⟨_, rfl, by have := Kd.R_take HO.out (m := 0) (by omega); simpa using this, HB.out⟩
 ·
  have c1b : decide (0 < (m : Int)) = false := decide_eq_false (by omega)
  have c1c : decide (0 < m) = false := decide_eq_false c1
  clear c1
  go_enter Try.func65, Try.ntmps65
  go_wp2
  go_ret
  exact ⟨_, rfl, Kd.R_nil _ _ _ _ _, Below.refl _ _⟩


end Go.Proofs.Ytaofihdmgdpenaa.X
