/- What Go functions of this seat compute, told as Lean functions, and that each call of the Go code comes to that answer; for a law: its row, for every input. Written by a program of the session. -/
import Derived.Test.YtnheknlmmmkbpaaX0
namespace Go.Proofs.Ytnheknlmmmkbpaa.X
open Go.RowKit Go.Proofs.YtnheknlmmmkbpaaW.PrintWords Go.Proofs.YtnheknlmmmkbpaaW.PrintLast Go.Proofs.YtnheknlmmmkbpaaW.PrintMore
attribute [local go_sem] max2_int min2_int max_two min_two max_three min_three max_four min_four   -- for this text's walks alone
set_option linter.unusedVariables false
set_option linter.unusedSimpArgs false

/-! ### headgateref31_ratio: function 35 -/
def headgateref31_ratio.l0 : Nat → Int → Int → Option (Int)
 | 0, _, _ => none
 | k + 1, x0, x3 => if (wrap64 ((wrap64 (4 * (wrap64 (x3 + 1)))) * (wrap64 (x3 + 1)))) ≤ x0 then (headgateref31_ratio.l0 k x0 (wrap64 (x3 + 1))) else (some x3)
def headgateref31_ratio.f (k : Nat) (a0 : Int) : Option (Int) := headgateref31_ratio.l0 k a0 1
theorem headgateref31_ratio.mono_l : ∀ k, (∀ y0 y1, LeO (headgateref31_ratio.l0 k y0 y1) (headgateref31_ratio.l0 (k + 1) y0 y1))
 | 0 => fun _ _ r h => by simp [headgateref31_ratio.l0] at h
 | k + 1 => by
  have ih0 := headgateref31_ratio.mono_l k
  ·
   intro y0 y1
   unfold headgateref31_ratio.l0
   repeat' first
   | (with_reducible exact ih0 _ _)
   | (with_reducible exact LeO.refl _)
   | (with_reducible exact LeO.none _)
   | (with_reducible refine LeO.ite ?_ ?_)
   | (with_reducible refine LeO.bind ?_ (fun _ => ?_))
   | exact ih0 _ _
   | exact LeO.none _
   | refine LeO.ite ?_ ?_
   | refine LeO.bind ?_ (fun _ => ?_)
theorem headgateref31_ratio.mono : ∀ a0 k, LeO (headgateref31_ratio.f k a0) (headgateref31_ratio.f (k + 1) a0) := by
 intro a0 k
 have ih0 := headgateref31_ratio.mono_l k
 unfold headgateref31_ratio.f
 repeat' first
   | (with_reducible exact ih0 _ _)
   | (with_reducible exact LeO.refl _)
   | (with_reducible exact LeO.none _)
   | (with_reducible refine LeO.ite ?_ ?_)
   | (with_reducible refine LeO.bind ?_ (fun _ => ?_))
   | exact ih0 _ _
   | exact LeO.none _
   | refine LeO.ite ?_ ?_
   | refine LeO.bind ?_ (fun _ => ?_)
set_option maxHeartbeats 2000000 in
set_option maxRecDepth 100000 in
theorem headgateref31_ratio.calls (k : Nat) (a0 : Int) (r : Int) (w : World) (h : headgateref31_ratio.f k a0 = some r) :
  Calls Try.prog 35 #[.int .i64 a0] w fun e w' => e = .returned (.int .i64 r) ∧ Drawn0 w w' := by
 have H : (headgateref31_ratio.l0 k a0 1) = some r := h
 clear h
 have H' := Aside0.mk H
 clear H
 go_enter Try.func35, Try.ntmps35
 go_wp2
 go_loopg [3] k (fun kq v3 w' => ∃ (x3_1 : Int), v3 = .int .i64 x3_1 ∧ Aside0 (headgateref31_ratio.l0 kq a0 x3_1 = some r) ∧ Aside0 (kq ≤ k) ∧ Drawn0 w w')
 case atStart => exact ⟨(1), (by first | rfl | (simp; done) | (simp [*]; done)), H', ⟨Nat.le_refl _⟩, by repeat (first | exact Drawn0.refl _ | apply Drawn0.step)⟩
 case round =>
  clear H'
  obtain ⟨x3_1, rfl, HA, HK1, ⟨m1, rfl⟩⟩ := hrel
  cases gk with
  | zero => exact absurd HA.out (by simp [headgateref31_ratio.l0])
  | succ k1 =>
   have H := HA.out
   clear HA
   simp only [headgateref31_ratio.l0] at H
   by_cases c2 : (wrap64 ((wrap64 (4 * (wrap64 (x3_1 + 1)))) * (wrap64 (x3_1 + 1)))) ≤ a0
   ·
    rw [if_pos c2] at H
    have c2b0 : decide ((wrap64 ((wrap64 (4 * (wrap64 (x3_1 + 1)))) * (wrap64 (x3_1 + 1)))) ≤ a0) = true := decide_eq_true c2
    clear c2
    have H' := Aside0.mk H
    clear H
    go_wp2
    go_roundg k1
    case measure => have := HK1.out; omega
    case rel => exact ⟨(wrap64 (x3_1 + 1)), (by first | rfl | (simp; done) | (simp [*]; done)), H', ⟨by have := HK1.out; omega⟩, by repeat (first | exact Drawn0.refl _ | apply Drawn0.step)⟩
   ·
    rw [if_neg c2] at H
    have c2b0 : decide ((wrap64 ((wrap64 (4 * (wrap64 (x3_1 + 1)))) * (wrap64 (x3_1 + 1)))) ≤ a0) = false := decide_eq_false c2
    clear c2
    obtain rfl := Option.some.inj H
    go_wp2
    go_ret
    exact ⟨by first | rfl | (simp; done) | (simp [*]; done), by repeat (first | exact Drawn0.refl _ | apply Drawn0.step)⟩

end Go.Proofs.Ytnheknlmmmkbpaa.X

namespace Go.Proofs.Ytnheknlmmmkbpaa.X
open Go.RowKit Go.Proofs.YtnheknlmmmkbpaaW.PrintWords Go.Proofs.YtnheknlmmmkbpaaW.PrintLast Go.Proofs.YtnheknlmmmkbpaaW.PrintMore
attribute [local go_sem] max2_int min2_int max_two min_two max_three min_three max_four min_four   -- for this text's walks alone
set_option linter.unusedVariables false
set_option linter.unusedSimpArgs false

/-! ### headgateref31_target: function 36 -/
def headgateref31_target.f (k : Nat) (a0 : Int) : Option (Int) := (headgateref31_ratio.f k a0).bind fun t178 => (if (wrap64 (t178 + 1)) = 0 then (none) else (some (wrap64 (Int.tdiv (wrap64 ((wrap64 (a0 + (wrap64 (t178 + 1)))) - 1)) (wrap64 (t178 + 1))))))
theorem headgateref31_target.mono : ∀ a0 k, LeO (headgateref31_target.f k a0) (headgateref31_target.f (k + 1) a0) := by
 intro a0 k
 unfold headgateref31_target.f
 repeat' first
   | (with_reducible exact headgateref31_ratio.mono _ _)
   | (with_reducible exact LeO.refl _)
   | (with_reducible exact LeO.none _)
   | (with_reducible refine LeO.ite ?_ ?_)
   | (with_reducible refine LeO.bind ?_ (fun _ => ?_))
   | exact headgateref31_ratio.mono _ _
   | exact LeO.none _
   | refine LeO.ite ?_ ?_
   | refine LeO.bind ?_ (fun _ => ?_)
set_option maxHeartbeats 2000000 in
set_option maxRecDepth 100000 in
theorem headgateref31_target.calls (k : Nat) (a0 : Int) (r : Int) (w : World) (h : headgateref31_target.f k a0 = some r) :
  Calls Try.prog 36 #[.int .i64 a0] w fun e w' => e = .returned (.int .i64 r) ∧ Drawn0 w w' := by
 have H : ((headgateref31_ratio.f k a0).bind fun t178 => (if (wrap64 (t178 + 1)) = 0 then (none) else (some (wrap64 (Int.tdiv (wrap64 ((wrap64 (a0 + (wrap64 (t178 + 1)))) - 1)) (wrap64 (t178 + 1))))))) = some r := h
 clear h
 replace H := Option.bind_eq_some_iff.mp H
 obtain ⟨t178, A20, H⟩ := H
 replace H : (if (wrap64 (t178 + 1)) = 0 then (none) else (some (wrap64 (Int.tdiv (wrap64 ((wrap64 (a0 + (wrap64 (t178 + 1)))) - 1)) (wrap64 (t178 + 1)))))) = some r := H
 have A2 := Aside0.mk A20
 clear A20
 by_cases c3 : (wrap64 (t178 + 1)) = 0
 ·
  rw [if_pos c3] at H
  exact absurd H (by simp)
 ·
  rw [if_neg c3] at H
  have c3b0 : ((wrap64 (t178 + 1)) == 0) = false := beq_eq_false_iff_ne.mpr c3
  have c3b1 : ((wrap64 (t178 + 1)) != 0) = true := bne_iff_ne.mpr c3
  obtain rfl := Option.some.inj H
  go_enter Try.func36, Try.ntmps36
  go_wp2_with (first | ((with_reducible refine gate_callee (f := 35) rfl ?_); refine goesL_ (some 5) rfl rfl Try.func35 (by kernel_rfl) rfl #[.int .i64 a0] rfl (args_ (p := _)) ?_; (with_reducible refine (headgateref31_ratio.calls k a0 t178 _ A2.out).mono ?_); rintro e w' ⟨rfl, ⟨nd, rfl⟩⟩; refine ⟨_, rfl, ?_⟩))
  go_ret
  exact ⟨by first | rfl | (simp; done) | (simp [*]; done), by repeat (first | exact Drawn0.refl _ | apply Drawn0.step)⟩

end Go.Proofs.Ytnheknlmmmkbpaa.X
