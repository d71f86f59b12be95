/- What Go functions of this seat compute, told as Lean functions, and that each call of the Go code comes to that answer; for a law: its row, for every input. Written by a program of the session. -/
import Derived.Test.YtnheknlmmmkbpaaX0
namespace Go.Proofs.Ytnheknlmmmkbpaa.X
open Go.RowKit Go.Proofs.YtnheknlmmmkbpaaW.PrintWords Go.Proofs.YtnheknlmmmkbpaaW.PrintLast Go.Proofs.YtnheknlmmmkbpaaW.PrintMore
attribute [local go_sem] max2_int min2_int max_two min_two max_three min_three max_four min_four   -- for this text's walks alone
set_option linter.unusedVariables false
set_option linter.unusedSimpArgs false

/-! ### balance_ratio: function 33 -/
def balance_ratio.l0 : Nat → Int → Int → Int → Int → Option (Int)
  | 0, _, _, _, _ => none
  | k + 1, x0, x3, x6, x7 => if x7 < x6 then (if (wrap64 ((wrap64 (4 * x7)) * x7)) > x0 then (some x3) else (if x7 > x3 then (balance_ratio.l0 k x0 x7 x6 (wrap64 (x7 + 1))) else (balance_ratio.l0 k x0 x3 x6 (wrap64 (x7 + 1))))) else (some x3)
def balance_ratio.f (k : Nat) (a0 : Int) : Option (Int) := balance_ratio.l0 k a0 1 (wrap64 (a0 + 1)) 0
theorem balance_ratio.mono_l : ∀ k, (∀ y0 y1 y2 y3, LeO (balance_ratio.l0 k y0 y1 y2 y3) (balance_ratio.l0 (k + 1) y0 y1 y2 y3))
  | 0 => fun _ _ _ _ r h => by simp [balance_ratio.l0] at h
  | k + 1 => by
    have ih0 := balance_ratio.mono_l k
    · intro y0 y1 y2 y3
      unfold balance_ratio.l0
      repeat' first
      | (with_reducible exact ih0 _ _ _ _)
      | (with_reducible exact LeO.refl _)
      | (with_reducible exact LeO.none _)
      | (with_reducible refine LeO.ite ?_ ?_)
      | (with_reducible refine LeO.bind ?_ (fun _ => ?_))
      | exact ih0 _ _ _ _
      | exact LeO.none _
      | refine LeO.ite ?_ ?_
      | refine LeO.bind ?_ (fun _ => ?_)
theorem balance_ratio.mono : ∀ a0 k, LeO (balance_ratio.f k a0) (balance_ratio.f (k + 1) a0) := by
  intro a0 k
  have ih0 := balance_ratio.mono_l k
  unfold balance_ratio.f
  repeat' first
      | (with_reducible exact ih0 _ _ _ _)
      | (with_reducible exact LeO.refl _)
      | (with_reducible exact LeO.none _)
      | (with_reducible refine LeO.ite ?_ ?_)
      | (with_reducible refine LeO.bind ?_ (fun _ => ?_))
      | exact ih0 _ _ _ _
      | exact LeO.none _
      | refine LeO.ite ?_ ?_
      | refine LeO.bind ?_ (fun _ => ?_)
set_option maxHeartbeats 2000000 in
set_option maxRecDepth 100000 in
theorem balance_ratio.calls (k : Nat) (a0 : Int) (r : Int) (w : World) (h : balance_ratio.f k a0 = some r) :
    Calls Try.prog 33 #[.int .i64 a0] w fun e w' => e = .returned (.int .i64 r) ∧ Drawn0 w w' := by
  have H : (balance_ratio.l0 k a0 1 (wrap64 (a0 + 1)) 0) = some r := h
  clear h
  have H' := Aside0.mk H
  clear H
  go_enter Try.func33, Try.ntmps33
  (go_wp2; all_goals (repeat (go_step3; go_wp2)))
  go_loopg [3, 7] k (fun kq v3 v7 w' => ∃ (x3_1 : Int) (x7_1 : Int), v3 = .int .i64 x3_1 ∧ v7 = .int .i64 x7_1 ∧ Aside0 (balance_ratio.l0 kq a0 x3_1 (wrap64 (a0 + 1)) x7_1 = some r) ∧ Aside0 (kq ≤ k) ∧ Drawn0 w w')
  case atStart => exact ⟨(1), (0), (by first | rfl | (simp; done) | (simp [*]; done)), (by first | rfl | (simp; done) | (simp [*]; done)), H', ⟨Nat.le_refl _⟩, by repeat (first | exact Drawn0.refl _ | apply Drawn0.step)⟩
  case round =>
    clear H'
    obtain ⟨x3_1, x7_1, rfl, rfl, HA, HK1, ⟨m1, rfl⟩⟩ := hrel
    cases gk with
    | zero => exact absurd HA.out (by simp [balance_ratio.l0])
    | succ k1 =>
      have H := HA.out
      clear HA
      simp only [balance_ratio.l0] at H
      by_cases c2 : x7_1 < (wrap64 (a0 + 1))
      · rw [if_pos c2] at H
        have c2b0 : decide (x7_1 < (wrap64 (a0 + 1))) = true := decide_eq_true c2
        clear c2
        by_cases c3 : (wrap64 ((wrap64 (4 * x7_1)) * x7_1)) > a0
        · rw [if_pos c3] at H
          have c3b0 : decide (a0 < (wrap64 ((wrap64 (4 * x7_1)) * x7_1))) = true := decide_eq_true c3
          clear c3
          obtain rfl := Option.some.inj H
          (go_wp2; all_goals (repeat (go_step3; go_wp2)))
          go_ret
          exact ⟨by first | rfl | (simp; done) | (simp [*]; done), by repeat (first | exact Drawn0.refl _ | apply Drawn0.step)⟩
        · rw [if_neg c3] at H
          have c3b0 : decide (a0 < (wrap64 ((wrap64 (4 * x7_1)) * x7_1))) = false := decide_eq_false c3
          clear c3
          by_cases c4 : x7_1 > x3_1
          · rw [if_pos c4] at H
            have c4b0 : decide (x3_1 < x7_1) = true := decide_eq_true c4
            clear c4
            have H' := Aside0.mk H
            clear H
            (go_wp2; all_goals (repeat (go_step3; go_wp2)))
            go_roundg k1
            case measure => have := HK1.out; omega
            case rel => exact ⟨(x7_1), (wrap64 (x7_1 + 1)), (by first | rfl | (simp; done) | (simp [*]; done)), (by first | rfl | (simp; done) | (simp [*]; done)), H', ⟨by have := HK1.out; omega⟩, by repeat (first | exact Drawn0.refl _ | apply Drawn0.step)⟩
          · rw [if_neg c4] at H
            have c4b0 : decide (x3_1 < x7_1) = false := decide_eq_false c4
            clear c4
            have H' := Aside0.mk H
            clear H
            (go_wp2; all_goals (repeat (go_step3; go_wp2)))
            go_roundg k1
            case measure => have := HK1.out; omega
            case rel => exact ⟨(x3_1), (wrap64 (x7_1 + 1)), (by first | rfl | (simp; done) | (simp [*]; done)), (by first | rfl | (simp; done) | (simp [*]; done)), H', ⟨by have := HK1.out; omega⟩, by repeat (first | exact Drawn0.refl _ | apply Drawn0.step)⟩
      · rw [if_neg c2] at H
        have c2b0 : decide (x7_1 < (wrap64 (a0 + 1))) = false := decide_eq_false c2
        clear c2
        obtain rfl := Option.some.inj H
        (go_wp2; all_goals (repeat (go_step3; go_wp2)))
        go_ret
        exact ⟨by first | rfl | (simp; done) | (simp [*]; done), by repeat (first | exact Drawn0.refl _ | apply Drawn0.step)⟩

end Go.Proofs.Ytnheknlmmmkbpaa.X
