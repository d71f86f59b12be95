/- What Go functions of this seat compute, told as Lean functions, and that each call of the Go code comes to that answer; for a law: its row, for every input. Written by a program of the session. -/
import Derived.Test.YtnheknlmmmkbpaaX0
import Derived.Test.YtnheknlmmmkbpaaX4
import Derived.Test.YtnheknlmmmkbpaaX2
import Derived.Test.YtnheknlmmmkbpaaX16
import Derived.Test.YtnheknlmmmkbpaaX43
namespace Go.Proofs.Ytnheknlmmmkbpaa.X
open Go.RowKit Go.Proofs.YtnheknlmmmkbpaaW.PrintWords Go.Proofs.YtnheknlmmmkbpaaW.PrintLast Go.Proofs.YtnheknlmmmkbpaaW.PrintMore
attribute [local go_sem] max2_int min2_int max_two min_two max_three min_three max_four min_four   -- for this text's walks alone
set_option linter.unusedVariables false
set_option linter.unusedSimpArgs false

/-! ### headgatelaw31_numbers: function 29 -/
def headgatelaw31_numbers.f (k : Nat) (a0 : Int) (a1 : Int) (a2 : Int) : Option (Bool) := (balance_Ratio.f k a0).bind fun bt463 => ((balance_Target.f k a0).bind fun bt465 => (if bt463.1 = a1 then (if bt465.1 = a2 then (if bt463.2 = 0 then (some (bt465.2 == 0)) else (some false)) else (some false)) else (some false)))
theorem headgatelaw31_numbers.mono : ∀ a0 a1 a2 k, LeO (headgatelaw31_numbers.f k a0 a1 a2) (headgatelaw31_numbers.f (k + 1) a0 a1 a2) := by
 intro a0 a1 a2 k
 unfold headgatelaw31_numbers.f
 repeat' first
   | (with_reducible exact balance_Ratio.mono _ _)
   | (with_reducible exact balance_Target.mono _ _)
   | (with_reducible exact LeO.refl _)
   | (with_reducible exact LeO.none _)
   | (with_reducible refine LeO.ite ?_ ?_)
   | (with_reducible refine LeO.bind ?_ (fun _ => ?_))
   | exact balance_Ratio.mono _ _
   | exact balance_Target.mono _ _
   | exact LeO.none _
   | refine LeO.ite ?_ ?_
   | refine LeO.bind ?_ (fun _ => ?_)
set_option maxHeartbeats 2000000 in
set_option maxRecDepth 100000 in
theorem headgatelaw31_numbers.calls (k : Nat) (a0 : Int) (a1 : Int) (a2 : Int) (r : Bool) (w : World) (h : headgatelaw31_numbers.f k a0 a1 a2 = some r) :
  Calls Try.prog 29 #[.int .i64 a0, .int .i64 a1, .int .i64 a2] w fun e w' => e = .returned (.bool r) ∧ Drawn0 w w' := by
 have H : ((balance_Ratio.f k a0).bind fun bt463 => ((balance_Target.f k a0).bind fun bt465 => (if bt463.1 = a1 then (if bt465.1 = a2 then (if bt463.2 = 0 then (some (bt465.2 == 0)) else (some false)) else (some false)) else (some false)))) = some r := h
 clear h
 replace H := Option.bind_eq_some_iff.mp H
 obtain ⟨⟨t463, t464⟩, A40, H⟩ := H
 replace H : ((balance_Target.f k a0).bind fun bt465 => (if t463 = a1 then (if bt465.1 = a2 then (if t464 = 0 then (some (bt465.2 == 0)) else (some false)) else (some false)) else (some false))) = some r := H
 have A4 := Aside0.mk A40
 clear A40
 replace H := Option.bind_eq_some_iff.mp H
 obtain ⟨⟨t465, t466⟩, A50, H⟩ := H
 replace H : (if t463 = a1 then (if t465 = a2 then (if t464 = 0 then (some (t466 == 0)) else (some false)) else (some false)) else (some false)) = some r := H
 have A5 := Aside0.mk A50
 clear A50
 by_cases c6 : t463 = a1
 ·
  rw [if_pos c6] at H
  have c6b0 : (t463 == a1) = true := beq_iff_eq.mpr c6
  have c6b1 : (t463 != a1) = false := bne_eq_false_iff_eq.mpr c6
  clear c6
  by_cases c7 : t465 = a2
  ·
   rw [if_pos c7] at H
   have c7b0 : (t465 == a2) = true := beq_iff_eq.mpr c7
   have c7b1 : (t465 != a2) = false := bne_eq_false_iff_eq.mpr c7
   clear c7
   by_cases c8 : t464 = 0
   ·
    rw [if_pos c8] at H
    have c8b0 : (t464 == 0) = true := beq_iff_eq.mpr c8
    have c8b1 : (t464 != 0) = false := bne_eq_false_iff_eq.mpr c8
    clear c8
    obtain rfl := Option.some.inj H
    go_enter Try.func29, Try.ntmps29
    go_wp2_with (first | ((with_reducible refine gate_callee (f := 10) rfl ?_); refine goesL_ (some 13) rfl rfl Try.func10 (by kernel_rfl) rfl #[.int .i64 a0] rfl (args_ (p := _)) ?_; (with_reducible refine (balance_Ratio.calls k a0 t463 t464 _ A4.out).mono ?_); rintro e w' ⟨rfl, ⟨nd, rfl⟩⟩; refine ⟨_, rfl, ?_⟩) | ((with_reducible refine gate_callee (f := 11) rfl ?_); refine goesL_ (some 18) rfl rfl Try.func11 (by kernel_rfl) rfl #[.int .i64 a0] rfl (args_ (p := _)) ?_; (with_reducible refine (balance_Target.calls k a0 t465 t466 _ A5.out).mono ?_); rintro e w' ⟨rfl, ⟨nd, rfl⟩⟩; refine ⟨_, rfl, ?_⟩))
    go_ret
    exact ⟨by first | rfl | (simp; done) | (simp [*]; done), by repeat (first | exact Drawn0.refl _ | apply Drawn0.step)⟩
   ·
    rw [if_neg c8] at H
    have c8b0 : (t464 == 0) = false := beq_eq_false_iff_ne.mpr c8
    have c8b1 : (t464 != 0) = true := bne_iff_ne.mpr c8
    obtain rfl := Option.some.inj H
    go_enter Try.func29, Try.ntmps29
    go_wp2_with (first | ((with_reducible refine gate_callee (f := 10) rfl ?_); refine goesL_ (some 13) rfl rfl Try.func10 (by kernel_rfl) rfl #[.int .i64 a0] rfl (args_ (p := _)) ?_; (with_reducible refine (balance_Ratio.calls k a0 t463 t464 _ A4.out).mono ?_); rintro e w' ⟨rfl, ⟨nd, rfl⟩⟩; refine ⟨_, rfl, ?_⟩) | ((with_reducible refine gate_callee (f := 11) rfl ?_); refine goesL_ (some 18) rfl rfl Try.func11 (by kernel_rfl) rfl #[.int .i64 a0] rfl (args_ (p := _)) ?_; (with_reducible refine (balance_Target.calls k a0 t465 t466 _ A5.out).mono ?_); rintro e w' ⟨rfl, ⟨nd, rfl⟩⟩; refine ⟨_, rfl, ?_⟩))
    go_ret
    exact ⟨by first | rfl | (simp; done) | (simp [*]; done), by repeat (first | exact Drawn0.refl _ | apply Drawn0.step)⟩
  ·
   rw [if_neg c7] at H
   have c7b0 : (t465 == a2) = false := beq_eq_false_iff_ne.mpr c7
   have c7b1 : (t465 != a2) = true := bne_iff_ne.mpr c7
   obtain rfl := Option.some.inj H
   go_enter Try.func29, Try.ntmps29
   go_wp2_with (first | ((with_reducible refine gate_callee (f := 10) rfl ?_); refine goesL_ (some 13) rfl rfl Try.func10 (by kernel_rfl) rfl #[.int .i64 a0] rfl (args_ (p := _)) ?_; (with_reducible refine (balance_Ratio.calls k a0 t463 t464 _ A4.out).mono ?_); rintro e w' ⟨rfl, ⟨nd, rfl⟩⟩; refine ⟨_, rfl, ?_⟩) | ((with_reducible refine gate_callee (f := 11) rfl ?_); refine goesL_ (some 18) rfl rfl Try.func11 (by kernel_rfl) rfl #[.int .i64 a0] rfl (args_ (p := _)) ?_; (with_reducible refine (balance_Target.calls k a0 t465 t466 _ A5.out).mono ?_); rintro e w' ⟨rfl, ⟨nd, rfl⟩⟩; refine ⟨_, rfl, ?_⟩))
   go_ret
   exact ⟨by first | rfl | (simp; done) | (simp [*]; done), by repeat (first | exact Drawn0.refl _ | apply Drawn0.step)⟩
 ·
  rw [if_neg c6] at H
  have c6b0 : (t463 == a1) = false := beq_eq_false_iff_ne.mpr c6
  have c6b1 : (t463 != a1) = true := bne_iff_ne.mpr c6
  obtain rfl := Option.some.inj H
  go_enter Try.func29, Try.ntmps29
  go_wp2_with (first | ((with_reducible refine gate_callee (f := 10) rfl ?_); refine goesL_ (some 13) rfl rfl Try.func10 (by kernel_rfl) rfl #[.int .i64 a0] rfl (args_ (p := _)) ?_; (with_reducible refine (balance_Ratio.calls k a0 t463 t464 _ A4.out).mono ?_); rintro e w' ⟨rfl, ⟨nd, rfl⟩⟩; refine ⟨_, rfl, ?_⟩) | ((with_reducible refine gate_callee (f := 11) rfl ?_); refine goesL_ (some 18) rfl rfl Try.func11 (by kernel_rfl) rfl #[.int .i64 a0] rfl (args_ (p := _)) ?_; (with_reducible refine (balance_Target.calls k a0 t465 t466 _ A5.out).mono ?_); rintro e w' ⟨rfl, ⟨nd, rfl⟩⟩; refine ⟨_, rfl, ?_⟩))
  go_ret
  exact ⟨by first | rfl | (simp; done) | (simp [*]; done), by repeat (first | exact Drawn0.refl _ | apply Drawn0.step)⟩

end Go.Proofs.Ytnheknlmmmkbpaa.X

namespace Go.Proofs.Ytnheknlmmmkbpaa.X
open Go.RowKit Go.Proofs.YtnheknlmmmkbpaaW.PrintWords Go.Proofs.YtnheknlmmmkbpaaW.PrintLast Go.Proofs.YtnheknlmmmkbpaaW.PrintMore
attribute [local go_sem] max2_int min2_int max_two min_two max_three min_three max_four min_four   -- for this text's walks alone
set_option linter.unusedVariables false
set_option linter.unusedSimpArgs false

/-! ### headgatelaw31_part: function 30 -/
def headgatelaw31_part.f (a0 : Int) (a1 : Int) (a2 : Int) (a3 : Int) : Option (Bool) := (balance_Part.f a0 a1 a2).bind fun bt467 => (if bt467.1 = a3 then (some (bt467.2 == 0)) else (some false))
set_option maxHeartbeats 2000000 in
set_option maxRecDepth 100000 in
theorem headgatelaw31_part.calls (a0 : Int) (a1 : Int) (a2 : Int) (a3 : Int) (r : Bool) (w : World) (h : headgatelaw31_part.f a0 a1 a2 a3 = some r) :
  Calls Try.prog 30 #[.int .i64 a0, .int .i64 a1, .int .i64 a2, .int .i64 a3] w fun e w' => e = .returned (.bool r) ∧ Drawn0 w w' := by
 have H : ((balance_Part.f a0 a1 a2).bind fun bt467 => (if bt467.1 = a3 then (some (bt467.2 == 0)) else (some false))) = some r := h
 clear h
 replace H := Option.bind_eq_some_iff.mp H
 obtain ⟨⟨t467, t468⟩, A50, H⟩ := H
 replace H : (if t467 = a3 then (some (t468 == 0)) else (some false)) = some r := H
 have A5 := Aside0.mk A50
 clear A50
 by_cases c6 : t467 = a3
 ·
  rw [if_pos c6] at H
  have c6b0 : (t467 == a3) = true := beq_iff_eq.mpr c6
  have c6b1 : (t467 != a3) = false := bne_eq_false_iff_eq.mpr c6
  clear c6
  obtain rfl := Option.some.inj H
  go_enter Try.func30, Try.ntmps30
  go_wp2_with (first | ((with_reducible refine gate_callee (f := 13) rfl ?_); refine goesL_ (some 15) rfl rfl Try.func13 (by kernel_rfl) rfl #[.int .i64 a0, .int .i64 a1, .int .i64 a2] rfl (args_ (p := _)) ?_; (with_reducible refine (balance_Part.calls a0 a1 a2 t467 t468 _ A5.out).mono ?_); rintro e w' ⟨rfl, ⟨nd, rfl⟩⟩; refine ⟨_, rfl, ?_⟩))
  go_ret
  exact ⟨by first | rfl | (simp; done) | (simp [*]; done), by repeat (first | exact Drawn0.refl _ | apply Drawn0.step)⟩
 ·
  rw [if_neg c6] at H
  have c6b0 : (t467 == a3) = false := beq_eq_false_iff_ne.mpr c6
  have c6b1 : (t467 != a3) = true := bne_iff_ne.mpr c6
  obtain rfl := Option.some.inj H
  go_enter Try.func30, Try.ntmps30
  go_wp2_with (first | ((with_reducible refine gate_callee (f := 13) rfl ?_); refine goesL_ (some 15) rfl rfl Try.func13 (by kernel_rfl) rfl #[.int .i64 a0, .int .i64 a1, .int .i64 a2] rfl (args_ (p := _)) ?_; (with_reducible refine (balance_Part.calls a0 a1 a2 t467 t468 _ A5.out).mono ?_); rintro e w' ⟨rfl, ⟨nd, rfl⟩⟩; refine ⟨_, rfl, ?_⟩))
  go_ret
  exact ⟨by first | rfl | (simp; done) | (simp [*]; done), by repeat (first | exact Drawn0.refl _ | apply Drawn0.step)⟩

end Go.Proofs.Ytnheknlmmmkbpaa.X

namespace Go.Proofs.Ytnheknlmmmkbpaa.X
open Go.RowKit Go.Proofs.YtnheknlmmmkbpaaW.PrintWords Go.Proofs.YtnheknlmmmkbpaaW.PrintLast Go.Proofs.YtnheknlmmmkbpaaW.PrintMore
attribute [local go_sem] max2_int min2_int max_two min_two max_three min_three max_four min_four   -- for this text's walks alone
set_option linter.unusedVariables false
set_option linter.unusedSimpArgs false

theorem IsRow.ofV {α : Type} {d : Kd α} {l : List α} {v : Value} {w : World} {e base : Nat} {ok : Nat → Prop} (h : Kd.V d e w base ok v l) : IsRow d l v w := by
 obtain ⟨A, c, rfl⟩ := Kd.V_slice h
 obtain ⟨_, h1, h2⟩ := Kd.V_reads' h
 exact ⟨A, c, rfl, h1, h2⟩


end Go.Proofs.Ytnheknlmmmkbpaa.X
