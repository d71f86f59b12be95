/- What Go functions of this seat compute, told as Lean functions, and that each call of the Go code comes to that answer; for a law: its row, for every input. Written by a program of the session. -/
import Derived.Test.YtnheknlmmmkbpaaX0
namespace Go.Proofs.Ytnheknlmmmkbpaa.X
open Go.RowKit Go.Proofs.YtnheknlmmmkbpaaW.PrintWords Go.Proofs.YtnheknlmmmkbpaaW.PrintLast Go.Proofs.YtnheknlmmmkbpaaW.PrintMore
attribute [local go_sem] max2_int min2_int max_two min_two max_three min_three max_four min_four   -- for this text's walks alone
set_option linter.unusedVariables false
set_option linter.unusedSimpArgs false

/-! ### balance_asked: function 32 -/
def balance_asked.f (a0 : Int) : Option (Int) := if a0 < 0 then (some 2) else (if a0 > 256 then (some 2) else (some 0))
set_option maxHeartbeats 2000000 in
set_option maxRecDepth 100000 in
theorem balance_asked.calls (a0 : Int) (r : Int) (w : World) (h : balance_asked.f a0 = some r) :
  Calls Try.prog 32 #[.int .i64 a0] w fun e w' => e = .returned (.int .i64 r) ∧ Drawn0 w w' := by
 have H : (if a0 < 0 then (some 2) else (if a0 > 256 then (some 2) else (some 0))) = some r := h
 clear h
 by_cases c2 : a0 < 0
 ·
  rw [if_pos c2] at H
  have c2b0 : decide (a0 < 0) = true := decide_eq_true c2
  clear c2
  obtain rfl := Option.some.inj H
  go_enter Try.func32, Try.ntmps32
  go_wp2
  go_ret
  exact ⟨by first | rfl | (simp; done) | (simp [*]; done), by repeat (first | exact Drawn0.refl _ | apply Drawn0.step)⟩
 ·
  rw [if_neg c2] at H
  have c2b0 : decide (a0 < 0) = false := decide_eq_false c2
  clear c2
  by_cases c3 : a0 > 256
  ·
   rw [if_pos c3] at H
   have c3b0 : decide (256 < a0) = true := decide_eq_true c3
   clear c3
   obtain rfl := Option.some.inj H
   go_enter Try.func32, Try.ntmps32
   go_wp2
   go_ret
   exact ⟨by first | rfl | (simp; done) | (simp [*]; done), by repeat (first | exact Drawn0.refl _ | apply Drawn0.step)⟩
  ·
   rw [if_neg c3] at H
   have c3b0 : decide (256 < a0) = false := decide_eq_false c3
   clear c3
   obtain rfl := Option.some.inj H
   go_enter Try.func32, Try.ntmps32
   go_wp2
   go_ret
   exact ⟨by first | rfl | (simp; done) | (simp [*]; done), by repeat (first | exact Drawn0.refl _ | apply Drawn0.step)⟩

end Go.Proofs.Ytnheknlmmmkbpaa.X

namespace Go.Proofs.Ytnheknlmmmkbpaa.X
open Go.RowKit Go.Proofs.YtnheknlmmmkbpaaW.PrintWords Go.Proofs.YtnheknlmmmkbpaaW.PrintLast Go.Proofs.YtnheknlmmmkbpaaW.PrintMore
attribute [local go_sem] max2_int min2_int max_two min_two max_three min_three max_four min_four   -- for this text's walks alone
set_option linter.unusedVariables false
set_option linter.unusedSimpArgs false

/-! ### balance_ratio: function 33 -/
def balance_ratio.l0 : Nat → Int → Int → Int → Int → Option (Int)
 | 0, _, _, _, _ => none
 | k + 1, x0, x3, x6, x7 => if x7 < x6 then (if (wrap64 ((wrap64 (4 * x7)) * x7)) > x0 then (some x3) else (if x7 > x3 then (balance_ratio.l0 k x0 x7 x6 (wrap64 (x7 + 1))) else (balance_ratio.l0 k x0 x3 x6 (wrap64 (x7 + 1))))) else (some x3)
def balance_ratio.f (k : Nat) (a0 : Int) : Option (Int) := balance_ratio.l0 k a0 1 (wrap64 (a0 + 1)) 0
theorem balance_ratio.mono_l : ∀ k, (∀ y0 y1 y2 y3, LeO (balance_ratio.l0 k y0 y1 y2 y3) (balance_ratio.l0 (k + 1) y0 y1 y2 y3))
 | 0 => fun _ _ _ _ r h => by simp [balance_ratio.l0] at h
 | k + 1 => by
  have ih0 := balance_ratio.mono_l k
  ·
   intro y0 y1 y2 y3
   unfold balance_ratio.l0
   repeat' first
   | (with_reducible exact ih0 _ _ _ _)
   | (with_reducible exact LeO.refl _)
   | (with_reducible exact LeO.none _)
   | (with_reducible refine LeO.ite ?_ ?_)
   | (with_reducible refine LeO.bind ?_ (fun _ => ?_))
   | exact ih0 _ _ _ _
   | exact LeO.none _
   | refine LeO.ite ?_ ?_
   | refine LeO.bind ?_ (fun _ => ?_)
theorem balance_ratio.mono : ∀ a0 k, LeO (balance_ratio.f k a0) (balance_ratio.f (k + 1) a0) := by
 intro a0 k
 have ih0 := balance_ratio.mono_l k
 unfold balance_ratio.f
 repeat' first
   | (with_reducible exact ih0 _ _ _ _)
   | (with_reducible exact LeO.refl _)
   | (with_reducible exact LeO.none _)
   | (with_reducible refine LeO.ite ?_ ?_)
   | (with_reducible refine LeO.bind ?_ (fun _ => ?_))
   | exact ih0 _ _ _ _
   | exact LeO.none _
   | refine LeO.ite ?_ ?_
   | refine LeO.bind ?_ (fun _ => ?_)
set_option maxHeartbeats 2000000 in
set_option maxRecDepth 100000 in
theorem balance_ratio.calls (k : Nat) (a0 : Int) (r : Int) (w : World) (h : balance_ratio.f k a0 = some r) :
  Calls Try.prog 33 #[.int .i64 a0] w fun e w' => e = .returned (.int .i64 r) ∧ Drawn0 w w' := by
 have H : (balance_ratio.l0 k a0 1 (wrap64 (a0 + 1)) 0) = some r := h
 clear h
 have H' := Aside0.mk H
 clear H
 go_enter Try.func33, Try.ntmps33
 (go_wp2; all_goals (repeat (go_step3; go_wp2)))
 go_loopg [3, 7] k (fun kq v3 v7 w' => ∃ (x3_1 : Int) (x7_1 : Int), v3 = .int .i64 x3_1 ∧ v7 = .int .i64 x7_1 ∧ Aside0 (balance_ratio.l0 kq a0 x3_1 (wrap64 (a0 + 1)) x7_1 = some r) ∧ Aside0 (kq ≤ k) ∧ Drawn0 w w')
 case atStart => exact ⟨(1), (0), (by first | rfl | (simp; done) | (simp [*]; done)), (by first | rfl | (simp; done) | (simp [*]; done)), H', ⟨Nat.le_refl _⟩, by repeat (first | exact Drawn0.refl _ | apply Drawn0.step)⟩
 case round =>
  clear H'
  obtain ⟨x3_1, x7_1, rfl, rfl, HA, HK1, ⟨m1, rfl⟩⟩ := hrel
  cases gk with
  | zero => exact absurd HA.out (by simp [balance_ratio.l0])
  | succ k1 =>
   have H := HA.out
   clear HA
   simp only [balance_ratio.l0] at H
   by_cases c2 : x7_1 < (wrap64 (a0 + 1))
   ·
    rw [if_pos c2] at H
    have c2b0 : decide (x7_1 < (wrap64 (a0 + 1))) = true := decide_eq_true c2
    clear c2
    by_cases c3 : (wrap64 ((wrap64 (4 * x7_1)) * x7_1)) > a0
    ·
     rw [if_pos c3] at H
     have c3b0 : decide (a0 < (wrap64 ((wrap64 (4 * x7_1)) * x7_1))) = true := decide_eq_true c3
     clear c3
     obtain rfl := Option.some.inj H
     (go_wp2; all_goals (repeat (go_step3; go_wp2)))
     go_ret
     exact ⟨by first | rfl | (simp; done) | (simp [*]; done), by repeat (first | exact Drawn0.refl _ | apply Drawn0.step)⟩
    ·
     rw [if_neg c3] at H
     have c3b0 : decide (a0 < (wrap64 ((wrap64 (4 * x7_1)) * x7_1))) = false := decide_eq_false c3
     clear c3
     by_cases c4 : x7_1 > x3_1
     ·
      rw [if_pos c4] at H
      have c4b0 : decide (x3_1 < x7_1) = true := decide_eq_true c4
      clear c4
      have H' := Aside0.mk H
      clear H
      (go_wp2; all_goals (repeat (go_step3; go_wp2)))
      go_roundg k1
      case measure => have := HK1.out; omega
      case rel => exact ⟨(x7_1), (wrap64 (x7_1 + 1)), (by first | rfl | (simp; done) | (simp [*]; done)), (by first | rfl | (simp; done) | (simp [*]; done)), H', ⟨by have := HK1.out; omega⟩, by repeat (first | exact Drawn0.refl _ | apply Drawn0.step)⟩
     ·
      rw [if_neg c4] at H
      have c4b0 : decide (x3_1 < x7_1) = false := decide_eq_false c4
      clear c4
      have H' := Aside0.mk H
      clear H
      (go_wp2; all_goals (repeat (go_step3; go_wp2)))
      go_roundg k1
      case measure => have := HK1.out; omega
      case rel => exact ⟨(x3_1), (wrap64 (x7_1 + 1)), (by first | rfl | (simp; done) | (simp [*]; done)), (by first | rfl | (simp; done) | (simp [*]; done)), H', ⟨by have := HK1.out; omega⟩, by repeat (first | exact Drawn0.refl _ | apply Drawn0.step)⟩
   ·
    rw [if_neg c2] at H
    have c2b0 : decide (x7_1 < (wrap64 (a0 + 1))) = false := decide_eq_false c2
    clear c2
    obtain rfl := Option.some.inj H
    (go_wp2; all_goals (repeat (go_step3; go_wp2)))
    go_ret
    exact ⟨by first | rfl | (simp; done) | (simp [*]; done), by repeat (first | exact Drawn0.refl _ | apply Drawn0.step)⟩

end Go.Proofs.Ytnheknlmmmkbpaa.X

namespace Go.Proofs.Ytnheknlmmmkbpaa.X
open Go.RowKit Go.Proofs.YtnheknlmmmkbpaaW.PrintWords Go.Proofs.YtnheknlmmmkbpaaW.PrintLast Go.Proofs.YtnheknlmmmkbpaaW.PrintMore
attribute [local go_sem] max2_int min2_int max_two min_two max_three min_three max_four min_four   -- for this text's walks alone
set_option linter.unusedVariables false
set_option linter.unusedSimpArgs false

/-! ### balance_target: function 34 -/
def balance_target.f (k : Nat) (a0 : Int) : Option (Int) := (balance_ratio.f k a0).bind fun t103 => (if (wrap64 (t103 + 1)) = 0 then (none) else (some (wrap64 (Int.tdiv (wrap64 ((wrap64 (a0 + (wrap64 (t103 + 1)))) - 1)) (wrap64 (t103 + 1))))))
theorem balance_target.mono : ∀ a0 k, LeO (balance_target.f k a0) (balance_target.f (k + 1) a0) := by
 intro a0 k
 unfold balance_target.f
 repeat' first
   | (with_reducible exact balance_ratio.mono _ _)
   | (with_reducible exact LeO.refl _)
   | (with_reducible exact LeO.none _)
   | (with_reducible refine LeO.ite ?_ ?_)
   | (with_reducible refine LeO.bind ?_ (fun _ => ?_))
   | exact balance_ratio.mono _ _
   | exact LeO.none _
   | refine LeO.ite ?_ ?_
   | refine LeO.bind ?_ (fun _ => ?_)
set_option maxHeartbeats 2000000 in
set_option maxRecDepth 100000 in
theorem balance_target.calls (k : Nat) (a0 : Int) (r : Int) (w : World) (h : balance_target.f k a0 = some r) :
  Calls Try.prog 34 #[.int .i64 a0] w fun e w' => e = .returned (.int .i64 r) ∧ Drawn0 w w' := by
 have H : ((balance_ratio.f k a0).bind fun t103 => (if (wrap64 (t103 + 1)) = 0 then (none) else (some (wrap64 (Int.tdiv (wrap64 ((wrap64 (a0 + (wrap64 (t103 + 1)))) - 1)) (wrap64 (t103 + 1))))))) = some r := h
 clear h
 replace H := Option.bind_eq_some_iff.mp H
 obtain ⟨t103, A20, H⟩ := H
 replace H : (if (wrap64 (t103 + 1)) = 0 then (none) else (some (wrap64 (Int.tdiv (wrap64 ((wrap64 (a0 + (wrap64 (t103 + 1)))) - 1)) (wrap64 (t103 + 1)))))) = some r := H
 have A2 := Aside0.mk A20
 clear A20
 by_cases c3 : (wrap64 (t103 + 1)) = 0
 ·
  rw [if_pos c3] at H
  exact absurd H (by simp)
 ·
  rw [if_neg c3] at H
  have c3b0 : ((wrap64 (t103 + 1)) == 0) = false := beq_eq_false_iff_ne.mpr c3
  have c3b1 : ((wrap64 (t103 + 1)) != 0) = true := bne_iff_ne.mpr c3
  obtain rfl := Option.some.inj H
  go_enter Try.func34, Try.ntmps34
  go_wp2_with (first | ((with_reducible refine gate_callee (f := 33) rfl ?_); refine goesL_ (some 5) rfl rfl Try.func33 (by kernel_rfl) rfl #[.int .i64 a0] rfl (args_ (p := _)) ?_; (with_reducible refine (balance_ratio.calls k a0 t103 _ A2.out).mono ?_); rintro e w' ⟨rfl, ⟨nd, rfl⟩⟩; refine ⟨_, rfl, ?_⟩))
  go_ret
  exact ⟨by first | rfl | (simp; done) | (simp [*]; done), by repeat (first | exact Drawn0.refl _ | apply Drawn0.step)⟩

end Go.Proofs.Ytnheknlmmmkbpaa.X

namespace Go.Proofs.Ytnheknlmmmkbpaa.X
open Go.RowKit Go.Proofs.YtnheknlmmmkbpaaW.PrintWords Go.Proofs.YtnheknlmmmkbpaaW.PrintLast Go.Proofs.YtnheknlmmmkbpaaW.PrintMore
attribute [local go_sem] max2_int min2_int max_two min_two max_three min_three max_four min_four   -- for this text's walks alone
set_option linter.unusedVariables false
set_option linter.unusedSimpArgs false

/-! ### balance_Target: function 11 -/
def balance_Target.f (k : Nat) (a0 : Int) : Option (Int × Int) := (balance_asked.f a0).bind fun t104 => (if t104 = 0 then ((balance_target.f k a0).bind fun t105 => (some (t105, 0))) else (some (0, t104)))
theorem balance_Target.mono : ∀ a0 k, LeO (balance_Target.f k a0) (balance_Target.f (k + 1) a0) := by
 intro a0 k
 unfold balance_Target.f
 repeat' first
   | (with_reducible exact balance_target.mono _ _)
   | (with_reducible exact LeO.refl _)
   | (with_reducible exact LeO.none _)
   | (with_reducible refine LeO.ite ?_ ?_)
   | (with_reducible refine LeO.bind ?_ (fun _ => ?_))
   | exact balance_target.mono _ _
   | exact LeO.none _
   | refine LeO.ite ?_ ?_
   | refine LeO.bind ?_ (fun _ => ?_)
set_option maxHeartbeats 2000000 in
set_option maxRecDepth 100000 in
theorem balance_Target.calls (k : Nat) (a0 : Int) (r1 : Int) (r2 : Int) (w : World) (h : balance_Target.f k a0 = some (r1, r2)) :
  Calls Try.prog 11 #[.int .i64 a0] w fun e w' => e = .returned (.tuple #[.int .i64 r1, .int .i64 r2]) ∧ Drawn0 w w' := by
 have H : ((balance_asked.f a0).bind fun t104 => (if t104 = 0 then ((balance_target.f k a0).bind fun t105 => (some (t105, 0))) else (some (0, t104)))) = some (r1, r2) := h
 clear h
 replace H := Option.bind_eq_some_iff.mp H
 obtain ⟨t104, A20, H⟩ := H
 replace H : (if t104 = 0 then ((balance_target.f k a0).bind fun t105 => (some (t105, 0))) else (some (0, t104))) = some (r1, r2) := H
 have A2 := Aside0.mk A20
 clear A20
 by_cases c3 : t104 = 0
 ·
  rw [if_pos c3] at H
  have c3b0 : (t104 == 0) = true := beq_iff_eq.mpr c3
  have c3b1 : (t104 != 0) = false := bne_eq_false_iff_eq.mpr c3
  clear c3
  replace H := Option.bind_eq_some_iff.mp H
  obtain ⟨t105, A40, H⟩ := H
  replace H : (some (t105, 0)) = some (r1, r2) := H
  have A4 := Aside0.mk A40
  clear A40
  simp only [Option.some.injEq, Prod.mk.injEq] at H
  obtain ⟨rfl, rfl⟩ := H
  go_enter Try.func11, Try.ntmps11
  go_wp2_with (first | ((with_reducible refine gate_callee (f := 32) rfl ?_); refine goesL_ (some 6) rfl rfl Try.func32 (by kernel_rfl) rfl #[.int .i64 a0] rfl (args_ (p := _)) ?_; (with_reducible refine (balance_asked.calls a0 t104 _ A2.out).mono ?_); rintro e w' ⟨rfl, ⟨nd, rfl⟩⟩; refine ⟨_, rfl, ?_⟩) | ((with_reducible refine gate_callee (f := 34) rfl ?_); refine goesL_ (some 11) rfl rfl Try.func34 (by kernel_rfl) rfl #[.int .i64 a0] rfl (args_ (p := _)) ?_; (with_reducible refine (balance_target.calls k a0 t105 _ A4.out).mono ?_); rintro e w' ⟨rfl, ⟨nd, rfl⟩⟩; refine ⟨_, rfl, ?_⟩))
  go_ret2
  exact ⟨by first | rfl | (simp; done) | (simp [*]; done), by repeat (first | exact Drawn0.refl _ | apply Drawn0.step)⟩
 ·
  rw [if_neg c3] at H
  have c3b0 : (t104 == 0) = false := beq_eq_false_iff_ne.mpr c3
  have c3b1 : (t104 != 0) = true := bne_iff_ne.mpr c3
  simp only [Option.some.injEq, Prod.mk.injEq] at H
  obtain ⟨rfl, rfl⟩ := H
  go_enter Try.func11, Try.ntmps11
  go_wp2_with (first | ((with_reducible refine gate_callee (f := 32) rfl ?_); refine goesL_ (some 6) rfl rfl Try.func32 (by kernel_rfl) rfl #[.int .i64 a0] rfl (args_ (p := _)) ?_; (with_reducible refine (balance_asked.calls a0 t104 _ A2.out).mono ?_); rintro e w' ⟨rfl, ⟨nd, rfl⟩⟩; refine ⟨_, rfl, ?_⟩))
  go_ret2
  exact ⟨by first | rfl | (simp; done) | (simp [*]; done), by repeat (first | exact Drawn0.refl _ | apply Drawn0.step)⟩

end Go.Proofs.Ytnheknlmmmkbpaa.X

namespace Go.Proofs.Ytnheknlmmmkbpaa.X
open Go.RowKit Go.Proofs.YtnheknlmmmkbpaaW.PrintWords Go.Proofs.YtnheknlmmmkbpaaW.PrintLast Go.Proofs.YtnheknlmmmkbpaaW.PrintMore
attribute [local go_sem] max2_int min2_int max_two min_two max_three min_three max_four min_four   -- for this text's walks alone
set_option linter.unusedVariables false
set_option linter.unusedSimpArgs false

/-! ### Maps that the call makes, as functions on plain keys -/
theorem C_at_ {α : Type} {enc : α → Value} {h1 : ∀ x, (enc x).oneCell' = true} {w : World} {A : Option Addr} {n : Nat} {xs : List α} (h : (Kd.scalar enc h1).C w A n xs) (d : α) (i : Nat) (hi : i < n) : ∃ ad, A = some ad ∧ w.cell? (ad.add i) = some (enc (xs.getD i d)) := by
 obtain ⟨ad, c, e, _, hK, hc⟩ := Kd.C_get h d (i : Int) (by omega) (by omega)
 obtain rfl : c = [enc (xs.getD i d)] := by simpa [Kd.scalar] using hK
 exact ⟨ad, e, by simpa [Kd.scalar] using hc 0 _ rfl⟩
theorem plainElem_bool_inv {H : Type} {P : Program} {e : TypeId} (he : P.underlying e = some .bool) {v : Value} {z : DataW H × List MemPlace} (h : plainElem P e v = some z) : ∃ a, v = .bool a ∧ z = (.lit (.bool a), []) := by
 unfold plainElem at h
 rw [he] at h
 cases v <;> simp at h
 exact ⟨_, rfl, h.symm⟩
/-- How plain keys are written as values of the key's type: each has a reading, and different ones are different. -/
structure KeyBy {κ : Type} (P : Program) (K : TypeId) (enc : κ → Value) (ok : κ → Prop) : Prop where
 keyed : Go.Maps.Keyed P K
 key : ∀ x, ok x → ∃ l, keyOf P K (enc x) = some l
 inj : ∀ x y, enc x = enc y → x = y
def litOf {κ : Type} (P : Program) (K : TypeId) (enc : κ → Value) (x : κ) : Lit := (keyOf P K (enc x)).getD (.bool false)
theorem KeyBy.lit {κ : Type} {P : Program} {K : TypeId} {enc : κ → Value} {ok : κ → Prop} (h : KeyBy P K enc ok) {x : κ} (hx : ok x) : keyOf P K (enc x) = some (litOf P K enc x) := by
 obtain ⟨l, hl⟩ := h.key x hx
 rw [hl, litOf, hl]
 rfl
theorem KeyBy.litInj {κ : Type} {P : Program} {K : TypeId} {enc : κ → Value} {ok : κ → Prop} (h : KeyBy P K enc ok) {x y : κ} (hx : ok x) (hy : ok y) (e : litOf P K enc x = litOf P K enc y) : x = y :=
 h.inj _ _ (h.keyed.inj (h.lit hx) (by rw [e]; exact h.lit hy))
/-- How plain elements are written and read. -/
structure ElemBy {α : Type} (P : Program) (E : TypeId) (encE : α → Value) (datE : α → DataW Unit) (z : α) : Prop where
 zero : ∀ w, (zeroValue E).run P w = .ok (encE z) w
 zok : plainElem P E (encE z) = some (datE z, [])
 inv : ∀ (v : Value) (y : DataW Unit × List MemPlace), plainElem P E v = some y → ∃ a, v = encE a ∧ y.1 = datE a
 dinj : ∀ a b, datE a = datE b → a = b
theorem elem_int (P : Program) (E : TypeId) (q : IntKind) (he : P.underlying E = some (.int q)) (hz : ∀ w, (zeroValue E).run P w = .ok (.int q 0) w) : ElemBy P E (fun a : Int => .int q a) (fun a => .lit (.int q a)) 0 where
 zero := hz
 zok := plainElem_int he (by cases q <;> decide)
 inv v y h := by
  obtain ⟨a, rfl, rfl, _⟩ := plainElem_int_inv he h
  exact ⟨a, rfl, rfl⟩
 dinj a b h := by injection h with h; injection h
theorem elem_bool (P : Program) (E : TypeId) (he : P.underlying E = some .bool) (hz : ∀ w, (zeroValue E).run P w = .ok (.bool false) w) : ElemBy P E (fun a : Bool => .bool a) (fun a => .lit (.bool a)) false where
 zero := hz
 zok := plainElem_bool he false
 inv v y h := by
  obtain ⟨a, rfl, rfl⟩ := plainElem_bool_inv he h
  exact ⟨a, rfl, rfl⟩
 dinj a b h := by injection h with h; injection h
/-- Block b is a map of at most n entries that holds g. -/
def MapOf {κ α : Type} (P : Program) (K E : TypeId) (enc : κ → Value) (ok : κ → Prop) (datE : α → DataW Unit) (z : α) (w : World) (b n : Nat) (g : κ → Option α) : Prop :=
 ∃ D : DataW Unit, w.ownsMap P K (plainElem P E) b n D ∧ Go.Maps.IsMap D ∧ ∀ x, ok x → Go.Maps.has D (litOf P K enc x) = (g x).isSome ∧ D.atKey (litOf P K enc x) (datE z) = datE ((g x).getD z)
section
variable {κ α : Type} {P : Program} {K E : TypeId} {enc : κ → Value} {ok : κ → Prop} {encE : α → Value} {datE : α → DataW Unit} {z : α} {w w' : World} {b n : Nat} {g : κ → Option α}
theorem mapOf_made (w : World) : MapOf P K E enc ok datE z (w.alloc (.map #[] 0)) w.heap.size 0 (fun _ => none) :=
 ⟨.map [], World.ownsMap_made _ _ _ _, Go.Maps.isMap_empty, fun _ _ => ⟨rfl, rfl⟩⟩
theorem MapOf.grown (h : MapOf P K E enc ok datE z w b n g) {row : Option Nat} (hg : w.grownBy w' row) (hne : some b ≠ row) : MapOf P K E enc ok datE z w' b n g := by
 obtain ⟨D, h1, h2, h3⟩ := h
 exact ⟨D, h1.kept hg hne, h2, h3⟩
theorem MapOf.below (h : MapOf P K E enc ok datE z w b n g) (hb : Below w.heap.size w w') : MapOf P K E enc ok datE z w' b n g := h.grown (grown_of_below hb none) (by simp)
theorem MapOf.alloc (h : MapOf P K E enc ok datE z w b n g) (o : Obj) : MapOf P K E enc ok datE z (w.alloc o) b n g := h.below (below_alloc (Below.refl _ _) o)
theorem MapOf.drewN (h : MapOf P K E enc ok datE z w b n g) (m : Nat) : MapOf P K E enc ok datE z (w.drewN m) b n g := h.below (pw_below_drewN (Below.refl _ _) m)
theorem MapOf.drew (h : MapOf P K E enc ok datE z w b n g) : MapOf P K E enc ok datE z w.drew b n g := h.below (below_drew (Below.refl _ _))
theorem MapOf.mono (h : MapOf P K E enc ok datE z w b n g) {n' : Nat} (hn : n ≤ n') : MapOf P K E enc ok datE z w b n' g := by
 obtain ⟨D, h1, h2, h3⟩ := h
 exact ⟨D, h1.mono hn, h2, h3⟩
theorem MapOf.lt (h : MapOf P K E enc ok datE z w b n g) : b < w.heap.size := by
 obtain ⟨D, h1, _⟩ := h
 exact h1.lt
variable {ops : Array Oper} {rest : List Oper} {o : Oper} {a : Act} {Q : Exit → Act → World → Prop}
theorem wpList_look (B : KeyBy P K enc ok) (Z : ElemBy P E encE datE z) (hg : o.guard = none) (m k : Operand) (t : TypeId) (hop : o.op = Op.lookup t m k false) (ht : P.underlying t = some (.map K E))
  (hm : a.eval m = .map (some b)) (h : MapOf P K E enc ok datE z w b n g) (x : κ) (hk : a.eval k = enc x) (hx : ok x) (hK : wpList P ops Q rest (a.put o.dst (encE ((g x).getD z))) w) : wpList P ops Q (o :: rest) a w := by
 obtain ⟨D, h1, h2, h3⟩ := h
 refine wpList_plain hg fun K' hK' => ?_
 obtain ⟨v, ps, hrun, hv⟩ := h1.lookup B.keyed ht (Z.zero w) Z.zok (B.lit hx)
 obtain ⟨c, rfl, hc⟩ := Z.inv _ _ hv
 rw [show c = (g x).getD z from Z.dinj _ _ (hc.symm.trans (h3 x hx).2)] at hrun
 unfold Oper.wp
 simp [execOp, hop, hm, hk, hrun, Result.andThen]
 exact hK' _ _ hK
theorem wpList_look_ok (B : KeyBy P K enc ok) (Z : ElemBy P E encE datE z) (hg : o.guard = none) (m k : Operand) (t : TypeId) (hop : o.op = Op.lookup t m k true) (ht : P.underlying t = some (.map K E))
  (hm : a.eval m = .map (some b)) (h : MapOf P K E enc ok datE z w b n g) (x : κ) (hk : a.eval k = enc x) (hx : ok x) (hK : wpList P ops Q rest (a.put o.dst (.tuple #[encE ((g x).getD z), .bool (g x).isSome])) w) : wpList P ops Q (o :: rest) a w := by
 obtain ⟨D, h1, h2, h3⟩ := h
 refine wpList_plain hg fun K' hK' => ?_
 obtain ⟨v, ps, hrun, hv⟩ := h1.look_ok B.keyed ht (Z.zero w) Z.zok (B.lit hx)
 obtain ⟨c, rfl, hc⟩ := Z.inv _ _ hv
 rw [show c = (g x).getD z from Z.dinj _ _ (hc.symm.trans (h3 x hx).2), (h3 x hx).1] at hrun
 unfold Oper.wp
 simp [execOp, hop, hm, hk, hrun, Result.andThen]
 exact hK' _ _ hK
theorem MapOf.put [DecidableEq κ] (B : KeyBy P K enc ok) {D : DataW Unit} (h2 : Go.Maps.IsMap D) (h3 : ∀ x, ok x → Go.Maps.has D (litOf P K enc x) = (g x).isSome ∧ D.atKey (litOf P K enc x) (datE z) = datE ((g x).getD z)) (x : κ) (hx : ok x) (v : α) :
  ∀ y, ok y → Go.Maps.has (D.put (litOf P K enc x) (datE v)) (litOf P K enc y) = (if y = x then some v else g y).isSome ∧ (D.put (litOf P K enc x) (datE v)).atKey (litOf P K enc y) (datE z) = datE ((if y = x then some v else g y).getD z) := by
 intro y hy
 have hk := B.keyed.key (B.lit hx)
 by_cases e : y = x
 ·
  subst e
  rw [if_pos rfl, Go.Maps.has_put_same h2 hk, Go.Maps.atKey_put_same h2 hk]
  exact ⟨rfl, rfl⟩
 ·
  have hne : litOf P K enc y ≠ litOf P K enc x := fun h => e (B.litInj hy hx h)
  rw [if_neg e, Go.Maps.has_put_other hne, Go.Maps.atKey_put_other hne]
  exact h3 y hy
theorem wpList_put [DecidableEq κ] (B : KeyBy P K enc ok) (hg : o.guard = none) (m k v : Operand) (t : TypeId) (hop : o.op = Op.mapUpdate t m k v) (ht : P.underlying t = some (.map K E))
  (hm : a.eval m = .map (some b)) (h : MapOf P K E enc ok datE z w b n g) (hn : n < 9223372036854775807) (x : κ) (y : α) (hk : a.eval k = enc x) (hx : ok x) (ev : Value) (hv : a.eval v = ev) (hy : plainElem P E ev = some (datE y, []))
  (hK : ∀ w', MapOf P K E enc ok datE z w' b (n + 1) (fun q => if q = x then some y else g q) → w.grownBy w' (some b) → wpList P ops Q rest (a.put o.dst undef) w') : wpList P ops Q (o :: rest) a w := by
 obtain ⟨D, h1, h2, h3⟩ := h
 exact wpList_mapUpdate_own w hg m k v t hop K E B.keyed ht _ b n D hm h1 (by unfold maxLen; omega) _ _ _ hk hv (B.lit hx) (datE y) [] hy fun w' r1 r2 => hK w' ⟨_, r1, h2.put _ _, MapOf.put B h2 h3 x hx y⟩ r2
theorem wpList_del [DecidableEq κ] (B : KeyBy P K enc ok) (hg : o.guard = none) (m k : Operand) (t : TypeId) (hop : o.op = Op.call { callee := Callee.builtin Builtin.delete, args := #[m, k], argTypes := #[t, K] }) (ht : P.underlying t = some (.map K E))
  (hm : a.eval m = .map (some b)) (h : MapOf P K E enc ok datE z w b n g) (x : κ) (hk : a.eval k = enc x) (hx : ok x)
  (hK : ∀ w', MapOf P K E enc ok datE z w' b n (fun q => if q = x then none else g q) → w.grownBy w' (some b) → wpList P ops Q rest (a.put o.dst (.tuple #[])) w') : wpList P ops Q (o :: rest) a w := by
 obtain ⟨D, h1, h2, h3⟩ := h
 refine wpList_delete_own w hg m k t K hop E B.keyed ht _ b n D hm h1 _ _ hk (B.lit hx) fun w' r1 r2 => hK w' ⟨_, r1, ?_, fun y hy => ?_⟩ r2.grown
 ·
  obtain ⟨es, rfl⟩ := h2
  exact ⟨_, rfl⟩
 ·
  by_cases e : y = x
  ·
   subst e
   dsimp only
   rw [if_pos rfl, Go.Maps.has_del_same, Go.Maps.atKey_del_same]
   exact ⟨rfl, rfl⟩
  ·
   have hne : litOf P K enc y ≠ litOf P K enc x := fun h => e (B.litInj hy hx h)
   dsimp only
   rw [if_neg e, Go.Maps.has_del_other hne, Go.Maps.atKey_del_other hne]
   exact h3 y hy
end
theorem key_int (P : Program) (K : TypeId) (q : IntKind) (hk : P.underlying K = some (.int q)) : KeyBy P K (fun a : Int => .int q a) (fun a => (Lit.int q a).wf = true) where
 keyed := Go.Maps.int_keyed hk
 key x hx := ⟨_, Go.Maps.keyOf_int_mk hk hx⟩
 inj x y h := by injection h


end Go.Proofs.Ytnheknlmmmkbpaa.X

namespace Go.Proofs.Ytnheknlmmmkbpaa.X
open Go.RowKit Go.Proofs.YtnheknlmmmkbpaaW.PrintWords Go.Proofs.YtnheknlmmmkbpaaW.PrintLast Go.Proofs.YtnheknlmmmkbpaaW.PrintMore
attribute [local go_sem] max2_int min2_int max_two min_two max_three min_three max_four min_four   -- for this text's walks alone
set_option linter.unusedVariables false
set_option linter.unusedSimpArgs false

/-! ### lru_Check: function 38 -/
/-- One list of frames, behind those that were seen. -/
def lruIn (N : Nat) (k : List Int → Int) : List Int → List Int → Int
 | [], seen => k seen
 | x :: xs, seen => if x < 0 then 2 else if (N : Int) ≤ x then 2 else if seen.contains x = true then 7 else lruIn N k xs (x :: seen)
/-- The marks from number f on. -/
def lruFrom (seen : List Int) : List Bool → Nat → Int
 | [], _ => 0
 | b :: bs, f => if b = true then (if seen.contains (f : Int) = true then lruFrom seen bs (f + 1) else 9) else lruFrom seen bs (f + 1)
/-- From the list with number i on. -/
def lruOut (a b : List Int) (ref : List Bool) : Nat → List Int → Int
 | 0, seen => lruIn ref.length (fun s => lruIn ref.length (fun s => lruFrom s ref 0) b s) a seen
 | 1, seen => lruIn ref.length (fun s => lruFrom s ref 0) b seen
 | _, seen => lruFrom seen ref 0
def lruCheck (a b : List Int) (ref : List Bool) : Int :=
 if ref.length < 1 then 2 else if 256 < ref.length then 2 else lruOut a b ref 0 []
def lru_Check.f (l0_0 : List Int) (l0_1 : List Int) (l0_2 : List Bool) : Option Int := if l0_0.length + l0_1.length ≤ 1000000 then some (lruCheck l0_0 l0_1 l0_2) else none
/-- How many have been looked at ahead of list n. -/
def lenTo (a b : List Int) : Nat → Nat
 | 0 => 0
 | 1 => a.length
 | _ => a.length + b.length
/-- The map holds just what was seen. -/
def SeenMap (D : DataW Unit) (seen : List Int) : Prop := ∀ n : Int, D.atKey (.int .i64 n) (.lit (.bool false)) = .lit (.bool (seen.contains n))
theorem seenMap_nil : SeenMap (.map []) [] := fun n => by simp [DataW.atKey]
theorem seenMap_put {D : DataW Unit} {seen : List Int} (hD : Go.Maps.IsMap D) (h : SeenMap D seen) (x : Int) : SeenMap (D.put (.int .i64 x) (.lit (.bool true))) (x :: seen) := fun n => by
 by_cases e : n = x
 ·
  subst e
  rw [Go.Maps.atKey_put_same hD (by trivial)]
  simp
 ·
  rw [Go.Maps.atKey_put_other (by simpa using e), h n]
  simp [e]
theorem wpList_lookup_own_bool {H : Type} {P : Program} (w : World) {ops : Array Oper} {rest : List Oper} {o : Oper} {a : Act} {Q : Exit → Act → World → Prop}
  (hg : o.guard = none) (m x : Operand) (t : TypeId) (hop : o.op = Op.lookup t m x false)
  (k e : TypeId) (K : Go.Maps.Keyed P k) (ht : P.underlying t = some (.map k e)) (he : P.underlying e = some .bool) (hz : (zeroValue e).run P w = .ok (.bool false) w) (b n : Nat) (D : DataW H)
  (hm : a.eval m = .map (some b)) (hown : w.ownsMap P k (plainElem P e) b n D) (key : Value) (kl : Lit) (hx : a.eval x = key) (hkey : keyOf P k key = some kl)
  (hK : ∀ c : Bool, D.atKey kl (.lit (.bool false)) = .lit (.bool c) → wpList P ops Q rest (a.put o.dst (.bool c)) w) :
  wpList P ops Q (o :: rest) a w := by
 refine wpList_plain hg fun K' hK' => ?_
 obtain ⟨v, ps, hrun, hv⟩ := hown.lookup K ht hz (plainElem_bool he false) hkey
 obtain ⟨c, rfl, hc⟩ := plainElem_bool_inv he hv
 simp only [Prod.mk.injEq] at hc
 unfold Oper.wp
 simp [execOp, hop, hm, hx, hrun, Result.andThen]
 exact hK' _ _ (hK c hc.1)
theorem lruIn_step {N : Nat} {k : List Int → Int} {xs seen : List Int} {j : Nat} {r : Int} (hj : j < xs.length) (h : lruIn N k (xs.drop j) seen = r) :
  (if xs.getD j 0 < 0 then 2 else if (N : Int) ≤ xs.getD j 0 then 2 else if seen.contains (xs.getD j 0) = true then 7 else lruIn N k (xs.drop (j + 1)) (xs.getD j 0 :: seen)) = r := by
 rw [List.drop_eq_getElem_cons hj] at h
 have e : xs[j] = xs.getD j 0 := by simp [List.getD_eq_getElem?_getD, List.getElem?_eq_getElem hj]
 rw [e] at h
 exact h
theorem lruFrom_step {seen : List Int} {bs : List Bool} {j : Nat} {r : Int} (hj : j < bs.length) (h : lruFrom seen (bs.drop j) j = r) :
  (if bs.getD j false = true then (if seen.contains (j : Int) = true then lruFrom seen (bs.drop (j + 1)) (j + 1) else 9) else lruFrom seen (bs.drop (j + 1)) (j + 1)) = r := by
 rw [List.drop_eq_getElem_cons hj] at h
 have e : bs[j] = bs.getD j false := by simp [List.getD_eq_getElem?_getD, List.getElem?_eq_getElem hj]
 rw [e] at h
 exact h
set_option maxHeartbeats 2000000 in
set_option maxRecDepth 100000 in
theorem lru_Check.calls (A0_0 : Option Addr) (c0_0 : Nat) (l0_0 : List Int) (A0_1 : Option Addr) (c0_1 : Nat) (l0_1 : List Int) (A0_2 : Option Addr) (c0_2 : Nat) (l0_2 : List Bool) (r : Int) (w : World) (hr0_0 : Kd.C (Kd.int .i64) w A0_0 l0_0.length l0_0) (hc0_0 : l0_0.length ≤ c0_0) (hr0_1 : Kd.C (Kd.int .i64) w A0_1 l0_1.length l0_1) (hc0_1 : l0_1.length ≤ c0_1) (hr0_2 : Kd.C Kd.bool w A0_2 l0_2.length l0_2) (hc0_2 : l0_2.length ≤ c0_2) (h : lru_Check.f l0_0 l0_1 l0_2 = some r) :
  Calls Try.prog 38 #[.agg #[.slice A0_0 l0_0.length c0_0, .slice A0_1 l0_1.length c0_1, .slice A0_2 l0_2.length c0_2]] w fun e w' => e = .returned (.int .i64 r) ∧ Below w.heap.size w w' := by
 have hu33 := Try.underlying33
 have hmm := @run_makeMap Try.prog
 unfold lru_Check.f at h
 by_cases c0 : l0_0.length + l0_1.length ≤ 1000000
 case neg => rw [if_neg c0] at h; cases h
 rw [if_pos c0] at h
 have H := Option.some.inj h
 clear h
 unfold lruCheck at H
 by_cases c1 : l0_2.length < 1
 ·
  rw [if_pos c1] at H
  subst H
  have e1 : decide (l0_2.length < 1) = true := decide_eq_true c1
  have e1' : decide ((l0_2.length : Int) < 1) = true := decide_eq_true (by omega)
  go_enter Try.func38, Try.ntmps38
  go_wp2
  go_ret
  exact ⟨rfl, below_alloc (Below.refl _ _) _⟩
 ·
  by_cases c2 : 256 < l0_2.length
  ·
   rw [if_neg c1, if_pos c2] at H
   subst H
   have e1 : decide (l0_2.length < 1) = false := decide_eq_false c1
   have e2 : decide (256 < l0_2.length) = true := decide_eq_true c2
   have e1' : decide ((l0_2.length : Int) < 1) = false := decide_eq_false (by omega)
   have e2' : decide ((256 : Int) < l0_2.length) = true := decide_eq_true (by omega)
   go_enter Try.func38, Try.ntmps38
   go_wp2
   go_ret
   exact ⟨rfl, below_alloc (Below.refl _ _) _⟩
  ·
   rw [if_neg c1, if_neg c2] at H
   have e1 : decide (l0_2.length < 1) = false := decide_eq_false c1
   have e2 : decide (256 < l0_2.length) = false := decide_eq_false c2
   have e1' : decide ((l0_2.length : Int) < 1) = false := decide_eq_false (by omega)
   have e2' : decide ((256 : Int) < l0_2.length) = false := decide_eq_false (by omega)
   have HH := Aside0.mk H
   clear H
   go_enter Try.func38, Try.ntmps38
   go_wp2
   go_loopg [27] 2 (fun g i wr => ∃ (n : Nat) (seen : List Int), n + g = 2 ∧ i = .int .i64 n ∧ Aside0 (lruOut l0_0 l0_1 l0_2 n seen = r) ∧ Aside0 (seen.length ≤ lenTo l0_0 l0_1 n) ∧ Aside0 (wr.heap[w.heap.size]? = some (.cells #[.slice A0_0 l0_0.length c0_0, .slice A0_1 l0_1.length c0_1, .slice A0_2 l0_2.length c0_2] 33 (0, 0))) ∧ Aside0 (wr.heap[w.heap.size + 1 + 1]? = some (.cells #[.slice A0_0 l0_0.length c0_0, .slice A0_1 l0_1.length c0_1] 30 (0, 0))) ∧ Aside0 (∃ D : DataW Unit, wr.ownsMap Try.prog 3 (plainElem Try.prog 4) (w.heap.size + 1) seen.length D ∧ Go.Maps.IsMap D ∧ SeenMap D seen) ∧ Aside0 (Below w.heap.size w wr))
   case atStart =>
    exact ⟨0, [], by omega, rfl, HH, ⟨by simp⟩, ⟨blk_alloc (blk_alloc (blk_new _ _) _) _⟩, ⟨by have := blk_new ((w.alloc (.cells #[.slice A0_0 l0_0.length c0_0, .slice A0_1 l0_1.length c0_1, .slice A0_2 l0_2.length c0_2] 33)).alloc (.map #[] 0)) (.cells #[.slice A0_0 l0_0.length c0_0, .slice A0_1 l0_1.length c0_1] 30); simpa using this⟩, ⟨.map [], by have := (World.ownsMap_made (H := Unit) (w.alloc (.cells #[.slice A0_0 l0_0.length c0_0, .slice A0_1 l0_1.length c0_1, .slice A0_2 l0_2.length c0_2] 33)) Try.prog 3 (plainElem Try.prog 4)).alloc (.cells #[.slice A0_0 l0_0.length c0_0, .slice A0_1 l0_1.length c0_1] 30); simpa using this, Go.Maps.isMap_empty, seenMap_nil⟩, ⟨below_alloc (below_alloc (below_alloc (Below.refl _ _) _) _) _⟩⟩
   case round =>
    obtain ⟨n, seen, hng, rfl, HA, HL, B1, B2, HM, HB⟩ := hrel
    obtain ⟨ga, rfl⟩ : ∃ ga, ga = gk := ⟨_, rfl⟩
    clear HH
    have hc0 := (blk_cell B1.out 0).trans rfl
    have hc1 := (blk_cell B1.out 1).trans rfl
    have hc2 := (blk_cell B1.out 2).trans rfl
    by_cases hn : n < 2
    ·
     obtain ⟨A, c, p, hcell, hr, hlt, H⟩ : ∃ (A : Option Addr) (c : Nat) (p : List Int), wr.cell? ⟨w.heap.size + 1 + 1, n, none⟩ = some (.slice A p.length c) ∧ Aside0 (Kd.C (Kd.int .i64) w A p.length p) ∧ Aside0 (lenTo l0_0 l0_1 (n + 1) = lenTo l0_0 l0_1 n + p.length ∧ lenTo l0_0 l0_1 (n + 1) ≤ 1000000) ∧ Aside0 (lruIn l0_2.length (lruOut l0_0 l0_1 l0_2 (n + 1)) (p.drop 0) seen = r) := by
      have hn2 : n = 0 ∨ n = 1 := by omega
      rcases hn2 with rfl | rfl
      ·
       exact ⟨A0_0, c0_0, l0_0, (blk_cell B2.out 0).trans rfl, ⟨hr0_0⟩, ⟨⟨(Nat.zero_add _).symm, Nat.le_trans (Nat.le_add_right _ _) c0⟩⟩, ⟨HA.out⟩⟩
      ·
       exact ⟨A0_1, c0_1, l0_1, (blk_cell B2.out 1).trans rfl, ⟨hr0_1⟩, ⟨⟨rfl, c0⟩⟩, ⟨HA.out⟩⟩
     clear HA
     have hnl : decide ((n : Int) < 2) = true := decide_eq_true (by omega)
     go_wp2
     obtain ⟨wo, hwo⟩ : ∃ wo, wo = wr := ⟨_, rfl⟩
     subst hwo
     go_loopg [33] p.length (fun g v wr => ∃ (j : Nat) (seen : List Int), j + g = p.length ∧ v = .int .i64 j ∧ Aside0 (lruIn l0_2.length (lruOut l0_0 l0_1 l0_2 (n + 1)) (p.drop j) seen = r) ∧ Aside0 (seen.length ≤ lenTo l0_0 l0_1 n + j) ∧ Aside0 (wr.heap[w.heap.size]? = some (.cells #[.slice A0_0 l0_0.length c0_0, .slice A0_1 l0_1.length c0_1, .slice A0_2 l0_2.length c0_2] 33 (0, 0))) ∧ Aside0 (wr.heap[w.heap.size + 1 + 1]? = some (.cells #[.slice A0_0 l0_0.length c0_0, .slice A0_1 l0_1.length c0_1] 30 (0, 0))) ∧ Aside0 (∃ D : DataW Unit, wr.ownsMap Try.prog 3 (plainElem Try.prog 4) (w.heap.size + 1) seen.length D ∧ Go.Maps.IsMap D ∧ SeenMap D seen) ∧ Aside0 (Below w.heap.size w wr))
     case atStart => exact ⟨0, seen, by omega, rfl, H, ⟨HL.out⟩, B1, B2, HM, HB⟩
     case round =>
      clear H HM hc0 hc1 hc2 B1 B2 HB HL hcell
      obtain ⟨j, seen, hjg, rfl, HA, HL, B1, B2, HM, HB⟩ := hrel
      have hc2 := (blk_cell B1.out 2).trans rfl
      by_cases hj : j < p.length
      ·
       have H := lruIn_step hj HA.out
       obtain ⟨ad, rfl, hcx⟩ := C_at_ hr.out 0 j hj
       have hcx' := (HB.out.cell (World.block_lt_of_cell? w _ hcx)).trans hcx
       clear HA hcx
       have hjl : decide ((j : Int) < (p.length : Int)) = true := decide_eq_true (by omega)
       have hjl' : decide (j < p.length) = true := decide_eq_true hj
       generalize p.getD j 0 = x at H hcx'
       by_cases x1 : x < 0
       ·
        rw [if_pos x1] at H
        have x1b := decide_eq_true x1
        subst H
        go_wp2
        go_ret
        exact ⟨rfl, HB.out⟩
       ·
        rw [if_neg x1] at H
        have x1b : decide (x < 0) = false := decide_eq_false x1
        by_cases x2 : (l0_2.length : Int) ≤ x
        ·
         rw [if_pos x2] at H
         have x2b := decide_eq_true x2
         subst H
         go_wp2
         go_ret
         exact ⟨rfl, HB.out⟩
        ·
         rw [if_neg x2] at H
         have x2b : decide ((l0_2.length : Int) ≤ x) = false := decide_eq_false x2
         obtain ⟨D, hown, hD, hS⟩ := HM.out
         have hkey : keyOf Try.prog 3 (.int .i64 x) = some (.int .i64 x) := Go.Maps.keyOf_int_mk Try.underlying3 (WalkArith.wf_i64 (by omega))
         have HS := Aside0.mk hS
         have HD := Aside0.mk hD
         have HO := Aside0.mk hown
         have HLt := hlt.out
         have HLs := HL.out
         clear hS hD hown HM
         by_cases x3 : seen.contains x = true
         ·
          rw [if_pos x3] at H
          subst H
          go_wp2_with (first | (at_lookup; (try (refine gate_guard (by rfl) ?_; dsimp only)); refine wpList_lookup_own_bool _ rfl _ _ _ rfl 3 4 (Go.Maps.int_keyed Try.underlying3) Try.underlying64 Try.underlying4 (by kernel_rfl) (w.heap.size + 1) seen.length _ rfl HO.out _ _ rfl hkey ?_; intro cc hcc; rw [HS.out x, x3] at hcc; obtain rfl : cc = true := by simpa using hcc.symm))
          go_ret
          exact ⟨rfl, HB.out⟩
         ·
          rw [if_neg x3] at H
          have x3f : seen.contains x = false := by simpa using x3
          have HH := Aside0.mk H
          clear H x3
          go_wp2_with (first | (at_lookup; (try (refine gate_guard (by rfl) ?_; dsimp only)); refine wpList_lookup_own_bool _ rfl _ _ _ rfl 3 4 (Go.Maps.int_keyed Try.underlying3) Try.underlying64 Try.underlying4 (by kernel_rfl) (w.heap.size + 1) seen.length _ rfl HO.out _ _ rfl hkey ?_; intro cc hcc; rw [HS.out x, x3f] at hcc; obtain rfl : cc = false := by simpa using hcc.symm) | (at_mapUpdate; refine wpList_mapUpdate_own _ rfl _ _ _ _ rfl 3 4 (Go.Maps.int_keyed Try.underlying3) Try.underlying64 _ (w.heap.size + 1) seen.length _ rfl HO.out (by unfold maxLen; omega) _ _ _ rfl rfl hkey _ [] (plainElem_bool Try.underlying4 true) ?_; intro w1 hown1 hgrow1))
          go_roundg (gk - 1)
          case measure => omega
          case rel => exact ⟨j + 1, x :: seen, by omega, by go_num, HH, ⟨by simp; omega⟩, ⟨blk_grown B1.out hgrow1 (by simp)⟩, ⟨blk_grown B2.out hgrow1 (by simp)⟩, ⟨_, hown1, Go.Maps.IsMap.put HD.out _ _, seenMap_put HD.out HS.out x⟩, ⟨HB.out.grown hgrow1 HB.out.size (by intro z hz; cases hz; omega)⟩⟩
      ·
       have hjl : decide ((j : Int) < (p.length : Int)) = false := decide_eq_false (by omega)
       have hjl' : decide (j < p.length) = false := decide_eq_false hj
       have HA2 := Aside0.mk (show lruOut l0_0 l0_1 l0_2 (n + 1) seen = r by have := HA.out; rw [List.drop_eq_nil_of_le (by omega)] at this; exact this)
       have HLt := hlt.out
       have HLs := HL.out
       go_wp2
       go_roundg (ga - 1)
       case measure => omega
       case rel => exact ⟨n + 1, seen, by omega, by go_num, HA2, ⟨by omega⟩, B1, B2, HM, HB⟩
    ·
     obtain rfl : n = 2 := by omega
     have H := Aside0.mk (show lruFrom seen (l0_2.drop 0) 0 = r from HA.out)
     clear HA
     go_wp2
     go_loopg [58] l0_2.length (fun g v wr => ∃ (j : Nat), j + g = l0_2.length ∧ v = .int .i64 j ∧ Aside0 (lruFrom seen (l0_2.drop j) j = r) ∧ Aside0 (wr.heap[w.heap.size]? = some (.cells #[.slice A0_0 l0_0.length c0_0, .slice A0_1 l0_1.length c0_1, .slice A0_2 l0_2.length c0_2] 33 (0, 0))) ∧ Aside0 (∃ D : DataW Unit, wr.ownsMap Try.prog 3 (plainElem Try.prog 4) (w.heap.size + 1) seen.length D ∧ Go.Maps.IsMap D ∧ SeenMap D seen) ∧ Aside0 (Below w.heap.size w wr))
     case atStart => exact ⟨0, by omega, rfl, H, B1, HM, HB⟩
     case round =>
      clear H HM hc0 hc1 hc2 B1 B2 HB HL
      obtain ⟨j, hjg, rfl, HA, B1, HM, HB⟩ := hrel
      by_cases hj : j < l0_2.length
      ·
       have H := lruFrom_step hj HA.out
       obtain ⟨ad, rfl, hcx⟩ := C_at_ hr0_2 false j hj
       have hcx' := (HB.out.cell (World.block_lt_of_cell? w _ hcx)).trans hcx
       clear HA hcx
       have hjl : decide ((j : Int) < (l0_2.length : Int)) = true := decide_eq_true (by omega)
       have hjl' : decide (j < l0_2.length) = true := decide_eq_true hj
       obtain ⟨D, hown, hD, hS⟩ := HM.out
       have hkey : keyOf Try.prog 3 (.int .i64 (j : Int)) = some (.int .i64 j) := Go.Maps.keyOf_int_mk Try.underlying3 (WalkArith.wf_i64 (by omega))
       have HS := Aside0.mk hS
       have HO := Aside0.mk hown
       clear hS hown hD
       generalize l0_2.getD j false = b at H hcx'
       cases b with
       | true =>
        rw [if_pos rfl] at H
        by_cases x3 : seen.contains (j : Int) = true
        ·
         rw [if_pos x3] at H
         have HH := Aside0.mk H
         clear H
         go_wp2_with (first | (at_lookup; (try (refine gate_guard (by rfl) ?_; dsimp only)); refine wpList_lookup_own_bool _ rfl _ _ _ rfl 3 4 (Go.Maps.int_keyed Try.underlying3) Try.underlying64 Try.underlying4 (by kernel_rfl) (w.heap.size + 1) seen.length _ rfl HO.out _ _ rfl hkey ?_; intro cc hcc; rw [HS.out j, x3] at hcc; obtain rfl : cc = true := by simpa using hcc.symm))
         go_roundg (gk - 1)
         case measure => omega
         case rel => exact ⟨j + 1, by omega, by go_num, HH, B1, HM, HB⟩
        ·
         rw [if_neg x3] at H
         have x3f : seen.contains (j : Int) = false := by simpa using x3
         clear x3
         subst H
         go_wp2_with (first | (at_lookup; (try (refine gate_guard (by rfl) ?_; dsimp only)); refine wpList_lookup_own_bool _ rfl _ _ _ rfl 3 4 (Go.Maps.int_keyed Try.underlying3) Try.underlying64 Try.underlying4 (by kernel_rfl) (w.heap.size + 1) seen.length _ rfl HO.out _ _ rfl hkey ?_; intro cc hcc; rw [HS.out j, x3f] at hcc; obtain rfl : cc = false := by simpa using hcc.symm))
         go_ret
         exact ⟨rfl, HB.out⟩
       | false =>
        rw [if_neg (by decide)] at H
        have HH := Aside0.mk H
        clear H
        go_wp2
        go_roundg (gk - 1)
        case measure => omega
        case rel => exact ⟨j + 1, by omega, by go_num, HH, B1, HM, HB⟩
      ·
       have hjl : decide ((j : Int) < (l0_2.length : Int)) = false := decide_eq_false (by omega)
       have hjl' : decide (j < l0_2.length) = false := decide_eq_false hj
       have hr : (0 : Int) = r := by have := HA.out; rw [List.drop_eq_nil_of_le (by omega)] at this; exact this
       subst hr
       go_wp2
       go_ret
       exact ⟨rfl, HB.out⟩


end Go.Proofs.Ytnheknlmmmkbpaa.X

namespace Go.Proofs.Ytnheknlmmmkbpaa.X
open Go.RowKit Go.Proofs.YtnheknlmmmkbpaaW.PrintWords Go.Proofs.YtnheknlmmmkbpaaW.PrintLast Go.Proofs.YtnheknlmmmkbpaaW.PrintMore
attribute [local go_sem] max2_int min2_int max_two min_two max_three min_three max_four min_four   -- for this text's walks alone
set_option linter.unusedVariables false
set_option linter.unusedSimpArgs false

/-! ### balance_lacks: function 46 -/
def balance_lacks.f (k : Nat) (l0_0 : List Int) (l0_1 : List Int) (l0_2 : List Bool) : Option (Int) := (balance_target.f k (wrap64 ((l0_0.length : Int) + (l0_1.length : Int)))).bind fun t107 => (some (mx 0 (wrap64 (t107 - (l0_1.length : Int)))))
theorem balance_lacks.mono : ∀ a0 a1 a2 k, LeO (balance_lacks.f k a0 a1 a2) (balance_lacks.f (k + 1) a0 a1 a2) := by
 intro a0 a1 a2 k
 unfold balance_lacks.f
 repeat' first
   | (with_reducible exact balance_target.mono _ _)
   | (with_reducible exact LeO.refl _)
   | (with_reducible exact LeO.none _)
   | (with_reducible refine LeO.ite ?_ ?_)
   | (with_reducible refine LeO.bind ?_ (fun _ => ?_))
   | exact balance_target.mono _ _
   | exact LeO.none _
   | refine LeO.ite ?_ ?_
   | refine LeO.bind ?_ (fun _ => ?_)
set_option maxHeartbeats 2000000 in
set_option maxRecDepth 100000 in
theorem balance_lacks.calls (k : Nat) (A0_0 : Option Addr) (c0_0 : Nat) (l0_0 : List Int) (A0_1 : Option Addr) (c0_1 : Nat) (l0_1 : List Int) (A0_2 : Option Addr) (c0_2 : Nat) (l0_2 : List Bool) (r : Int) (w : World) (hr0_0 : Kd.C (Kd.int .i64) w A0_0 l0_0.length l0_0) (hc0_0 : l0_0.length ≤ c0_0) (hr0_1 : Kd.C (Kd.int .i64) w A0_1 l0_1.length l0_1) (hc0_1 : l0_1.length ≤ c0_1) (hr0_2 : Kd.C Kd.bool w A0_2 l0_2.length l0_2) (hc0_2 : l0_2.length ≤ c0_2) (h : balance_lacks.f k l0_0 l0_1 l0_2 = some r) :
  Calls Try.prog 46 #[.agg #[.slice A0_0 l0_0.length c0_0, .slice A0_1 l0_1.length c0_1, .slice A0_2 l0_2.length c0_2]] w fun e w' => e = .returned (.int .i64 r) ∧ Below w.heap.size w w' := by
 have hu33 := Try.underlying33
 have HR0_0 := Aside0.mk hr0_0
 have HC0_0 := Aside0.mk hc0_0
 clear hr0_0 hc0_0
 have HR0_1 := Aside0.mk hr0_1
 have HC0_1 := Aside0.mk hc0_1
 clear hr0_1 hc0_1
 have HR0_2 := Aside0.mk hr0_2
 have HC0_2 := Aside0.mk hc0_2
 clear hr0_2 hc0_2
 have HB := Aside0.mk (Below.refl w.heap.size w)
 have H : ((balance_target.f k (wrap64 ((l0_0.length : Int) + (l0_1.length : Int)))).bind fun t107 => (some (mx 0 (wrap64 (t107 - (l0_1.length : Int)))))) = some r := h
 clear h
 replace H := Option.bind_eq_some_iff.mp H
 obtain ⟨t107, A20, H⟩ := H
 replace H : (some (mx 0 (wrap64 (t107 - (l0_1.length : Int))))) = some r := H
 have A2 := Aside0.mk A20
 clear A20
 obtain ⟨ji3, hji3⟩ : ∃ j_ : Int, (mx 0 (wrap64 (t107 - (l0_1.length : Int)))) = j_ := ⟨_, rfl⟩
 replace H : (some ji3) = some r := by first | (rw [hji3] at H; exact H) | (simp only [hji3] at H ⊢; exact H)
 (try rw [hji3] at A2)
 (try (have hji3l : 0 ≤ ji3 := by (rw [← hji3]; unfold mx; (repeat' split) <;> omega)))
 (try (have hji3m : 0 ≤ ji3 := by omega))
 have hji3_ : (if 0 < (wrap64 (t107 - (l0_1.length : Int))) then (wrap64 (t107 - (l0_1.length : Int))) else 0) = ji3 := hji3
 obtain rfl := Option.some.inj H
 go_enter Try.func46, Try.ntmps46
 go_wp2_with (first | ((with_reducible refine gate_dst (N := 1) rfl ?_); refine box_event ?hg (N := 1) ?hd (cs := #[.slice A0_0 l0_0.length c0_0, .slice A0_1 l0_1.length c0_1, .slice A0_2 l0_2.length c0_2]) (t := 33) ?hr ?_; (case hd => rfl); (case hg => rfl); (case hr => first | (go_simp; done) | (go_simp; rfl)); intro gb106 hg w4 hbox hb; have n0_ := Aside0.mk (below_step (upH HB) hb); have n1_ := Aside0.mk (hbox); have n2_ := Aside0.mk ((by rw [hg]; exact (below_size (upH HB)) : w.heap.size ≤ gb106)); have n3_ := Aside0.mk ((by rw [hg]; exact (below_size (upH HB)) : w.heap.size ≤ gb106)); clear HB; have HB := n0_; have BK106 := n1_; have GW106 := n2_; have GE106 := n3_; clear n0_ n1_ n2_ n3_; clear hb hbox hg; have hcz5_0 := cell0 BK106; have hcz5_1 := cell1 BK106; have hcz5_2 := cell2 BK106; have hfz5_0 := blk_frozen BK106.out 0; have hfz5_1 := blk_frozen BK106.out 1; have hfz5_2 := blk_frozen BK106.out 2) | (go_at_call 34; refine calls_of_args (args' := #[.int .i64 (wrap64 ((l0_0.length : Int) + (l0_1.length : Int)))]) (by first | rfl) ?_; (with_reducible refine (balance_target.calls k (wrap64 ((l0_0.length : Int) + (l0_1.length : Int))) t107 _ A2.out).mono ?_); rintro e w' ⟨rfl, ⟨nd, rfl⟩⟩; (try first | exact ⟨rfl, _, World.drewN_drewN _ _ _⟩ | exact ⟨rfl, _, Eq.trans (World.drewN_drewN _ _ _) (congrArg (World.drewN _) (Nat.add_assoc _ _ _))⟩)))
 repeat (go_quiet (first | ((with_reducible refine gate_dst (N := 1) rfl ?_); refine box_event ?hg (N := 1) ?hd (cs := #[.slice A0_0 l0_0.length c0_0, .slice A0_1 l0_1.length c0_1, .slice A0_2 l0_2.length c0_2]) (t := 33) ?hr ?_; (case hd => rfl); (case hg => rfl); (case hr => first | (go_simp; done) | (go_simp; rfl)); intro gb106 hg w4 hbox hb; have n0_ := Aside0.mk (below_step (upH HB) hb); have n1_ := Aside0.mk (hbox); have n2_ := Aside0.mk ((by rw [hg]; exact (below_size (upH HB)) : w.heap.size ≤ gb106)); have n3_ := Aside0.mk ((by rw [hg]; exact (below_size (upH HB)) : w.heap.size ≤ gb106)); clear HB; have HB := n0_; have BK106 := n1_; have GW106 := n2_; have GE106 := n3_; clear n0_ n1_ n2_ n3_; clear hb hbox hg; have hcz5_0 := cell0 BK106; have hcz5_1 := cell1 BK106; have hcz5_2 := cell2 BK106; have hfz5_0 := blk_frozen BK106.out 0; have hfz5_1 := blk_frozen BK106.out 1; have hfz5_2 := blk_frozen BK106.out 2) | (go_at_call 34; refine calls_of_args (args' := #[.int .i64 (wrap64 ((l0_0.length : Int) + (l0_1.length : Int)))]) (by first | rfl) ?_; (with_reducible refine (balance_target.calls k (wrap64 ((l0_0.length : Int) + (l0_1.length : Int))) t107 _ A2.out).mono ?_); rintro e w' ⟨rfl, ⟨nd, rfl⟩⟩; (try first | exact ⟨rfl, _, World.drewN_drewN _ _ _⟩ | exact ⟨rfl, _, Eq.trans (World.drewN_drewN _ _ _) (congrArg (World.drewN _) (Nat.add_assoc _ _ _))⟩))); try go_wp2_with (first | ((with_reducible refine gate_dst (N := 1) rfl ?_); refine box_event ?hg (N := 1) ?hd (cs := #[.slice A0_0 l0_0.length c0_0, .slice A0_1 l0_1.length c0_1, .slice A0_2 l0_2.length c0_2]) (t := 33) ?hr ?_; (case hd => rfl); (case hg => rfl); (case hr => first | (go_simp; done) | (go_simp; rfl)); intro gb106 hg w4 hbox hb; have n0_ := Aside0.mk (below_step (upH HB) hb); have n1_ := Aside0.mk (hbox); have n2_ := Aside0.mk ((by rw [hg]; exact (below_size (upH HB)) : w.heap.size ≤ gb106)); have n3_ := Aside0.mk ((by rw [hg]; exact (below_size (upH HB)) : w.heap.size ≤ gb106)); clear HB; have HB := n0_; have BK106 := n1_; have GW106 := n2_; have GE106 := n3_; clear n0_ n1_ n2_ n3_; clear hb hbox hg; have hcz5_0 := cell0 BK106; have hcz5_1 := cell1 BK106; have hcz5_2 := cell2 BK106; have hfz5_0 := blk_frozen BK106.out 0; have hfz5_1 := blk_frozen BK106.out 1; have hfz5_2 := blk_frozen BK106.out 2) | (go_at_call 34; refine calls_of_args (args' := #[.int .i64 (wrap64 ((l0_0.length : Int) + (l0_1.length : Int)))]) (by first | rfl) ?_; (with_reducible refine (balance_target.calls k (wrap64 ((l0_0.length : Int) + (l0_1.length : Int))) t107 _ A2.out).mono ?_); rintro e w' ⟨rfl, ⟨nd, rfl⟩⟩; (try first | exact ⟨rfl, _, World.drewN_drewN _ _ _⟩ | exact ⟨rfl, _, Eq.trans (World.drewN_drewN _ _ _) (congrArg (World.drewN _) (Nat.add_assoc _ _ _))⟩))))
 go_ret
 exact ⟨by first | rfl | (simp [errW_none, errW_some] <;> rfl) | (simp only [← hji3]; first | rfl | (simp [errW_none, errW_some] <;> rfl)) | (simp [*, errW_none, errW_some] <;> rfl), by repeat (first | (with_reducible first | exact HB.out | apply below_alloc | apply pw_below_drewN | apply below_drew1 | refine below_set ?_ GE106.out) | exact HB.out)⟩

end Go.Proofs.Ytnheknlmmmkbpaa.X

namespace Go.Proofs.Ytnheknlmmmkbpaa.X
open Go.RowKit Go.Proofs.YtnheknlmmmkbpaaW.PrintWords Go.Proofs.YtnheknlmmmkbpaaW.PrintLast Go.Proofs.YtnheknlmmmkbpaaW.PrintMore
attribute [local go_sem] max2_int min2_int max_two min_two max_three min_three max_four min_four   -- for this text's walks alone
set_option linter.unusedVariables false
set_option linter.unusedSimpArgs false

/-! ### balance_which: function 41 -/
def balance_which.j0 : Nat → Int → Bool → List Int → List Int → List Bool → Option (Int)
 | 0, _, _, _, _, _ => none
 | k + 1, x3, x7, x109000, x109001, x109002 => if x7 = true then (some 1) else (if x3 = 0 then (some 0) else (if 0 ≤ (wrap64 (x3 - 1)) then (if (wrap64 (x3 - 1)) < (x109001.length : Int) then (if 0 ≤ (rd x109001 (wrap64 (x3 - 1))) then (if (rd x109001 (wrap64 (x3 - 1))) < (x109002.length : Int) then (if rdOf false x109002 (rd x109001 (wrap64 (x3 - 1))) = true then (some 2) else (some 3)) else (none)) else (none)) else (none)) else (none)))
def balance_which.f (k : Nat) (l0_0 : List Int) (l0_1 : List Int) (l0_2 : List Bool) : Option (Int) := if (l0_0.length : Int) > 0 then ((balance_lacks.f k l0_0 l0_1 l0_2).bind fun t109 => (balance_which.j0 k (l0_1.length : Int) (decide (t109 > 0)) l0_0 l0_1 l0_2)) else (balance_which.j0 k (l0_1.length : Int) false l0_0 l0_1 l0_2)
theorem balance_which.mono_l : ∀ k, (∀ y0 y1 y2 y3 y4, LeO (balance_which.j0 k y0 y1 y2 y3 y4) (balance_which.j0 (k + 1) y0 y1 y2 y3 y4))
 | 0 => fun _ _ _ _ _ r h => by simp [balance_which.j0] at h
 | k + 1 => by
  have ih0 := balance_which.mono_l k
  ·
   intro y0 y1 y2 y3 y4
   unfold balance_which.j0
   repeat' first
   | (with_reducible exact ih0 _ _ _ _ _)
   | (with_reducible exact balance_lacks.mono _ _ _ _)
   | (with_reducible exact LeO.refl _)
   | (with_reducible exact LeO.none _)
   | (with_reducible refine LeO.ite ?_ ?_)
   | (with_reducible refine LeO.bind ?_ (fun _ => ?_))
   | exact ih0 _ _ _ _ _
   | exact balance_lacks.mono _ _ _ _
   | exact LeO.none _
   | refine LeO.ite ?_ ?_
   | refine LeO.bind ?_ (fun _ => ?_)
theorem balance_which.mono : ∀ a0 a1 a2 k, LeO (balance_which.f k a0 a1 a2) (balance_which.f (k + 1) a0 a1 a2) := by
 intro a0 a1 a2 k
 have ih0 := balance_which.mono_l k
 unfold balance_which.f
 repeat' first
   | (with_reducible exact ih0 _ _ _ _ _)
   | (with_reducible exact balance_lacks.mono _ _ _ _)
   | (with_reducible exact LeO.refl _)
   | (with_reducible exact LeO.none _)
   | (with_reducible refine LeO.ite ?_ ?_)
   | (with_reducible refine LeO.bind ?_ (fun _ => ?_))
   | exact ih0 _ _ _ _ _
   | exact balance_lacks.mono _ _ _ _
   | exact LeO.none _
   | refine LeO.ite ?_ ?_
   | refine LeO.bind ?_ (fun _ => ?_)
set_option maxHeartbeats 2000000 in
set_option maxRecDepth 100000 in
theorem balance_which.calls (k : Nat) (A0_0 : Option Addr) (c0_0 : Nat) (l0_0 : List Int) (A0_1 : Option Addr) (c0_1 : Nat) (l0_1 : List Int) (A0_2 : Option Addr) (c0_2 : Nat) (l0_2 : List Bool) (r : Int) (w : World) (hr0_0 : Kd.C (Kd.int .i64) w A0_0 l0_0.length l0_0) (hc0_0 : l0_0.length ≤ c0_0) (hr0_1 : Kd.C (Kd.int .i64) w A0_1 l0_1.length l0_1) (hc0_1 : l0_1.length ≤ c0_1) (hr0_2 : Kd.C Kd.bool w A0_2 l0_2.length l0_2) (hc0_2 : l0_2.length ≤ c0_2) (h : balance_which.f k l0_0 l0_1 l0_2 = some r) :
  Calls Try.prog 41 #[.agg #[.slice A0_0 l0_0.length c0_0, .slice A0_1 l0_1.length c0_1, .slice A0_2 l0_2.length c0_2]] w fun e w' => e = .returned (.int .i64 r) ∧ Below w.heap.size w w' := by
 have hu33 := Try.underlying33
 have HR0_0 := Aside0.mk hr0_0
 have HC0_0 := Aside0.mk hc0_0
 clear hr0_0 hc0_0
 have HR0_1 := Aside0.mk hr0_1
 have HC0_1 := Aside0.mk hc0_1
 clear hr0_1 hc0_1
 have HR0_2 := Aside0.mk hr0_2
 have HC0_2 := Aside0.mk hc0_2
 clear hr0_2 hc0_2
 have HB := Aside0.mk (Below.refl w.heap.size w)
 have H : (if (l0_0.length : Int) > 0 then ((balance_lacks.f k l0_0 l0_1 l0_2).bind fun t109 => (balance_which.j0 k (l0_1.length : Int) (decide (t109 > 0)) l0_0 l0_1 l0_2)) else (balance_which.j0 k (l0_1.length : Int) false l0_0 l0_1 l0_2)) = some r := h
 clear h
 have HC2 := Aside0.mk H
 clear H
 go_enter Try.func41, Try.ntmps41
 go_upto_region 2 with (first | ((with_reducible refine gate_dst (N := 1) rfl ?_); refine box_event ?hg (N := 1) ?hd (cs := #[.slice A0_0 l0_0.length c0_0, .slice A0_1 l0_1.length c0_1, .slice A0_2 l0_2.length c0_2]) (t := 33) ?hr ?_; (case hd => rfl); (case hg => rfl); (case hr => first | (go_simp; done) | (go_simp; rfl)); intro gb108 hg w3 hbox hb; have n0_ := Aside0.mk (below_step (upH HB) hb); have n1_ := Aside0.mk (hbox); have n2_ := Aside0.mk ((by rw [hg]; exact (below_size (upH HB)) : w.heap.size ≤ gb108)); have n3_ := Aside0.mk ((by rw [hg]; exact (below_size (upH HB)) : w.heap.size ≤ gb108)); clear HB; have HB := n0_; have BK108 := n1_; have GW108 := n2_; have GE108 := n3_; clear n0_ n1_ n2_ n3_; clear hb hbox hg; have hcz4_0 := cell0 BK108; have hcz4_1 := cell1 BK108; have hcz4_2 := cell2 BK108; have hfz4_0 := blk_frozen BK108.out 0; have hfz4_1 := blk_frozen BK108.out 1; have hfz4_2 := blk_frozen BK108.out 2))
 repeat (go_quiet (first | ((with_reducible refine gate_dst (N := 1) rfl ?_); refine box_event ?hg (N := 1) ?hd (cs := #[.slice A0_0 l0_0.length c0_0, .slice A0_1 l0_1.length c0_1, .slice A0_2 l0_2.length c0_2]) (t := 33) ?hr ?_; (case hd => rfl); (case hg => rfl); (case hr => first | (go_simp; done) | (go_simp; rfl)); intro gb108 hg w3 hbox hb; have n0_ := Aside0.mk (below_step (upH HB) hb); have n1_ := Aside0.mk (hbox); have n2_ := Aside0.mk ((by rw [hg]; exact (below_size (upH HB)) : w.heap.size ≤ gb108)); have n3_ := Aside0.mk ((by rw [hg]; exact (below_size (upH HB)) : w.heap.size ≤ gb108)); clear HB; have HB := n0_; have BK108 := n1_; have GW108 := n2_; have GE108 := n3_; clear n0_ n1_ n2_ n3_; clear hb hbox hg; have hcz4_0 := cell0 BK108; have hcz4_1 := cell1 BK108; have hcz4_2 := cell2 BK108; have hfz4_0 := blk_frozen BK108.out 0; have hfz4_1 := blk_frozen BK108.out 1; have hfz4_2 := blk_frozen BK108.out 2)); go_upto_region 2 with (first | ((with_reducible refine gate_dst (N := 1) rfl ?_); refine box_event ?hg (N := 1) ?hd (cs := #[.slice A0_0 l0_0.length c0_0, .slice A0_1 l0_1.length c0_1, .slice A0_2 l0_2.length c0_2]) (t := 33) ?hr ?_; (case hd => rfl); (case hg => rfl); (case hr => first | (go_simp; done) | (go_simp; rfl)); intro gb108 hg w3 hbox hb; have n0_ := Aside0.mk (below_step (upH HB) hb); have n1_ := Aside0.mk (hbox); have n2_ := Aside0.mk ((by rw [hg]; exact (below_size (upH HB)) : w.heap.size ≤ gb108)); have n3_ := Aside0.mk ((by rw [hg]; exact (below_size (upH HB)) : w.heap.size ≤ gb108)); clear HB; have HB := n0_; have BK108 := n1_; have GW108 := n2_; have GE108 := n3_; clear n0_ n1_ n2_ n3_; clear hb hbox hg; have hcz4_0 := cell0 BK108; have hcz4_1 := cell1 BK108; have hcz4_2 := cell2 BK108; have hfz4_0 := blk_frozen BK108.out 0; have hfz4_1 := blk_frozen BK108.out 1; have hfz4_2 := blk_frozen BK108.out 2)))
 (try simp only [Act.put, List.setIfInBounds_toArray, List.set_cons_zero, List.set_cons_succ])
 go_cut [7] (fun v7 wc => ∃ (kq : Nat) (x7_1 : Bool), v7 = .bool x7_1 ∧ Aside0 (balance_which.j0 kq (l0_1.length : Int) x7_1 l0_0 l0_1 l0_2 = some r) ∧ Aside0 (kq ≤ k) ∧ Aside0 (wc.heap[gb108]? = some (.cells #[(.slice A0_0 l0_0.length c0_0), (.slice A0_1 l0_1.length c0_1), (.slice A0_2 l0_2.length c0_2)] 33 (0, 0))) ∧ Aside0 (Below w.heap.size w wc))
 case first =>
  have H := HC2.out
  clear HC2
  by_cases c5 : (l0_0.length : Int) > 0
  ·
   rw [if_pos c5] at H
   have c5b0 : decide (0 < (l0_0.length : Int)) = true := decide_eq_true c5
   have c5b1 : decide (0 < l0_0.length) = true := decide_eq_true (by omega)
   clear c5
   (first | rw [c5b0] | (simp only [i64_w, i32_w]; rw [c5b0]) | skip)
   replace H := Option.bind_eq_some_iff.mp H
   obtain ⟨t109, A60, H⟩ := H
   replace H : (balance_which.j0 k (l0_1.length : Int) (decide (t109 > 0)) l0_0 l0_1 l0_2) = some r := H
   have A6 := Aside0.mk A60
   clear A60
   have H' := Aside0.mk H
   clear H
   have hcz7_0 := cell0 BK108
   have hcz7_1 := cell1 BK108
   have hcz7_2 := cell2 BK108
   have hfz7_0 := blk_frozen BK108.out 0
   have hfz7_1 := blk_frozen BK108.out 1
   have hfz7_2 := blk_frozen BK108.out 2
   go_wp2_with (first | (go_at_call 46; refine calls_of_args (args' := #[.agg #[.slice A0_0 l0_0.length c0_0, .slice A0_1 l0_1.length c0_1, .slice A0_2 l0_2.length c0_2]]) (by first | rfl) ?_; (with_reducible refine (balance_lacks.calls k _ _ l0_0 _ _ l0_1 _ _ l0_2 t109 _ ?side1 ?side2 ?side3 ?side4 ?side5 ?side6 A6.out).mono ?_); (case side1 => exact upc (Kd.C_below HR0_0.out HB.out)); (case side2 => exact HC0_0.out); (case side3 => exact upc (Kd.C_below HR0_1.out HB.out)); (case side4 => exact HC0_1.out); (case side5 => exact upc (Kd.C_below HR0_2.out HB.out)); (case side6 => exact HC0_2.out); rintro e w8 ⟨rfl, hb⟩; have n0_ := Aside0.mk (blkB BK108 hb); have n1_ := Aside0.mk (below_step (upH HB) hb); clear BK108; clear HB; have BK108 := n0_; have HB := n1_; clear n0_ n1_; (try clear hb); (try clear hb2); (try clear hk); (try clear hi)))
   repeat (go_quiet (first | (go_at_call 46; refine calls_of_args (args' := #[.agg #[.slice A0_0 l0_0.length c0_0, .slice A0_1 l0_1.length c0_1, .slice A0_2 l0_2.length c0_2]]) (by first | rfl) ?_; (with_reducible refine (balance_lacks.calls k _ _ l0_0 _ _ l0_1 _ _ l0_2 t109 _ ?side1 ?side2 ?side3 ?side4 ?side5 ?side6 A6.out).mono ?_); (case side1 => exact upc (Kd.C_below HR0_0.out HB.out)); (case side2 => exact HC0_0.out); (case side3 => exact upc (Kd.C_below HR0_1.out HB.out)); (case side4 => exact HC0_1.out); (case side5 => exact upc (Kd.C_below HR0_2.out HB.out)); (case side6 => exact HC0_2.out); rintro e w8 ⟨rfl, hb⟩; have n0_ := Aside0.mk (blkB BK108 hb); have n1_ := Aside0.mk (below_step (upH HB) hb); clear BK108; clear HB; have BK108 := n0_; have HB := n1_; clear n0_ n1_; (try clear hb); (try clear hb2); (try clear hk); (try clear hi))); try go_wp2_with (first | (go_at_call 46; refine calls_of_args (args' := #[.agg #[.slice A0_0 l0_0.length c0_0, .slice A0_1 l0_1.length c0_1, .slice A0_2 l0_2.length c0_2]]) (by first | rfl) ?_; (with_reducible refine (balance_lacks.calls k _ _ l0_0 _ _ l0_1 _ _ l0_2 t109 _ ?side1 ?side2 ?side3 ?side4 ?side5 ?side6 A6.out).mono ?_); (case side1 => exact upc (Kd.C_below HR0_0.out HB.out)); (case side2 => exact HC0_0.out); (case side3 => exact upc (Kd.C_below HR0_1.out HB.out)); (case side4 => exact HC0_1.out); (case side5 => exact upc (Kd.C_below HR0_2.out HB.out)); (case side6 => exact HC0_2.out); rintro e w8 ⟨rfl, hb⟩; have n0_ := Aside0.mk (blkB BK108 hb); have n1_ := Aside0.mk (below_step (upH HB) hb); clear BK108; clear HB; have BK108 := n0_; have HB := n1_; clear n0_ n1_; (try clear hb); (try clear hb2); (try clear hk); (try clear hi))))
   go_meet
   case rel => exact ⟨_, (decide (t109 > 0)), (by first | rfl | (simp; done) | (simp [*]; done)), H', ⟨by first | omega | exact Nat.le_refl _⟩, ⟨upB BK108⟩, ⟨upH HB⟩⟩
  ·
   rw [if_neg c5] at H
   have c5b0 : decide (0 < (l0_0.length : Int)) = false := decide_eq_false c5
   have c5b1 : decide (0 < l0_0.length) = false := decide_eq_false (by omega)
   clear c5
   (first | rw [c5b0] | (simp only [i64_w, i32_w]; rw [c5b0]) | skip)
   have H' := Aside0.mk H
   clear H
   have hcz9_0 := cell0 BK108
   have hcz9_1 := cell1 BK108
   have hcz9_2 := cell2 BK108
   have hfz9_0 := blk_frozen BK108.out 0
   have hfz9_1 := blk_frozen BK108.out 1
   have hfz9_2 := blk_frozen BK108.out 2
   go_wp2
   repeat (go_quiet (fail); try go_wp2)
   go_meet
   case rel => exact ⟨_, (false), (by first | rfl | (simp; done) | (simp [*]; done)), H', ⟨by first | omega | exact Nat.le_refl _⟩, ⟨upB BK108⟩, ⟨upH HB⟩⟩
 case rest =>
  clear HC2
  try clear p2
  try clear c4
  try clear c5
  try clear c5b0
  try clear c5b1
  try clear hcz4_0
  try clear hcz4_1
  try clear hcz4_2
  try clear hcz7_0
  try clear hcz7_1
  try clear hcz7_2
  try clear hcz9_0
  try clear hcz9_1
  try clear hcz9_2
  try clear hfz4_0
  try clear hfz4_1
  try clear hfz4_2
  try clear hfz7_0
  try clear hfz7_1
  try clear hfz7_2
  try clear hfz9_0
  try clear hfz9_1
  try clear hfz9_2
  obtain ⟨kq, x7_1, rfl, HA, HJ1, BK108, HB⟩ := hcut
  cases kq with
  | zero => exact absurd HA.out (by simp [balance_which.j0])
  | succ kj1 =>
   have H := HA.out
   clear HA
   simp only [balance_which.j0] at H
   by_cases c10 : x7_1 = true
   ·
    subst c10
    have H1 : (some 1) = some r := by rw [if_pos rfl] at H; exact H
    clear H
    have H := H1
    clear H1
    obtain rfl := Option.some.inj H
    go_wp2
    repeat (go_quiet (fail); try go_wp2)
    go_ret
    exact ⟨by first | rfl | (simp [errW_none, errW_some] <;> rfl) | (simp [*, errW_none, errW_some] <;> rfl), by repeat (first | (with_reducible first | exact HB.out | apply below_alloc | apply pw_below_drewN | apply below_drew1 | refine below_set ?_ GE108.out) | exact HB.out)⟩
   ·
    replace c10 := Bool.eq_false_iff.mpr c10
    subst c10
    have H1 : (if (l0_1.length : Int) = 0 then (some 0) else (if 0 ≤ (wrap64 ((l0_1.length : Int) - 1)) then (if (wrap64 ((l0_1.length : Int) - 1)) < (l0_1.length : Int) then (if 0 ≤ (rd l0_1 (wrap64 ((l0_1.length : Int) - 1))) then (if (rd l0_1 (wrap64 ((l0_1.length : Int) - 1))) < (l0_2.length : Int) then (if rdOf false l0_2 (rd l0_1 (wrap64 ((l0_1.length : Int) - 1))) = true then (some 2) else (some 3)) else (none)) else (none)) else (none)) else (none))) = some r := by rw [if_neg (show ¬ (false = true) by decide)] at H; exact H
    clear H
    have H := H1
    clear H1
    by_cases c11 : (l0_1.length : Int) = 0
    ·
     rw [if_pos c11] at H
     have c11b0 : ((l0_1.length : Int) == 0) = true := beq_iff_eq.mpr c11
     have c11b1 : ((l0_1.length : Int) != 0) = false := bne_eq_false_iff_eq.mpr c11
     clear c11
     obtain rfl := Option.some.inj H
     go_wp2
     repeat (go_quiet (fail); try go_wp2)
     go_ret
     exact ⟨by first | rfl | (simp [errW_none, errW_some] <;> rfl) | (simp [*, errW_none, errW_some] <;> rfl), by repeat (first | (with_reducible first | exact HB.out | apply below_alloc | apply pw_below_drewN | apply below_drew1 | refine below_set ?_ GE108.out) | exact HB.out)⟩
    ·
     rw [if_neg c11] at H
     have c11b0 : ((l0_1.length : Int) == 0) = false := beq_eq_false_iff_ne.mpr c11
     have c11b1 : ((l0_1.length : Int) != 0) = true := bne_iff_ne.mpr c11
     have c11b2 : ¬ (l0_1 = []) := fun h_ => c11 (by rw [h_]; rfl)
     obtain ⟨ji12, hji12⟩ : ∃ j_ : Int, (wrap64 ((l0_1.length : Int) - 1)) = j_ := ⟨_, rfl⟩
     replace H : (if 0 ≤ (ji12) then (if (ji12) < (l0_1.length : Int) then (if 0 ≤ (rd l0_1 (ji12)) then (if (rd l0_1 (ji12)) < (l0_2.length : Int) then (if rdOf false l0_2 (rd l0_1 (ji12)) = true then (some 2) else (some 3)) else (none)) else (none)) else (none)) else (none)) = some r := by first | (rw [hji12] at H; exact H) | (simp only [hji12] at H ⊢; exact H)
     have hji12w : (IntKind.i64.wrap ((l0_1.length : Int) - 1)) = ji12 := (i64_w _).trans hji12
     by_cases c13 : 0 ≤ (ji12)
     ·
      rw [if_pos c13] at H
      have c13b0 : decide (0 ≤ (ji12)) = true := decide_eq_true c13
      clear c13
      by_cases c14 : (ji12) < (l0_1.length : Int)
      ·
       rw [if_pos c14] at H
       have c14b0 : decide ((ji12) < (l0_1.length : Int)) = true := decide_eq_true c14
       clear c14
       by_cases c15 : 0 ≤ (rd l0_1 (ji12))
       ·
        rw [if_pos c15] at H
        have c15b0 : decide (0 ≤ (rd l0_1 (ji12))) = true := decide_eq_true c15
        clear c15
        by_cases c16 : (rd l0_1 (ji12)) < (l0_2.length : Int)
        ·
         rw [if_pos c16] at H
         have c16b0 : decide ((rd l0_1 (ji12)) < (l0_2.length : Int)) = true := decide_eq_true c16
         clear c16
         obtain ⟨bq17, hbq17⟩ : ∃ b_ : Bool, b_ = (rdOf false l0_2 (rd l0_1 (ji12))) := ⟨_, rfl⟩
         replace H : (if bq17 = true then (some 2) else (some 3)) = some r := by rw [← hbq17] at H; exact H
         have Nbq17 := Aside0.mk hbq17
         clear hbq17
         by_cases c18 : bq17 = true
         ·
          subst c18
          have H1 : (some 2) = some r := by rw [if_pos rfl] at H; exact H
          clear H
          have H := H1
          clear H1
          obtain rfl := Option.some.inj H
          have hcz19_0 := cell0 BK108
          have hcz19_1 := cell1 BK108
          have hcz19_2 := cell2 BK108
          have hfz19_0 := blk_frozen BK108.out 0
          have hfz19_1 := blk_frozen BK108.out 1
          have hfz19_2 := blk_frozen BK108.out 2
          have p110 : 0 ≤ ((ji12) : Int) := of_decide_eq_true (asm_ (p := _))
          have q110 : (ji12) < (l0_1.length : Int) := of_decide_eq_true (asm_ (p := _))
          obtain ⟨ad110, e110, hx110_0⟩ := Kd.at_int HR0_1.out (ji12) p110 q110
          cases e110
          replace hx110_0 := (HB.out.cell (World.block_lt_of_cell? w _ hx110_0)).trans hx110_0
          replace p110 := eq_true p110
          replace q110 := eq_true q110
          have p111 : 0 ≤ ((rd l0_1 (ji12)) : Int) := of_decide_eq_true (asm_ (p := _))
          have q111 : (rd l0_1 (ji12)) < (l0_2.length : Int) := of_decide_eq_true (asm_ (p := _))
          obtain ⟨ad111, e111, hx111_0⟩ := Kd.at_bool HR0_2.out (rd l0_1 (ji12)) p111 q111
          (try rw [← Nbq17.out] at hx111_0)
          cases e111
          replace hx111_0 := (HB.out.cell (World.block_lt_of_cell? w _ hx111_0)).trans hx111_0
          replace p111 := eq_true p111
          replace q111 := eq_true q111
          go_wp2
          repeat (go_quiet (fail); try go_wp2)
          go_ret
          exact ⟨by first | rfl | (simp [errW_none, errW_some] <;> rfl) | (simp only [← hji12]; first | rfl | (simp [errW_none, errW_some] <;> rfl)) | (simp [*, errW_none, errW_some] <;> rfl), by repeat (first | (with_reducible first | exact HB.out | apply below_alloc | apply pw_below_drewN | apply below_drew1 | refine below_set ?_ GE108.out) | exact HB.out)⟩
         ·
          replace c18 := Bool.eq_false_iff.mpr c18
          subst c18
          have H1 : (some 3) = some r := by rw [if_neg (show ¬ (false = true) by decide)] at H; exact H
          clear H
          have H := H1
          clear H1
          obtain rfl := Option.some.inj H
          have hcz20_0 := cell0 BK108
          have hcz20_1 := cell1 BK108
          have hcz20_2 := cell2 BK108
          have hfz20_0 := blk_frozen BK108.out 0
          have hfz20_1 := blk_frozen BK108.out 1
          have hfz20_2 := blk_frozen BK108.out 2
          have p110 : 0 ≤ ((ji12) : Int) := of_decide_eq_true (asm_ (p := _))
          have q110 : (ji12) < (l0_1.length : Int) := of_decide_eq_true (asm_ (p := _))
          obtain ⟨ad110, e110, hx110_0⟩ := Kd.at_int HR0_1.out (ji12) p110 q110
          cases e110
          replace hx110_0 := (HB.out.cell (World.block_lt_of_cell? w _ hx110_0)).trans hx110_0
          replace p110 := eq_true p110
          replace q110 := eq_true q110
          have p111 : 0 ≤ ((rd l0_1 (ji12)) : Int) := of_decide_eq_true (asm_ (p := _))
          have q111 : (rd l0_1 (ji12)) < (l0_2.length : Int) := of_decide_eq_true (asm_ (p := _))
          obtain ⟨ad111, e111, hx111_0⟩ := Kd.at_bool HR0_2.out (rd l0_1 (ji12)) p111 q111
          (try rw [← Nbq17.out] at hx111_0)
          cases e111
          replace hx111_0 := (HB.out.cell (World.block_lt_of_cell? w _ hx111_0)).trans hx111_0
          replace p111 := eq_true p111
          replace q111 := eq_true q111
          go_wp2
          repeat (go_quiet (fail); try go_wp2)
          go_ret
          exact ⟨by first | rfl | (simp [errW_none, errW_some] <;> rfl) | (simp only [← hji12]; first | rfl | (simp [errW_none, errW_some] <;> rfl)) | (simp [*, errW_none, errW_some] <;> rfl), by repeat (first | (with_reducible first | exact HB.out | apply below_alloc | apply pw_below_drewN | apply below_drew1 | refine below_set ?_ GE108.out) | exact HB.out)⟩
        ·
         rw [if_neg c16] at H
         exact absurd H (by simp)
       ·
        rw [if_neg c15] at H
        exact absurd H (by simp)
      ·
       rw [if_neg c14] at H
       exact absurd H (by simp)
     ·
      rw [if_neg c13] at H
      exact absurd H (by simp)

end Go.Proofs.Ytnheknlmmmkbpaa.X

namespace Go.Proofs.Ytnheknlmmmkbpaa.X
open Go.RowKit Go.Proofs.YtnheknlmmmkbpaaW.PrintWords Go.Proofs.YtnheknlmmmkbpaaW.PrintLast Go.Proofs.YtnheknlmmmkbpaaW.PrintMore
attribute [local go_sem] max2_int min2_int max_two min_two max_three min_three max_four min_four   -- for this text's walks alone
set_option linter.unusedVariables false
set_option linter.unusedSimpArgs false

/-! ### balance_Which: function 19 -/
def balance_Which.f (k : Nat) (l0_0 : List Int) (l0_1 : List Int) (l0_2 : List Bool) : Option (Int × Int) := (lru_Check.f l0_0 l0_1 l0_2).bind fun t113 => (if t113 = 0 then ((balance_which.f k l0_0 l0_1 l0_2).bind fun t114 => (some (t114, 0))) else (some (0, t113)))
theorem balance_Which.mono : ∀ a0 a1 a2 k, LeO (balance_Which.f k a0 a1 a2) (balance_Which.f (k + 1) a0 a1 a2) := by
 intro a0 a1 a2 k
 unfold balance_Which.f
 repeat' first
   | (with_reducible exact balance_which.mono _ _ _ _)
   | (with_reducible exact LeO.refl _)
   | (with_reducible exact LeO.none _)
   | (with_reducible refine LeO.ite ?_ ?_)
   | (with_reducible refine LeO.bind ?_ (fun _ => ?_))
   | exact balance_which.mono _ _ _ _
   | exact LeO.none _
   | refine LeO.ite ?_ ?_
   | refine LeO.bind ?_ (fun _ => ?_)
set_option maxHeartbeats 2000000 in
set_option maxRecDepth 100000 in
theorem balance_Which.calls (k : Nat) (A0_0 : Option Addr) (c0_0 : Nat) (l0_0 : List Int) (A0_1 : Option Addr) (c0_1 : Nat) (l0_1 : List Int) (A0_2 : Option Addr) (c0_2 : Nat) (l0_2 : List Bool) (r1 : Int) (r2 : Int) (w : World) (hr0_0 : Kd.C (Kd.int .i64) w A0_0 l0_0.length l0_0) (hc0_0 : l0_0.length ≤ c0_0) (hr0_1 : Kd.C (Kd.int .i64) w A0_1 l0_1.length l0_1) (hc0_1 : l0_1.length ≤ c0_1) (hr0_2 : Kd.C Kd.bool w A0_2 l0_2.length l0_2) (hc0_2 : l0_2.length ≤ c0_2) (h : balance_Which.f k l0_0 l0_1 l0_2 = some (r1, r2)) :
  Calls Try.prog 19 #[.agg #[.slice A0_0 l0_0.length c0_0, .slice A0_1 l0_1.length c0_1, .slice A0_2 l0_2.length c0_2]] w fun e w' => e = .returned (.tuple #[.int .i64 r1, .int .i64 r2]) ∧ Below w.heap.size w w' := by
 have hu33 := Try.underlying33
 have HR0_0 := Aside0.mk hr0_0
 have HC0_0 := Aside0.mk hc0_0
 clear hr0_0 hc0_0
 have HR0_1 := Aside0.mk hr0_1
 have HC0_1 := Aside0.mk hc0_1
 clear hr0_1 hc0_1
 have HR0_2 := Aside0.mk hr0_2
 have HC0_2 := Aside0.mk hc0_2
 clear hr0_2 hc0_2
 have HB := Aside0.mk (Below.refl w.heap.size w)
 have H : ((lru_Check.f l0_0 l0_1 l0_2).bind fun t113 => (if t113 = 0 then ((balance_which.f k l0_0 l0_1 l0_2).bind fun t114 => (some (t114, 0))) else (some (0, t113)))) = some (r1, r2) := h
 clear h
 replace H := Option.bind_eq_some_iff.mp H
 obtain ⟨t113, A20, H⟩ := H
 replace H : (if t113 = 0 then ((balance_which.f k l0_0 l0_1 l0_2).bind fun t114 => (some (t114, 0))) else (some (0, t113))) = some (r1, r2) := H
 have A2 := Aside0.mk A20
 clear A20
 by_cases c3 : t113 = 0
 ·
  rw [if_pos c3] at H
  have c3b0 : (t113 == 0) = true := beq_iff_eq.mpr c3
  have c3b1 : (t113 != 0) = false := bne_eq_false_iff_eq.mpr c3
  clear c3
  replace H := Option.bind_eq_some_iff.mp H
  obtain ⟨t114, A40, H⟩ := H
  replace H : (some (t114, 0)) = some (r1, r2) := H
  have A4 := Aside0.mk A40
  clear A40
  simp only [Option.some.injEq, Prod.mk.injEq] at H
  obtain ⟨rfl, rfl⟩ := H
  go_enter Try.func19, Try.ntmps19
  go_wp2_with (first | ((with_reducible refine gate_dst (N := 1) rfl ?_); refine box_event ?hg (N := 1) ?hd (cs := #[.slice A0_0 l0_0.length c0_0, .slice A0_1 l0_1.length c0_1, .slice A0_2 l0_2.length c0_2]) (t := 33) ?hr ?_; (case hd => rfl); (case hg => rfl); (case hr => first | (go_simp; done) | (go_simp; rfl)); intro gb112 hg w5 hbox hb; have n0_ := Aside0.mk (below_step (upH HB) hb); have n1_ := Aside0.mk (hbox); have n2_ := Aside0.mk ((by rw [hg]; exact (below_size (upH HB)) : w.heap.size ≤ gb112)); have n3_ := Aside0.mk ((by rw [hg]; exact (below_size (upH HB)) : w.heap.size ≤ gb112)); clear HB; have HB := n0_; have BK112 := n1_; have GW112 := n2_; have GE112 := n3_; clear n0_ n1_ n2_ n3_; clear hb hbox hg; have hcz6_0 := cell0 BK112; have hcz6_1 := cell1 BK112; have hcz6_2 := cell2 BK112; have hfz6_0 := blk_frozen BK112.out 0; have hfz6_1 := blk_frozen BK112.out 1; have hfz6_2 := blk_frozen BK112.out 2) | ((with_reducible refine gate_callee (f := 38) rfl ?_); refine goesL_ (some 6) rfl rfl Try.func38 (by kernel_rfl) rfl #[.agg #[.slice A0_0 l0_0.length c0_0, .slice A0_1 l0_1.length c0_1, .slice A0_2 l0_2.length c0_2]] rfl (args_ (p := _)) ?_; (with_reducible refine (lru_Check.calls _ _ l0_0 _ _ l0_1 _ _ l0_2 t113 _ ?side1 ?side2 ?side3 ?side4 ?side5 ?side6 A2.out).mono ?_); (case side1 => exact upc (Kd.C_below HR0_0.out HB.out)); (case side2 => exact HC0_0.out); (case side3 => exact upc (Kd.C_below HR0_1.out HB.out)); (case side4 => exact HC0_1.out); (case side5 => exact upc (Kd.C_below HR0_2.out HB.out)); (case side6 => exact HC0_2.out); rintro e w7 ⟨rfl, hb⟩; refine ⟨_, rfl, ?_⟩; have n0_ := Aside0.mk (blkB BK112 hb); have n1_ := Aside0.mk (below_step (upH HB) hb); clear BK112; clear HB; have BK112 := n0_; have HB := n1_; clear n0_ n1_; (try clear hb); (try clear hb2); (try clear hk); (try clear hi); have hcz8_0 := cell0 BK112; have hcz8_1 := cell1 BK112; have hcz8_2 := cell2 BK112; have hfz8_0 := blk_frozen BK112.out 0; have hfz8_1 := blk_frozen BK112.out 1; have hfz8_2 := blk_frozen BK112.out 2) | ((with_reducible refine gate_callee (f := 41) rfl ?_); refine goesL_ (some 11) rfl rfl Try.func41 (by kernel_rfl) rfl #[.agg #[.slice A0_0 l0_0.length c0_0, .slice A0_1 l0_1.length c0_1, .slice A0_2 l0_2.length c0_2]] rfl (args_ (p := _)) ?_; (with_reducible refine (balance_which.calls k _ _ l0_0 _ _ l0_1 _ _ l0_2 t114 _ ?side1 ?side2 ?side3 ?side4 ?side5 ?side6 A4.out).mono ?_); (case side1 => exact upc (Kd.C_below HR0_0.out HB.out)); (case side2 => exact HC0_0.out); (case side3 => exact upc (Kd.C_below HR0_1.out HB.out)); (case side4 => exact HC0_1.out); (case side5 => exact upc (Kd.C_below HR0_2.out HB.out)); (case side6 => exact HC0_2.out); rintro e w9 ⟨rfl, hb⟩; refine ⟨_, rfl, ?_⟩; have n0_ := Aside0.mk (blkB BK112 hb); have n1_ := Aside0.mk (below_step (upH HB) hb); clear BK112; clear HB; have BK112 := n0_; have HB := n1_; clear n0_ n1_; (try clear hb); (try clear hb2); (try clear hk); (try clear hi)))
  go_ret2
  exact ⟨by first | rfl | (simp [errW_none, errW_some] <;> rfl) | (simp [*, errW_none, errW_some] <;> rfl), by repeat (first | (with_reducible first | exact HB.out | apply below_alloc | apply pw_below_drewN | apply below_drew1 | refine below_set ?_ GE112.out) | exact HB.out)⟩
 ·
  rw [if_neg c3] at H
  have c3b0 : (t113 == 0) = false := beq_eq_false_iff_ne.mpr c3
  have c3b1 : (t113 != 0) = true := bne_iff_ne.mpr c3
  simp only [Option.some.injEq, Prod.mk.injEq] at H
  obtain ⟨rfl, rfl⟩ := H
  go_enter Try.func19, Try.ntmps19
  go_wp2_with (first | ((with_reducible refine gate_dst (N := 1) rfl ?_); refine box_event ?hg (N := 1) ?hd (cs := #[.slice A0_0 l0_0.length c0_0, .slice A0_1 l0_1.length c0_1, .slice A0_2 l0_2.length c0_2]) (t := 33) ?hr ?_; (case hd => rfl); (case hg => rfl); (case hr => first | (go_simp; done) | (go_simp; rfl)); intro gb112 hg w10 hbox hb; have n0_ := Aside0.mk (below_step (upH HB) hb); have n1_ := Aside0.mk (hbox); have n2_ := Aside0.mk ((by rw [hg]; exact (below_size (upH HB)) : w.heap.size ≤ gb112)); have n3_ := Aside0.mk ((by rw [hg]; exact (below_size (upH HB)) : w.heap.size ≤ gb112)); clear HB; have HB := n0_; have BK112 := n1_; have GW112 := n2_; have GE112 := n3_; clear n0_ n1_ n2_ n3_; clear hb hbox hg; have hcz11_0 := cell0 BK112; have hcz11_1 := cell1 BK112; have hcz11_2 := cell2 BK112; have hfz11_0 := blk_frozen BK112.out 0; have hfz11_1 := blk_frozen BK112.out 1; have hfz11_2 := blk_frozen BK112.out 2) | ((with_reducible refine gate_callee (f := 38) rfl ?_); refine goesL_ (some 6) rfl rfl Try.func38 (by kernel_rfl) rfl #[.agg #[.slice A0_0 l0_0.length c0_0, .slice A0_1 l0_1.length c0_1, .slice A0_2 l0_2.length c0_2]] rfl (args_ (p := _)) ?_; (with_reducible refine (lru_Check.calls _ _ l0_0 _ _ l0_1 _ _ l0_2 t113 _ ?side1 ?side2 ?side3 ?side4 ?side5 ?side6 A2.out).mono ?_); (case side1 => exact upc (Kd.C_below HR0_0.out HB.out)); (case side2 => exact HC0_0.out); (case side3 => exact upc (Kd.C_below HR0_1.out HB.out)); (case side4 => exact HC0_1.out); (case side5 => exact upc (Kd.C_below HR0_2.out HB.out)); (case side6 => exact HC0_2.out); rintro e w12 ⟨rfl, hb⟩; refine ⟨_, rfl, ?_⟩; have n0_ := Aside0.mk (blkB BK112 hb); have n1_ := Aside0.mk (below_step (upH HB) hb); clear BK112; clear HB; have BK112 := n0_; have HB := n1_; clear n0_ n1_; (try clear hb); (try clear hb2); (try clear hk); (try clear hi)))
  go_ret2
  exact ⟨by first | rfl | (simp [errW_none, errW_some] <;> rfl) | (simp [*, errW_none, errW_some] <;> rfl), by repeat (first | (with_reducible first | exact HB.out | apply below_alloc | apply pw_below_drewN | apply below_drew1 | refine below_set ?_ GE112.out) | exact HB.out)⟩

end Go.Proofs.Ytnheknlmmmkbpaa.X

namespace Go.Proofs.Ytnheknlmmmkbpaa.X
open Go.RowKit Go.Proofs.YtnheknlmmmkbpaaW.PrintWords Go.Proofs.YtnheknlmmmkbpaaW.PrintLast Go.Proofs.YtnheknlmmmkbpaaW.PrintMore
attribute [local go_sem] max2_int min2_int max_two min_two max_three min_three max_four min_four   -- for this text's walks alone
set_option linter.unusedVariables false
set_option linter.unusedSimpArgs false

/-! ### headgatelaw31_which: function 22 -/
def headgatelaw31_which.f (k : Nat) (l0_0 : List Int) (l0_1 : List Int) (l0_2 : List Bool) (a1 : Int) : Option (Bool) := (balance_Which.f k l0_0 l0_1 l0_2).bind fun bt116 => (if bt116.1 = a1 then (some (bt116.2 == 0)) else (some false))
theorem headgatelaw31_which.mono : ∀ a0 a1 a2 a3 k, LeO (headgatelaw31_which.f k a0 a1 a2 a3) (headgatelaw31_which.f (k + 1) a0 a1 a2 a3) := by
 intro a0 a1 a2 a3 k
 unfold headgatelaw31_which.f
 repeat' first
   | (with_reducible exact balance_Which.mono _ _ _ _)
   | (with_reducible exact LeO.refl _)
   | (with_reducible exact LeO.none _)
   | (with_reducible refine LeO.ite ?_ ?_)
   | (with_reducible refine LeO.bind ?_ (fun _ => ?_))
   | exact balance_Which.mono _ _ _ _
   | exact LeO.none _
   | refine LeO.ite ?_ ?_
   | refine LeO.bind ?_ (fun _ => ?_)
set_option maxHeartbeats 2000000 in
set_option maxRecDepth 100000 in
theorem headgatelaw31_which.calls (k : Nat) (A0_0 : Option Addr) (c0_0 : Nat) (l0_0 : List Int) (A0_1 : Option Addr) (c0_1 : Nat) (l0_1 : List Int) (A0_2 : Option Addr) (c0_2 : Nat) (l0_2 : List Bool) (a1 : Int) (r : Bool) (w : World) (hr0_0 : Kd.C (Kd.int .i64) w A0_0 l0_0.length l0_0) (hc0_0 : l0_0.length ≤ c0_0) (hr0_1 : Kd.C (Kd.int .i64) w A0_1 l0_1.length l0_1) (hc0_1 : l0_1.length ≤ c0_1) (hr0_2 : Kd.C Kd.bool w A0_2 l0_2.length l0_2) (hc0_2 : l0_2.length ≤ c0_2) (h : headgatelaw31_which.f k l0_0 l0_1 l0_2 a1 = some r) :
  Calls Try.prog 22 #[.agg #[.slice A0_0 l0_0.length c0_0, .slice A0_1 l0_1.length c0_1, .slice A0_2 l0_2.length c0_2], .int .i64 a1] w fun e w' => e = .returned (.bool r) ∧ Below w.heap.size w w' := by
 have hu33 := Try.underlying33
 have HR0_0 := Aside0.mk hr0_0
 have HC0_0 := Aside0.mk hc0_0
 clear hr0_0 hc0_0
 have HR0_1 := Aside0.mk hr0_1
 have HC0_1 := Aside0.mk hc0_1
 clear hr0_1 hc0_1
 have HR0_2 := Aside0.mk hr0_2
 have HC0_2 := Aside0.mk hc0_2
 clear hr0_2 hc0_2
 have HB := Aside0.mk (Below.refl w.heap.size w)
 have H : ((balance_Which.f k l0_0 l0_1 l0_2).bind fun bt116 => (if bt116.1 = a1 then (some (bt116.2 == 0)) else (some false))) = some r := h
 clear h
 replace H := Option.bind_eq_some_iff.mp H
 obtain ⟨⟨t116, t117⟩, A30, H⟩ := H
 replace H : (if t116 = a1 then (some (t117 == 0)) else (some false)) = some r := H
 have A3 := Aside0.mk A30
 clear A30
 by_cases c4 : t116 = a1
 ·
  rw [if_pos c4] at H
  have c4b0 : (t116 == a1) = true := beq_iff_eq.mpr c4
  have c4b1 : (t116 != a1) = false := bne_eq_false_iff_eq.mpr c4
  clear c4
  obtain rfl := Option.some.inj H
  go_enter Try.func22, Try.ntmps22
  go_wp2_with (first | ((with_reducible refine gate_dst (N := 2) rfl ?_); refine box_event ?hg (N := 2) ?hd (cs := #[.slice A0_0 l0_0.length c0_0, .slice A0_1 l0_1.length c0_1, .slice A0_2 l0_2.length c0_2]) (t := 33) ?hr ?_; (case hd => rfl); (case hg => rfl); (case hr => first | (go_simp; done) | (go_simp; rfl)); intro gb115 hg w5 hbox hb; have n0_ := Aside0.mk (below_step (upH HB) hb); have n1_ := Aside0.mk (hbox); have n2_ := Aside0.mk ((by rw [hg]; exact (below_size (upH HB)) : w.heap.size ≤ gb115)); have n3_ := Aside0.mk ((by rw [hg]; exact (below_size (upH HB)) : w.heap.size ≤ gb115)); clear HB; have HB := n0_; have BK115 := n1_; have GW115 := n2_; have GE115 := n3_; clear n0_ n1_ n2_ n3_; clear hb hbox hg; have hcz6_0 := cell0 BK115; have hcz6_1 := cell1 BK115; have hcz6_2 := cell2 BK115; have hfz6_0 := blk_frozen BK115.out 0; have hfz6_1 := blk_frozen BK115.out 1; have hfz6_2 := blk_frozen BK115.out 2) | ((with_reducible refine gate_callee (f := 19) rfl ?_); refine goesL_ (some 9) rfl rfl Try.func19 (by kernel_rfl) rfl #[.agg #[.slice A0_0 l0_0.length c0_0, .slice A0_1 l0_1.length c0_1, .slice A0_2 l0_2.length c0_2]] rfl (args_ (p := _)) ?_; (with_reducible refine (balance_Which.calls k _ _ l0_0 _ _ l0_1 _ _ l0_2 t116 t117 _ ?side1 ?side2 ?side3 ?side4 ?side5 ?side6 A3.out).mono ?_); (case side1 => exact upc (Kd.C_below HR0_0.out HB.out)); (case side2 => exact HC0_0.out); (case side3 => exact upc (Kd.C_below HR0_1.out HB.out)); (case side4 => exact HC0_1.out); (case side5 => exact upc (Kd.C_below HR0_2.out HB.out)); (case side6 => exact HC0_2.out); rintro e w7 ⟨rfl, hb⟩; refine ⟨_, rfl, ?_⟩; have n0_ := Aside0.mk (blkB BK115 hb); have n1_ := Aside0.mk (below_step (upH HB) hb); clear BK115; clear HB; have BK115 := n0_; have HB := n1_; clear n0_ n1_; (try clear hb); (try clear hb2); (try clear hk); (try clear hi)))
  go_ret
  exact ⟨by first | rfl | (simp [errW_none, errW_some] <;> rfl) | (simp [*, errW_none, errW_some] <;> rfl), by repeat (first | (with_reducible first | exact HB.out | apply below_alloc | apply pw_below_drewN | apply below_drew1 | refine below_set ?_ GE115.out) | exact HB.out)⟩
 ·
  rw [if_neg c4] at H
  have c4b0 : (t116 == a1) = false := beq_eq_false_iff_ne.mpr c4
  have c4b1 : (t116 != a1) = true := bne_iff_ne.mpr c4
  obtain rfl := Option.some.inj H
  go_enter Try.func22, Try.ntmps22
  go_wp2_with (first | ((with_reducible refine gate_dst (N := 2) rfl ?_); refine box_event ?hg (N := 2) ?hd (cs := #[.slice A0_0 l0_0.length c0_0, .slice A0_1 l0_1.length c0_1, .slice A0_2 l0_2.length c0_2]) (t := 33) ?hr ?_; (case hd => rfl); (case hg => rfl); (case hr => first | (go_simp; done) | (go_simp; rfl)); intro gb115 hg w8 hbox hb; have n0_ := Aside0.mk (below_step (upH HB) hb); have n1_ := Aside0.mk (hbox); have n2_ := Aside0.mk ((by rw [hg]; exact (below_size (upH HB)) : w.heap.size ≤ gb115)); have n3_ := Aside0.mk ((by rw [hg]; exact (below_size (upH HB)) : w.heap.size ≤ gb115)); clear HB; have HB := n0_; have BK115 := n1_; have GW115 := n2_; have GE115 := n3_; clear n0_ n1_ n2_ n3_; clear hb hbox hg; have hcz9_0 := cell0 BK115; have hcz9_1 := cell1 BK115; have hcz9_2 := cell2 BK115; have hfz9_0 := blk_frozen BK115.out 0; have hfz9_1 := blk_frozen BK115.out 1; have hfz9_2 := blk_frozen BK115.out 2) | ((with_reducible refine gate_callee (f := 19) rfl ?_); refine goesL_ (some 9) rfl rfl Try.func19 (by kernel_rfl) rfl #[.agg #[.slice A0_0 l0_0.length c0_0, .slice A0_1 l0_1.length c0_1, .slice A0_2 l0_2.length c0_2]] rfl (args_ (p := _)) ?_; (with_reducible refine (balance_Which.calls k _ _ l0_0 _ _ l0_1 _ _ l0_2 t116 t117 _ ?side1 ?side2 ?side3 ?side4 ?side5 ?side6 A3.out).mono ?_); (case side1 => exact upc (Kd.C_below HR0_0.out HB.out)); (case side2 => exact HC0_0.out); (case side3 => exact upc (Kd.C_below HR0_1.out HB.out)); (case side4 => exact HC0_1.out); (case side5 => exact upc (Kd.C_below HR0_2.out HB.out)); (case side6 => exact HC0_2.out); rintro e w10 ⟨rfl, hb⟩; refine ⟨_, rfl, ?_⟩; have n0_ := Aside0.mk (blkB BK115 hb); have n1_ := Aside0.mk (below_step (upH HB) hb); clear BK115; clear HB; have BK115 := n0_; have HB := n1_; clear n0_ n1_; (try clear hb); (try clear hb2); (try clear hk); (try clear hi)))
  go_ret
  exact ⟨by first | rfl | (simp [errW_none, errW_some] <;> rfl) | (simp [*, errW_none, errW_some] <;> rfl), by repeat (first | (with_reducible first | exact HB.out | apply below_alloc | apply pw_below_drewN | apply below_drew1 | refine below_set ?_ GE115.out) | exact HB.out)⟩

end Go.Proofs.Ytnheknlmmmkbpaa.X
