/- What Go functions of this seat compute, told as Lean functions, and that each call of the Go code comes to that answer; for a law: its row, for every input. Written by a program of the session. -/
import Derived.Test.YtofonnfkffbjkaaX0
import Derived.Test.YtofonnfkffbjkaaX3
import Derived.Test.YtofonnfkffbjkaaX4
namespace Go.Proofs.Ytofonnfkffbjkaa.X
open Go.RowKit Go.Proofs.YtofonnfkffbjkaaW.PrintWords Go.Proofs.YtofonnfkffbjkaaW.PrintLast Go.Proofs.YtofonnfkffbjkaaW.PrintMore
attribute [local go_sem] max2_int min2_int max_two min_two max_three min_three max_four min_four   -- for this text's walks alone
set_option linter.unusedVariables false
set_option linter.unusedSimpArgs false

/-! ### zone_asked: function 40 -/
def zone_asked.f (k : Nat) (a0_0 : Int) (a0_1 : Int) (a0_2 : Int) (a1 : Int) (a2 : Int) (a3 : Int) : Option (Int × Int) :=
  (zone_Check.f k a0_0 a0_1 a0_2 256).bind fun t => if t = 0 then (if a1 < 1 then some (0, 16) else if a1 > 3 then some (0, 16) else if a2 < 0 then some (0, 2) else if a2 > 256 then some (0, 2) else if a3 < 0 then some (0, 2) else if a3 > 256 then some (0, 2) else if a1 = 1 then some (a0_0, 0) else if a1 = 2 then some (0, 0) else some (a0_2, 0)) else some (0, t)
theorem zone_asked.mono : ∀ a0_0 a0_1 a0_2 a1 a2 a3 k, LeO (zone_asked.f k a0_0 a0_1 a0_2 a1 a2 a3) (zone_asked.f (k + 1) a0_0 a0_1 a0_2 a1 a2 a3) := by
  intro a0_0 a0_1 a0_2 a1 a2 a3 k
  unfold zone_asked.f
  exact LeO.bind (zone_Check.mono _ _ _ _ _) (fun _ => LeO.refl _)
theorem zone_ruleOf.one (w : World) : Calls Try.prog 55 #[.int .i64 1] w fun e w' => e = .returned (.agg #[.func (.func 63) #[] #[]]) ∧ Below w.heap.size w w' := by
  go_enter Try.func55, Try.ntmps55
  go_wp2
  exact bodyPost_ret (v := .agg #[.func (.func 63) #[] #[]]) (by simp [results, Try.results55, go_sem]) rfl ⟨rfl, (by repeat (first | with_reducible exact Below.refl _ _ | with_reducible apply below_alloc | with_reducible apply pw_below_drewN | with_reducible apply below_drew1))⟩
theorem zone_ruleOf.two (w : World) : Calls Try.prog 55 #[.int .i64 2] w fun e w' => e = .returned (.agg #[.func (.func 64) #[] #[]]) ∧ Below w.heap.size w w' := by
  go_enter Try.func55, Try.ntmps55
  go_wp2
  exact bodyPost_ret (v := .agg #[.func (.func 64) #[] #[]]) (by simp [results, Try.results55, go_sem]) rfl ⟨rfl, (by repeat (first | with_reducible exact Below.refl _ _ | with_reducible apply below_alloc | with_reducible apply pw_below_drewN | with_reducible apply below_drew1))⟩
theorem zone_ruleOf.three (w : World) : Calls Try.prog 55 #[.int .i64 3] w fun e w' => e = .returned (.agg #[.func (.func 65) #[] #[]]) ∧ Below w.heap.size w w' := by
  go_enter Try.func55, Try.ntmps55
  go_wp2
  exact bodyPost_ret (v := .agg #[.func (.func 65) #[] #[]]) (by simp [results, Try.results55, go_sem]) rfl ⟨rfl, (by repeat (first | with_reducible exact Below.refl _ _ | with_reducible apply below_alloc | with_reducible apply pw_below_drewN | with_reducible apply below_drew1))⟩
theorem zone_rule.field (K : FuncId) (w : World) : (Instr.field 89 (.agg #[.func (.func K) #[] #[]]) 0).run Try.prog w = .ok (.func (.func K) #[] #[]) w := by kernel_rfl
theorem zone_floor.one (a b c : Int) (w : World) : Calls Try.prog 63 #[.agg #[.int .i64 a, .int .i64 b, .int .i64 c]] w fun e w' => e = .returned (.int .i64 a) ∧ Below w.heap.size w w' := by
  go_enter Try.func63, Try.ntmps63
  go_wp2
  go_ret
  exact ⟨rfl, (by repeat (first | with_reducible exact Below.refl _ _ | with_reducible apply below_alloc | with_reducible apply pw_below_drewN | with_reducible apply below_drew1))⟩
theorem zone_floor.two (a b c : Int) (w : World) : Calls Try.prog 64 #[.agg #[.int .i64 a, .int .i64 b, .int .i64 c]] w fun e w' => e = .returned (.int .i64 0) ∧ Below w.heap.size w w' := by
  go_enter Try.func64, Try.ntmps64
  go_wp2
  go_ret
  exact ⟨rfl, (by repeat (first | with_reducible exact Below.refl _ _ | with_reducible apply below_alloc | with_reducible apply pw_below_drewN | with_reducible apply below_drew1))⟩
theorem zone_floor.three (a b c : Int) (w : World) : Calls Try.prog 65 #[.agg #[.int .i64 a, .int .i64 b, .int .i64 c]] w fun e w' => e = .returned (.int .i64 c) ∧ Below w.heap.size w w' := by
  go_enter Try.func65, Try.ntmps65
  go_wp2
  go_ret
  exact ⟨rfl, (by repeat (first | with_reducible exact Below.refl _ _ | with_reducible apply below_alloc | with_reducible apply pw_below_drewN | with_reducible apply below_drew1))⟩
set_option maxHeartbeats 2000000 in
set_option maxRecDepth 100000 in
theorem zone_asked.calls (k : Nat) (a0_0 : Int) (a0_1 : Int) (a0_2 : Int) (a1 : Int) (a2 : Int) (a3 : Int) (r1 : Int) (r2 : Int) (w : World) (h : zone_asked.f k a0_0 a0_1 a0_2 a1 a2 a3 = some (r1, r2)) :
    Calls Try.prog 40 #[.agg #[.int .i64 a0_0, .int .i64 a0_1, .int .i64 a0_2], .int .i64 a1, .int .i64 a2, .int .i64 a3] w fun e w' => e = .returned (.tuple #[.int .i64 r1, .int .i64 r2]) ∧ Below w.heap.size w w' := by
  unfold zone_asked.f at h
  obtain ⟨t, ht, H⟩ := Option.bind_eq_some_iff.mp h
  have HT := Aside0.mk ht
  clear h ht
  by_cases c0 : t = 0
  case neg =>
    rw [if_neg c0] at H
    have c0b : (t != 0) = true := bne_iff_ne.mpr c0
    obtain ⟨rfl, rfl⟩ := Prod.mk.inj (Option.some.inj H)
    go_enter Try.func40, Try.ntmps40
    go_wp2_with (first | (go_at_call 17; (with_reducible refine (zone_Check.calls k _ _ _ _ _ _ HT.out).mono ?_); rintro e w1 ⟨rfl, hb1⟩; have HB1 := Aside0.mk (below_then (below_alloc (Below.refl _ _) _) (by simp) hb1); have B1 := Aside0.mk (blk_below (blk_new w _) hb1); clear hb1))
    go_ret2
    exact ⟨rfl, HB1.out⟩
  rw [if_pos c0] at H
  subst c0
  by_cases c1 : a1 < 1
  · rw [if_pos c1] at H
    have c1b := decide_eq_true c1
    obtain ⟨rfl, rfl⟩ := Prod.mk.inj (Option.some.inj H)
    go_enter Try.func40, Try.ntmps40
    go_wp2_with (first | (go_at_call 17; (with_reducible refine (zone_Check.calls k _ _ _ _ _ _ HT.out).mono ?_); rintro e w1 ⟨rfl, hb1⟩; have HB1 := Aside0.mk (below_then (below_alloc (Below.refl _ _) _) (by simp) hb1); have B1 := Aside0.mk (blk_below (blk_new w _) hb1); clear hb1))
    go_ret2
    exact ⟨rfl, HB1.out⟩
  rw [if_neg c1] at H
  have c1b := decide_eq_false c1
  by_cases c2 : a1 > 3
  · rw [if_pos c2] at H
    have c2b : decide (3 < a1) = true := decide_eq_true c2
    obtain ⟨rfl, rfl⟩ := Prod.mk.inj (Option.some.inj H)
    go_enter Try.func40, Try.ntmps40
    go_wp2_with (first | (go_at_call 17; (with_reducible refine (zone_Check.calls k _ _ _ _ _ _ HT.out).mono ?_); rintro e w1 ⟨rfl, hb1⟩; have HB1 := Aside0.mk (below_then (below_alloc (Below.refl _ _) _) (by simp) hb1); have B1 := Aside0.mk (blk_below (blk_new w _) hb1); clear hb1))
    go_ret2
    exact ⟨rfl, HB1.out⟩
  rw [if_neg c2] at H
  have c2b : decide (3 < a1) = false := decide_eq_false c2
  have ww : ∀ a : Int, zone_within.f a = some (decide (0 ≤ a ∧ a ≤ 256)) := fun a => by
    unfold zone_within.f
    by_cases c : a ≥ 0
    · rw [if_pos c]; simp [c]
    · rw [if_neg c]; simp [c]
  by_cases c3 : 0 ≤ a2 ∧ a2 ≤ 256
  case neg =>
    have H' : (some (0, 2) : Option (Int × Int)) = some (r1, r2) := by
      by_cases d1 : a2 < 0
      · rw [if_pos d1] at H; exact H
      · rw [if_neg d1, if_pos (by omega)] at H; exact H
    obtain ⟨rfl, rfl⟩ := Prod.mk.inj (Option.some.inj H')
    clear H H'
    have W2 := Aside0.mk ((ww a2).trans (by rw [decide_eq_false c3]))
    clear ww c3
    go_enter Try.func40, Try.ntmps40
    go_wp2_with fail
    refine (zone_Check.calls k _ _ _ _ _ _ HT.out).mono ?_
    rintro e w1 ⟨rfl, hb1⟩
    have HB1 := Aside0.mk (below_then (below_alloc (Below.refl _ _) _) (by simp) hb1)
    clear hb1
    go_wp2_with fail
    refine (zone_within.calls a2 false _ W2.out).mono ?_
    rintro e w2 ⟨rfl, ⟨na, rfl⟩⟩
    go_wp2
    go_ret2
    exact ⟨rfl, by repeat (first | with_reducible exact HB1.out | with_reducible apply pw_below_drewN)⟩
  rw [if_neg (by omega), if_neg (by omega)] at H
  have W2 := Aside0.mk ((ww a2).trans (by rw [decide_eq_true c3]))
  clear c3
  by_cases c4 : 0 ≤ a3 ∧ a3 ≤ 256
  case neg =>
    have H' : (some (0, 2) : Option (Int × Int)) = some (r1, r2) := by
      by_cases d1 : a3 < 0
      · rw [if_pos d1] at H; exact H
      · rw [if_neg d1, if_pos (by omega)] at H; exact H
    obtain ⟨rfl, rfl⟩ := Prod.mk.inj (Option.some.inj H')
    clear H H'
    have W3 := Aside0.mk ((ww a3).trans (by rw [decide_eq_false c4]))
    clear ww c4
    go_enter Try.func40, Try.ntmps40
    go_wp2_with fail
    refine (zone_Check.calls k _ _ _ _ _ _ HT.out).mono ?_
    rintro e w1 ⟨rfl, hb1⟩
    have HB1 := Aside0.mk (below_then (below_alloc (Below.refl _ _) _) (by simp) hb1)
    clear hb1
    go_wp2_with fail
    refine (zone_within.calls a2 true _ W2.out).mono ?_
    rintro e w2 ⟨rfl, ⟨na, rfl⟩⟩
    go_wp2_with fail
    refine (zone_within.calls a3 false _ W3.out).mono ?_
    rintro e w2 ⟨rfl, ⟨nb, rfl⟩⟩
    go_wp2
    go_ret2
    exact ⟨rfl, by repeat (first | with_reducible exact HB1.out | with_reducible apply pw_below_drewN)⟩
  rw [if_neg (by omega), if_neg (by omega)] at H
  have W3 := Aside0.mk ((ww a3).trans (by rw [decide_eq_true c4]))
  clear c4 ww
  have hfield := zone_rule.field
  by_cases d1 : a1 = 1
  · subst d1
    rw [if_pos rfl] at H
    obtain ⟨rfl, rfl⟩ := Prod.mk.inj (Option.some.inj H)
    clear H
    go_enter Try.func40, Try.ntmps40
    go_wp2_with fail
    refine (zone_Check.calls k _ _ _ _ _ _ HT.out).mono ?_
    rintro e w1 ⟨rfl, hb1⟩
    have HB1 := Aside0.mk (below_then (below_alloc (Below.refl _ _) _) (by simp) hb1)
    have B1 := Aside0.mk (blk_below (blk_new w _) hb1)
    clear hb1
    go_wp2_with fail
    refine (zone_within.calls a2 true _ W2.out).mono ?_
    rintro e w2 ⟨rfl, ⟨na, rfl⟩⟩
    go_wp2_with fail
    refine (zone_within.calls a3 true _ W3.out).mono ?_
    rintro e w2 ⟨rfl, ⟨nb, rfl⟩⟩
    go_wp2
    have hc0 := (blk_cell B1.out 0).trans rfl
    have hc1 := (blk_cell B1.out 1).trans rfl
    have hc2 := (blk_cell B1.out 2).trans rfl
    go_region_with (first | (go_at_call 55; refine (zone_ruleOf.one _).mono ?_; rintro e w3 ⟨rfl, hb3⟩; have HB3 := Aside0.mk hb3; have hd0 := (blk_cell (blk_below (by exact B1.out) hb3) 0).trans rfl; have hd1 := (blk_cell (blk_below (by exact B1.out) hb3) 1).trans rfl; have hd2 := (blk_cell (blk_below (by exact B1.out) hb3) 2).trans rfl; clear hb3) | (go_at_call 63; refine (zone_floor.one _ _ _ _).mono ?_; rintro e w4 ⟨rfl, hb4⟩; have HB4 := Aside0.mk hb4; clear hb4))
    all_goals
      go_wp2
      go_ret2
      exact ⟨rfl, below_then (below_then (by repeat (first | with_reducible exact HB1.out | with_reducible apply pw_below_drewN | with_reducible apply below_drew1)) (by have := HB1.out.size; simpa using this) HB3.out) (by have := HB1.out.size; have h3 := HB3.out.size; simp at h3; omega) HB4.out⟩
  · rw [if_neg d1] at H
    by_cases d2 : a1 = 2
    · subst d2
      rw [if_pos rfl] at H
      obtain ⟨rfl, rfl⟩ := Prod.mk.inj (Option.some.inj H)
      clear H
      go_enter Try.func40, Try.ntmps40
      go_wp2_with fail
      refine (zone_Check.calls k _ _ _ _ _ _ HT.out).mono ?_
      rintro e w1 ⟨rfl, hb1⟩
      have HB1 := Aside0.mk (below_then (below_alloc (Below.refl _ _) _) (by simp) hb1)
      have B1 := Aside0.mk (blk_below (blk_new w _) hb1)
      clear hb1
      go_wp2_with fail
      refine (zone_within.calls a2 true _ W2.out).mono ?_
      rintro e w2 ⟨rfl, ⟨na, rfl⟩⟩
      go_wp2_with fail
      refine (zone_within.calls a3 true _ W3.out).mono ?_
      rintro e w2 ⟨rfl, ⟨nb, rfl⟩⟩
      go_wp2
      have hc0 := (blk_cell B1.out 0).trans rfl
      have hc1 := (blk_cell B1.out 1).trans rfl
      have hc2 := (blk_cell B1.out 2).trans rfl
      go_region_with (first | (go_at_call 55; refine (zone_ruleOf.two _).mono ?_; rintro e w3 ⟨rfl, hb3⟩; have HB3 := Aside0.mk hb3; have hd0 := (blk_cell (blk_below (by exact B1.out) hb3) 0).trans rfl; have hd1 := (blk_cell (blk_below (by exact B1.out) hb3) 1).trans rfl; have hd2 := (blk_cell (blk_below (by exact B1.out) hb3) 2).trans rfl; clear hb3) | (go_at_call 64; refine (zone_floor.two _ _ _ _).mono ?_; rintro e w4 ⟨rfl, hb4⟩; have HB4 := Aside0.mk hb4; clear hb4))
      all_goals
        go_wp2
        go_ret2
        exact ⟨rfl, below_then (below_then (by repeat (first | with_reducible exact HB1.out | with_reducible apply pw_below_drewN | with_reducible apply below_drew1)) (by have := HB1.out.size; simpa using this) HB3.out) (by have := HB1.out.size; have h3 := HB3.out.size; simp at h3; omega) HB4.out⟩
    · rw [if_neg d2] at H
      obtain rfl : a1 = 3 := by omega
      obtain ⟨rfl, rfl⟩ := Prod.mk.inj (Option.some.inj H)
      clear H
      go_enter Try.func40, Try.ntmps40
      go_wp2_with fail
      refine (zone_Check.calls k _ _ _ _ _ _ HT.out).mono ?_
      rintro e w1 ⟨rfl, hb1⟩
      have HB1 := Aside0.mk (below_then (below_alloc (Below.refl _ _) _) (by simp) hb1)
      have B1 := Aside0.mk (blk_below (blk_new w _) hb1)
      clear hb1
      go_wp2_with fail
      refine (zone_within.calls a2 true _ W2.out).mono ?_
      rintro e w2 ⟨rfl, ⟨na, rfl⟩⟩
      go_wp2_with fail
      refine (zone_within.calls a3 true _ W3.out).mono ?_
      rintro e w2 ⟨rfl, ⟨nb, rfl⟩⟩
      go_wp2
      have hc0 := (blk_cell B1.out 0).trans rfl
      have hc1 := (blk_cell B1.out 1).trans rfl
      have hc2 := (blk_cell B1.out 2).trans rfl
      go_region_with (first | (go_at_call 55; refine (zone_ruleOf.three _).mono ?_; rintro e w3 ⟨rfl, hb3⟩; have HB3 := Aside0.mk hb3; have hd0 := (blk_cell (blk_below (by exact B1.out) hb3) 0).trans rfl; have hd1 := (blk_cell (blk_below (by exact B1.out) hb3) 1).trans rfl; have hd2 := (blk_cell (blk_below (by exact B1.out) hb3) 2).trans rfl; clear hb3) | (go_at_call 65; refine (zone_floor.three _ _ _ _).mono ?_; rintro e w4 ⟨rfl, hb4⟩; have HB4 := Aside0.mk hb4; clear hb4))
      all_goals
        go_wp2
        go_ret2
        exact ⟨rfl, below_then (below_then (by repeat (first | with_reducible exact HB1.out | with_reducible apply pw_below_drewN | with_reducible apply below_drew1)) (by have := HB1.out.size; simpa using this) HB3.out) (by have := HB1.out.size; have h3 := HB3.out.size; simp at h3; omega) HB4.out⟩


end Go.Proofs.Ytofonnfkffbjkaa.X
