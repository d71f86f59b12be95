/- What Go functions of this seat compute, told as Lean functions, and that each call of the Go code comes to that answer; for a law: its row, for every input. Written by a program of the session. -/
import Derived.Test.YtofonnfkffbjkaaX0
import Derived.Test.YtofonnfkffbjkaaX3
import Derived.Test.YtofonnfkffbjkaaX8
import Derived.Test.YtofonnfkffbjkaaX9
import Derived.Test.YtofonnfkffbjkaaX11
import Derived.Test.YtofonnfkffbjkaaX13
import Derived.Test.YtofonnfkffbjkaaX15
import Derived.Test.YtofonnfkffbjkaaX17
namespace Go.Proofs.Ytofonnfkffbjkaa.X
open Go.RowKit Go.Proofs.YtofonnfkffbjkaaW.PrintWords Go.Proofs.YtofonnfkffbjkaaW.PrintLast Go.Proofs.YtofonnfkffbjkaaW.PrintMore
attribute [local go_sem] max2_int min2_int max_two min_two max_three min_three max_four min_four   -- for this text's walks alone
set_option linter.unusedVariables false
set_option linter.unusedSimpArgs false

/-! ### headgatelaw10_awake: function 16 -/
def headgatelaw10_awake.f (k : Nat)  : Option (Bool) := (headgatelaw10_may.f k 1 4).bind fun t148 => (if t148 = true then ((headgatelaw10_may.f k 1 3).bind fun t149 => (if t149 = true then (some false) else ((headgatelaw10_takes.f k 1 6 5 3 3).bind fun t150 => (if t150 = true then ((headgatelaw10_needs.f k 1 6 5 2).bind fun t151 => (if t151 = true then ((headgatelaw10_level.f k 9 1).bind fun t152 => (if t152 = true then ((headgatelaw10_wakes.f k 5 false true).bind fun t153 => (if t153 = true then ((headgatelaw10_marks.f).bind fun bt154 => ((zone_Check.f k bt154.1 bt154.2.1 bt154.2.2 20).bind fun t157 => (some (t157 == 0)))) else (some false))) else (some false))) else (some false))) else (some false))))) else (some false))
theorem headgatelaw10_awake.mono : ∀ k, LeO (headgatelaw10_awake.f k ) (headgatelaw10_awake.f (k + 1) ) := by
  intro  k
  unfold headgatelaw10_awake.f
  repeat' first
      | (with_reducible exact headgatelaw10_level.mono _ _ _)
      | (with_reducible exact headgatelaw10_may.mono _ _ _)
      | (with_reducible exact headgatelaw10_needs.mono _ _ _ _ _)
      | (with_reducible exact headgatelaw10_takes.mono _ _ _ _ _ _)
      | (with_reducible exact headgatelaw10_wakes.mono _ _ _ _)
      | (with_reducible exact zone_Check.mono _ _ _ _ _)
      | (with_reducible exact LeO.refl _)
      | (with_reducible exact LeO.none _)
      | (with_reducible refine LeO.ite ?_ ?_)
      | (with_reducible refine LeO.bind ?_ (fun _ => ?_))
      | exact headgatelaw10_level.mono _ _ _
      | exact headgatelaw10_may.mono _ _ _
      | exact headgatelaw10_needs.mono _ _ _ _ _
      | exact headgatelaw10_takes.mono _ _ _ _ _ _
      | exact headgatelaw10_wakes.mono _ _ _ _
      | exact zone_Check.mono _ _ _ _ _
      | exact LeO.none _
      | refine LeO.ite ?_ ?_
      | refine LeO.bind ?_ (fun _ => ?_)
set_option maxHeartbeats 2000000 in
set_option maxRecDepth 100000 in
theorem headgatelaw10_awake.calls (k : Nat)  (r : Bool) (w : World) (h : headgatelaw10_awake.f k  = some r) :
    Calls Try.prog 16 #[] w fun e w' => e = .returned (.bool r) ∧ Below w.heap.size w w' := by
  have HB := Aside0.mk (Below.refl w.heap.size w)
  have H : ((headgatelaw10_may.f k 1 4).bind fun t148 => (if t148 = true then ((headgatelaw10_may.f k 1 3).bind fun t149 => (if t149 = true then (some false) else ((headgatelaw10_takes.f k 1 6 5 3 3).bind fun t150 => (if t150 = true then ((headgatelaw10_needs.f k 1 6 5 2).bind fun t151 => (if t151 = true then ((headgatelaw10_level.f k 9 1).bind fun t152 => (if t152 = true then ((headgatelaw10_wakes.f k 5 false true).bind fun t153 => (if t153 = true then ((headgatelaw10_marks.f).bind fun bt154 => ((zone_Check.f k bt154.1 bt154.2.1 bt154.2.2 20).bind fun t157 => (some (t157 == 0)))) else (some false))) else (some false))) else (some false))) else (some false))))) else (some false))) = some r := h
  clear h
  replace H := Option.bind_eq_some_iff.mp H
  obtain ⟨t148, A10, H⟩ := H
  replace H : (if t148 = true then ((headgatelaw10_may.f k 1 3).bind fun t149 => (if t149 = true then (some false) else ((headgatelaw10_takes.f k 1 6 5 3 3).bind fun t150 => (if t150 = true then ((headgatelaw10_needs.f k 1 6 5 2).bind fun t151 => (if t151 = true then ((headgatelaw10_level.f k 9 1).bind fun t152 => (if t152 = true then ((headgatelaw10_wakes.f k 5 false true).bind fun t153 => (if t153 = true then ((headgatelaw10_marks.f).bind fun bt154 => ((zone_Check.f k bt154.1 bt154.2.1 bt154.2.2 20).bind fun t157 => (some (t157 == 0)))) else (some false))) else (some false))) else (some false))) else (some false))))) else (some false)) = some r := H
  have A1 := Aside0.mk A10
  clear A10
  by_cases c2 : t148 = true
  · subst c2
    have H1 : ((headgatelaw10_may.f k 1 3).bind fun t149 => (if t149 = true then (some false) else ((headgatelaw10_takes.f k 1 6 5 3 3).bind fun t150 => (if t150 = true then ((headgatelaw10_needs.f k 1 6 5 2).bind fun t151 => (if t151 = true then ((headgatelaw10_level.f k 9 1).bind fun t152 => (if t152 = true then ((headgatelaw10_wakes.f k 5 false true).bind fun t153 => (if t153 = true then ((headgatelaw10_marks.f).bind fun bt154 => ((zone_Check.f k bt154.1 bt154.2.1 bt154.2.2 20).bind fun t157 => (some (t157 == 0)))) else (some false))) else (some false))) else (some false))) else (some false))))) = some r := by rw [if_pos rfl] at H; exact H
    clear H
    have H := H1
    clear H1
    replace H := Option.bind_eq_some_iff.mp H
    obtain ⟨t149, A30, H⟩ := H
    replace H : (if t149 = true then (some false) else ((headgatelaw10_takes.f k 1 6 5 3 3).bind fun t150 => (if t150 = true then ((headgatelaw10_needs.f k 1 6 5 2).bind fun t151 => (if t151 = true then ((headgatelaw10_level.f k 9 1).bind fun t152 => (if t152 = true then ((headgatelaw10_wakes.f k 5 false true).bind fun t153 => (if t153 = true then ((headgatelaw10_marks.f).bind fun bt154 => ((zone_Check.f k bt154.1 bt154.2.1 bt154.2.2 20).bind fun t157 => (some (t157 == 0)))) else (some false))) else (some false))) else (some false))) else (some false)))) = some r := H
    have A3 := Aside0.mk A30
    clear A30
    by_cases c4 : t149 = true
    · subst c4
      have H1 : (some false) = some r := by rw [if_pos rfl] at H; exact H
      clear H
      have H := H1
      clear H1
      obtain rfl := Option.some.inj H
      go_enter Try.func16, Try.ntmps16
      go_wp2_with (first | ((with_reducible refine gate_callee (f := 11) rfl ?_); refine goesL_ (some 1) rfl rfl Try.func11 (by kernel_rfl) rfl #[.int .i64 1, .int .i64 4] rfl (by (try simp only [List.map_toArray, List.map_cons, List.map_nil]); first | done | rfl | (simp only [List.length_drop, List.length_take]; rfl)) ?_; (with_reducible refine (headgatelaw10_may.calls k 1 4 true _ A1.out).mono ?_); rintro e w5 ⟨rfl, hb⟩; refine ⟨_, rfl, ?_⟩; have n0_ := Aside0.mk (below_step (by repeat (first | (with_reducible first | exact HB.out | apply below_alloc | apply pw_below_drewN | apply below_drew1) | exact HB.out)) hb); clear HB; have HB := n0_; clear n0_; (try clear hb); (try clear hb2); (try clear hk); (try clear hi)) | (go_at_call 11; refine calls_of_args (args' := #[.int .i64 1, .int .i64 3]) (by first | rfl) ?_; (with_reducible refine (headgatelaw10_may.calls k 1 3 true _ A3.out).mono ?_); rintro e w6 ⟨rfl, hb⟩; have n0_ := Aside0.mk (below_step (by repeat (first | (with_reducible first | exact HB.out | apply below_alloc | apply pw_below_drewN | apply below_drew1) | exact HB.out)) hb); clear HB; have HB := n0_; clear n0_; (try clear hb); (try clear hb2); (try clear hk); (try clear hi)))
      go_ret
      exact ⟨by first | rfl | (simp [errW_none, errW_some] <;> rfl) | (simp [*, errW_none, errW_some] <;> rfl), by repeat (first | (with_reducible first | exact HB.out | apply below_alloc | apply pw_below_drewN | apply below_drew1) | exact HB.out)⟩
    · replace c4 := Bool.eq_false_iff.mpr c4
      subst c4
      have H1 : ((headgatelaw10_takes.f k 1 6 5 3 3).bind fun t150 => (if t150 = true then ((headgatelaw10_needs.f k 1 6 5 2).bind fun t151 => (if t151 = true then ((headgatelaw10_level.f k 9 1).bind fun t152 => (if t152 = true then ((headgatelaw10_wakes.f k 5 false true).bind fun t153 => (if t153 = true then ((headgatelaw10_marks.f).bind fun bt154 => ((zone_Check.f k bt154.1 bt154.2.1 bt154.2.2 20).bind fun t157 => (some (t157 == 0)))) else (some false))) else (some false))) else (some false))) else (some false))) = some r := by rw [if_neg (show ¬ (false = true) by decide)] at H; exact H
      clear H
      have H := H1
      clear H1
      replace H := Option.bind_eq_some_iff.mp H
      obtain ⟨t150, A70, H⟩ := H
      replace H : (if t150 = true then ((headgatelaw10_needs.f k 1 6 5 2).bind fun t151 => (if t151 = true then ((headgatelaw10_level.f k 9 1).bind fun t152 => (if t152 = true then ((headgatelaw10_wakes.f k 5 false true).bind fun t153 => (if t153 = true then ((headgatelaw10_marks.f).bind fun bt154 => ((zone_Check.f k bt154.1 bt154.2.1 bt154.2.2 20).bind fun t157 => (some (t157 == 0)))) else (some false))) else (some false))) else (some false))) else (some false)) = some r := H
      have A7 := Aside0.mk A70
      clear A70
      by_cases c8 : t150 = true
      · subst c8
        have H1 : ((headgatelaw10_needs.f k 1 6 5 2).bind fun t151 => (if t151 = true then ((headgatelaw10_level.f k 9 1).bind fun t152 => (if t152 = true then ((headgatelaw10_wakes.f k 5 false true).bind fun t153 => (if t153 = true then ((headgatelaw10_marks.f).bind fun bt154 => ((zone_Check.f k bt154.1 bt154.2.1 bt154.2.2 20).bind fun t157 => (some (t157 == 0)))) else (some false))) else (some false))) else (some false))) = some r := by rw [if_pos rfl] at H; exact H
        clear H
        have H := H1
        clear H1
        replace H := Option.bind_eq_some_iff.mp H
        obtain ⟨t151, A90, H⟩ := H
        replace H : (if t151 = true then ((headgatelaw10_level.f k 9 1).bind fun t152 => (if t152 = true then ((headgatelaw10_wakes.f k 5 false true).bind fun t153 => (if t153 = true then ((headgatelaw10_marks.f).bind fun bt154 => ((zone_Check.f k bt154.1 bt154.2.1 bt154.2.2 20).bind fun t157 => (some (t157 == 0)))) else (some false))) else (some false))) else (some false)) = some r := H
        have A9 := Aside0.mk A90
        clear A90
        by_cases c10 : t151 = true
        · subst c10
          have H1 : ((headgatelaw10_level.f k 9 1).bind fun t152 => (if t152 = true then ((headgatelaw10_wakes.f k 5 false true).bind fun t153 => (if t153 = true then ((headgatelaw10_marks.f).bind fun bt154 => ((zone_Check.f k bt154.1 bt154.2.1 bt154.2.2 20).bind fun t157 => (some (t157 == 0)))) else (some false))) else (some false))) = some r := by rw [if_pos rfl] at H; exact H
          clear H
          have H := H1
          clear H1
          replace H := Option.bind_eq_some_iff.mp H
          obtain ⟨t152, A110, H⟩ := H
          replace H : (if t152 = true then ((headgatelaw10_wakes.f k 5 false true).bind fun t153 => (if t153 = true then ((headgatelaw10_marks.f).bind fun bt154 => ((zone_Check.f k bt154.1 bt154.2.1 bt154.2.2 20).bind fun t157 => (some (t157 == 0)))) else (some false))) else (some false)) = some r := H
          have A11 := Aside0.mk A110
          clear A110
          by_cases c12 : t152 = true
          · subst c12
            have H1 : ((headgatelaw10_wakes.f k 5 false true).bind fun t153 => (if t153 = true then ((headgatelaw10_marks.f).bind fun bt154 => ((zone_Check.f k bt154.1 bt154.2.1 bt154.2.2 20).bind fun t157 => (some (t157 == 0)))) else (some false))) = some r := by rw [if_pos rfl] at H; exact H
            clear H
            have H := H1
            clear H1
            replace H := Option.bind_eq_some_iff.mp H
            obtain ⟨t153, A130, H⟩ := H
            replace H : (if t153 = true then ((headgatelaw10_marks.f).bind fun bt154 => ((zone_Check.f k bt154.1 bt154.2.1 bt154.2.2 20).bind fun t157 => (some (t157 == 0)))) else (some false)) = some r := H
            have A13 := Aside0.mk A130
            clear A130
            by_cases c14 : t153 = true
            · subst c14
              have H1 : ((headgatelaw10_marks.f).bind fun bt154 => ((zone_Check.f k bt154.1 bt154.2.1 bt154.2.2 20).bind fun t157 => (some (t157 == 0)))) = some r := by rw [if_pos rfl] at H; exact H
              clear H
              have H := H1
              clear H1
              replace H := Option.bind_eq_some_iff.mp H
              obtain ⟨⟨t154, t155, t156⟩, A150, H⟩ := H
              replace H : ((zone_Check.f k t154 t155 t156 20).bind fun t157 => (some (t157 == 0))) = some r := H
              have A15 := Aside0.mk A150
              clear A150
              replace H := Option.bind_eq_some_iff.mp H
              obtain ⟨t157, A160, H⟩ := H
              replace H : (some (t157 == 0)) = some r := H
              have A16 := Aside0.mk A160
              clear A160
              obtain rfl := Option.some.inj H
              go_enter Try.func16, Try.ntmps16
              go_wp2_with (first | ((with_reducible refine gate_callee (f := 11) rfl ?_); refine goesL_ (some 1) rfl rfl Try.func11 (by kernel_rfl) rfl #[.int .i64 1, .int .i64 4] rfl (by (try simp only [List.map_toArray, List.map_cons, List.map_nil]); first | done | rfl | (simp only [List.length_drop, List.length_take]; rfl)) ?_; (with_reducible refine (headgatelaw10_may.calls k 1 4 true _ A1.out).mono ?_); rintro e w17 ⟨rfl, hb⟩; refine ⟨_, rfl, ?_⟩; have n0_ := Aside0.mk (below_step (by repeat (first | (with_reducible first | exact HB.out | apply below_alloc | apply pw_below_drewN | apply below_drew1) | exact HB.out)) hb); clear HB; have HB := n0_; clear n0_; (try clear hb); (try clear hb2); (try clear hk); (try clear hi)) | (go_at_call 11; refine calls_of_args (args' := #[.int .i64 1, .int .i64 3]) (by first | rfl) ?_; (with_reducible refine (headgatelaw10_may.calls k 1 3 false _ A3.out).mono ?_); rintro e w18 ⟨rfl, hb⟩; have n0_ := Aside0.mk (below_step (by repeat (first | (with_reducible first | exact HB.out | apply below_alloc | apply pw_below_drewN | apply below_drew1) | exact HB.out)) hb); clear HB; have HB := n0_; clear n0_; (try clear hb); (try clear hb2); (try clear hk); (try clear hi)) | (go_at_call 12; refine calls_of_args (args' := #[.int .i64 1, .int .i64 6, .int .i64 5, .int .i64 3, .int .i64 3]) (by first | rfl) ?_; (with_reducible refine (headgatelaw10_takes.calls k 1 6 5 3 3 true _ A7.out).mono ?_); rintro e w19 ⟨rfl, hb⟩; have n0_ := Aside0.mk (below_step (by repeat (first | (with_reducible first | exact HB.out | apply below_alloc | apply pw_below_drewN | apply below_drew1) | exact HB.out)) hb); clear HB; have HB := n0_; clear n0_; (try clear hb); (try clear hb2); (try clear hk); (try clear hi)) | (go_at_call 13; refine calls_of_args (args' := #[.int .i64 1, .int .i64 6, .int .i64 5, .int .i64 2]) (by first | rfl) ?_; (with_reducible refine (headgatelaw10_needs.calls k 1 6 5 2 true _ A9.out).mono ?_); rintro e w20 ⟨rfl, hb⟩; have n0_ := Aside0.mk (below_step (by repeat (first | (with_reducible first | exact HB.out | apply below_alloc | apply pw_below_drewN | apply below_drew1) | exact HB.out)) hb); clear HB; have HB := n0_; clear n0_; (try clear hb); (try clear hb2); (try clear hk); (try clear hi)) | (go_at_call 14; refine calls_of_args (args' := #[.int .i64 9, .int .i64 1]) (by first | rfl) ?_; (with_reducible refine (headgatelaw10_level.calls k 9 1 true _ A11.out).mono ?_); rintro e w21 ⟨rfl, hb⟩; have n0_ := Aside0.mk (below_step (by repeat (first | (with_reducible first | exact HB.out | apply below_alloc | apply pw_below_drewN | apply below_drew1) | exact HB.out)) hb); clear HB; have HB := n0_; clear n0_; (try clear hb); (try clear hb2); (try clear hk); (try clear hi)) | (go_at_call 15; refine calls_of_args (args' := #[.int .i64 5, .bool false, .bool true]) (by first | rfl) ?_; (with_reducible refine (headgatelaw10_wakes.calls k 5 false true true _ A13.out).mono ?_); rintro e w22 ⟨rfl, hb⟩; have n0_ := Aside0.mk (below_step (by repeat (first | (with_reducible first | exact HB.out | apply below_alloc | apply pw_below_drewN | apply below_drew1) | exact HB.out)) hb); clear HB; have HB := n0_; clear n0_; (try clear hb); (try clear hb2); (try clear hk); (try clear hi)) | (go_at_call 10; refine calls_of_args (args' := #[]) (by first | rfl) ?_; (with_reducible refine (headgatelaw10_marks.calls  t154 t155 t156 _ A15.out).mono ?_); rintro e w23 ⟨rfl, hb⟩; have n0_ := Aside0.mk (below_step (by repeat (first | (with_reducible first | exact HB.out | apply below_alloc | apply pw_below_drewN | apply below_drew1) | exact HB.out)) hb); clear HB; have HB := n0_; clear n0_; (try clear hb); (try clear hb2); (try clear hk); (try clear hi)) | (go_at_call 17; refine calls_of_args (args' := #[.agg #[.int .i64 t154, .int .i64 t155, .int .i64 t156], .int .i64 20]) (by first | rfl) ?_; (with_reducible refine (zone_Check.calls k t154 t155 t156 20 t157 _ A16.out).mono ?_); rintro e w24 ⟨rfl, hb⟩; have n0_ := Aside0.mk (below_step (by repeat (first | (with_reducible first | exact HB.out | apply below_alloc | apply pw_below_drewN | apply below_drew1) | exact HB.out)) hb); clear HB; have HB := n0_; clear n0_; (try clear hb); (try clear hb2); (try clear hk); (try clear hi)))
              go_ret
              exact ⟨by first | rfl | (simp [errW_none, errW_some] <;> rfl) | (simp [*, errW_none, errW_some] <;> rfl), by repeat (first | (with_reducible first | exact HB.out | apply below_alloc | apply pw_below_drewN | apply below_drew1) | exact HB.out)⟩
            · replace c14 := Bool.eq_false_iff.mpr c14
              subst c14
              have H1 : (some false) = some r := by rw [if_neg (show ¬ (false = true) by decide)] at H; exact H
              clear H
              have H := H1
              clear H1
              obtain rfl := Option.some.inj H
              go_enter Try.func16, Try.ntmps16
              go_wp2_with (first | ((with_reducible refine gate_callee (f := 11) rfl ?_); refine goesL_ (some 1) rfl rfl Try.func11 (by kernel_rfl) rfl #[.int .i64 1, .int .i64 4] rfl (by (try simp only [List.map_toArray, List.map_cons, List.map_nil]); first | done | rfl | (simp only [List.length_drop, List.length_take]; rfl)) ?_; (with_reducible refine (headgatelaw10_may.calls k 1 4 true _ A1.out).mono ?_); rintro e w25 ⟨rfl, hb⟩; refine ⟨_, rfl, ?_⟩; have n0_ := Aside0.mk (below_step (by repeat (first | (with_reducible first | exact HB.out | apply below_alloc | apply pw_below_drewN | apply below_drew1) | exact HB.out)) hb); clear HB; have HB := n0_; clear n0_; (try clear hb); (try clear hb2); (try clear hk); (try clear hi)) | (go_at_call 11; refine calls_of_args (args' := #[.int .i64 1, .int .i64 3]) (by first | rfl) ?_; (with_reducible refine (headgatelaw10_may.calls k 1 3 false _ A3.out).mono ?_); rintro e w26 ⟨rfl, hb⟩; have n0_ := Aside0.mk (below_step (by repeat (first | (with_reducible first | exact HB.out | apply below_alloc | apply pw_below_drewN | apply below_drew1) | exact HB.out)) hb); clear HB; have HB := n0_; clear n0_; (try clear hb); (try clear hb2); (try clear hk); (try clear hi)) | (go_at_call 12; refine calls_of_args (args' := #[.int .i64 1, .int .i64 6, .int .i64 5, .int .i64 3, .int .i64 3]) (by first | rfl) ?_; (with_reducible refine (headgatelaw10_takes.calls k 1 6 5 3 3 true _ A7.out).mono ?_); rintro e w27 ⟨rfl, hb⟩; have n0_ := Aside0.mk (below_step (by repeat (first | (with_reducible first | exact HB.out | apply below_alloc | apply pw_below_drewN | apply below_drew1) | exact HB.out)) hb); clear HB; have HB := n0_; clear n0_; (try clear hb); (try clear hb2); (try clear hk); (try clear hi)) | (go_at_call 13; refine calls_of_args (args' := #[.int .i64 1, .int .i64 6, .int .i64 5, .int .i64 2]) (by first | rfl) ?_; (with_reducible refine (headgatelaw10_needs.calls k 1 6 5 2 true _ A9.out).mono ?_); rintro e w28 ⟨rfl, hb⟩; have n0_ := Aside0.mk (below_step (by repeat (first | (with_reducible first | exact HB.out | apply below_alloc | apply pw_below_drewN | apply below_drew1) | exact HB.out)) hb); clear HB; have HB := n0_; clear n0_; (try clear hb); (try clear hb2); (try clear hk); (try clear hi)) | (go_at_call 14; refine calls_of_args (args' := #[.int .i64 9, .int .i64 1]) (by first | rfl) ?_; (with_reducible refine (headgatelaw10_level.calls k 9 1 true _ A11.out).mono ?_); rintro e w29 ⟨rfl, hb⟩; have n0_ := Aside0.mk (below_step (by repeat (first | (with_reducible first | exact HB.out | apply below_alloc | apply pw_below_drewN | apply below_drew1) | exact HB.out)) hb); clear HB; have HB := n0_; clear n0_; (try clear hb); (try clear hb2); (try clear hk); (try clear hi)) | (go_at_call 15; refine calls_of_args (args' := #[.int .i64 5, .bool false, .bool true]) (by first | rfl) ?_; (with_reducible refine (headgatelaw10_wakes.calls k 5 false true false _ A13.out).mono ?_); rintro e w30 ⟨rfl, hb⟩; have n0_ := Aside0.mk (below_step (by repeat (first | (with_reducible first | exact HB.out | apply below_alloc | apply pw_below_drewN | apply below_drew1) | exact HB.out)) hb); clear HB; have HB := n0_; clear n0_; (try clear hb); (try clear hb2); (try clear hk); (try clear hi)))
              go_ret
              exact ⟨by first | rfl | (simp [errW_none, errW_some] <;> rfl) | (simp [*, errW_none, errW_some] <;> rfl), by repeat (first | (with_reducible first | exact HB.out | apply below_alloc | apply pw_below_drewN | apply below_drew1) | exact HB.out)⟩
          · replace c12 := Bool.eq_false_iff.mpr c12
            subst c12
            have H1 : (some false) = some r := by rw [if_neg (show ¬ (false = true) by decide)] at H; exact H
            clear H
            have H := H1
            clear H1
            obtain rfl := Option.some.inj H
            go_enter Try.func16, Try.ntmps16
            go_wp2_with (first | ((with_reducible refine gate_callee (f := 11) rfl ?_); refine goesL_ (some 1) rfl rfl Try.func11 (by kernel_rfl) rfl #[.int .i64 1, .int .i64 4] rfl (by (try simp only [List.map_toArray, List.map_cons, List.map_nil]); first | done | rfl | (simp only [List.length_drop, List.length_take]; rfl)) ?_; (with_reducible refine (headgatelaw10_may.calls k 1 4 true _ A1.out).mono ?_); rintro e w31 ⟨rfl, hb⟩; refine ⟨_, rfl, ?_⟩; have n0_ := Aside0.mk (below_step (by repeat (first | (with_reducible first | exact HB.out | apply below_alloc | apply pw_below_drewN | apply below_drew1) | exact HB.out)) hb); clear HB; have HB := n0_; clear n0_; (try clear hb); (try clear hb2); (try clear hk); (try clear hi)) | (go_at_call 11; refine calls_of_args (args' := #[.int .i64 1, .int .i64 3]) (by first | rfl) ?_; (with_reducible refine (headgatelaw10_may.calls k 1 3 false _ A3.out).mono ?_); rintro e w32 ⟨rfl, hb⟩; have n0_ := Aside0.mk (below_step (by repeat (first | (with_reducible first | exact HB.out | apply below_alloc | apply pw_below_drewN | apply below_drew1) | exact HB.out)) hb); clear HB; have HB := n0_; clear n0_; (try clear hb); (try clear hb2); (try clear hk); (try clear hi)) | (go_at_call 12; refine calls_of_args (args' := #[.int .i64 1, .int .i64 6, .int .i64 5, .int .i64 3, .int .i64 3]) (by first | rfl) ?_; (with_reducible refine (headgatelaw10_takes.calls k 1 6 5 3 3 true _ A7.out).mono ?_); rintro e w33 ⟨rfl, hb⟩; have n0_ := Aside0.mk (below_step (by repeat (first | (with_reducible first | exact HB.out | apply below_alloc | apply pw_below_drewN | apply below_drew1) | exact HB.out)) hb); clear HB; have HB := n0_; clear n0_; (try clear hb); (try clear hb2); (try clear hk); (try clear hi)) | (go_at_call 13; refine calls_of_args (args' := #[.int .i64 1, .int .i64 6, .int .i64 5, .int .i64 2]) (by first | rfl) ?_; (with_reducible refine (headgatelaw10_needs.calls k 1 6 5 2 true _ A9.out).mono ?_); rintro e w34 ⟨rfl, hb⟩; have n0_ := Aside0.mk (below_step (by repeat (first | (with_reducible first | exact HB.out | apply below_alloc | apply pw_below_drewN | apply below_drew1) | exact HB.out)) hb); clear HB; have HB := n0_; clear n0_; (try clear hb); (try clear hb2); (try clear hk); (try clear hi)) | (go_at_call 14; refine calls_of_args (args' := #[.int .i64 9, .int .i64 1]) (by first | rfl) ?_; (with_reducible refine (headgatelaw10_level.calls k 9 1 false _ A11.out).mono ?_); rintro e w35 ⟨rfl, hb⟩; have n0_ := Aside0.mk (below_step (by repeat (first | (with_reducible first | exact HB.out | apply below_alloc | apply pw_below_drewN | apply below_drew1) | exact HB.out)) hb); clear HB; have HB := n0_; clear n0_; (try clear hb); (try clear hb2); (try clear hk); (try clear hi)))
            go_ret
            exact ⟨by first | rfl | (simp [errW_none, errW_some] <;> rfl) | (simp [*, errW_none, errW_some] <;> rfl), by repeat (first | (with_reducible first | exact HB.out | apply below_alloc | apply pw_below_drewN | apply below_drew1) | exact HB.out)⟩
        · replace c10 := Bool.eq_false_iff.mpr c10
          subst c10
          have H1 : (some false) = some r := by rw [if_neg (show ¬ (false = true) by decide)] at H; exact H
          clear H
          have H := H1
          clear H1
          obtain rfl := Option.some.inj H
          go_enter Try.func16, Try.ntmps16
          go_wp2_with (first | ((with_reducible refine gate_callee (f := 11) rfl ?_); refine goesL_ (some 1) rfl rfl Try.func11 (by kernel_rfl) rfl #[.int .i64 1, .int .i64 4] rfl (by (try simp only [List.map_toArray, List.map_cons, List.map_nil]); first | done | rfl | (simp only [List.length_drop, List.length_take]; rfl)) ?_; (with_reducible refine (headgatelaw10_may.calls k 1 4 true _ A1.out).mono ?_); rintro e w36 ⟨rfl, hb⟩; refine ⟨_, rfl, ?_⟩; have n0_ := Aside0.mk (below_step (by repeat (first | (with_reducible first | exact HB.out | apply below_alloc | apply pw_below_drewN | apply below_drew1) | exact HB.out)) hb); clear HB; have HB := n0_; clear n0_; (try clear hb); (try clear hb2); (try clear hk); (try clear hi)) | (go_at_call 11; refine calls_of_args (args' := #[.int .i64 1, .int .i64 3]) (by first | rfl) ?_; (with_reducible refine (headgatelaw10_may.calls k 1 3 false _ A3.out).mono ?_); rintro e w37 ⟨rfl, hb⟩; have n0_ := Aside0.mk (below_step (by repeat (first | (with_reducible first | exact HB.out | apply below_alloc | apply pw_below_drewN | apply below_drew1) | exact HB.out)) hb); clear HB; have HB := n0_; clear n0_; (try clear hb); (try clear hb2); (try clear hk); (try clear hi)) | (go_at_call 12; refine calls_of_args (args' := #[.int .i64 1, .int .i64 6, .int .i64 5, .int .i64 3, .int .i64 3]) (by first | rfl) ?_; (with_reducible refine (headgatelaw10_takes.calls k 1 6 5 3 3 true _ A7.out).mono ?_); rintro e w38 ⟨rfl, hb⟩; have n0_ := Aside0.mk (below_step (by repeat (first | (with_reducible first | exact HB.out | apply below_alloc | apply pw_below_drewN | apply below_drew1) | exact HB.out)) hb); clear HB; have HB := n0_; clear n0_; (try clear hb); (try clear hb2); (try clear hk); (try clear hi)) | (go_at_call 13; refine calls_of_args (args' := #[.int .i64 1, .int .i64 6, .int .i64 5, .int .i64 2]) (by first | rfl) ?_; (with_reducible refine (headgatelaw10_needs.calls k 1 6 5 2 false _ A9.out).mono ?_); rintro e w39 ⟨rfl, hb⟩; have n0_ := Aside0.mk (below_step (by repeat (first | (with_reducible first | exact HB.out | apply below_alloc | apply pw_below_drewN | apply below_drew1) | exact HB.out)) hb); clear HB; have HB := n0_; clear n0_; (try clear hb); (try clear hb2); (try clear hk); (try clear hi)))
          go_ret
          exact ⟨by first | rfl | (simp [errW_none, errW_some] <;> rfl) | (simp [*, errW_none, errW_some] <;> rfl), by repeat (first | (with_reducible first | exact HB.out | apply below_alloc | apply pw_below_drewN | apply below_drew1) | exact HB.out)⟩
      · replace c8 := Bool.eq_false_iff.mpr c8
        subst c8
        have H1 : (some false) = some r := by rw [if_neg (show ¬ (false = true) by decide)] at H; exact H
        clear H
        have H := H1
        clear H1
        obtain rfl := Option.some.inj H
        go_enter Try.func16, Try.ntmps16
        go_wp2_with (first | ((with_reducible refine gate_callee (f := 11) rfl ?_); refine goesL_ (some 1) rfl rfl Try.func11 (by kernel_rfl) rfl #[.int .i64 1, .int .i64 4] rfl (by (try simp only [List.map_toArray, List.map_cons, List.map_nil]); first | done | rfl | (simp only [List.length_drop, List.length_take]; rfl)) ?_; (with_reducible refine (headgatelaw10_may.calls k 1 4 true _ A1.out).mono ?_); rintro e w40 ⟨rfl, hb⟩; refine ⟨_, rfl, ?_⟩; have n0_ := Aside0.mk (below_step (by repeat (first | (with_reducible first | exact HB.out | apply below_alloc | apply pw_below_drewN | apply below_drew1) | exact HB.out)) hb); clear HB; have HB := n0_; clear n0_; (try clear hb); (try clear hb2); (try clear hk); (try clear hi)) | (go_at_call 11; refine calls_of_args (args' := #[.int .i64 1, .int .i64 3]) (by first | rfl) ?_; (with_reducible refine (headgatelaw10_may.calls k 1 3 false _ A3.out).mono ?_); rintro e w41 ⟨rfl, hb⟩; have n0_ := Aside0.mk (below_step (by repeat (first | (with_reducible first | exact HB.out | apply below_alloc | apply pw_below_drewN | apply below_drew1) | exact HB.out)) hb); clear HB; have HB := n0_; clear n0_; (try clear hb); (try clear hb2); (try clear hk); (try clear hi)) | (go_at_call 12; refine calls_of_args (args' := #[.int .i64 1, .int .i64 6, .int .i64 5, .int .i64 3, .int .i64 3]) (by first | rfl) ?_; (with_reducible refine (headgatelaw10_takes.calls k 1 6 5 3 3 false _ A7.out).mono ?_); rintro e w42 ⟨rfl, hb⟩; have n0_ := Aside0.mk (below_step (by repeat (first | (with_reducible first | exact HB.out | apply below_alloc | apply pw_below_drewN | apply below_drew1) | exact HB.out)) hb); clear HB; have HB := n0_; clear n0_; (try clear hb); (try clear hb2); (try clear hk); (try clear hi)))
        go_ret
        exact ⟨by first | rfl | (simp [errW_none, errW_some] <;> rfl) | (simp [*, errW_none, errW_some] <;> rfl), by repeat (first | (with_reducible first | exact HB.out | apply below_alloc | apply pw_below_drewN | apply below_drew1) | exact HB.out)⟩
  · replace c2 := Bool.eq_false_iff.mpr c2
    subst c2
    have H1 : (some false) = some r := by rw [if_neg (show ¬ (false = true) by decide)] at H; exact H
    clear H
    have H := H1
    clear H1
    obtain rfl := Option.some.inj H
    go_enter Try.func16, Try.ntmps16
    go_wp2_with (first | ((with_reducible refine gate_callee (f := 11) rfl ?_); refine goesL_ (some 1) rfl rfl Try.func11 (by kernel_rfl) rfl #[.int .i64 1, .int .i64 4] rfl (by (try simp only [List.map_toArray, List.map_cons, List.map_nil]); first | done | rfl | (simp only [List.length_drop, List.length_take]; rfl)) ?_; (with_reducible refine (headgatelaw10_may.calls k 1 4 false _ A1.out).mono ?_); rintro e w43 ⟨rfl, hb⟩; refine ⟨_, rfl, ?_⟩; have n0_ := Aside0.mk (below_step (by repeat (first | (with_reducible first | exact HB.out | apply below_alloc | apply pw_below_drewN | apply below_drew1) | exact HB.out)) hb); clear HB; have HB := n0_; clear n0_; (try clear hb); (try clear hb2); (try clear hk); (try clear hi)))
    go_ret
    exact ⟨by first | rfl | (simp [errW_none, errW_some] <;> rfl) | (simp [*, errW_none, errW_some] <;> rfl), by repeat (first | (with_reducible first | exact HB.out | apply below_alloc | apply pw_below_drewN | apply below_drew1) | exact HB.out)⟩

end Go.Proofs.Ytofonnfkffbjkaa.X
