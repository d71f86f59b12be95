/- What Go functions of this seat compute, told as Lean functions, and that each call of the Go code comes to that answer; for a law: its row, for every input. Written by a program of the session. -/
import Derived.Test.YtfnhoncpaheejaaX0
namespace Go.Proofs.Ytfnhoncpaheejaa.X
open Go.RowKit Go.Proofs.YtfnhoncpaheejaaW.PrintWords Go.Proofs.YtfnhoncpaheejaaW.PrintLast Go.Proofs.YtfnhoncpaheejaaW.PrintMore
attribute [local go_sem] max2_int min2_int max_two min_two max_three min_three max_four min_four   -- for this text's walks alone
set_option linter.unusedVariables false
set_option linter.unusedSimpArgs false

/-! ### headgatelaw19_two: function 32 -/
def headgatelaw19_two.f (a0 : Int) : Option ((List (S32))) := some (([(⟨3, 40, 0⟩ : S32), (⟨5, 41, a0⟩ : S32)] : List (S32)))
set_option maxHeartbeats 2000000 in
set_option maxRecDepth 100000 in
theorem headgatelaw19_two.calls (a0 : Int) (r : List (S32)) (w : World) (h : headgatelaw19_two.f a0 = some r) :
  Calls Try.prog 32 #[.int .i64 a0] w fun e w' => ∃ v0_ : Value, e = .returned (v0_) ∧ Kd.R k32 32 w' w.heap.size (fun _ => True) v0_ r ∧ Below w.heap.size w w' := by
 have hu32 := Try.underlying32
 have HB := Aside0.mk (Below.refl w.heap.size w)
 have H : (some (([(⟨3, 40, 0⟩ : S32), (⟨5, 41, a0⟩ : S32)] : List (S32)))) = some r := h
 clear h
 obtain ⟨y123, hy123⟩ : ∃ y_ : List (S32), y_ = (([(⟨3, 40, 0⟩ : S32), (⟨5, 41, a0⟩ : S32)] : List (S32))) := ⟨_, rfl⟩
 replace H : (some y123) = some r := by first | (rw [hy123]; with_reducible exact H) | (have H2_ := (Option.bind_some _ _).symm.trans H; rw [hy123]; with_reducible exact H2_) | (have H2_ := (Option.bind_some _ _).symm.trans H; with_reducible exact H2_) | with_reducible exact H | (rw [hy123]; exact H) | exact H
 have Ny123 := Aside0.mk hy123
 clear hy123
 obtain rfl := Option.some.inj H
 go_enter Try.func32, Try.ntmps32
 go_wp2_with (first | ((with_reducible refine gate_dst (N := 6) rfl ?_); refine Kd.R_lit k32 _ 32 ?hg (N := 6) ?hd (xs := ([(⟨3, 40, 0⟩ : S32), (⟨5, 41, a0⟩ : S32)] : List (S32))) (inner := [.int .i64 3, .int .i64 40, .int .i64 0, .int .i64 5, .int .i64 41, .int .i64 a0]) (ok := fun _ => True) (okp := fun _ => True) ?hr ?hp (fun _ hk => hk) trivial (Below.refl _ _) (Nat.le_refl _) (by simp) ?_; (case hd => rfl); (case hg => rfl); (case hr => first | (go_simp; done) | (go_simp; rfl)); (case hp => exact (Reps.c3 (show Kd.M k32 _ _ _ (⟨3, 40, 0⟩ : S32) [.int .i64 3, .int .i64 40, .int .i64 0] from (k32_mkM _ _ _ (⟨3, 40, 0⟩ : S32) )) (Reps.c3 (show Kd.M k32 _ _ _ (⟨5, 41, a0⟩ : S32) [.int .i64 5, .int .i64 41, .int .i64 a0] from (k32_mkM _ _ _ (⟨5, 41, a0⟩ : S32) )) (Reps.none _ _)))); intro v124 w2 ho3 hb hg_ hnew_; clear hg_ hnew_; (first | rw [← Ny123.out] at ho3 | (simp only [Int.reduceToNat] at ho3; rw [← Ny123.out] at ho3)); have n0_ := Aside0.mk (Kd.R_lower ho3 (below_size (by repeat (first | (with_reducible first | exact HB.out | apply below_alloc | apply pw_below_drewN | apply below_drew1) | exact HB.out)))); have n1_ := Aside0.mk (below_step (by repeat (first | (with_reducible first | exact HB.out | apply below_alloc | apply pw_below_drewN | apply below_drew1) | exact HB.out)) hb); clear HB; have HO125 := n0_; have HB := n1_; clear n0_ n1_; clear hb ho3))
 go_ret
 exact ⟨_, by first | rfl | (simp [errW_none, errW_some] <;> rfl) | (simp [*, errW_none, errW_some] <;> rfl), by (with_reducible repeat (first | apply Kd.R_alloc | apply Kd.R_drewN | apply Kd.R_drew)); exact HO125.out, by repeat (first | (with_reducible first | exact HB.out | apply below_alloc | apply pw_below_drewN | apply below_drew1) | exact HB.out)⟩

end Go.Proofs.Ytfnhoncpaheejaa.X
