/- What Go functions of this seat compute, told as Lean functions, and that each call of the Go code comes to that answer; for a law: its row, for every input. Written by a program of the session. -/
import Derived.Test.YtfnhoncpaheejaaX0
import Derived.Test.YtfnhoncpaheejaaX31
import Derived.Test.YtfnhoncpaheejaaX32
import Derived.Test.YtfnhoncpaheejaaX34
import Derived.Test.YtfnhoncpaheejaaX40
namespace Go.Proofs.Ytfnhoncpaheejaa.X
open Go.RowKit Go.Proofs.YtfnhoncpaheejaaW.PrintWords Go.Proofs.YtfnhoncpaheejaaW.PrintLast Go.Proofs.YtfnhoncpaheejaaW.PrintMore
attribute [local go_sem] max2_int min2_int max_two min_two max_three min_three max_four min_four   -- for this text's walks alone
set_option linter.unusedVariables false
set_option linter.unusedSimpArgs false

/-! ### headgateref19_Claim: function 26 -/
def headgateref19_Claim.f (k : Nat) (l0 : List (S32)) (a1 : Int) (a2 : Int) : Option ((List (S32)) × Int) := (headgateref19_asks.f k l0 a1 0 a2).bind fun t362 => (if t362 = 0 then ((headgateref19_find.f k l0 a1).bind fun t363 => (if t363 < 0 then (some (([] : List (S32)), 6)) else (if 0 ≤ t363 then (if t363 < (l0.length : Int) then (if ((rd_T32 l0 t363).f2) = 0 then ((headgateref19_claims.f k l0 a2).bind fun t365 => (if t365 ≥ 0 then (some (([] : List (S32)), 7)) else ((headgateref19_own.f l0).bind fun t366 => (if t363 < (t366.length : Int) then (some ((t366.set (t363 : Int).toNat (⟨(rd_T32 t366 t363).f0, (rd_T32 t366 t363).f1, a2⟩ : S32)), 0)) else (none))))) else (some (([] : List (S32)), 9))) else (none)) else (none)))) else (some (([] : List (S32)), t362)))
theorem headgateref19_Claim.mono : ∀ a0 a1 a2 k, LeO (headgateref19_Claim.f k a0 a1 a2) (headgateref19_Claim.f (k + 1) a0 a1 a2) := by
 intro a0 a1 a2 k
 unfold headgateref19_Claim.f
 repeat' first
   | (with_reducible exact headgateref19_asks.mono _ _ _ _ _)
   | (with_reducible exact headgateref19_claims.mono _ _ _)
   | (with_reducible exact headgateref19_find.mono _ _ _)
   | (with_reducible exact LeO.refl _)
   | (with_reducible exact LeO.none _)
   | (with_reducible refine LeO.ite ?_ ?_)
   | (with_reducible refine LeO.bind ?_ (fun _ => ?_))
   | exact headgateref19_asks.mono _ _ _ _ _
   | exact headgateref19_claims.mono _ _ _
   | exact headgateref19_find.mono _ _ _
   | exact LeO.none _
   | refine LeO.ite ?_ ?_
   | refine LeO.bind ?_ (fun _ => ?_)
set_option maxHeartbeats 2000000 in
set_option maxRecDepth 100000 in
theorem headgateref19_Claim.calls (k : Nat) (A0 : Option Addr) (c0 : Nat) (l0 : List (S32)) (a1 : Int) (a2 : Int) (r1 : List (S32)) (r2 : Int) (w : World) (hr0 : Kd.C k32 w A0 l0.length l0) (hc0 : l0.length ≤ c0) (h : headgateref19_Claim.f k l0 a1 a2 = some (r1, r2)) :
  Calls Try.prog 26 #[.slice A0 l0.length c0, .int .i64 a1, .int .i64 a2] w fun e w' => ∃ v0_ : Value, e = .returned (.tuple #[v0_, .int .i64 r2]) ∧ Kd.R k32 32 w' w.heap.size (fun _ => True) v0_ r1 ∧ Below w.heap.size w w' := by
 have HR0 := Aside0.mk hr0
 have HC0 := Aside0.mk hc0
 clear hr0 hc0
 have HB := Aside0.mk (Below.refl w.heap.size w)
 have H : ((headgateref19_asks.f k l0 a1 0 a2).bind fun t362 => (if t362 = 0 then ((headgateref19_find.f k l0 a1).bind fun t363 => (if t363 < 0 then (some (([] : List (S32)), 6)) else (if 0 ≤ t363 then (if t363 < (l0.length : Int) then (if ((rd_T32 l0 t363).f2) = 0 then ((headgateref19_claims.f k l0 a2).bind fun t365 => (if t365 ≥ 0 then (some (([] : List (S32)), 7)) else ((headgateref19_own.f l0).bind fun t366 => (if t363 < (t366.length : Int) then (some ((t366.set (t363 : Int).toNat (⟨(rd_T32 t366 t363).f0, (rd_T32 t366 t363).f1, a2⟩ : S32)), 0)) else (none))))) else (some (([] : List (S32)), 9))) else (none)) else (none)))) else (some (([] : List (S32)), t362)))) = some (r1, r2) := h
 clear h
 replace H := Option.bind_eq_some_iff.mp H
 obtain ⟨t362, A40, H⟩ := H
 replace H : (if t362 = 0 then ((headgateref19_find.f k l0 a1).bind fun t363 => (if t363 < 0 then (some (([] : List (S32)), 6)) else (if 0 ≤ t363 then (if t363 < (l0.length : Int) then (if ((rd_T32 l0 t363).f2) = 0 then ((headgateref19_claims.f k l0 a2).bind fun t365 => (if t365 ≥ 0 then (some (([] : List (S32)), 7)) else ((headgateref19_own.f l0).bind fun t366 => (if t363 < (t366.length : Int) then (some ((t366.set (t363 : Int).toNat (⟨(rd_T32 t366 t363).f0, (rd_T32 t366 t363).f1, a2⟩ : S32)), 0)) else (none))))) else (some (([] : List (S32)), 9))) else (none)) else (none)))) else (some (([] : List (S32)), t362))) = some (r1, r2) := H
 have A4 := Aside0.mk A40
 clear A40
 by_cases c5 : t362 = 0
 ·
  rw [if_pos c5] at H
  have c5b0 : (t362 == 0) = true := beq_iff_eq.mpr c5
  have c5b1 : (t362 != 0) = false := bne_eq_false_iff_eq.mpr c5
  clear c5
  replace H := Option.bind_eq_some_iff.mp H
  obtain ⟨t363, A60, H⟩ := H
  replace H : (if t363 < 0 then (some (([] : List (S32)), 6)) else (if 0 ≤ t363 then (if t363 < (l0.length : Int) then (if ((rd_T32 l0 t363).f2) = 0 then ((headgateref19_claims.f k l0 a2).bind fun t365 => (if t365 ≥ 0 then (some (([] : List (S32)), 7)) else ((headgateref19_own.f l0).bind fun t366 => (if t363 < (t366.length : Int) then (some ((t366.set (t363 : Int).toNat (⟨(rd_T32 t366 t363).f0, (rd_T32 t366 t363).f1, a2⟩ : S32)), 0)) else (none))))) else (some (([] : List (S32)), 9))) else (none)) else (none))) = some (r1, r2) := H
  have A6 := Aside0.mk A60
  clear A60
  by_cases c7 : t363 < 0
  ·
   rw [if_pos c7] at H
   have c7b0 : decide (t363 < 0) = true := decide_eq_true c7
   clear c7
   simp only [Option.some.injEq, Prod.mk.injEq] at H
   obtain ⟨rfl, rfl⟩ := H
   go_enter Try.func26, Try.ntmps26
   go_wp2_with (first | ((with_reducible refine gate_callee (f := 39) rfl ?_); refine goesL_ (some 14) rfl rfl Try.func39 (by kernel_rfl) rfl #[.slice A0 l0.length c0, .int .i64 a1, .int .i64 0, .int .i64 a2] rfl (by (try simp only [List.map_toArray, List.map_cons, List.map_nil]); first | done | rfl | (simp only [List.length_drop, List.length_take]; rfl)) ?_; (with_reducible refine (headgateref19_asks.calls k _ _ l0 a1 0 a2 t362 _ ?side1 ?side2 A4.out).mono ?_); (case side1 => repeat (first | exact HR0.out | (with_reducible refine Kd.C_alloc ?_ _) | (with_reducible refine Kd.C_drewN ?_ _) | (with_reducible refine Kd.C_drew ?_))); (case side2 => exact HC0.out); rintro e w8 ⟨rfl, hb⟩; refine ⟨_, rfl, ?_⟩; have n0_ := Aside0.mk (below_step (by repeat (first | (with_reducible first | exact HB.out | apply below_alloc | apply pw_below_drewN | apply below_drew1) | exact HB.out)) hb); clear HB; have HB := n0_; clear n0_; (try clear hb); (try clear hb2); (try clear hk); (try clear hi)) | ((with_reducible refine gate_callee (f := 41) rfl ?_); refine goesL_ (some 20) rfl rfl Try.func41 (by kernel_rfl) rfl #[.slice A0 l0.length c0, .int .i64 a1] rfl (by (try simp only [List.map_toArray, List.map_cons, List.map_nil]); first | done | rfl | (simp only [List.length_drop, List.length_take]; rfl)) ?_; (with_reducible refine (headgateref19_find.calls k _ _ l0 a1 t363 _ ?side1 ?side2 A6.out).mono ?_); (case side1 => repeat (first | exact (Kd.C_below HR0.out HB.out) | (with_reducible refine Kd.C_alloc ?_ _) | (with_reducible refine Kd.C_drewN ?_ _) | (with_reducible refine Kd.C_drew ?_))); (case side2 => exact HC0.out); rintro e w' ⟨rfl, ⟨nd, rfl⟩⟩; refine ⟨_, rfl, ?_⟩))
   go_ret2
   exact ⟨_, by first | rfl | (simp [errW_none, errW_some] <;> rfl) | (simp [*, errW_none, errW_some] <;> rfl), by first | exact Kd.R_nil _ _ _ _ _ | exact Kd.N_nil _ _ _ _ _ | exact Kd.V_nil _ _ _ _ _ | exact Kd.Q_nil _ _ _ _ _ | exact Kd.S_nil _ _ _ _ _, by repeat (first | (with_reducible first | exact HB.out | apply below_alloc | apply pw_below_drewN | apply below_drew1) | exact HB.out)⟩
  ·
   rw [if_neg c7] at H
   have c7b0 : decide (t363 < 0) = false := decide_eq_false c7
   clear c7
   by_cases c9 : 0 ≤ t363
   ·
    rw [if_pos c9] at H
    have c9b0 : decide (0 ≤ t363) = true := decide_eq_true c9
    clear c9
    by_cases c10 : t363 < (l0.length : Int)
    ·
     rw [if_pos c10] at H
     have c10b0 : decide (t363 < (l0.length : Int)) = true := decide_eq_true c10
     clear c10
     by_cases c11 : ((rd_T32 l0 t363).f2) = 0
     ·
      rw [if_pos c11] at H
      have c11b0 : (((rd_T32 l0 t363).f2) == 0) = true := beq_iff_eq.mpr c11
      have c11b1 : (((rd_T32 l0 t363).f2) != 0) = false := bne_eq_false_iff_eq.mpr c11
      clear c11
      replace H := Option.bind_eq_some_iff.mp H
      obtain ⟨t365, A120, H⟩ := H
      replace H : (if t365 ≥ 0 then (some (([] : List (S32)), 7)) else ((headgateref19_own.f l0).bind fun t366 => (if t363 < (t366.length : Int) then (some ((t366.set (t363 : Int).toNat (⟨(rd_T32 t366 t363).f0, (rd_T32 t366 t363).f1, a2⟩ : S32)), 0)) else (none)))) = some (r1, r2) := H
      have A12 := Aside0.mk A120
      clear A120
      by_cases c13 : t365 ≥ 0
      ·
       rw [if_pos c13] at H
       have c13b0 : decide (0 ≤ t365) = true := decide_eq_true c13
       clear c13
       simp only [Option.some.injEq, Prod.mk.injEq] at H
       obtain ⟨rfl, rfl⟩ := H
       go_enter Try.func26, Try.ntmps26
       go_wp2_with (first | ((with_reducible refine gate_callee (f := 39) rfl ?_); refine goesL_ (some 14) rfl rfl Try.func39 (by kernel_rfl) rfl #[.slice A0 l0.length c0, .int .i64 a1, .int .i64 0, .int .i64 a2] rfl (by (try simp only [List.map_toArray, List.map_cons, List.map_nil]); first | done | rfl | (simp only [List.length_drop, List.length_take]; rfl)) ?_; (with_reducible refine (headgateref19_asks.calls k _ _ l0 a1 0 a2 t362 _ ?side1 ?side2 A4.out).mono ?_); (case side1 => repeat (first | exact HR0.out | (with_reducible refine Kd.C_alloc ?_ _) | (with_reducible refine Kd.C_drewN ?_ _) | (with_reducible refine Kd.C_drew ?_))); (case side2 => exact HC0.out); rintro e w14 ⟨rfl, hb⟩; refine ⟨_, rfl, ?_⟩; have n0_ := Aside0.mk (below_step (by repeat (first | (with_reducible first | exact HB.out | apply below_alloc | apply pw_below_drewN | apply below_drew1) | exact HB.out)) hb); clear HB; have HB := n0_; clear n0_; (try clear hb); (try clear hb2); (try clear hk); (try clear hi)) | ((with_reducible refine gate_callee (f := 41) rfl ?_); refine goesL_ (some 20) rfl rfl Try.func41 (by kernel_rfl) rfl #[.slice A0 l0.length c0, .int .i64 a1] rfl (by (try simp only [List.map_toArray, List.map_cons, List.map_nil]); first | done | rfl | (simp only [List.length_drop, List.length_take]; rfl)) ?_; (with_reducible refine (headgateref19_find.calls k _ _ l0 a1 t363 _ ?side1 ?side2 A6.out).mono ?_); (case side1 => repeat (first | exact (Kd.C_below HR0.out HB.out) | (with_reducible refine Kd.C_alloc ?_ _) | (with_reducible refine Kd.C_drewN ?_ _) | (with_reducible refine Kd.C_drew ?_))); (case side2 => exact HC0.out); rintro e w' ⟨rfl, ⟨nd, rfl⟩⟩; refine ⟨_, rfl, ?_⟩; have p364 : 0 ≤ (t363 : Int) := of_decide_eq_true (by first | (with_reducible assumption) | assumption); have q364 : t363 < (l0.length : Int) := of_decide_eq_true (by first | (with_reducible assumption) | assumption); obtain ⟨ad364, e364, hx364_0, hx364_1, hx364_2⟩ := at_T32 HR0.out t363 p364 q364; cases e364; replace hx364_0 := (HB.out.cell (World.block_lt_of_cell? w _ hx364_0)).trans hx364_0; replace hx364_1 := (HB.out.cell (World.block_lt_of_cell? w _ hx364_1)).trans hx364_1; replace hx364_2 := (HB.out.cell (World.block_lt_of_cell? w _ hx364_2)).trans hx364_2; replace p364 := eq_true p364; replace q364 := eq_true q364) | ((with_reducible refine gate_callee (f := 42) rfl ?_); refine goesL_ (some 34) rfl rfl Try.func42 (by kernel_rfl) rfl #[.slice (some ad364) l0.length c0, .int .i64 a2] rfl (by (try simp only [List.map_toArray, List.map_cons, List.map_nil]); first | done | rfl | (simp only [List.length_drop, List.length_take]; rfl)) ?_; (with_reducible refine (headgateref19_claims.calls k _ _ l0 a2 t365 _ ?side1 ?side2 A12.out).mono ?_); (case side1 => repeat (first | exact (Kd.C_below HR0.out (by repeat (first | (with_reducible first | exact HB.out | apply below_alloc | apply pw_below_drewN | apply below_drew1) | exact HB.out))) | (with_reducible refine Kd.C_alloc ?_ _) | (with_reducible refine Kd.C_drewN ?_ _) | (with_reducible refine Kd.C_drew ?_))); (case side2 => exact HC0.out); rintro e w' ⟨rfl, ⟨nd, rfl⟩⟩; refine ⟨_, rfl, ?_⟩))
       go_ret2
       exact ⟨_, by first | rfl | (simp [errW_none, errW_some] <;> rfl) | (simp [*, errW_none, errW_some] <;> rfl), by first | exact Kd.R_nil _ _ _ _ _ | exact Kd.N_nil _ _ _ _ _ | exact Kd.V_nil _ _ _ _ _ | exact Kd.Q_nil _ _ _ _ _ | exact Kd.S_nil _ _ _ _ _, by repeat (first | (with_reducible first | exact HB.out | apply below_alloc | apply pw_below_drewN | apply below_drew1) | exact HB.out)⟩
      ·
       rw [if_neg c13] at H
       have c13b0 : decide (0 ≤ t365) = false := decide_eq_false c13
       clear c13
       replace H := Option.bind_eq_some_iff.mp H
       obtain ⟨t366, A150, H⟩ := H
       replace H : (if t363 < (t366.length : Int) then (some ((t366.set (t363 : Int).toNat (⟨(rd_T32 t366 t363).f0, (rd_T32 t366 t363).f1, a2⟩ : S32)), 0)) else (none)) = some (r1, r2) := H
       have A15 := Aside0.mk A150
       clear A150
       by_cases c16 : t363 < (t366.length : Int)
       ·
        rw [if_pos c16] at H
        have c16b0 : decide (t363 < (t366.length : Int)) = true := decide_eq_true c16
        clear c16
        obtain ⟨y369, hy369⟩ : ∃ y_ : List (S32), y_ = (t366.set (t363 : Int).toNat (⟨(rd_T32 t366 t363).f0, (rd_T32 t366 t363).f1, a2⟩ : S32)) := ⟨_, rfl⟩
        replace H : (some (y369, 0)) = some (r1, r2) := by first | (rw [hy369]; with_reducible exact H) | (have H2_ := (Option.bind_some _ _).symm.trans H; rw [hy369]; with_reducible exact H2_) | (have H2_ := (Option.bind_some _ _).symm.trans H; with_reducible exact H2_) | with_reducible exact H | (rw [hy369]; exact H) | exact H
        have Ny369 := Aside0.mk hy369
        clear hy369
        simp only [Option.some.injEq, Prod.mk.injEq] at H
        obtain ⟨rfl, rfl⟩ := H
        go_enter Try.func26, Try.ntmps26
        go_wp2_with (first | ((with_reducible refine gate_callee (f := 39) rfl ?_); refine goesL_ (some 14) rfl rfl Try.func39 (by kernel_rfl) rfl #[.slice A0 l0.length c0, .int .i64 a1, .int .i64 0, .int .i64 a2] rfl (by (try simp only [List.map_toArray, List.map_cons, List.map_nil]); first | done | rfl | (simp only [List.length_drop, List.length_take]; rfl)) ?_; (with_reducible refine (headgateref19_asks.calls k _ _ l0 a1 0 a2 t362 _ ?side1 ?side2 A4.out).mono ?_); (case side1 => repeat (first | exact HR0.out | (with_reducible refine Kd.C_alloc ?_ _) | (with_reducible refine Kd.C_drewN ?_ _) | (with_reducible refine Kd.C_drew ?_))); (case side2 => exact HC0.out); rintro e w18 ⟨rfl, hb⟩; refine ⟨_, rfl, ?_⟩; have n0_ := Aside0.mk (below_step (by repeat (first | (with_reducible first | exact HB.out | apply below_alloc | apply pw_below_drewN | apply below_drew1) | exact HB.out)) hb); clear HB; have HB := n0_; clear n0_; (try clear hb); (try clear hb2); (try clear hk); (try clear hi)) | ((with_reducible refine gate_callee (f := 41) rfl ?_); refine goesL_ (some 20) rfl rfl Try.func41 (by kernel_rfl) rfl #[.slice A0 l0.length c0, .int .i64 a1] rfl (by (try simp only [List.map_toArray, List.map_cons, List.map_nil]); first | done | rfl | (simp only [List.length_drop, List.length_take]; rfl)) ?_; (with_reducible refine (headgateref19_find.calls k _ _ l0 a1 t363 _ ?side1 ?side2 A6.out).mono ?_); (case side1 => repeat (first | exact (Kd.C_below HR0.out HB.out) | (with_reducible refine Kd.C_alloc ?_ _) | (with_reducible refine Kd.C_drewN ?_ _) | (with_reducible refine Kd.C_drew ?_))); (case side2 => exact HC0.out); rintro e w' ⟨rfl, ⟨nd, rfl⟩⟩; refine ⟨_, rfl, ?_⟩; (try (rw [drewN_self w18]; generalize hq_ : World.drewN w18 _ = w18; have n0_ : Aside0 (Below w.heap.size w w18) := ⟨by rw [← hq_]; exact (by repeat (first | (with_reducible first | exact HB.out | apply below_alloc | apply pw_below_drewN | apply below_drew1) | exact HB.out))⟩; clear HB hq_; have HB := n0_; clear n0_)); have p364 : 0 ≤ (t363 : Int) := of_decide_eq_true (by first | (with_reducible assumption) | assumption); have q364 : t363 < (l0.length : Int) := of_decide_eq_true (by first | (with_reducible assumption) | assumption); obtain ⟨ad364, e364, hx364_0, hx364_1, hx364_2⟩ := at_T32 HR0.out t363 p364 q364; cases e364; replace hx364_0 := (HB.out.cell (World.block_lt_of_cell? w _ hx364_0)).trans hx364_0; replace hx364_1 := (HB.out.cell (World.block_lt_of_cell? w _ hx364_1)).trans hx364_1; replace hx364_2 := (HB.out.cell (World.block_lt_of_cell? w _ hx364_2)).trans hx364_2; replace p364 := eq_true p364; replace q364 := eq_true q364) | ((with_reducible refine gate_callee (f := 42) rfl ?_); refine goesL_ (some 34) rfl rfl Try.func42 (by kernel_rfl) rfl #[.slice (some ad364) l0.length c0, .int .i64 a2] rfl (by (try simp only [List.map_toArray, List.map_cons, List.map_nil]); first | done | rfl | (simp only [List.length_drop, List.length_take]; rfl)) ?_; (with_reducible refine (headgateref19_claims.calls k _ _ l0 a2 t365 _ ?side1 ?side2 A12.out).mono ?_); (case side1 => repeat (first | exact (Kd.C_below HR0.out HB.out) | (with_reducible refine Kd.C_alloc ?_ _) | (with_reducible refine Kd.C_drewN ?_ _) | (with_reducible refine Kd.C_drew ?_))); (case side2 => exact HC0.out); rintro e w' ⟨rfl, ⟨nd, rfl⟩⟩; refine ⟨_, rfl, ?_⟩; (try (rw [drewN_self w18]; generalize hq_ : World.drewN w18 _ = w18; have n0_ : Aside0 (Below w.heap.size w w18) := ⟨by rw [← hq_]; exact (by repeat (first | (with_reducible first | exact HB.out | apply below_alloc | apply pw_below_drewN | apply below_drew1) | exact HB.out))⟩; clear HB hq_; have HB := n0_; clear n0_))) | ((with_reducible refine gate_callee (f := 40) rfl ?_); refine goesL_ (some 37) rfl rfl Try.func40 (by kernel_rfl) rfl #[.slice (some ad364) l0.length c0] rfl (by (try simp only [List.map_toArray, List.map_cons, List.map_nil]); first | done | rfl | (simp only [List.length_drop, List.length_take]; rfl)) ?_; (with_reducible refine (headgateref19_own.calls _ _ l0 t366 _ ?side1 ?side2 A15.out).mono ?_); (case side1 => repeat (first | exact (Kd.C_below HR0.out HB.out) | (with_reducible refine Kd.C_alloc ?_ _) | (with_reducible refine Kd.C_drewN ?_ _) | (with_reducible refine Kd.C_drew ?_))); (case side2 => exact HC0.out); rintro e w19 ⟨v367, rfl, ho0, hb⟩; refine ⟨_, rfl, ?_⟩; have n0_ := Aside0.mk (Kd.R_lower ho0 (below_size (by repeat (first | (with_reducible first | exact HB.out | apply below_alloc | apply pw_below_drewN | apply below_drew1) | exact HB.out)))); have n1_ := Aside0.mk (below_step (by repeat (first | (with_reducible first | exact HB.out | apply below_alloc | apply pw_below_drewN | apply below_drew1) | exact HB.out)) hb); clear HB; have HO368 := n0_; have HB := n1_; clear n0_ n1_; (try clear hb); (try clear hb2); (try clear hk); (try clear hi); (try clear ho0); have p17 : 0 ≤ (t363 : Int) := of_decide_eq_true (by first | (with_reducible assumption) | assumption); have q17 : (t363 : Int) < ((t366.length : Int) : Int) := of_decide_eq_true (by first | (with_reducible assumption) | assumption); obtain ⟨go17, co17, eo17, gb17, gl17, cl17, HG17⟩ := Kd.R_form HO368.out (by omega); (first | cases eo17 | (injection eo17 with ea_ en_ ec_; (first | subst ea_ | (injection ea_ with ea_; subst ea_)); subst ec_; clear en_)); have GB17 := Aside0.mk gb17; have GG17 := Aside0.mk HG17; clear gb17 gl17 HG17; obtain ⟨ce17, hcl17, hM17, hcc17, hfr17⟩ := Kd.R_elem HO368.out z32 (t363 : Int) p17 q17; obtain rfl := k32_openM hM17; have hx17_0 : w19.cell? ⟨go17, (t363 : Int).toNat * 3, none⟩ = some (.int .i64 ((rd_T32 t366 t363).f0)) := hcc17 0 _ rfl; have hx17_1 : w19.cell? ⟨go17, (t363 : Int).toNat * 3 + 1, none⟩ = some (.int .i64 ((rd_T32 t366 t363).f1)) := hcc17 1 _ rfl; have hx17_2 : w19.cell? ⟨go17, (t363 : Int).toNat * 3 + 2, none⟩ = some (.int .i64 ((rd_T32 t366 t363).f2)) := hcc17 2 _ rfl; have hf17_0 : w19.frozen? ⟨go17, (t363 : Int).toNat * 3, none⟩ = false := hfr17 0; have hf17_1 : w19.frozen? ⟨go17, (t363 : Int).toNat * 3 + 1, none⟩ = false := hfr17 1; have hf17_2 : w19.frozen? ⟨go17, (t363 : Int).toNat * 3 + 2, none⟩ = false := hfr17 2; clear hcl17 hcc17 hfr17 hM17; replace p17 := eq_true p17; replace q17 := eq_true q17; have HX20 := Aside0.mk (show Kd.R k32 32 w19 w.heap.size (fun _ => True) (.slice (some ⟨go17, 0, none⟩) t366.length co17) t366 from (by (with_reducible repeat (first | apply Kd.R_alloc | apply Kd.R_drewN | apply Kd.R_drew)); exact HO368.out)); obtain ⟨ce20, hcl20, hM20, hcc20, hfr20⟩ := Kd.R_elem HX20.out z32 (t363 : Int) (of_decide_eq_true (by first | (with_reducible assumption) | assumption)) (by have h_ : (t363 : Int) < ((t366.length : Int) : Int) := of_decide_eq_true (by first | (with_reducible assumption) | assumption); first | exact h_ | (have e_ := (Kd.R_reads' HO368.out).1; omega) | simpa using h_); obtain rfl := k32_openM hM20; have HP20 := Kd.R_seg HX20.out (t363 : Int) (of_decide_eq_true (by first | (with_reducible assumption) | assumption)) (by have h_ : (t363 : Int) < ((t366.length : Int) : Int) := of_decide_eq_true (by first | (with_reducible assumption) | assumption); first | exact h_ | (have e_ := (Kd.R_reads' HO368.out).1; omega) | simpa using h_) (seg := [.int .i64 a2]) (j := 2) hcl20 hcc20 (show 3 ≤ 3 from by decide) (x' := (⟨(rd_T32 t366 t363).f0, (rd_T32 t366 t363).f1, a2⟩ : S32)) (k32_mkM _ _ _ (⟨(rd_T32 t366 t363).f0, (rd_T32 t366 t363).f1, a2⟩ : S32) ) (fun _ hk => hk); have hx20_2 := hcc20 2 _ rfl; (try simp only [show (k32).sz = 3 from rfl, Nat.mul_one, Nat.add_zero] at hx20_2); have hf20_2 := hfr20 2; (try simp only [show (k32).sz = 3 from rfl, Nat.mul_one, Nat.add_zero] at hf20_2); clear hcl20 hcc20 hfr20 hM20) | ((with_reducible refine gate_store (t := 3) (p := 42) rfl ?_); refine store_event (t := 3) (p := 42) (v := ?vo_w21) (w1 := (w19.setCell ⟨go17, (t363 : Int).toNat * 3 + 2, none⟩ (.int .i64 a2))) ?hg ?ho ?hn ?hr ?_; (case ho => rfl); (case hg => rfl); (case hn => rfl); (case hr => first | (go_simp; done) | (go_simp; rfl)); intro w21 hw; have hg : w19.grownBy w21 (some go17) := (by rw [hw]; exact HP20.2); have hp_ : Kd.R k32 32 w21 w.heap.size (fun _ => True) (.slice (some ⟨go17, 0, none⟩) t366.length co17) y369 := (by rw [hw, Ny369.out]; exact HP20.1); clear HP20; have n0_ := Aside0.mk (hp_); have n1_ := Aside0.mk ((by rw [hw]; exact below_set (HB.out) GB17.out : Below w.heap.size w w21)); clear HO368; clear HB; have HO368 := n0_; have HB := n1_; clear n0_ n1_; clear hg hw hp_))
        go_ret2
        exact ⟨_, by first | rfl | (simp [errW_none, errW_some] <;> rfl) | (simp [*, errW_none, errW_some] <;> rfl), by (with_reducible repeat (first | apply Kd.R_alloc | apply Kd.R_drewN | apply Kd.R_drew)); exact HO368.out, by repeat (first | (with_reducible first | exact HB.out | apply below_alloc | apply pw_below_drewN | apply below_drew1) | exact HB.out)⟩
       ·
        rw [if_neg c16] at H
        exact absurd H (by simp)
     ·
      rw [if_neg c11] at H
      have c11b0 : (((rd_T32 l0 t363).f2) == 0) = false := beq_eq_false_iff_ne.mpr c11
      have c11b1 : (((rd_T32 l0 t363).f2) != 0) = true := bne_iff_ne.mpr c11
      simp only [Option.some.injEq, Prod.mk.injEq] at H
      obtain ⟨rfl, rfl⟩ := H
      go_enter Try.func26, Try.ntmps26
      go_wp2_with (first | ((with_reducible refine gate_callee (f := 39) rfl ?_); refine goesL_ (some 14) rfl rfl Try.func39 (by kernel_rfl) rfl #[.slice A0 l0.length c0, .int .i64 a1, .int .i64 0, .int .i64 a2] rfl (by (try simp only [List.map_toArray, List.map_cons, List.map_nil]); first | done | rfl | (simp only [List.length_drop, List.length_take]; rfl)) ?_; (with_reducible refine (headgateref19_asks.calls k _ _ l0 a1 0 a2 t362 _ ?side1 ?side2 A4.out).mono ?_); (case side1 => repeat (first | exact HR0.out | (with_reducible refine Kd.C_alloc ?_ _) | (with_reducible refine Kd.C_drewN ?_ _) | (with_reducible refine Kd.C_drew ?_))); (case side2 => exact HC0.out); rintro e w22 ⟨rfl, hb⟩; refine ⟨_, rfl, ?_⟩; have n0_ := Aside0.mk (below_step (by repeat (first | (with_reducible first | exact HB.out | apply below_alloc | apply pw_below_drewN | apply below_drew1) | exact HB.out)) hb); clear HB; have HB := n0_; clear n0_; (try clear hb); (try clear hb2); (try clear hk); (try clear hi)) | ((with_reducible refine gate_callee (f := 41) rfl ?_); refine goesL_ (some 20) rfl rfl Try.func41 (by kernel_rfl) rfl #[.slice A0 l0.length c0, .int .i64 a1] rfl (by (try simp only [List.map_toArray, List.map_cons, List.map_nil]); first | done | rfl | (simp only [List.length_drop, List.length_take]; rfl)) ?_; (with_reducible refine (headgateref19_find.calls k _ _ l0 a1 t363 _ ?side1 ?side2 A6.out).mono ?_); (case side1 => repeat (first | exact (Kd.C_below HR0.out HB.out) | (with_reducible refine Kd.C_alloc ?_ _) | (with_reducible refine Kd.C_drewN ?_ _) | (with_reducible refine Kd.C_drew ?_))); (case side2 => exact HC0.out); rintro e w' ⟨rfl, ⟨nd, rfl⟩⟩; refine ⟨_, rfl, ?_⟩; have p364 : 0 ≤ (t363 : Int) := of_decide_eq_true (by first | (with_reducible assumption) | assumption); have q364 : t363 < (l0.length : Int) := of_decide_eq_true (by first | (with_reducible assumption) | assumption); obtain ⟨ad364, e364, hx364_0, hx364_1, hx364_2⟩ := at_T32 HR0.out t363 p364 q364; cases e364; replace hx364_0 := (HB.out.cell (World.block_lt_of_cell? w _ hx364_0)).trans hx364_0; replace hx364_1 := (HB.out.cell (World.block_lt_of_cell? w _ hx364_1)).trans hx364_1; replace hx364_2 := (HB.out.cell (World.block_lt_of_cell? w _ hx364_2)).trans hx364_2; replace p364 := eq_true p364; replace q364 := eq_true q364))
      go_ret2
      exact ⟨_, by first | rfl | (simp [errW_none, errW_some] <;> rfl) | (simp [*, errW_none, errW_some] <;> rfl), by first | exact Kd.R_nil _ _ _ _ _ | exact Kd.N_nil _ _ _ _ _ | exact Kd.V_nil _ _ _ _ _ | exact Kd.Q_nil _ _ _ _ _ | exact Kd.S_nil _ _ _ _ _, by repeat (first | (with_reducible first | exact HB.out | apply below_alloc | apply pw_below_drewN | apply below_drew1) | exact HB.out)⟩
    ·
     rw [if_neg c10] at H
     exact absurd H (by simp)
   ·
    rw [if_neg c9] at H
    exact absurd H (by simp)
 ·
  rw [if_neg c5] at H
  have c5b0 : (t362 == 0) = false := beq_eq_false_iff_ne.mpr c5
  have c5b1 : (t362 != 0) = true := bne_iff_ne.mpr c5
  simp only [Option.some.injEq, Prod.mk.injEq] at H
  obtain ⟨rfl, rfl⟩ := H
  go_enter Try.func26, Try.ntmps26
  go_wp2_with (first | ((with_reducible refine gate_callee (f := 39) rfl ?_); refine goesL_ (some 14) rfl rfl Try.func39 (by kernel_rfl) rfl #[.slice A0 l0.length c0, .int .i64 a1, .int .i64 0, .int .i64 a2] rfl (by (try simp only [List.map_toArray, List.map_cons, List.map_nil]); first | done | rfl | (simp only [List.length_drop, List.length_take]; rfl)) ?_; (with_reducible refine (headgateref19_asks.calls k _ _ l0 a1 0 a2 t362 _ ?side1 ?side2 A4.out).mono ?_); (case side1 => repeat (first | exact HR0.out | (with_reducible refine Kd.C_alloc ?_ _) | (with_reducible refine Kd.C_drewN ?_ _) | (with_reducible refine Kd.C_drew ?_))); (case side2 => exact HC0.out); rintro e w23 ⟨rfl, hb⟩; refine ⟨_, rfl, ?_⟩; have n0_ := Aside0.mk (below_step (by repeat (first | (with_reducible first | exact HB.out | apply below_alloc | apply pw_below_drewN | apply below_drew1) | exact HB.out)) hb); clear HB; have HB := n0_; clear n0_; (try clear hb); (try clear hb2); (try clear hk); (try clear hi)))
  go_ret2
  exact ⟨_, by first | rfl | (simp [errW_none, errW_some] <;> rfl) | (simp [*, errW_none, errW_some] <;> rfl), by first | exact Kd.R_nil _ _ _ _ _ | exact Kd.N_nil _ _ _ _ _ | exact Kd.V_nil _ _ _ _ _ | exact Kd.Q_nil _ _ _ _ _ | exact Kd.S_nil _ _ _ _ _, by repeat (first | (with_reducible first | exact HB.out | apply below_alloc | apply pw_below_drewN | apply below_drew1) | exact HB.out)⟩

end Go.Proofs.Ytfnhoncpaheejaa.X
