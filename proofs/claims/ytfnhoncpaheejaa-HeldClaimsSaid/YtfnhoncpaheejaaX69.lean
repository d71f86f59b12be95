/- What Go functions of this seat compute, told as Lean functions, and that each call of the Go code comes to that answer; for a law: its row, for every input. Written by a program of the session. -/
import Derived.Test.YtfnhoncpaheejaaX0
import Derived.Test.YtfnhoncpaheejaaX1
import Derived.Test.YtfnhoncpaheejaaX11
import Derived.Test.YtfnhoncpaheejaaX12
import Derived.Test.YtfnhoncpaheejaaX16
import Derived.Test.YtfnhoncpaheejaaX17
import Derived.Test.YtfnhoncpaheejaaX18
import Derived.Test.YtfnhoncpaheejaaX19
import Derived.Test.YtfnhoncpaheejaaX41
import Derived.Test.YtfnhoncpaheejaaX42
import Derived.Test.YtfnhoncpaheejaaX43
import Derived.Test.YtfnhoncpaheejaaX66
import Derived.Test.YtfnhoncpaheejaaX67
import Derived.Test.YtfnhoncpaheejaaX68
namespace Go.Proofs.Ytfnhoncpaheejaa.X
open Go.RowKit Go.Proofs.YtfnhoncpaheejaaW.PrintWords Go.Proofs.YtfnhoncpaheejaaW.PrintLast Go.Proofs.YtfnhoncpaheejaaW.PrintMore
attribute [local go_sem] max2_int min2_int max_two min_two max_three min_three max_four min_four   -- for this text's walks alone
set_option linter.unusedVariables false
set_option linter.unusedSimpArgs false

attribute [local go_sem high] eqA32
/-! ### headgatelaw19_HeldClaims: function 7 -/
mutual
def headgatelaw19_HeldClaims.j0 : Nat → List (S32) → Int → List (S32) → Bool → Option (Bool)
 | 0, _, _, _, _ => none
 | k + 1, x0, x2, x7, x48 => if x48 = true then (some false) else ((held_Unclaim.f x7 x2).bind fun bt521 => ((headgateref19_Unclaim.f k x0 x2).bind fun bt526 => ((headgatekit_SameWrites.f k bt521.1 bt526.1).bind fun t531 => (if t531 = true then (if (bt521.2.1 != bt526.2.1) = true then (headgatelaw19_HeldClaims.j1 k x0 x2 x7 true) else (headgatelaw19_HeldClaims.j1 k x0 x2 x7 (bt521.2.2 != bt526.2.2))) else (headgatelaw19_HeldClaims.j1 k x0 x2 x7 true)))))
def headgatelaw19_HeldClaims.j1 : Nat → List (S32) → Int → List (S32) → Bool → Option (Bool)
 | 0, _, _, _, _ => none
 | k + 1, x0, x2, x7, x76 => if x76 = true then (some false) else ((held_Of.f x7 x2).bind fun bt532 => ((headgateref19_Of.f k x0 x2).bind fun bt538 => ((held_Frames.f x7).bind fun bt544 => ((headgateref19_Frames.f k x0).bind fun bt548 => (if (bt532.1 == bt538.1 && (bt532.2.1 == bt538.2.1 && (bt532.2.2.1 == bt538.2.2.1))) = true then (if (bt532.2.2.2.1 == bt538.2.2.2.1) = true then (if bt532.2.2.2.2 = bt538.2.2.2.2 then ((headgatekit_SameInts.f k bt544.1 bt548.1).bind fun t552 => (if t552 = true then (if bt544.2 = bt548.2 then ((headgatekit_SameWrites.f k x7 x0).bind fun t553 => (if t553 = true then ((headgatelaw19_awake.f k).bind fun t554 => (some t554)) else (some false))) else (some false)) else (some false))) else (some false)) else (some false)) else (some false))))))
end
def headgatelaw19_HeldClaims.f (k : Nat) (l0 : List (S32)) (a1 : Int) (a2 : Int) : Option (Bool) := if (l0.length : Int) > 20 then ((headgatelaw19_awake.f k).bind fun t508 => (some t508)) else ((headgatekit_OwnWrites.f l0).bind fun t509 => ((held_Claim.f t509 a1 a2).bind fun bt512 => ((headgateref19_Claim.f k l0 a1 a2).bind fun bt516 => ((headgatekit_SameWrites.f k bt512.1 bt516.1).bind fun t520 => (if t520 = true then (headgatelaw19_HeldClaims.j0 k l0 a2 t509 (bt512.2 != bt516.2)) else (headgatelaw19_HeldClaims.j0 k l0 a2 t509 true))))))
theorem headgatelaw19_HeldClaims.mono_l : ∀ k, (∀ y0 y1 y2 y3, LeO (headgatelaw19_HeldClaims.j0 k y0 y1 y2 y3) (headgatelaw19_HeldClaims.j0 (k + 1) y0 y1 y2 y3)) ∧ (∀ y0 y1 y2 y3, LeO (headgatelaw19_HeldClaims.j1 k y0 y1 y2 y3) (headgatelaw19_HeldClaims.j1 (k + 1) y0 y1 y2 y3))
 | 0 => ⟨fun _ _ _ _ r h => by simp [headgatelaw19_HeldClaims.j0] at h, fun _ _ _ _ r h => by simp [headgatelaw19_HeldClaims.j1] at h⟩
 | k + 1 => by
  obtain ⟨ih0, ih1⟩ := headgatelaw19_HeldClaims.mono_l k
  refine ⟨?_, ?_⟩
  ·
   intro y0 y1 y2 y3
   unfold headgatelaw19_HeldClaims.j0
   repeat' first
   | (with_reducible exact ih0 _ _ _ _)
   | (with_reducible exact ih1 _ _ _ _)
   | (with_reducible exact headgatekit_SameInts.mono _ _ _)
   | (with_reducible exact headgatekit_SameWrites.mono _ _ _)
   | (with_reducible exact headgatelaw19_awake.mono _)
   | (with_reducible exact headgateref19_Claim.mono _ _ _ _)
   | (with_reducible exact headgateref19_Frames.mono _ _)
   | (with_reducible exact headgateref19_Of.mono _ _ _)
   | (with_reducible exact headgateref19_Unclaim.mono _ _ _)
   | (with_reducible exact LeO.refl _)
   | (with_reducible exact LeO.none _)
   | (with_reducible refine LeO.ite ?_ ?_)
   | (with_reducible refine LeO.bind ?_ (fun _ => ?_))
   | exact ih0 _ _ _ _
   | exact ih1 _ _ _ _
   | exact headgatekit_SameInts.mono _ _ _
   | exact headgatekit_SameWrites.mono _ _ _
   | exact headgatelaw19_awake.mono _
   | exact headgateref19_Claim.mono _ _ _ _
   | exact headgateref19_Frames.mono _ _
   | exact headgateref19_Of.mono _ _ _
   | exact headgateref19_Unclaim.mono _ _ _
   | exact LeO.none _
   | refine LeO.ite ?_ ?_
   | refine LeO.bind ?_ (fun _ => ?_)
  ·
   intro y0 y1 y2 y3
   unfold headgatelaw19_HeldClaims.j1
   repeat' first
   | (with_reducible exact ih0 _ _ _ _)
   | (with_reducible exact ih1 _ _ _ _)
   | (with_reducible exact headgatekit_SameInts.mono _ _ _)
   | (with_reducible exact headgatekit_SameWrites.mono _ _ _)
   | (with_reducible exact headgatelaw19_awake.mono _)
   | (with_reducible exact headgateref19_Claim.mono _ _ _ _)
   | (with_reducible exact headgateref19_Frames.mono _ _)
   | (with_reducible exact headgateref19_Of.mono _ _ _)
   | (with_reducible exact headgateref19_Unclaim.mono _ _ _)
   | (with_reducible exact LeO.refl _)
   | (with_reducible exact LeO.none _)
   | (with_reducible refine LeO.ite ?_ ?_)
   | (with_reducible refine LeO.bind ?_ (fun _ => ?_))
   | exact ih0 _ _ _ _
   | exact ih1 _ _ _ _
   | exact headgatekit_SameInts.mono _ _ _
   | exact headgatekit_SameWrites.mono _ _ _
   | exact headgatelaw19_awake.mono _
   | exact headgateref19_Claim.mono _ _ _ _
   | exact headgateref19_Frames.mono _ _
   | exact headgateref19_Of.mono _ _ _
   | exact headgateref19_Unclaim.mono _ _ _
   | exact LeO.none _
   | refine LeO.ite ?_ ?_
   | refine LeO.bind ?_ (fun _ => ?_)
theorem headgatelaw19_HeldClaims.mono : ∀ a0 a1 a2 k, LeO (headgatelaw19_HeldClaims.f k a0 a1 a2) (headgatelaw19_HeldClaims.f (k + 1) a0 a1 a2) := by
 intro a0 a1 a2 k
 obtain ⟨ih0, ih1⟩ := headgatelaw19_HeldClaims.mono_l k
 unfold headgatelaw19_HeldClaims.f
 repeat' first
   | (with_reducible exact ih0 _ _ _ _)
   | (with_reducible exact ih1 _ _ _ _)
   | (with_reducible exact headgatekit_SameInts.mono _ _ _)
   | (with_reducible exact headgatekit_SameWrites.mono _ _ _)
   | (with_reducible exact headgatelaw19_awake.mono _)
   | (with_reducible exact headgateref19_Claim.mono _ _ _ _)
   | (with_reducible exact headgateref19_Frames.mono _ _)
   | (with_reducible exact headgateref19_Of.mono _ _ _)
   | (with_reducible exact headgateref19_Unclaim.mono _ _ _)
   | (with_reducible exact LeO.refl _)
   | (with_reducible exact LeO.none _)
   | (with_reducible refine LeO.ite ?_ ?_)
   | (with_reducible refine LeO.bind ?_ (fun _ => ?_))
   | exact ih0 _ _ _ _
   | exact ih1 _ _ _ _
   | exact headgatekit_SameInts.mono _ _ _
   | exact headgatekit_SameWrites.mono _ _ _
   | exact headgatelaw19_awake.mono _
   | exact headgateref19_Claim.mono _ _ _ _
   | exact headgateref19_Frames.mono _ _
   | exact headgateref19_Of.mono _ _ _
   | exact headgateref19_Unclaim.mono _ _ _
   | exact LeO.none _
   | refine LeO.ite ?_ ?_
   | refine LeO.bind ?_ (fun _ => ?_)
set_option maxHeartbeats 2000000 in
set_option maxRecDepth 100000 in
theorem headgatelaw19_HeldClaims.calls (k : Nat) (A0 : Option Addr) (c0 : Nat) (l0 : List (S32)) (a1 : Int) (a2 : Int) (r : Bool) (w : World) (hr0 : Kd.C k32 w A0 l0.length l0) (hc0 : l0.length ≤ c0) (HT : Aside0 (r = true)) (h : headgatelaw19_HeldClaims.f k l0 a1 a2 = some r) :
  Calls Try.prog 7 #[.slice A0 l0.length c0, .int .i64 a1, .int .i64 a2] w fun e w' => e = .returned (.bool r) ∧ Below w.heap.size w w' := by
 have hu32 := Try.underlying32
 have HR0 := Aside0.mk hr0
 have HC0 := Aside0.mk hc0
 clear hr0 hc0
 have HB := Aside0.mk (Below.refl w.heap.size w)
 have H : (if (l0.length : Int) > 20 then ((headgatelaw19_awake.f k).bind fun t508 => (some t508)) else ((headgatekit_OwnWrites.f l0).bind fun t509 => ((held_Claim.f t509 a1 a2).bind fun bt512 => ((headgateref19_Claim.f k l0 a1 a2).bind fun bt516 => ((headgatekit_SameWrites.f k bt512.1 bt516.1).bind fun t520 => (if t520 = true then (headgatelaw19_HeldClaims.j0 k l0 a2 t509 (bt512.2 != bt516.2)) else (headgatelaw19_HeldClaims.j0 k l0 a2 t509 true))))))) = some r := h
 clear h
 by_cases c4 : (l0.length : Int) > 20
 ·
  rw [if_pos c4] at H
  have c4b0 : decide (20 < (l0.length : Int)) = true := decide_eq_true c4
  have c4b1 : decide (20 < l0.length) = true := decide_eq_true (by omega)
  clear c4
  replace H := Option.bind_eq_some_iff.mp H
  obtain ⟨t508, A50, H⟩ := H
  replace H : (some t508) = some r := H
  have A5 := Aside0.mk A50
  clear A50
  obtain rfl := Option.some.inj H
  go_enter Try.func7, Try.ntmps7
  go_wp2_with (first | ((with_reducible refine gate_callee (f := 10) rfl ?_); refine goesL_ (some 23) rfl rfl Try.func10 (by kernel_rfl) rfl #[] rfl (by (try simp only [List.map_toArray, List.map_cons, List.map_nil]); first | done | rfl | (simp only [List.length_drop, List.length_take]; rfl)) ?_; (with_reducible refine (headgatelaw19_awake.calls k  t508 _ A5.out).mono ?_); rintro e w6 ⟨rfl, hb⟩; refine ⟨_, rfl, ?_⟩; have n0_ := Aside0.mk (below_step (by repeat (first | (with_reducible first | exact HB.out | apply below_alloc | apply pw_below_drewN | apply below_drew1) | exact HB.out)) hb); clear HB; have HB := n0_; clear n0_; (try clear hb); (try clear hb2); (try clear hk); (try clear hi)))
  go_ret
  exact ⟨by first | rfl | (simp [errW_none, errW_some] <;> rfl) | (simp [*, errW_none, errW_some] <;> rfl), by repeat (first | (with_reducible first | exact HB.out | apply below_alloc | apply pw_below_drewN | apply below_drew1) | exact HB.out)⟩
 ·
  rw [if_neg c4] at H
  have c4b0 : decide (20 < (l0.length : Int)) = false := decide_eq_false c4
  have c4b1 : decide (20 < l0.length) = false := decide_eq_false (by omega)
  clear c4
  replace H := Option.bind_eq_some_iff.mp H
  obtain ⟨t509, A70, H⟩ := H
  replace H : ((held_Claim.f t509 a1 a2).bind fun bt512 => ((headgateref19_Claim.f k l0 a1 a2).bind fun bt516 => ((headgatekit_SameWrites.f k bt512.1 bt516.1).bind fun t520 => (if t520 = true then (headgatelaw19_HeldClaims.j0 k l0 a2 t509 (bt512.2 != bt516.2)) else (headgatelaw19_HeldClaims.j0 k l0 a2 t509 true))))) = some r := H
  have A7 := Aside0.mk A70
  clear A70
  replace H := Option.bind_eq_some_iff.mp H
  obtain ⟨⟨t512, t513⟩, A80, H⟩ := H
  replace H : ((headgateref19_Claim.f k l0 a1 a2).bind fun bt516 => ((headgatekit_SameWrites.f k t512 bt516.1).bind fun t520 => (if t520 = true then (headgatelaw19_HeldClaims.j0 k l0 a2 t509 (t513 != bt516.2)) else (headgatelaw19_HeldClaims.j0 k l0 a2 t509 true)))) = some r := H
  have A8 := Aside0.mk A80
  clear A80
  replace H := Option.bind_eq_some_iff.mp H
  obtain ⟨⟨t516, t517⟩, A90, H⟩ := H
  replace H : ((headgatekit_SameWrites.f k t512 t516).bind fun t520 => (if t520 = true then (headgatelaw19_HeldClaims.j0 k l0 a2 t509 (t513 != t517)) else (headgatelaw19_HeldClaims.j0 k l0 a2 t509 true))) = some r := H
  have A9 := Aside0.mk A90
  clear A90
  have HC10 := Aside0.mk H
  clear H
  go_enter Try.func7, Try.ntmps7
  go_upto_region 6 with (first | ((with_reducible refine gate_callee (f := 13) rfl ?_); refine goesL_ (some 25) rfl rfl Try.func13 (by kernel_rfl) rfl #[.slice A0 l0.length c0] rfl (by (try simp only [List.map_toArray, List.map_cons, List.map_nil]); first | done | rfl | (simp only [List.length_drop, List.length_take]; rfl)) ?_; (with_reducible refine (headgatekit_OwnWrites.calls _ _ l0 t509 _ ?side1 ?side2 A7.out).mono ?_); (case side1 => repeat (first | exact HR0.out | (with_reducible refine Kd.C_alloc ?_ _) | (with_reducible refine Kd.C_drewN ?_ _) | (with_reducible refine Kd.C_drew ?_))); (case side2 => exact HC0.out); rintro e w11 ⟨v510, rfl, ho0, hb⟩; refine ⟨_, rfl, ?_⟩; have n0_ := Aside0.mk (Kd.R_lower ho0 (below_size (by repeat (first | (with_reducible first | exact HB.out | apply below_alloc | apply pw_below_drewN | apply below_drew1) | exact HB.out)))); have n1_ := Aside0.mk (below_step (by repeat (first | (with_reducible first | exact HB.out | apply below_alloc | apply pw_below_drewN | apply below_drew1) | exact HB.out)) hb); clear HB; have HO511 := n0_; have HB := n1_; clear n0_ n1_; (try clear hb); (try clear hb2); (try clear hk); (try clear hi); (try clear ho0); obtain ⟨Ao12, co12, eo12⟩ := Kd.R_slice HO511.out; subst eo12) | ((with_reducible refine gate_callee (f := 12) rfl ?_); refine goesL_ (some 30) rfl rfl Try.func12 (by kernel_rfl) rfl #[.slice Ao12 t509.length co12, .int .i64 a1, .int .i64 a2] rfl (by (try simp only [List.map_toArray, List.map_cons, List.map_nil]); first | done | rfl | (simp only [List.length_drop, List.length_take]; rfl)) ?_; (with_reducible refine (held_Claim.calls _ _ t509 a1 a2 t512 t513 _ ?side1 ?side2 A8.out).mono ?_); (case side1 => repeat (first | exact (Kd.R_reads' HO511.out).2.2 | (with_reducible refine Kd.C_alloc ?_ _) | (with_reducible refine Kd.C_drewN ?_ _) | (with_reducible refine Kd.C_drew ?_))); (case side2 => exact (Kd.R_reads' HO511.out).2.1); rintro e w13 ⟨v514, rfl, ho0, hb⟩; refine ⟨_, rfl, ?_⟩; have n0_ := Aside0.mk (Kd.R_elder' (by (with_reducible repeat (first | apply Kd.R_alloc | apply Kd.R_drewN | apply Kd.R_drew)); exact HO511.out) (Kd.R_base ho0) hb); have n1_ := Aside0.mk (Kd.R_lower (Kd.R_new' ho0 (Kd.R_lt (by (with_reducible repeat (first | apply Kd.R_alloc | apply Kd.R_drewN | apply Kd.R_drew)); exact HO511.out))) (below_size (by repeat (first | (with_reducible first | exact HB.out | apply below_alloc | apply pw_below_drewN | apply below_drew1) | exact HB.out)))); have n2_ := Aside0.mk (below_step (by repeat (first | (with_reducible first | exact HB.out | apply below_alloc | apply pw_below_drewN | apply below_drew1) | exact HB.out)) hb); clear HO511; clear HB; have HO511 := n0_; have HO515 := n1_; have HB := n2_; clear n0_ n1_ n2_; (try clear hb); (try clear hb2); (try clear hk); (try clear hi); (try clear ho0)) | ((with_reducible refine gate_callee (f := 26) rfl ?_); refine goesL_ (some 37) rfl rfl Try.func26 (by kernel_rfl) rfl #[.slice A0 l0.length c0, .int .i64 a1, .int .i64 a2] rfl (by (try simp only [List.map_toArray, List.map_cons, List.map_nil]); first | done | rfl | (simp only [List.length_drop, List.length_take]; rfl)) ?_; (with_reducible refine (headgateref19_Claim.calls k _ _ l0 a1 a2 t516 t517 _ ?side1 ?side2 A9.out).mono ?_); (case side1 => repeat (first | exact (Kd.C_below HR0.out HB.out) | (with_reducible refine Kd.C_alloc ?_ _) | (with_reducible refine Kd.C_drewN ?_ _) | (with_reducible refine Kd.C_drew ?_))); (case side2 => exact HC0.out); rintro e w14 ⟨v518, rfl, ho0, hb⟩; refine ⟨_, rfl, ?_⟩; have n0_ := Aside0.mk (Kd.R_elder' (by (with_reducible repeat (first | apply Kd.R_alloc | apply Kd.R_drewN | apply Kd.R_drew)); exact HO511.out) (Kd.R_base ho0) hb); have n1_ := Aside0.mk (Kd.R_elder' (by (with_reducible repeat (first | apply Kd.R_alloc | apply Kd.R_drewN | apply Kd.R_drew)); exact HO515.out) (Kd.R_base ho0) hb); have n2_ := Aside0.mk (Kd.R_lower (Kd.R_new' (Kd.R_new' ho0 (Kd.R_lt (by (with_reducible repeat (first | apply Kd.R_alloc | apply Kd.R_drewN | apply Kd.R_drew)); exact HO511.out))) (Kd.R_lt (by (with_reducible repeat (first | apply Kd.R_alloc | apply Kd.R_drewN | apply Kd.R_drew)); exact HO515.out))) (below_size (by repeat (first | (with_reducible first | exact HB.out | apply below_alloc | apply pw_below_drewN | apply below_drew1) | exact HB.out)))); have n3_ := Aside0.mk (below_step (by repeat (first | (with_reducible first | exact HB.out | apply below_alloc | apply pw_below_drewN | apply below_drew1) | exact HB.out)) hb); clear HO511; clear HO515; clear HB; have HO511 := n0_; have HO515 := n1_; have HO519 := n2_; have HB := n3_; clear n0_ n1_ n2_ n3_; (try clear hb); (try clear hb2); (try clear hk); (try clear hi); (try clear ho0)))
  (try simp only [Act.put, List.setIfInBounds_toArray, List.set_cons_zero, List.set_cons_succ])
  go_cut [48] (fun v48 wc => ∃ (kq : Nat) (x48_9 : Bool), v48 = .bool x48_9 ∧ Aside0 (headgatelaw19_HeldClaims.j0 kq l0 a2 t509 x48_9 = some r) ∧ Aside0 (kq ≤ k) ∧ Aside0 (Kd.R k32 32 wc w.heap.size (fun _ => True) (.slice Ao12 t509.length co12) t509) ∧ Aside0 (Below w.heap.size w wc))
  case first =>
   have H := HC10.out
   clear HC10
   replace H := Option.bind_eq_some_iff.mp H
   obtain ⟨t520, A150, H⟩ := H
   replace H : (if t520 = true then (headgatelaw19_HeldClaims.j0 k l0 a2 t509 (t513 != t517)) else (headgatelaw19_HeldClaims.j0 k l0 a2 t509 true)) = some r := H
   have A15 := Aside0.mk A150
   clear A150
   by_cases c16 : t520 = true
   ·
    subst c16
    have H1 : (headgatelaw19_HeldClaims.j0 k l0 a2 t509 (t513 != t517)) = some r := by rw [if_pos rfl] at H; exact H
    clear H
    have H := H1
    clear H1
    have H' := Aside0.mk H
    clear H
    obtain ⟨Ao17, co17, eo17⟩ := Kd.R_slice HO515.out
    subst eo17
    obtain ⟨Ao18, co18, eo18⟩ := Kd.R_slice HO519.out
    subst eo18
    go_wp2_with (first | ((with_reducible refine gate_callee (f := 18) rfl ?_); refine goesL_ (some 42) rfl rfl Try.func18 (by kernel_rfl) rfl #[.slice Ao17 t512.length co17, .slice Ao18 t516.length co18] rfl (by (try simp only [List.map_toArray, List.map_cons, List.map_nil]); first | done | rfl | (simp only [List.length_drop, List.length_take]; rfl)) ?_; (with_reducible refine (headgatekit_SameWrites.calls k _ _ t512 _ _ t516 true _ ?side1 ?side2 ?side3 ?side4 A15.out).mono ?_); (case side1 => repeat (first | exact (Kd.R_reads' HO515.out).2.2 | (with_reducible refine Kd.C_alloc ?_ _) | (with_reducible refine Kd.C_drewN ?_ _) | (with_reducible refine Kd.C_drew ?_))); (case side2 => exact (Kd.R_reads' HO515.out).2.1); (case side3 => repeat (first | exact (Kd.R_reads' HO519.out).2.2 | (with_reducible refine Kd.C_alloc ?_ _) | (with_reducible refine Kd.C_drewN ?_ _) | (with_reducible refine Kd.C_drew ?_))); (case side4 => exact (Kd.R_reads' HO519.out).2.1); rintro e w' ⟨rfl, ⟨nd, rfl⟩⟩; refine ⟨_, rfl, ?_⟩))
    go_meet
    case rel => exact ⟨_, ((t513 != t517)), (by first | rfl | (simp; done) | (simp [*]; done)), H', ⟨by first | omega | exact Nat.le_refl _⟩, ⟨by (with_reducible repeat (first | apply Kd.R_alloc | apply Kd.R_drewN | apply Kd.R_drew)); exact Kd.R_mono HO511.out (fun _ hk => trivial)⟩, ⟨by repeat (first | (with_reducible first | exact HB.out | apply below_alloc | apply pw_below_drewN | apply below_drew1) | exact HB.out)⟩⟩
   ·
    replace c16 := Bool.eq_false_iff.mpr c16
    subst c16
    have H1 : (headgatelaw19_HeldClaims.j0 k l0 a2 t509 true) = some r := by rw [if_neg (show ¬ (false = true) by decide)] at H; exact H
    clear H
    have H := H1
    clear H1
    have H' := Aside0.mk H
    clear H
    obtain ⟨Ao19, co19, eo19⟩ := Kd.R_slice HO515.out
    subst eo19
    obtain ⟨Ao20, co20, eo20⟩ := Kd.R_slice HO519.out
    subst eo20
    go_wp2_with (first | ((with_reducible refine gate_callee (f := 18) rfl ?_); refine goesL_ (some 42) rfl rfl Try.func18 (by kernel_rfl) rfl #[.slice Ao19 t512.length co19, .slice Ao20 t516.length co20] rfl (by (try simp only [List.map_toArray, List.map_cons, List.map_nil]); first | done | rfl | (simp only [List.length_drop, List.length_take]; rfl)) ?_; (with_reducible refine (headgatekit_SameWrites.calls k _ _ t512 _ _ t516 false _ ?side1 ?side2 ?side3 ?side4 A15.out).mono ?_); (case side1 => repeat (first | exact (Kd.R_reads' HO515.out).2.2 | (with_reducible refine Kd.C_alloc ?_ _) | (with_reducible refine Kd.C_drewN ?_ _) | (with_reducible refine Kd.C_drew ?_))); (case side2 => exact (Kd.R_reads' HO515.out).2.1); (case side3 => repeat (first | exact (Kd.R_reads' HO519.out).2.2 | (with_reducible refine Kd.C_alloc ?_ _) | (with_reducible refine Kd.C_drewN ?_ _) | (with_reducible refine Kd.C_drew ?_))); (case side4 => exact (Kd.R_reads' HO519.out).2.1); rintro e w' ⟨rfl, ⟨nd, rfl⟩⟩; refine ⟨_, rfl, ?_⟩))
    go_meet
    case rel => exact ⟨_, (true), (by first | rfl | (simp; done) | (simp [*]; done)), H', ⟨by first | omega | exact Nat.le_refl _⟩, ⟨by (with_reducible repeat (first | apply Kd.R_alloc | apply Kd.R_drewN | apply Kd.R_drew)); exact Kd.R_mono HO511.out (fun _ hk => trivial)⟩, ⟨by repeat (first | (with_reducible first | exact HB.out | apply below_alloc | apply pw_below_drewN | apply below_drew1) | exact HB.out)⟩⟩
  case rest =>
   clear HC10
   try clear c1
   try clear c2
   try clear p2
   try clear c4
   try clear c4b0
   try clear c4b1
   try clear c7
   try clear c10
   try clear c12
   try clear c13
   try clear c16
   try clear c18
   obtain ⟨kq, x48_9, rfl, HA, HJ9, HO_7, HB⟩ := hcut
   cases kq with
   | zero => exact absurd HA.out (by simp [headgatelaw19_HeldClaims.j0])
   | succ kj9 =>
    have H := HA.out
    clear HA
    simp only [headgatelaw19_HeldClaims.j0] at H
    by_cases c21 : x48_9 = true
    ·
     subst c21
     have H1 : (some false) = some r := by rw [if_pos rfl] at H; exact H
     clear H
     have H := H1
     clear H1
     exact absurd H (by rw [HT.out]; simp)
    ·
     replace c21 := Bool.eq_false_iff.mpr c21
     subst c21
     have H1 : ((held_Unclaim.f t509 a2).bind fun bt521 => ((headgateref19_Unclaim.f kj9 l0 a2).bind fun bt526 => ((headgatekit_SameWrites.f kj9 bt521.1 bt526.1).bind fun t531 => (if t531 = true then (if (bt521.2.1 != bt526.2.1) = true then (headgatelaw19_HeldClaims.j1 kj9 l0 a2 t509 true) else (headgatelaw19_HeldClaims.j1 kj9 l0 a2 t509 (bt521.2.2 != bt526.2.2))) else (headgatelaw19_HeldClaims.j1 kj9 l0 a2 t509 true))))) = some r := by rw [if_neg (show ¬ (false = true) by decide)] at H; exact H
     clear H
     have H := H1
     clear H1
     replace H := Option.bind_eq_some_iff.mp H
     obtain ⟨⟨t521, t522, t523⟩, A220, H⟩ := H
     replace H : ((headgateref19_Unclaim.f kj9 l0 a2).bind fun bt526 => ((headgatekit_SameWrites.f kj9 t521 bt526.1).bind fun t531 => (if t531 = true then (if (t522 != bt526.2.1) = true then (headgatelaw19_HeldClaims.j1 kj9 l0 a2 t509 true) else (headgatelaw19_HeldClaims.j1 kj9 l0 a2 t509 (t523 != bt526.2.2))) else (headgatelaw19_HeldClaims.j1 kj9 l0 a2 t509 true)))) = some r := H
     have A22 := Aside0.mk A220
     clear A220
     replace H := Option.bind_eq_some_iff.mp H
     obtain ⟨⟨t526, t527, t528⟩, A230, H⟩ := H
     replace H : ((headgatekit_SameWrites.f kj9 t521 t526).bind fun t531 => (if t531 = true then (if (t522 != t527) = true then (headgatelaw19_HeldClaims.j1 kj9 l0 a2 t509 true) else (headgatelaw19_HeldClaims.j1 kj9 l0 a2 t509 (t523 != t528))) else (headgatelaw19_HeldClaims.j1 kj9 l0 a2 t509 true))) = some r := H
     have A23 := Aside0.mk A230
     clear A230
     have HC24 := Aside0.mk H
     clear H
     go_upto_region 10 with (first | ((with_reducible refine gate_callee (f := 15) rfl ?_); refine goesL_ (some 52) rfl rfl Try.func15 (by kernel_rfl) rfl #[.slice Ao12 t509.length co12, .int .i64 a2] rfl (by (try simp only [List.map_toArray, List.map_cons, List.map_nil]); first | done | rfl | (simp only [List.length_drop, List.length_take]; rfl)) ?_; (with_reducible refine (held_Unclaim.calls _ _ t509 a2 t521 t522 t523 _ ?side1 ?side2 A22.out).mono ?_); (case side1 => repeat (first | exact (Kd.R_reads' HO_7.out).2.2 | (with_reducible refine Kd.C_alloc ?_ _) | (with_reducible refine Kd.C_drewN ?_ _) | (with_reducible refine Kd.C_drew ?_))); (case side2 => exact (Kd.R_reads' HO_7.out).2.1); rintro e w25 ⟨v524, rfl, ho0, hb⟩; refine ⟨_, rfl, ?_⟩; have n0_ := Aside0.mk (Kd.R_elder' (by (with_reducible repeat (first | apply Kd.R_alloc | apply Kd.R_drewN | apply Kd.R_drew)); exact HO_7.out) (Kd.R_base ho0) hb); have n1_ := Aside0.mk (Kd.R_lower (Kd.R_new' ho0 (Kd.R_lt (by (with_reducible repeat (first | apply Kd.R_alloc | apply Kd.R_drewN | apply Kd.R_drew)); exact HO_7.out))) (below_size (by repeat (first | (with_reducible first | exact HB.out | apply below_alloc | apply pw_below_drewN | apply below_drew1) | exact HB.out)))); have n2_ := Aside0.mk (below_step (by repeat (first | (with_reducible first | exact HB.out | apply below_alloc | apply pw_below_drewN | apply below_drew1) | exact HB.out)) hb); clear HO_7; clear HB; have HO_7 := n0_; have HO525 := n1_; have HB := n2_; clear n0_ n1_ n2_; (try clear hb); (try clear hb2); (try clear hk); (try clear hi); (try clear ho0)) | ((with_reducible refine gate_callee (f := 27) rfl ?_); refine goesL_ (some 59) rfl rfl Try.func27 (by kernel_rfl) rfl #[.slice A0 l0.length c0, .int .i64 a2] rfl (by (try simp only [List.map_toArray, List.map_cons, List.map_nil]); first | done | rfl | (simp only [List.length_drop, List.length_take]; rfl)) ?_; (with_reducible refine (headgateref19_Unclaim.calls kj9 _ _ l0 a2 t526 t527 t528 _ ?side1 ?side2 A23.out).mono ?_); (case side1 => repeat (first | exact (Kd.C_below HR0.out HB.out) | (with_reducible refine Kd.C_alloc ?_ _) | (with_reducible refine Kd.C_drewN ?_ _) | (with_reducible refine Kd.C_drew ?_))); (case side2 => exact HC0.out); rintro e w26 ⟨v529, rfl, ho0, hb⟩; refine ⟨_, rfl, ?_⟩; have n0_ := Aside0.mk (Kd.R_elder' (by (with_reducible repeat (first | apply Kd.R_alloc | apply Kd.R_drewN | apply Kd.R_drew)); exact HO_7.out) (Kd.R_base ho0) hb); have n1_ := Aside0.mk (Kd.R_elder' (by (with_reducible repeat (first | apply Kd.R_alloc | apply Kd.R_drewN | apply Kd.R_drew)); exact HO525.out) (Kd.R_base ho0) hb); have n2_ := Aside0.mk (Kd.R_lower (Kd.R_new' (Kd.R_new' ho0 (Kd.R_lt (by (with_reducible repeat (first | apply Kd.R_alloc | apply Kd.R_drewN | apply Kd.R_drew)); exact HO_7.out))) (Kd.R_lt (by (with_reducible repeat (first | apply Kd.R_alloc | apply Kd.R_drewN | apply Kd.R_drew)); exact HO525.out))) (below_size (by repeat (first | (with_reducible first | exact HB.out | apply below_alloc | apply pw_below_drewN | apply below_drew1) | exact HB.out)))); have n3_ := Aside0.mk (below_step (by repeat (first | (with_reducible first | exact HB.out | apply below_alloc | apply pw_below_drewN | apply below_drew1) | exact HB.out)) hb); clear HO_7; clear HO525; clear HB; have HO_7 := n0_; have HO525 := n1_; have HO530 := n2_; have HB := n3_; clear n0_ n1_ n2_ n3_; (try clear hb); (try clear hb2); (try clear hk); (try clear hi); (try clear ho0)))
     (try simp only [Act.put, List.setIfInBounds_toArray, List.set_cons_zero, List.set_cons_succ])
     go_cut [76] (fun v76 wc => ∃ (kq : Nat) (x76_23 : Bool), v76 = .bool x76_23 ∧ Aside0 (headgatelaw19_HeldClaims.j1 kq l0 a2 t509 x76_23 = some r) ∧ Aside0 (kq ≤ kj9) ∧ Aside0 (Kd.R k32 32 wc w.heap.size (fun _ => True) (.slice Ao12 t509.length co12) t509) ∧ Aside0 (Below w.heap.size w wc))
     case first =>
      have H := HC24.out
      clear HC24
      replace H := Option.bind_eq_some_iff.mp H
      obtain ⟨t531, A270, H⟩ := H
      replace H : (if t531 = true then (if (t522 != t527) = true then (headgatelaw19_HeldClaims.j1 kj9 l0 a2 t509 true) else (headgatelaw19_HeldClaims.j1 kj9 l0 a2 t509 (t523 != t528))) else (headgatelaw19_HeldClaims.j1 kj9 l0 a2 t509 true)) = some r := H
      have A27 := Aside0.mk A270
      clear A270
      by_cases c28 : t531 = true
      ·
       subst c28
       have H1 : (if (t522 != t527) = true then (headgatelaw19_HeldClaims.j1 kj9 l0 a2 t509 true) else (headgatelaw19_HeldClaims.j1 kj9 l0 a2 t509 (t523 != t528))) = some r := by rw [if_pos rfl] at H; exact H
       clear H
       have H := H1
       clear H1
       by_cases c29 : (t522 != t527) = true
       ·
        rw [if_pos c29] at H
        have c29b0 : (t522 != t527) = true := c29
        (try (have c29b1 : decide (t522 = t527) = false := by simpa using c29))
        (try (have c29b2 : (t522 == t527) = false := by simpa using c29))
        (try (have c29b3 : ¬ (t522 = t527) := by simpa using c29))
        clear c29
        (first | rw [c29b0] | (simp only [i64_w, i32_w]; rw [c29b0]) | skip)
        have H' := Aside0.mk H
        clear H
        obtain ⟨Ao30, co30, eo30⟩ := Kd.R_slice HO525.out
        subst eo30
        obtain ⟨Ao31, co31, eo31⟩ := Kd.R_slice HO530.out
        subst eo31
        go_wp2_with (first | ((with_reducible refine gate_callee (f := 18) rfl ?_); refine goesL_ (some 65) rfl rfl Try.func18 (by kernel_rfl) rfl #[.slice Ao30 t521.length co30, .slice Ao31 t526.length co31] rfl (by (try simp only [List.map_toArray, List.map_cons, List.map_nil]); first | done | rfl | (simp only [List.length_drop, List.length_take]; rfl)) ?_; (with_reducible refine (headgatekit_SameWrites.calls kj9 _ _ t521 _ _ t526 true _ ?side1 ?side2 ?side3 ?side4 A27.out).mono ?_); (case side1 => repeat (first | exact (Kd.R_reads' HO525.out).2.2 | (with_reducible refine Kd.C_alloc ?_ _) | (with_reducible refine Kd.C_drewN ?_ _) | (with_reducible refine Kd.C_drew ?_))); (case side2 => exact (Kd.R_reads' HO525.out).2.1); (case side3 => repeat (first | exact (Kd.R_reads' HO530.out).2.2 | (with_reducible refine Kd.C_alloc ?_ _) | (with_reducible refine Kd.C_drewN ?_ _) | (with_reducible refine Kd.C_drew ?_))); (case side4 => exact (Kd.R_reads' HO530.out).2.1); rintro e w' ⟨rfl, ⟨nd, rfl⟩⟩; refine ⟨_, rfl, ?_⟩))
        go_meet
        case rel => exact ⟨_, (true), (by first | rfl | (simp; done) | (simp [*]; done)), H', ⟨by have := HJ9.out; first | omega | exact Nat.le_refl _⟩, ⟨by (with_reducible repeat (first | apply Kd.R_alloc | apply Kd.R_drewN | apply Kd.R_drew)); exact Kd.R_mono HO_7.out (fun _ hk => trivial)⟩, ⟨by repeat (first | (with_reducible first | exact HB.out | apply below_alloc | apply pw_below_drewN | apply below_drew1) | exact HB.out)⟩⟩
       ·
        rw [if_neg c29] at H
        have c29b0 : (t522 != t527) = false := by simpa using c29
        (try (have c29b1 : decide (t522 = t527) = true := by simpa using c29))
        (try (have c29b2 : (t522 == t527) = true := by simpa using c29))
        clear c29
        (first | rw [c29b0] | (simp only [i64_w, i32_w]; rw [c29b0]) | skip)
        have H' := Aside0.mk H
        clear H
        obtain ⟨Ao32, co32, eo32⟩ := Kd.R_slice HO525.out
        subst eo32
        obtain ⟨Ao33, co33, eo33⟩ := Kd.R_slice HO530.out
        subst eo33
        go_wp2_with (first | ((with_reducible refine gate_callee (f := 18) rfl ?_); refine goesL_ (some 65) rfl rfl Try.func18 (by kernel_rfl) rfl #[.slice Ao32 t521.length co32, .slice Ao33 t526.length co33] rfl (by (try simp only [List.map_toArray, List.map_cons, List.map_nil]); first | done | rfl | (simp only [List.length_drop, List.length_take]; rfl)) ?_; (with_reducible refine (headgatekit_SameWrites.calls kj9 _ _ t521 _ _ t526 true _ ?side1 ?side2 ?side3 ?side4 A27.out).mono ?_); (case side1 => repeat (first | exact (Kd.R_reads' HO525.out).2.2 | (with_reducible refine Kd.C_alloc ?_ _) | (with_reducible refine Kd.C_drewN ?_ _) | (with_reducible refine Kd.C_drew ?_))); (case side2 => exact (Kd.R_reads' HO525.out).2.1); (case side3 => repeat (first | exact (Kd.R_reads' HO530.out).2.2 | (with_reducible refine Kd.C_alloc ?_ _) | (with_reducible refine Kd.C_drewN ?_ _) | (with_reducible refine Kd.C_drew ?_))); (case side4 => exact (Kd.R_reads' HO530.out).2.1); rintro e w' ⟨rfl, ⟨nd, rfl⟩⟩; refine ⟨_, rfl, ?_⟩))
        go_meet
        case rel => exact ⟨_, ((t523 != t528)), (by first | rfl | (simp; done) | (simp [*]; done)), H', ⟨by have := HJ9.out; first | omega | exact Nat.le_refl _⟩, ⟨by (with_reducible repeat (first | apply Kd.R_alloc | apply Kd.R_drewN | apply Kd.R_drew)); exact Kd.R_mono HO_7.out (fun _ hk => trivial)⟩, ⟨by repeat (first | (with_reducible first | exact HB.out | apply below_alloc | apply pw_below_drewN | apply below_drew1) | exact HB.out)⟩⟩
      ·
       replace c28 := Bool.eq_false_iff.mpr c28
       subst c28
       have H1 : (headgatelaw19_HeldClaims.j1 kj9 l0 a2 t509 true) = some r := by rw [if_neg (show ¬ (false = true) by decide)] at H; exact H
       clear H
       have H := H1
       clear H1
       have H' := Aside0.mk H
       clear H
       obtain ⟨Ao34, co34, eo34⟩ := Kd.R_slice HO525.out
       subst eo34
       obtain ⟨Ao35, co35, eo35⟩ := Kd.R_slice HO530.out
       subst eo35
       go_wp2_with (first | ((with_reducible refine gate_callee (f := 18) rfl ?_); refine goesL_ (some 65) rfl rfl Try.func18 (by kernel_rfl) rfl #[.slice Ao34 t521.length co34, .slice Ao35 t526.length co35] rfl (by (try simp only [List.map_toArray, List.map_cons, List.map_nil]); first | done | rfl | (simp only [List.length_drop, List.length_take]; rfl)) ?_; (with_reducible refine (headgatekit_SameWrites.calls kj9 _ _ t521 _ _ t526 false _ ?side1 ?side2 ?side3 ?side4 A27.out).mono ?_); (case side1 => repeat (first | exact (Kd.R_reads' HO525.out).2.2 | (with_reducible refine Kd.C_alloc ?_ _) | (with_reducible refine Kd.C_drewN ?_ _) | (with_reducible refine Kd.C_drew ?_))); (case side2 => exact (Kd.R_reads' HO525.out).2.1); (case side3 => repeat (first | exact (Kd.R_reads' HO530.out).2.2 | (with_reducible refine Kd.C_alloc ?_ _) | (with_reducible refine Kd.C_drewN ?_ _) | (with_reducible refine Kd.C_drew ?_))); (case side4 => exact (Kd.R_reads' HO530.out).2.1); rintro e w' ⟨rfl, ⟨nd, rfl⟩⟩; refine ⟨_, rfl, ?_⟩))
       go_meet
       case rel => exact ⟨_, (true), (by first | rfl | (simp; done) | (simp [*]; done)), H', ⟨by have := HJ9.out; first | omega | exact Nat.le_refl _⟩, ⟨by (with_reducible repeat (first | apply Kd.R_alloc | apply Kd.R_drewN | apply Kd.R_drew)); exact Kd.R_mono HO_7.out (fun _ hk => trivial)⟩, ⟨by repeat (first | (with_reducible first | exact HB.out | apply below_alloc | apply pw_below_drewN | apply below_drew1) | exact HB.out)⟩⟩
     case rest =>
      clear HC24
      try clear c1
      try clear c2
      try clear p2
      try clear c4
      try clear c4b0
      try clear c4b1
      try clear c7
      try clear c10
      try clear c12
      try clear c13
      try clear c15
      try clear c16
      try clear c18
      try clear c21
      try clear c26
      try clear c27
      try clear c28
      try clear c29
      try clear c29b0
      try clear c29b1
      try clear c29b2
      try clear p2
      obtain ⟨kq, x76_23, rfl, HA, HJ23, HO_7, HB⟩ := hcut
      cases kq with
      | zero => exact absurd HA.out (by simp [headgatelaw19_HeldClaims.j1])
      | succ kj23 =>
       have H := HA.out
       clear HA
       simp only [headgatelaw19_HeldClaims.j1] at H
       by_cases c36 : x76_23 = true
       ·
        subst c36
        have H1 : (some false) = some r := by rw [if_pos rfl] at H; exact H
        clear H
        have H := H1
        clear H1
        exact absurd H (by rw [HT.out]; simp)
       ·
        replace c36 := Bool.eq_false_iff.mpr c36
        subst c36
        have H1 : ((held_Of.f t509 a2).bind fun bt532 => ((headgateref19_Of.f kj23 l0 a2).bind fun bt538 => ((held_Frames.f t509).bind fun bt544 => ((headgateref19_Frames.f kj23 l0).bind fun bt548 => (if (bt532.1 == bt538.1 && (bt532.2.1 == bt538.2.1 && (bt532.2.2.1 == bt538.2.2.1))) = true then (if (bt532.2.2.2.1 == bt538.2.2.2.1) = true then (if bt532.2.2.2.2 = bt538.2.2.2.2 then ((headgatekit_SameInts.f kj23 bt544.1 bt548.1).bind fun t552 => (if t552 = true then (if bt544.2 = bt548.2 then ((headgatekit_SameWrites.f kj23 t509 l0).bind fun t553 => (if t553 = true then ((headgatelaw19_awake.f kj23).bind fun t554 => (some t554)) else (some false))) else (some false)) else (some false))) else (some false)) else (some false)) else (some false)))))) = some r := by rw [if_neg (show ¬ (false = true) by decide)] at H; exact H
        clear H
        have H := H1
        clear H1
        replace H := Option.bind_eq_some_iff.mp H
        obtain ⟨⟨t532, t533, t534, t535, t536⟩, A370, H⟩ := H
        replace H : ((headgateref19_Of.f kj23 l0 a2).bind fun bt538 => ((held_Frames.f t509).bind fun bt544 => ((headgateref19_Frames.f kj23 l0).bind fun bt548 => (if (t532 == bt538.1 && (t533 == bt538.2.1 && (t534 == bt538.2.2.1))) = true then (if (t535 == bt538.2.2.2.1) = true then (if t536 = bt538.2.2.2.2 then ((headgatekit_SameInts.f kj23 bt544.1 bt548.1).bind fun t552 => (if t552 = true then (if bt544.2 = bt548.2 then ((headgatekit_SameWrites.f kj23 t509 l0).bind fun t553 => (if t553 = true then ((headgatelaw19_awake.f kj23).bind fun t554 => (some t554)) else (some false))) else (some false)) else (some false))) else (some false)) else (some false)) else (some false))))) = some r := H
        have A37 := Aside0.mk A370
        clear A370
        replace H := Option.bind_eq_some_iff.mp H
        obtain ⟨⟨t538, t539, t540, t541, t542⟩, A380, H⟩ := H
        replace H : ((held_Frames.f t509).bind fun bt544 => ((headgateref19_Frames.f kj23 l0).bind fun bt548 => (if (t532 == t538 && (t533 == t539 && (t534 == t540))) = true then (if (t535 == t541) = true then (if t536 = t542 then ((headgatekit_SameInts.f kj23 bt544.1 bt548.1).bind fun t552 => (if t552 = true then (if bt544.2 = bt548.2 then ((headgatekit_SameWrites.f kj23 t509 l0).bind fun t553 => (if t553 = true then ((headgatelaw19_awake.f kj23).bind fun t554 => (some t554)) else (some false))) else (some false)) else (some false))) else (some false)) else (some false)) else (some false)))) = some r := H
        have A38 := Aside0.mk A380
        clear A380
        replace H := Option.bind_eq_some_iff.mp H
        obtain ⟨⟨t544, t545⟩, A390, H⟩ := H
        replace H : ((headgateref19_Frames.f kj23 l0).bind fun bt548 => (if (t532 == t538 && (t533 == t539 && (t534 == t540))) = true then (if (t535 == t541) = true then (if t536 = t542 then ((headgatekit_SameInts.f kj23 t544 bt548.1).bind fun t552 => (if t552 = true then (if t545 = bt548.2 then ((headgatekit_SameWrites.f kj23 t509 l0).bind fun t553 => (if t553 = true then ((headgatelaw19_awake.f kj23).bind fun t554 => (some t554)) else (some false))) else (some false)) else (some false))) else (some false)) else (some false)) else (some false))) = some r := H
        have A39 := Aside0.mk A390
        clear A390
        replace H := Option.bind_eq_some_iff.mp H
        obtain ⟨⟨t548, t549⟩, A400, H⟩ := H
        replace H : (if (t532 == t538 && (t533 == t539 && (t534 == t540))) = true then (if (t535 == t541) = true then (if t536 = t542 then ((headgatekit_SameInts.f kj23 t544 t548).bind fun t552 => (if t552 = true then (if t545 = t549 then ((headgatekit_SameWrites.f kj23 t509 l0).bind fun t553 => (if t553 = true then ((headgatelaw19_awake.f kj23).bind fun t554 => (some t554)) else (some false))) else (some false)) else (some false))) else (some false)) else (some false)) else (some false)) = some r := H
        have A40 := Aside0.mk A400
        clear A400
        by_cases c41 : (t532 == t538 && (t533 == t539 && (t534 == t540))) = true
        ·
         rw [if_pos c41] at H
         have c41b0 : (t532 == t538 && (t533 == t539 && (t534 == t540))) = true := c41
         (try (have c41b1 : decide (t532 = t538 && (t533 == t539 && (t534 == t540))) = true := by simpa using c41))
         (try (have c41b2 : (t532 == t538 && (t533 == t539 && (t534 == t540))) = true := by simpa using c41))
         clear c41
         by_cases c42 : (t535 == t541) = true
         ·
          rw [if_pos c42] at H
          have c42b0 : (t535 == t541) = true := c42
          (try (have c42b1 : decide (t535 = t541) = true := by simpa using c42))
          (try (have c42b2 : (t535 == t541) = true := by simpa using c42))
          clear c42
          by_cases c43 : t536 = t542
          ·
           rw [if_pos c43] at H
           have c43b0 : (t536 == t542) = true := beq_iff_eq.mpr c43
           have c43b1 : (t536 != t542) = false := bne_eq_false_iff_eq.mpr c43
           clear c43
           replace H := Option.bind_eq_some_iff.mp H
           obtain ⟨t552, A440, H⟩ := H
           replace H : (if t552 = true then (if t545 = t549 then ((headgatekit_SameWrites.f kj23 t509 l0).bind fun t553 => (if t553 = true then ((headgatelaw19_awake.f kj23).bind fun t554 => (some t554)) else (some false))) else (some false)) else (some false)) = some r := H
           have A44 := Aside0.mk A440
           clear A440
           by_cases c45 : t552 = true
           ·
            subst c45
            have H1 : (if t545 = t549 then ((headgatekit_SameWrites.f kj23 t509 l0).bind fun t553 => (if t553 = true then ((headgatelaw19_awake.f kj23).bind fun t554 => (some t554)) else (some false))) else (some false)) = some r := by rw [if_pos rfl] at H; exact H
            clear H
            have H := H1
            clear H1
            by_cases c46 : t545 = t549
            ·
             rw [if_pos c46] at H
             have c46b0 : (t545 == t549) = true := beq_iff_eq.mpr c46
             have c46b1 : (t545 != t549) = false := bne_eq_false_iff_eq.mpr c46
             clear c46
             replace H := Option.bind_eq_some_iff.mp H
             obtain ⟨t553, A470, H⟩ := H
             replace H : (if t553 = true then ((headgatelaw19_awake.f kj23).bind fun t554 => (some t554)) else (some false)) = some r := H
             have A47 := Aside0.mk A470
             clear A470
             by_cases c48 : t553 = true
             ·
              subst c48
              have H1 : ((headgatelaw19_awake.f kj23).bind fun t554 => (some t554)) = some r := by rw [if_pos rfl] at H; exact H
              clear H
              have H := H1
              clear H1
              replace H := Option.bind_eq_some_iff.mp H
              obtain ⟨t554, A490, H⟩ := H
              replace H : (some t554) = some r := H
              have A49 := Aside0.mk A490
              clear A490
              obtain rfl := Option.some.inj H
              go_wp2_with (first | ((with_reducible refine gate_callee (f := 14) rfl ?_); refine goesL_ (some 80) rfl rfl Try.func14 (by kernel_rfl) rfl #[.slice Ao12 t509.length co12, .int .i64 a2] rfl (by (try simp only [List.map_toArray, List.map_cons, List.map_nil]); first | done | rfl | (simp only [List.length_drop, List.length_take]; rfl)) ?_; (with_reducible refine (held_Of.calls _ _ t509 a2 t532 t533 t534 t535 t536 _ ?side1 ?side2 A37.out).mono ?_); (case side1 => repeat (first | exact (Kd.R_reads' HO_7.out).2.2 | (with_reducible refine Kd.C_alloc ?_ _) | (with_reducible refine Kd.C_drewN ?_ _) | (with_reducible refine Kd.C_drew ?_))); (case side2 => exact (Kd.R_reads' HO_7.out).2.1); rintro e w50 ⟨rfl, hb⟩; refine ⟨_, rfl, ?_⟩; have n0_ := Aside0.mk (Kd.R_below (by (with_reducible repeat (first | apply Kd.R_alloc | apply Kd.R_drewN | apply Kd.R_drew)); exact HO_7.out) hb); have n1_ := Aside0.mk (below_step (by repeat (first | (with_reducible first | exact HB.out | apply below_alloc | apply pw_below_drewN | apply below_drew1) | exact HB.out)) hb); clear HO_7; clear HB; have HO_7 := n0_; have HB := n1_; clear n0_ n1_; (try clear hb); (try clear hb2); (try clear hk); (try clear hi)) | ((with_reducible refine gate_dst (N := 14) rfl ?_); refine box_event ?hg (N := 14) ?hd (cs := #[.int .i64 0, .int .i64 0, .int .i64 0]) (t := 32) ?hr ?_; (case hd => rfl); (case hg => rfl); (case hr => first | (go_simp; done) | (go_simp; rfl)); intro gb537 hg w51 hbox hb; have n0_ := Aside0.mk (Kd.R_below (Kd.R_elderB (by (with_reducible repeat (first | apply Kd.R_alloc | apply Kd.R_drewN | apply Kd.R_drew)); exact HO_7.out) gb537 (Nat.le_of_eq hg.symm)) hb); have n1_ := Aside0.mk (below_step (by repeat (first | (with_reducible first | exact HB.out | apply below_alloc | apply pw_below_drewN | apply below_drew1) | exact HB.out)) hb); have n2_ := Aside0.mk (hbox); have n3_ := Aside0.mk ((by rw [hg]; exact (below_size (by repeat (first | (with_reducible first | exact HB.out | apply below_alloc | apply pw_below_drewN | apply below_drew1) | exact HB.out))) : w.heap.size ≤ gb537)); have n4_ := Aside0.mk ((by rw [hg]; exact (below_size (by repeat (first | (with_reducible first | exact HB.out | apply below_alloc | apply pw_below_drewN | apply below_drew1) | exact HB.out))) : w.heap.size ≤ gb537)); clear HO_7; clear HB; have HO_7 := n0_; have HB := n1_; have BK537 := n2_; have GW537 := n3_; have GE537 := n4_; clear n0_ n1_ n2_ n3_ n4_; clear hb hbox hg; have hcz52_0 : w51.cell? ⟨gb537, 0, none⟩ = some (.int .i64 0) := (blk_cell BK537.out 0).trans rfl; have hcz52_1 : w51.cell? ⟨gb537, 1, none⟩ = some (.int .i64 0) := (blk_cell BK537.out 1).trans rfl; have hcz52_2 : w51.cell? ⟨gb537, 2, none⟩ = some (.int .i64 0) := (blk_cell BK537.out 2).trans rfl; have hfz52_0 := blk_frozen BK537.out 0; have hfz52_1 := blk_frozen BK537.out 1; have hfz52_2 := blk_frozen BK537.out 2) | ((with_reducible refine gate_callee (f := 28) rfl ?_); refine goesL_ (some 87) rfl rfl Try.func28 (by kernel_rfl) rfl #[.slice A0 l0.length c0, .int .i64 a2] rfl (by (try simp only [List.map_toArray, List.map_cons, List.map_nil]); first | done | rfl | (simp only [List.length_drop, List.length_take]; rfl)) ?_; (with_reducible refine (headgateref19_Of.calls kj23 _ _ l0 a2 t538 t539 t540 t541 t542 _ ?side1 ?side2 A38.out).mono ?_); (case side1 => exact Kd.C_below HR0.out (by repeat (first | (with_reducible first | exact HB.out | apply below_alloc | apply pw_below_drewN | apply below_drew1 | refine below_set ?_ GE537.out) | exact HB.out))); (case side2 => exact HC0.out); rintro e w53 ⟨rfl, hb⟩; refine ⟨_, rfl, ?_⟩; have n0_ := Aside0.mk (Kd.R_below (by (with_reducible repeat (first | apply Kd.R_alloc | apply Kd.R_drewN | apply Kd.R_drew)); exact (Kd.R_mono (Kd.R_far (p := ⟨gb537, 2, none⟩) (Kd.R_far (p := ⟨gb537, 1, none⟩) (Kd.R_far (p := ⟨gb537, 0, none⟩) (Kd.R_mono HO_7.out (fun k_ hk => (⟨hk, hk.2⟩ : _ ∧ k_ ≠ gb537))) (fun _ hk => hk.2) (.int .i64 t532)) (fun _ hk => hk.2) (.int .i64 t533)) (fun _ hk => hk.2) (.int .i64 t534)) (fun _ h_ => h_.1))) hb); have n1_ := Aside0.mk (blk_below (g := gb537) (o := .cells #[.int .i64 t532, .int .i64 t533, .int .i64 t534] 32 (0, 0)) (by (with_reducible repeat (first | refine blk_drewN ?_ _ | refine blk_drew ?_ | refine blk_alloc ?_ _)); refine blk_put (cs := #[.int .i64 t532, .int .i64 t533, .int .i64 0]) ?_ 2 _ rfl; (with_reducible repeat (first | refine blk_drewN ?_ _ | refine blk_drew ?_ | refine blk_alloc ?_ _)); refine blk_put (cs := #[.int .i64 t532, .int .i64 0, .int .i64 0]) ?_ 1 _ rfl; (with_reducible repeat (first | refine blk_drewN ?_ _ | refine blk_drew ?_ | refine blk_alloc ?_ _)); refine blk_put (cs := #[.int .i64 0, .int .i64 0, .int .i64 0]) ?_ 0 _ rfl; (with_reducible repeat (first | refine blk_drewN ?_ _ | refine blk_drew ?_ | refine blk_alloc ?_ _)); exact BK537.out) hb); have n2_ := Aside0.mk (below_step (by repeat (first | (with_reducible first | exact HB.out | apply below_alloc | apply pw_below_drewN | apply below_drew1 | refine below_set ?_ GE537.out) | exact HB.out)) hb); clear HO_7; clear BK537; clear HB; have HO_7 := n0_; have BK537 := n1_; have HB := n2_; clear n0_ n1_ n2_; (try clear hb); (try clear hb2); (try clear hk); (try clear hi)) | ((with_reducible refine gate_dst (N := 15) rfl ?_); refine box_event ?hg (N := 15) ?hd (cs := #[.int .i64 0, .int .i64 0, .int .i64 0]) (t := 32) ?hr ?_; (case hd => rfl); (case hg => rfl); (case hr => first | (go_simp; done) | (go_simp; rfl)); intro gb543 hg w54 hbox hb; have n0_ := Aside0.mk (Kd.R_below (Kd.R_elderB (by (with_reducible repeat (first | apply Kd.R_alloc | apply Kd.R_drewN | apply Kd.R_drew)); exact HO_7.out) gb543 (Nat.le_of_eq hg.symm)) hb); have n1_ := Aside0.mk (blk_below (g := gb537) (o := .cells #[.int .i64 t532, .int .i64 t533, .int .i64 t534] 32 (0, 0)) (by (with_reducible repeat (first | refine blk_drewN ?_ _ | refine blk_drew ?_ | refine blk_alloc ?_ _)); exact BK537.out) hb); have n2_ := Aside0.mk (below_step (by repeat (first | (with_reducible first | exact HB.out | apply below_alloc | apply pw_below_drewN | apply below_drew1 | refine below_set ?_ GE537.out) | exact HB.out)) hb); have n3_ := Aside0.mk (hbox); have n4_ := Aside0.mk ((by rw [hg]; exact (below_size (by repeat (first | (with_reducible first | exact HB.out | apply below_alloc | apply pw_below_drewN | apply below_drew1 | refine below_set ?_ GE537.out) | exact HB.out))) : w.heap.size ≤ gb543)); have n5_ := Aside0.mk ((by rw [hg]; exact (below_size (by repeat (first | (with_reducible first | exact HB.out | apply below_alloc | apply pw_below_drewN | apply below_drew1 | refine below_set ?_ GE537.out) | exact HB.out))) : w.heap.size ≤ gb543)); have n6_ := Aside0.mk ((by rw [hg]; exact Nat.ne_of_lt (blk_lt (g := gb537) (o := .cells #[.int .i64 t532, .int .i64 t533, .int .i64 t534] 32 (0, 0)) (by (with_reducible repeat (first | refine blk_drewN ?_ _ | refine blk_drew ?_ | refine blk_alloc ?_ _)); exact BK537.out)) : gb537 ≠ gb543)); have n7_ := Aside0.mk ((by rw [hg]; exact Nat.ne_of_gt (blk_lt (g := gb537) (o := .cells #[.int .i64 t532, .int .i64 t533, .int .i64 t534] 32 (0, 0)) (by (with_reducible repeat (first | refine blk_drewN ?_ _ | refine blk_drew ?_ | refine blk_alloc ?_ _)); exact BK537.out)) : gb543 ≠ gb537)); clear HO_7; clear BK537; clear HB; have HO_7 := n0_; have BK537 := n1_; have HB := n2_; have BK543 := n3_; have GW543 := n4_; have GE543 := n5_; have NB537_543 := n6_; have NB543_537 := n7_; clear n0_ n1_ n2_ n3_ n4_ n5_ n6_ n7_; clear hb hbox hg; have hnb55 := NB543_537.out; have hnc55 := NB537_543.out; have hcz56_0 : w54.cell? ⟨gb543, 0, none⟩ = some (.int .i64 0) := (blk_cell BK543.out 0).trans rfl; have hcz56_1 : w54.cell? ⟨gb543, 1, none⟩ = some (.int .i64 0) := (blk_cell BK543.out 1).trans rfl; have hcz56_2 : w54.cell? ⟨gb543, 2, none⟩ = some (.int .i64 0) := (blk_cell BK543.out 2).trans rfl; have hfz56_0 := blk_frozen BK543.out 0; have hfz56_1 := blk_frozen BK543.out 1; have hfz56_2 := blk_frozen BK543.out 2) | ((with_reducible refine gate_callee (f := 29) rfl ?_); refine goesL_ (some 93) rfl rfl Try.func29 (by kernel_rfl) rfl #[.slice Ao12 t509.length co12] rfl (by (try simp only [List.map_toArray, List.map_cons, List.map_nil]); first | done | rfl | (simp only [List.length_drop, List.length_take]; rfl)) ?_; (with_reducible refine (held_Frames.calls _ _ t509 t544 t545 _ ?side1 ?side2 A39.out).mono ?_); (case side1 => refine (Kd.R_reads' (e := 32) (base := w.heap.size) (ok := fun k_ => ((True ∧ k_ ≠ gb537) ∧ k_ ≠ gb543)) (n := t509.length) (c := co12) ?_).2.2; exact (by (with_reducible repeat (first | apply Kd.R_alloc | apply Kd.R_drewN | apply Kd.R_drew)); exact (Kd.R_mono (Kd.R_far (p := ⟨gb543, 2, none⟩) (Kd.R_far (p := ⟨gb543, 1, none⟩) (Kd.R_far (p := ⟨gb543, 0, none⟩) (Kd.R_mono HO_7.out (fun k_ hk => (⟨hk, hk.2⟩ : _ ∧ k_ ≠ gb543))) (fun _ hk => hk.2) (.int .i64 t538)) (fun _ hk => hk.2) (.int .i64 t539)) (fun _ hk => hk.2) (.int .i64 t540)) (fun _ h_ => h_.1)))); (case side2 => exact (Kd.R_reads' HO_7.out).2.1); rintro e w57 ⟨v546, rfl, ho0, hb⟩; refine ⟨_, rfl, ?_⟩; have n0_ := Aside0.mk (Kd.R_below (by (with_reducible repeat (first | apply Kd.R_alloc | apply Kd.R_drewN | apply Kd.R_drew)); exact (Kd.R_mono (Kd.R_far (p := ⟨gb543, 2, none⟩) (Kd.R_far (p := ⟨gb543, 1, none⟩) (Kd.R_far (p := ⟨gb543, 0, none⟩) (Kd.R_mono HO_7.out (fun k_ hk => (⟨hk, hk.2⟩ : _ ∧ k_ ≠ gb543))) (fun _ hk => hk.2) (.int .i64 t538)) (fun _ hk => hk.2) (.int .i64 t539)) (fun _ hk => hk.2) (.int .i64 t540)) (fun _ h_ => h_.1))) hb); have n1_ := Aside0.mk (Kd.R_lower ho0 (below_size (by repeat (first | (with_reducible first | exact HB.out | apply below_alloc | apply pw_below_drewN | apply below_drew1 | refine below_set ?_ GE537.out | refine below_set ?_ GE543.out) | exact HB.out)))); have n2_ := Aside0.mk (blk_below (g := gb537) (o := .cells #[.int .i64 t532, .int .i64 t533, .int .i64 t534] 32 (0, 0)) (by (with_reducible repeat (first | refine blk_drewN ?_ _ | refine blk_drew ?_ | refine blk_alloc ?_ _)); refine blk_far ?_ NB537_543.out _; (with_reducible repeat (first | refine blk_drewN ?_ _ | refine blk_drew ?_ | refine blk_alloc ?_ _)); refine blk_far ?_ NB537_543.out _; (with_reducible repeat (first | refine blk_drewN ?_ _ | refine blk_drew ?_ | refine blk_alloc ?_ _)); refine blk_far ?_ NB537_543.out _; (with_reducible repeat (first | refine blk_drewN ?_ _ | refine blk_drew ?_ | refine blk_alloc ?_ _)); exact BK537.out) hb); have n3_ := Aside0.mk (blk_below (g := gb543) (o := .cells #[.int .i64 t538, .int .i64 t539, .int .i64 t540] 32 (0, 0)) (by (with_reducible repeat (first | refine blk_drewN ?_ _ | refine blk_drew ?_ | refine blk_alloc ?_ _)); refine blk_put (cs := #[.int .i64 t538, .int .i64 t539, .int .i64 0]) ?_ 2 _ rfl; (with_reducible repeat (first | refine blk_drewN ?_ _ | refine blk_drew ?_ | refine blk_alloc ?_ _)); refine blk_put (cs := #[.int .i64 t538, .int .i64 0, .int .i64 0]) ?_ 1 _ rfl; (with_reducible repeat (first | refine blk_drewN ?_ _ | refine blk_drew ?_ | refine blk_alloc ?_ _)); refine blk_put (cs := #[.int .i64 0, .int .i64 0, .int .i64 0]) ?_ 0 _ rfl; (with_reducible repeat (first | refine blk_drewN ?_ _ | refine blk_drew ?_ | refine blk_alloc ?_ _)); exact BK543.out) hb); have n4_ := Aside0.mk (below_step (by repeat (first | (with_reducible first | exact HB.out | apply below_alloc | apply pw_below_drewN | apply below_drew1 | refine below_set ?_ GE537.out | refine below_set ?_ GE543.out) | exact HB.out)) hb); clear HO_7; clear BK537; clear BK543; clear HB; have HO_7 := n0_; have HO547 := n1_; have BK537 := n2_; have BK543 := n3_; have HB := n4_; clear n0_ n1_ n2_ n3_ n4_; (try clear hb); (try clear hb2); (try clear hk); (try clear hi); (try clear ho0)) | ((with_reducible refine gate_callee (f := 30) rfl ?_); refine goesL_ (some 98) rfl rfl Try.func30 (by kernel_rfl) rfl #[.slice A0 l0.length c0] rfl (by (try simp only [List.map_toArray, List.map_cons, List.map_nil]); first | done | rfl | (simp only [List.length_drop, List.length_take]; rfl)) ?_; (with_reducible refine (headgateref19_Frames.calls kj23 _ _ l0 t548 t549 _ ?side1 ?side2 A40.out).mono ?_); (case side1 => repeat (first | exact (Kd.C_below HR0.out HB.out) | (with_reducible refine Kd.C_alloc ?_ _) | (with_reducible refine Kd.C_drewN ?_ _) | (with_reducible refine Kd.C_drew ?_))); (case side2 => exact HC0.out); rintro e w58 ⟨v550, rfl, ho0, hb⟩; refine ⟨_, rfl, ?_⟩; have n0_ := Aside0.mk (Kd.R_below (by (with_reducible repeat (first | apply Kd.R_alloc | apply Kd.R_drewN | apply Kd.R_drew)); exact HO_7.out) hb); have n1_ := Aside0.mk (Kd.R_elder' (by (with_reducible repeat (first | apply Kd.R_alloc | apply Kd.R_drewN | apply Kd.R_drew)); exact HO547.out) (Kd.R_base ho0) hb); have n2_ := Aside0.mk (Kd.R_lower (Kd.R_new' ho0 (Kd.R_lt (by (with_reducible repeat (first | apply Kd.R_alloc | apply Kd.R_drewN | apply Kd.R_drew)); exact HO547.out))) (below_size (by repeat (first | (with_reducible first | exact HB.out | apply below_alloc | apply pw_below_drewN | apply below_drew1 | refine below_set ?_ GE537.out | refine below_set ?_ GE543.out) | exact HB.out)))); have n3_ := Aside0.mk (blk_below (g := gb537) (o := .cells #[.int .i64 t532, .int .i64 t533, .int .i64 t534] 32 (0, 0)) (by (with_reducible repeat (first | refine blk_drewN ?_ _ | refine blk_drew ?_ | refine blk_alloc ?_ _)); exact BK537.out) hb); have n4_ := Aside0.mk (blk_below (g := gb543) (o := .cells #[.int .i64 t538, .int .i64 t539, .int .i64 t540] 32 (0, 0)) (by (with_reducible repeat (first | refine blk_drewN ?_ _ | refine blk_drew ?_ | refine blk_alloc ?_ _)); exact BK543.out) hb); have n5_ := Aside0.mk (below_step (by repeat (first | (with_reducible first | exact HB.out | apply below_alloc | apply pw_below_drewN | apply below_drew1 | refine below_set ?_ GE537.out | refine below_set ?_ GE543.out) | exact HB.out)) hb); clear HO_7; clear HO547; clear BK537; clear BK543; clear HB; have HO_7 := n0_; have HO547 := n1_; have HO551 := n2_; have BK537 := n3_; have BK543 := n4_; have HB := n5_; clear n0_ n1_ n2_ n3_ n4_ n5_; (try clear hb); (try clear hb2); (try clear hk); (try clear hi); (try clear ho0); have hcz59_0 : w58.cell? ⟨gb537, 0, none⟩ = some (.int .i64 t532) := (blk_cell BK537.out 0).trans rfl; have hcz59_1 : w58.cell? ⟨gb537, 1, none⟩ = some (.int .i64 t533) := (blk_cell BK537.out 1).trans rfl; have hcz59_2 : w58.cell? ⟨gb537, 2, none⟩ = some (.int .i64 t534) := (blk_cell BK537.out 2).trans rfl; have hfz59_0 := blk_frozen BK537.out 0; have hfz59_1 := blk_frozen BK537.out 1; have hfz59_2 := blk_frozen BK537.out 2; have hcz60_0 : w58.cell? ⟨gb543, 0, none⟩ = some (.int .i64 t538) := (blk_cell BK543.out 0).trans rfl; have hcz60_1 : w58.cell? ⟨gb543, 1, none⟩ = some (.int .i64 t539) := (blk_cell BK543.out 1).trans rfl; have hcz60_2 : w58.cell? ⟨gb543, 2, none⟩ = some (.int .i64 t540) := (blk_cell BK543.out 2).trans rfl; have hfz60_0 := blk_frozen BK543.out 0; have hfz60_1 := blk_frozen BK543.out 1; have hfz60_2 := blk_frozen BK543.out 2; obtain ⟨Ao61, co61, eo61⟩ := Kd.R_slice HO547.out; subst eo61; obtain ⟨Ao62, co62, eo62⟩ := Kd.R_slice HO551.out; subst eo62) | (go_at_call 31; refine calls_of_args (args' := #[.slice Ao61 t544.length co61, .slice Ao62 t548.length co62]) (by first | rfl) ?_; (with_reducible refine (headgatekit_SameInts.calls kj23 _ _ t544 _ _ t548 true _ ?side1 ?side2 ?side3 ?side4 A44.out).mono ?_); (case side1 => repeat (first | exact (Kd.R_reads' HO547.out).2.2 | (with_reducible refine Kd.C_alloc ?_ _) | (with_reducible refine Kd.C_drewN ?_ _) | (with_reducible refine Kd.C_drew ?_))); (case side2 => exact (Kd.R_reads' HO547.out).2.1); (case side3 => repeat (first | exact (Kd.R_reads' HO551.out).2.2 | (with_reducible refine Kd.C_alloc ?_ _) | (with_reducible refine Kd.C_drewN ?_ _) | (with_reducible refine Kd.C_drew ?_))); (case side4 => exact (Kd.R_reads' HO551.out).2.1); rintro e w' ⟨rfl, ⟨nd, rfl⟩⟩) | (go_at_call 18; refine calls_of_args (args' := #[.slice Ao12 t509.length co12, .slice A0 l0.length c0]) (by first | rfl) ?_; (with_reducible refine (headgatekit_SameWrites.calls kj23 _ _ t509 _ _ l0 true _ ?side1 ?side2 ?side3 ?side4 A47.out).mono ?_); (case side1 => repeat (first | exact (Kd.R_reads' HO_7.out).2.2 | (with_reducible refine Kd.C_alloc ?_ _) | (with_reducible refine Kd.C_drewN ?_ _) | (with_reducible refine Kd.C_drew ?_))); (case side2 => exact (Kd.R_reads' HO_7.out).2.1); (case side3 => repeat (first | exact (Kd.C_below HR0.out (by repeat (first | (with_reducible first | exact HB.out | apply below_alloc | apply pw_below_drewN | apply below_drew1 | refine below_set ?_ GE537.out | refine below_set ?_ GE543.out) | exact HB.out))) | (with_reducible refine Kd.C_alloc ?_ _) | (with_reducible refine Kd.C_drewN ?_ _) | (with_reducible refine Kd.C_drew ?_))); (case side4 => exact HC0.out); rintro e w' ⟨rfl, ⟨nd, rfl⟩⟩) | (go_at_call 10; refine calls_of_args (args' := #[]) (by first | rfl) ?_; (with_reducible refine (headgatelaw19_awake.calls kj23  t554 _ A49.out).mono ?_); rintro e w63 ⟨rfl, hb⟩; have n0_ := Aside0.mk (Kd.R_below (by (with_reducible repeat (first | apply Kd.R_alloc | apply Kd.R_drewN | apply Kd.R_drew)); exact HO_7.out) hb); have n1_ := Aside0.mk (Kd.R_below (by (with_reducible repeat (first | apply Kd.R_alloc | apply Kd.R_drewN | apply Kd.R_drew)); exact HO547.out) hb); have n2_ := Aside0.mk (Kd.R_below (by (with_reducible repeat (first | apply Kd.R_alloc | apply Kd.R_drewN | apply Kd.R_drew)); exact HO551.out) hb); have n3_ := Aside0.mk (blk_below (g := gb537) (o := .cells #[.int .i64 t532, .int .i64 t533, .int .i64 t534] 32 (0, 0)) (by (with_reducible repeat (first | refine blk_drewN ?_ _ | refine blk_drew ?_ | refine blk_alloc ?_ _)); exact BK537.out) hb); have n4_ := Aside0.mk (blk_below (g := gb543) (o := .cells #[.int .i64 t538, .int .i64 t539, .int .i64 t540] 32 (0, 0)) (by (with_reducible repeat (first | refine blk_drewN ?_ _ | refine blk_drew ?_ | refine blk_alloc ?_ _)); exact BK543.out) hb); have n5_ := Aside0.mk (below_step (by repeat (first | (with_reducible first | exact HB.out | apply below_alloc | apply pw_below_drewN | apply below_drew1 | refine below_set ?_ GE537.out | refine below_set ?_ GE543.out) | exact HB.out)) hb); clear HO_7; clear HO547; clear HO551; clear BK537; clear BK543; clear HB; have HO_7 := n0_; have HO547 := n1_; have HO551 := n2_; have BK537 := n3_; have BK543 := n4_; have HB := n5_; clear n0_ n1_ n2_ n3_ n4_ n5_; (try clear hb); (try clear hb2); (try clear hk); (try clear hi)))
              go_ret
              exact ⟨by first | rfl | (simp [errW_none, errW_some] <;> rfl) | (simp [*, errW_none, errW_some] <;> rfl), by repeat (first | (with_reducible first | exact HB.out | apply below_alloc | apply pw_below_drewN | apply below_drew1 | refine below_set ?_ GE537.out | refine below_set ?_ GE543.out) | exact HB.out)⟩
             ·
              replace c48 := Bool.eq_false_iff.mpr c48
              subst c48
              have H1 : (some false) = some r := by rw [if_neg (show ¬ (false = true) by decide)] at H; exact H
              clear H
              have H := H1
              clear H1
              exact absurd H (by rw [HT.out]; simp)
            ·
             rw [if_neg c46] at H
             have c46b0 : (t545 == t549) = false := beq_eq_false_iff_ne.mpr c46
             have c46b1 : (t545 != t549) = true := bne_iff_ne.mpr c46
             exact absurd H (by rw [HT.out]; simp)
           ·
            replace c45 := Bool.eq_false_iff.mpr c45
            subst c45
            have H1 : (some false) = some r := by rw [if_neg (show ¬ (false = true) by decide)] at H; exact H
            clear H
            have H := H1
            clear H1
            exact absurd H (by rw [HT.out]; simp)
          ·
           rw [if_neg c43] at H
           have c43b0 : (t536 == t542) = false := beq_eq_false_iff_ne.mpr c43
           have c43b1 : (t536 != t542) = true := bne_iff_ne.mpr c43
           exact absurd H (by rw [HT.out]; simp)
         ·
          rw [if_neg c42] at H
          have c42b0 : (t535 == t541) = false := by simpa using c42
          (try (have c42b1 : decide (t535 = t541) = false := by simpa using c42))
          (try (have c42b2 : (t535 == t541) = false := by simpa using c42))
          (try (have c42b3 : ¬ (t535 = t541) := by simpa using c42))
          clear c42
          exact absurd H (by rw [HT.out]; simp)
        ·
         rw [if_neg c41] at H
         have c41b0 : (t532 == t538 && (t533 == t539 && (t534 == t540))) = false := by simpa using c41
         (try (have c41b1 : decide (t532 = t538 && (t533 == t539 && (t534 == t540))) = false := by simpa using c41))
         (try (have c41b2 : (t532 == t538 && (t533 == t539 && (t534 == t540))) = false := by simpa using c41))
         (try (have c41b3 : ¬ (t532 = t538 && (t533 == t539 && (t534 == t540))) := by simpa using c41))
         clear c41
         exact absurd H (by rw [HT.out]; simp)

/-- THE ONE PURE STATEMENT of headgatelaw19_HeldClaims. -/
def headgatelaw19_HeldClaims.Pure : Prop := ∀ (l0 : List (S32)) (a1 : Int) (a2 : Int), (l0.length ≤ maxLen ∧ ∀ x ∈ l0, ((Lit.int .i64 x.f0).wf = true) ∧ ((Lit.int .i64 x.f1).wf = true) ∧ ((Lit.int .i64 x.f2).wf = true)) → ((Lit.int .i64 a1).wf = true) → ((Lit.int .i64 a2).wf = true) → ∃ k, headgatelaw19_HeldClaims.f k l0 a1 a2 = some true
theorem headgatelaw19_HeldClaims.walk (P : headgatelaw19_HeldClaims.Pure) (A0 : Option Addr) (c0 : Nat) (l0 : List (S32)) (a1 : Int) (a2 : Int) (w : World) (hr0 : Kd.C k32 w A0 l0.length l0) (hc0 : l0.length ≤ c0) (w0 : l0.length ≤ maxLen ∧ ∀ x ∈ l0, ((Lit.int .i64 x.f0).wf = true) ∧ ((Lit.int .i64 x.f1).wf = true) ∧ ((Lit.int .i64 x.f2).wf = true)) (w1 : (Lit.int .i64 a1).wf = true) (w2 : (Lit.int .i64 a2).wf = true) :
  Calls Try.prog 7 #[.slice A0 l0.length c0, .int .i64 a1, .int .i64 a2] w fun e w' => e = .returned (.bool true) ∧ Below w.heap.size w w' := by
 obtain ⟨k, h⟩ := P l0 a1 a2 w0 w1 w2
 refine (headgatelaw19_HeldClaims.calls k A0 c0 l0 a1 a2 true w hr0 hc0 ⟨rfl⟩ h).mono ?_
 rintro e w' ⟨rfl, hd⟩
 exact ⟨rfl, hd⟩

end Go.Proofs.Ytfnhoncpaheejaa.X
