/- What Go functions of this seat compute, told as Lean functions, and that each call of the Go code comes to that answer; for a law: its row, for every input. Written by a program of the session. -/
import Derived.Test.YtfnhoncpaheejaaX0
import Derived.Test.YtfnhoncpaheejaaX1
import Derived.Test.YtfnhoncpaheejaaX12
import Derived.Test.YtfnhoncpaheejaaX14
import Derived.Test.YtfnhoncpaheejaaX16
import Derived.Test.YtfnhoncpaheejaaX17
import Derived.Test.YtfnhoncpaheejaaX21
import Derived.Test.YtfnhoncpaheejaaX26
import Derived.Test.YtfnhoncpaheejaaX28
import Derived.Test.YtfnhoncpaheejaaX30
import Derived.Test.YtfnhoncpaheejaaX33
import Derived.Test.YtfnhoncpaheejaaX35
import Derived.Test.YtfnhoncpaheejaaX36
namespace Go.Proofs.Ytfnhoncpaheejaa.X
open Go.RowKit Go.Proofs.YtfnhoncpaheejaaW.PrintWords Go.Proofs.YtfnhoncpaheejaaW.PrintLast Go.Proofs.YtfnhoncpaheejaaW.PrintMore
attribute [local go_sem] max2_int min2_int max_two min_two max_three min_three max_four min_four   -- for this text's walks alone
set_option linter.unusedVariables false
set_option linter.unusedSimpArgs false

attribute [local go_sem high] eqA32
/-! ### headgatelaw19_HeldChanges: function 5 -/
def headgatelaw19_HeldChanges.j0 : Nat → List (S32) → Int → List (S32) → Bool → Option (Bool)
 | 0, _, _, _, _ => none
 | k + 1, x0, x1, x7, x66 => if x66 = true then (some false) else ((held_Find.f x7 x1).bind fun bt309 => ((headgateref19_Find.f k x0 x1).bind fun bt311 => ((held_Remove.f x7 x1).bind fun bt313 => ((headgateref19_Remove.f k x0 x1).bind fun bt321 => (if bt309.1 = bt311.1 then (if bt309.2 = bt311.2 then ((headgatekit_SameWrites.f k bt313.1 bt321.1).bind fun t329 => (if t329 = true then (if (bt313.2.1 == bt321.2.1 && (bt313.2.2.1 == bt321.2.2.1 && (bt313.2.2.2.1 == bt321.2.2.2.1))) = true then (if bt313.2.2.2.2 = bt321.2.2.2.2 then ((headgatekit_SameWrites.f k x7 x0).bind fun t330 => (if t330 = true then ((headgatelaw19_awake.f k).bind fun t331 => (some t331)) else (some false))) else (some false)) else (some false)) else (some false))) else (some false)) else (some false))))))
def headgatelaw19_HeldChanges.f (k : Nat) (l0 : List (S32)) (a1 : Int) (a2 : Int) : Option (Bool) := if (l0.length : Int) > 20 then ((headgatelaw19_awake.f k).bind fun t292 => (some t292)) else ((headgatekit_OwnWrites.f l0).bind fun t293 => ((held_Check.f t293).bind fun bt296 => ((headgateref19_Check.f k l0).bind fun bt298 => ((held_Add.f t293 a1 a2).bind fun bt300 => ((headgateref19_Add.f k l0 a1 a2).bind fun bt304 => (if bt296.1 = bt298.1 then (if bt296.2 = bt298.2 then ((headgatekit_SameWrites.f k bt300.1 bt304.1).bind fun t308 => (if t308 = true then (headgatelaw19_HeldChanges.j0 k l0 a1 t293 (bt300.2 != bt304.2)) else (headgatelaw19_HeldChanges.j0 k l0 a1 t293 true))) else (headgatelaw19_HeldChanges.j0 k l0 a1 t293 true)) else (headgatelaw19_HeldChanges.j0 k l0 a1 t293 true)))))))
theorem headgatelaw19_HeldChanges.mono_l : ∀ k, (∀ y0 y1 y2 y3, LeO (headgatelaw19_HeldChanges.j0 k y0 y1 y2 y3) (headgatelaw19_HeldChanges.j0 (k + 1) y0 y1 y2 y3))
 | 0 => fun _ _ _ _ r h => by simp [headgatelaw19_HeldChanges.j0] at h
 | k + 1 => by
  have ih0 := headgatelaw19_HeldChanges.mono_l k
  ·
   intro y0 y1 y2 y3
   unfold headgatelaw19_HeldChanges.j0
   repeat' first
   | (with_reducible exact ih0 _ _ _ _)
   | (with_reducible exact headgatekit_SameWrites.mono _ _ _)
   | (with_reducible exact headgatelaw19_awake.mono _)
   | (with_reducible exact headgateref19_Add.mono _ _ _ _)
   | (with_reducible exact headgateref19_Check.mono _ _)
   | (with_reducible exact headgateref19_Find.mono _ _ _)
   | (with_reducible exact headgateref19_Remove.mono _ _ _)
   | (with_reducible exact LeO.refl _)
   | (with_reducible exact LeO.none _)
   | (with_reducible refine LeO.ite ?_ ?_)
   | (with_reducible refine LeO.bind ?_ (fun _ => ?_))
   | exact ih0 _ _ _ _
   | exact headgatekit_SameWrites.mono _ _ _
   | exact headgatelaw19_awake.mono _
   | exact headgateref19_Add.mono _ _ _ _
   | exact headgateref19_Check.mono _ _
   | exact headgateref19_Find.mono _ _ _
   | exact headgateref19_Remove.mono _ _ _
   | exact LeO.none _
   | refine LeO.ite ?_ ?_
   | refine LeO.bind ?_ (fun _ => ?_)
theorem headgatelaw19_HeldChanges.mono : ∀ a0 a1 a2 k, LeO (headgatelaw19_HeldChanges.f k a0 a1 a2) (headgatelaw19_HeldChanges.f (k + 1) a0 a1 a2) := by
 intro a0 a1 a2 k
 have ih0 := headgatelaw19_HeldChanges.mono_l k
 unfold headgatelaw19_HeldChanges.f
 repeat' first
   | (with_reducible exact ih0 _ _ _ _)
   | (with_reducible exact headgatekit_SameWrites.mono _ _ _)
   | (with_reducible exact headgatelaw19_awake.mono _)
   | (with_reducible exact headgateref19_Add.mono _ _ _ _)
   | (with_reducible exact headgateref19_Check.mono _ _)
   | (with_reducible exact headgateref19_Find.mono _ _ _)
   | (with_reducible exact headgateref19_Remove.mono _ _ _)
   | (with_reducible exact LeO.refl _)
   | (with_reducible exact LeO.none _)
   | (with_reducible refine LeO.ite ?_ ?_)
   | (with_reducible refine LeO.bind ?_ (fun _ => ?_))
   | exact ih0 _ _ _ _
   | exact headgatekit_SameWrites.mono _ _ _
   | exact headgatelaw19_awake.mono _
   | exact headgateref19_Add.mono _ _ _ _
   | exact headgateref19_Check.mono _ _
   | exact headgateref19_Find.mono _ _ _
   | exact headgateref19_Remove.mono _ _ _
   | exact LeO.none _
   | refine LeO.ite ?_ ?_
   | refine LeO.bind ?_ (fun _ => ?_)
set_option maxHeartbeats 2000000 in
set_option maxRecDepth 100000 in
theorem headgatelaw19_HeldChanges.calls (k : Nat) (A0 : Option Addr) (c0 : Nat) (l0 : List (S32)) (a1 : Int) (a2 : Int) (r : Bool) (w : World) (hr0 : Kd.C k32 w A0 l0.length l0) (hc0 : l0.length ≤ c0) (HT : Aside0 (r = true)) (h : headgatelaw19_HeldChanges.f k l0 a1 a2 = some r) :
  Calls Try.prog 5 #[.slice A0 l0.length c0, .int .i64 a1, .int .i64 a2] w fun e w' => e = .returned (.bool r) ∧ Below w.heap.size w w' := by
 have hu32 := Try.underlying32
 have HR0 := Aside0.mk hr0
 have HC0 := Aside0.mk hc0
 clear hr0 hc0
 have HB := Aside0.mk (Below.refl w.heap.size w)
 have H : (if (l0.length : Int) > 20 then ((headgatelaw19_awake.f k).bind fun t292 => (some t292)) else ((headgatekit_OwnWrites.f l0).bind fun t293 => ((held_Check.f t293).bind fun bt296 => ((headgateref19_Check.f k l0).bind fun bt298 => ((held_Add.f t293 a1 a2).bind fun bt300 => ((headgateref19_Add.f k l0 a1 a2).bind fun bt304 => (if bt296.1 = bt298.1 then (if bt296.2 = bt298.2 then ((headgatekit_SameWrites.f k bt300.1 bt304.1).bind fun t308 => (if t308 = true then (headgatelaw19_HeldChanges.j0 k l0 a1 t293 (bt300.2 != bt304.2)) else (headgatelaw19_HeldChanges.j0 k l0 a1 t293 true))) else (headgatelaw19_HeldChanges.j0 k l0 a1 t293 true)) else (headgatelaw19_HeldChanges.j0 k l0 a1 t293 true)))))))) = some r := h
 clear h
 by_cases c4 : (l0.length : Int) > 20
 ·
  rw [if_pos c4] at H
  have c4b0 : decide (20 < (l0.length : Int)) = true := decide_eq_true c4
  have c4b1 : decide (20 < l0.length) = true := decide_eq_true (by omega)
  clear c4
  replace H := Option.bind_eq_some_iff.mp H
  obtain ⟨t292, A50, H⟩ := H
  replace H : (some t292) = some r := H
  have A5 := Aside0.mk A50
  clear A50
  obtain rfl := Option.some.inj H
  go_enter Try.func5, Try.ntmps5
  go_wp2_with (first | ((with_reducible refine gate_callee (f := 10) rfl ?_); refine goesL_ (some 21) rfl rfl Try.func10 (by kernel_rfl) rfl #[] rfl (by (try simp only [List.map_toArray, List.map_cons, List.map_nil]); first | done | rfl | (simp only [List.length_drop, List.length_take]; rfl)) ?_; (with_reducible refine (headgatelaw19_awake.calls k  t292 _ A5.out).mono ?_); rintro e w6 ⟨rfl, hb⟩; refine ⟨_, rfl, ?_⟩; have n0_ := Aside0.mk (below_step (by repeat (first | (with_reducible first | exact HB.out | apply below_alloc | apply pw_below_drewN | apply below_drew1) | exact HB.out)) hb); clear HB; have HB := n0_; clear n0_; (try clear hb); (try clear hb2); (try clear hk); (try clear hi)))
  go_ret
  exact ⟨by first | rfl | (simp [errW_none, errW_some] <;> rfl) | (simp [*, errW_none, errW_some] <;> rfl), by repeat (first | (with_reducible first | exact HB.out | apply below_alloc | apply pw_below_drewN | apply below_drew1) | exact HB.out)⟩
 ·
  rw [if_neg c4] at H
  have c4b0 : decide (20 < (l0.length : Int)) = false := decide_eq_false c4
  have c4b1 : decide (20 < l0.length) = false := decide_eq_false (by omega)
  clear c4
  replace H := Option.bind_eq_some_iff.mp H
  obtain ⟨t293, A70, H⟩ := H
  replace H : ((held_Check.f t293).bind fun bt296 => ((headgateref19_Check.f k l0).bind fun bt298 => ((held_Add.f t293 a1 a2).bind fun bt300 => ((headgateref19_Add.f k l0 a1 a2).bind fun bt304 => (if bt296.1 = bt298.1 then (if bt296.2 = bt298.2 then ((headgatekit_SameWrites.f k bt300.1 bt304.1).bind fun t308 => (if t308 = true then (headgatelaw19_HeldChanges.j0 k l0 a1 t293 (bt300.2 != bt304.2)) else (headgatelaw19_HeldChanges.j0 k l0 a1 t293 true))) else (headgatelaw19_HeldChanges.j0 k l0 a1 t293 true)) else (headgatelaw19_HeldChanges.j0 k l0 a1 t293 true)))))) = some r := H
  have A7 := Aside0.mk A70
  clear A70
  replace H := Option.bind_eq_some_iff.mp H
  obtain ⟨⟨t296, t297⟩, A80, H⟩ := H
  replace H : ((headgateref19_Check.f k l0).bind fun bt298 => ((held_Add.f t293 a1 a2).bind fun bt300 => ((headgateref19_Add.f k l0 a1 a2).bind fun bt304 => (if t296 = bt298.1 then (if t297 = bt298.2 then ((headgatekit_SameWrites.f k bt300.1 bt304.1).bind fun t308 => (if t308 = true then (headgatelaw19_HeldChanges.j0 k l0 a1 t293 (bt300.2 != bt304.2)) else (headgatelaw19_HeldChanges.j0 k l0 a1 t293 true))) else (headgatelaw19_HeldChanges.j0 k l0 a1 t293 true)) else (headgatelaw19_HeldChanges.j0 k l0 a1 t293 true))))) = some r := H
  have A8 := Aside0.mk A80
  clear A80
  replace H := Option.bind_eq_some_iff.mp H
  obtain ⟨⟨t298, t299⟩, A90, H⟩ := H
  replace H : ((held_Add.f t293 a1 a2).bind fun bt300 => ((headgateref19_Add.f k l0 a1 a2).bind fun bt304 => (if t296 = t298 then (if t297 = t299 then ((headgatekit_SameWrites.f k bt300.1 bt304.1).bind fun t308 => (if t308 = true then (headgatelaw19_HeldChanges.j0 k l0 a1 t293 (bt300.2 != bt304.2)) else (headgatelaw19_HeldChanges.j0 k l0 a1 t293 true))) else (headgatelaw19_HeldChanges.j0 k l0 a1 t293 true)) else (headgatelaw19_HeldChanges.j0 k l0 a1 t293 true)))) = some r := H
  have A9 := Aside0.mk A90
  clear A90
  replace H := Option.bind_eq_some_iff.mp H
  obtain ⟨⟨t300, t301⟩, A100, H⟩ := H
  replace H : ((headgateref19_Add.f k l0 a1 a2).bind fun bt304 => (if t296 = t298 then (if t297 = t299 then ((headgatekit_SameWrites.f k t300 bt304.1).bind fun t308 => (if t308 = true then (headgatelaw19_HeldChanges.j0 k l0 a1 t293 (t301 != bt304.2)) else (headgatelaw19_HeldChanges.j0 k l0 a1 t293 true))) else (headgatelaw19_HeldChanges.j0 k l0 a1 t293 true)) else (headgatelaw19_HeldChanges.j0 k l0 a1 t293 true))) = some r := H
  have A10 := Aside0.mk A100
  clear A100
  replace H := Option.bind_eq_some_iff.mp H
  obtain ⟨⟨t304, t305⟩, A110, H⟩ := H
  replace H : (if t296 = t298 then (if t297 = t299 then ((headgatekit_SameWrites.f k t300 t304).bind fun t308 => (if t308 = true then (headgatelaw19_HeldChanges.j0 k l0 a1 t293 (t301 != t305)) else (headgatelaw19_HeldChanges.j0 k l0 a1 t293 true))) else (headgatelaw19_HeldChanges.j0 k l0 a1 t293 true)) else (headgatelaw19_HeldChanges.j0 k l0 a1 t293 true)) = some r := H
  have A11 := Aside0.mk A110
  clear A110
  have HC12 := Aside0.mk H
  clear H
  go_enter Try.func5, Try.ntmps5
  go_upto_region 8 with (first | ((with_reducible refine gate_callee (f := 13) rfl ?_); refine goesL_ (some 23) rfl rfl Try.func13 (by kernel_rfl) rfl #[.slice A0 l0.length c0] rfl (by (try simp only [List.map_toArray, List.map_cons, List.map_nil]); first | done | rfl | (simp only [List.length_drop, List.length_take]; rfl)) ?_; (with_reducible refine (headgatekit_OwnWrites.calls _ _ l0 t293 _ ?side1 ?side2 A7.out).mono ?_); (case side1 => repeat (first | exact HR0.out | (with_reducible refine Kd.C_alloc ?_ _) | (with_reducible refine Kd.C_drewN ?_ _) | (with_reducible refine Kd.C_drew ?_))); (case side2 => exact HC0.out); rintro e w13 ⟨v294, rfl, ho0, hb⟩; refine ⟨_, rfl, ?_⟩; have n0_ := Aside0.mk (Kd.R_lower ho0 (below_size (by repeat (first | (with_reducible first | exact HB.out | apply below_alloc | apply pw_below_drewN | apply below_drew1) | exact HB.out)))); have n1_ := Aside0.mk (below_step (by repeat (first | (with_reducible first | exact HB.out | apply below_alloc | apply pw_below_drewN | apply below_drew1) | exact HB.out)) hb); clear HB; have HO295 := n0_; have HB := n1_; clear n0_ n1_; (try clear hb); (try clear hb2); (try clear hk); (try clear hi); (try clear ho0); obtain ⟨Ao14, co14, eo14⟩ := Kd.R_slice HO295.out; subst eo14) | ((with_reducible refine gate_callee (f := 19) rfl ?_); refine goesL_ (some 26) rfl rfl Try.func19 (by kernel_rfl) rfl #[.slice Ao14 t293.length co14] rfl (by (try simp only [List.map_toArray, List.map_cons, List.map_nil]); first | done | rfl | (simp only [List.length_drop, List.length_take]; rfl)) ?_; (with_reducible refine (held_Check.calls _ _ t293 t296 t297 _ ?side1 ?side2 A8.out).mono ?_); (case side1 => repeat (first | exact (Kd.R_reads' HO295.out).2.2 | (with_reducible refine Kd.C_alloc ?_ _) | (with_reducible refine Kd.C_drewN ?_ _) | (with_reducible refine Kd.C_drew ?_))); (case side2 => exact (Kd.R_reads' HO295.out).2.1); rintro e w15 ⟨rfl, hb⟩; refine ⟨_, rfl, ?_⟩; have n0_ := Aside0.mk (Kd.R_below (by (with_reducible repeat (first | apply Kd.R_alloc | apply Kd.R_drewN | apply Kd.R_drew)); exact HO295.out) hb); have n1_ := Aside0.mk (below_step (by repeat (first | (with_reducible first | exact HB.out | apply below_alloc | apply pw_below_drewN | apply below_drew1) | exact HB.out)) hb); clear HO295; clear HB; have HO295 := n0_; have HB := n1_; clear n0_ n1_; (try clear hb); (try clear hb2); (try clear hk); (try clear hi)) | ((with_reducible refine gate_callee (f := 20) rfl ?_); refine goesL_ (some 31) rfl rfl Try.func20 (by kernel_rfl) rfl #[.slice A0 l0.length c0] rfl (by (try simp only [List.map_toArray, List.map_cons, List.map_nil]); first | done | rfl | (simp only [List.length_drop, List.length_take]; rfl)) ?_; (with_reducible refine (headgateref19_Check.calls k _ _ l0 t298 t299 _ ?side1 ?side2 A9.out).mono ?_); (case side1 => repeat (first | exact (Kd.C_below HR0.out HB.out) | (with_reducible refine Kd.C_alloc ?_ _) | (with_reducible refine Kd.C_drewN ?_ _) | (with_reducible refine Kd.C_drew ?_))); (case side2 => exact HC0.out); rintro e w16 ⟨rfl, hb⟩; refine ⟨_, rfl, ?_⟩; have n0_ := Aside0.mk (Kd.R_below (by (with_reducible repeat (first | apply Kd.R_alloc | apply Kd.R_drewN | apply Kd.R_drew)); exact HO295.out) hb); have n1_ := Aside0.mk (below_step (by repeat (first | (with_reducible first | exact HB.out | apply below_alloc | apply pw_below_drewN | apply below_drew1) | exact HB.out)) hb); clear HO295; clear HB; have HO295 := n0_; have HB := n1_; clear n0_ n1_; (try clear hb); (try clear hb2); (try clear hk); (try clear hi)) | ((with_reducible refine gate_callee (f := 21) rfl ?_); refine goesL_ (some 38) rfl rfl Try.func21 (by kernel_rfl) rfl #[.slice Ao14 t293.length co14, .int .i64 a1, .int .i64 a2] rfl (by (try simp only [List.map_toArray, List.map_cons, List.map_nil]); first | done | rfl | (simp only [List.length_drop, List.length_take]; rfl)) ?_; (with_reducible refine (held_Add.calls _ _ t293 a1 a2 t300 t301 _ ?side1 ?side2 A10.out).mono ?_); (case side1 => repeat (first | exact (Kd.R_reads' HO295.out).2.2 | (with_reducible refine Kd.C_alloc ?_ _) | (with_reducible refine Kd.C_drewN ?_ _) | (with_reducible refine Kd.C_drew ?_))); (case side2 => exact (Kd.R_reads' HO295.out).2.1); rintro e w17 ⟨v302, rfl, ho0, hb⟩; refine ⟨_, rfl, ?_⟩; have n0_ := Aside0.mk (Kd.R_elder' (by (with_reducible repeat (first | apply Kd.R_alloc | apply Kd.R_drewN | apply Kd.R_drew)); exact HO295.out) (Kd.R_base ho0) hb); have n1_ := Aside0.mk (Kd.R_lower (Kd.R_new' ho0 (Kd.R_lt (by (with_reducible repeat (first | apply Kd.R_alloc | apply Kd.R_drewN | apply Kd.R_drew)); exact HO295.out))) (below_size (by repeat (first | (with_reducible first | exact HB.out | apply below_alloc | apply pw_below_drewN | apply below_drew1) | exact HB.out)))); have n2_ := Aside0.mk (below_step (by repeat (first | (with_reducible first | exact HB.out | apply below_alloc | apply pw_below_drewN | apply below_drew1) | exact HB.out)) hb); clear HO295; clear HB; have HO295 := n0_; have HO303 := n1_; have HB := n2_; clear n0_ n1_ n2_; (try clear hb); (try clear hb2); (try clear hk); (try clear hi); (try clear ho0)) | ((with_reducible refine gate_callee (f := 22) rfl ?_); refine goesL_ (some 45) rfl rfl Try.func22 (by kernel_rfl) rfl #[.slice A0 l0.length c0, .int .i64 a1, .int .i64 a2] rfl (by (try simp only [List.map_toArray, List.map_cons, List.map_nil]); first | done | rfl | (simp only [List.length_drop, List.length_take]; rfl)) ?_; (with_reducible refine (headgateref19_Add.calls k _ _ l0 a1 a2 t304 t305 _ ?side1 ?side2 A11.out).mono ?_); (case side1 => repeat (first | exact (Kd.C_below HR0.out HB.out) | (with_reducible refine Kd.C_alloc ?_ _) | (with_reducible refine Kd.C_drewN ?_ _) | (with_reducible refine Kd.C_drew ?_))); (case side2 => exact HC0.out); rintro e w18 ⟨v306, rfl, ho0, hb⟩; refine ⟨_, rfl, ?_⟩; have n0_ := Aside0.mk (Kd.R_elder' (by (with_reducible repeat (first | apply Kd.R_alloc | apply Kd.R_drewN | apply Kd.R_drew)); exact HO295.out) (Kd.R_base ho0) hb); have n1_ := Aside0.mk (Kd.R_elder' (by (with_reducible repeat (first | apply Kd.R_alloc | apply Kd.R_drewN | apply Kd.R_drew)); exact HO303.out) (Kd.R_base ho0) hb); have n2_ := Aside0.mk (Kd.R_lower (Kd.R_new' (Kd.R_new' ho0 (Kd.R_lt (by (with_reducible repeat (first | apply Kd.R_alloc | apply Kd.R_drewN | apply Kd.R_drew)); exact HO295.out))) (Kd.R_lt (by (with_reducible repeat (first | apply Kd.R_alloc | apply Kd.R_drewN | apply Kd.R_drew)); exact HO303.out))) (below_size (by repeat (first | (with_reducible first | exact HB.out | apply below_alloc | apply pw_below_drewN | apply below_drew1) | exact HB.out)))); have n3_ := Aside0.mk (below_step (by repeat (first | (with_reducible first | exact HB.out | apply below_alloc | apply pw_below_drewN | apply below_drew1) | exact HB.out)) hb); clear HO295; clear HO303; clear HB; have HO295 := n0_; have HO303 := n1_; have HO307 := n2_; have HB := n3_; clear n0_ n1_ n2_ n3_; (try clear hb); (try clear hb2); (try clear hk); (try clear hi); (try clear ho0)))
  (try simp only [Act.put, List.setIfInBounds_toArray, List.set_cons_zero, List.set_cons_succ])
  go_cut [66] (fun v66 wc => ∃ (kq : Nat) (x66_11 : Bool), v66 = .bool x66_11 ∧ Aside0 (headgatelaw19_HeldChanges.j0 kq l0 a1 t293 x66_11 = some r) ∧ Aside0 (kq ≤ k) ∧ Aside0 (Kd.R k32 32 wc w.heap.size (fun _ => True) (.slice Ao14 t293.length co14) t293) ∧ Aside0 (Below w.heap.size w wc))
  case first =>
   have H := HC12.out
   clear HC12
   by_cases c19 : t296 = t298
   ·
    rw [if_pos c19] at H
    have c19b0 : (t296 == t298) = true := beq_iff_eq.mpr c19
    have c19b1 : (t296 != t298) = false := bne_eq_false_iff_eq.mpr c19
    clear c19
    (first | rw [c19b0] | (simp only [i64_w, i32_w]; rw [c19b0]) | skip)
    by_cases c20 : t297 = t299
    ·
     rw [if_pos c20] at H
     have c20b0 : (t297 == t299) = true := beq_iff_eq.mpr c20
     have c20b1 : (t297 != t299) = false := bne_eq_false_iff_eq.mpr c20
     clear c20
     replace H := Option.bind_eq_some_iff.mp H
     obtain ⟨t308, A210, H⟩ := H
     replace H : (if t308 = true then (headgatelaw19_HeldChanges.j0 k l0 a1 t293 (t301 != t305)) else (headgatelaw19_HeldChanges.j0 k l0 a1 t293 true)) = some r := H
     have A21 := Aside0.mk A210
     clear A210
     by_cases c22 : t308 = true
     ·
      subst c22
      have H1 : (headgatelaw19_HeldChanges.j0 k l0 a1 t293 (t301 != t305)) = some r := by rw [if_pos rfl] at H; exact H
      clear H
      have H := H1
      clear H1
      have H' := Aside0.mk H
      clear H
      obtain ⟨Ao23, co23, eo23⟩ := Kd.R_slice HO303.out
      subst eo23
      obtain ⟨Ao24, co24, eo24⟩ := Kd.R_slice HO307.out
      subst eo24
      go_wp2_with (first | (go_at_call 18; refine calls_of_args (args' := #[.slice Ao23 t300.length co23, .slice Ao24 t304.length co24]) (by first | rfl) ?_; (with_reducible refine (headgatekit_SameWrites.calls k _ _ t300 _ _ t304 true _ ?side1 ?side2 ?side3 ?side4 A21.out).mono ?_); (case side1 => repeat (first | exact (Kd.R_reads' HO303.out).2.2 | (with_reducible refine Kd.C_alloc ?_ _) | (with_reducible refine Kd.C_drewN ?_ _) | (with_reducible refine Kd.C_drew ?_))); (case side2 => exact (Kd.R_reads' HO303.out).2.1); (case side3 => repeat (first | exact (Kd.R_reads' HO307.out).2.2 | (with_reducible refine Kd.C_alloc ?_ _) | (with_reducible refine Kd.C_drewN ?_ _) | (with_reducible refine Kd.C_drew ?_))); (case side4 => exact (Kd.R_reads' HO307.out).2.1); rintro e w' ⟨rfl, ⟨nd, rfl⟩⟩))
      go_meet
      case rel => exact ⟨_, ((t301 != t305)), (by first | rfl | (simp; done) | (simp [*]; done)), H', ⟨by first | omega | exact Nat.le_refl _⟩, ⟨by (with_reducible repeat (first | apply Kd.R_alloc | apply Kd.R_drewN | apply Kd.R_drew)); exact Kd.R_mono HO295.out (fun _ hk => trivial)⟩, ⟨by repeat (first | (with_reducible first | exact HB.out | apply below_alloc | apply pw_below_drewN | apply below_drew1) | exact HB.out)⟩⟩
     ·
      replace c22 := Bool.eq_false_iff.mpr c22
      subst c22
      have H1 : (headgatelaw19_HeldChanges.j0 k l0 a1 t293 true) = some r := by rw [if_neg (show ¬ (false = true) by decide)] at H; exact H
      clear H
      have H := H1
      clear H1
      have H' := Aside0.mk H
      clear H
      obtain ⟨Ao25, co25, eo25⟩ := Kd.R_slice HO303.out
      subst eo25
      obtain ⟨Ao26, co26, eo26⟩ := Kd.R_slice HO307.out
      subst eo26
      go_wp2_with (first | (go_at_call 18; refine calls_of_args (args' := #[.slice Ao25 t300.length co25, .slice Ao26 t304.length co26]) (by first | rfl) ?_; (with_reducible refine (headgatekit_SameWrites.calls k _ _ t300 _ _ t304 false _ ?side1 ?side2 ?side3 ?side4 A21.out).mono ?_); (case side1 => repeat (first | exact (Kd.R_reads' HO303.out).2.2 | (with_reducible refine Kd.C_alloc ?_ _) | (with_reducible refine Kd.C_drewN ?_ _) | (with_reducible refine Kd.C_drew ?_))); (case side2 => exact (Kd.R_reads' HO303.out).2.1); (case side3 => repeat (first | exact (Kd.R_reads' HO307.out).2.2 | (with_reducible refine Kd.C_alloc ?_ _) | (with_reducible refine Kd.C_drewN ?_ _) | (with_reducible refine Kd.C_drew ?_))); (case side4 => exact (Kd.R_reads' HO307.out).2.1); rintro e w' ⟨rfl, ⟨nd, rfl⟩⟩))
      go_meet
      case rel => exact ⟨_, (true), (by first | rfl | (simp; done) | (simp [*]; done)), H', ⟨by first | omega | exact Nat.le_refl _⟩, ⟨by (with_reducible repeat (first | apply Kd.R_alloc | apply Kd.R_drewN | apply Kd.R_drew)); exact Kd.R_mono HO295.out (fun _ hk => trivial)⟩, ⟨by repeat (first | (with_reducible first | exact HB.out | apply below_alloc | apply pw_below_drewN | apply below_drew1) | exact HB.out)⟩⟩
    ·
     rw [if_neg c20] at H
     have c20b0 : (t297 == t299) = false := beq_eq_false_iff_ne.mpr c20
     have c20b1 : (t297 != t299) = true := bne_iff_ne.mpr c20
     have H' := Aside0.mk H
     clear H
     go_wp2
     go_meet
     case rel => exact ⟨_, (true), (by first | rfl | (simp; done) | (simp [*]; done)), H', ⟨by first | omega | exact Nat.le_refl _⟩, ⟨by (with_reducible repeat (first | apply Kd.R_alloc | apply Kd.R_drewN | apply Kd.R_drew)); exact Kd.R_mono HO295.out (fun _ hk => trivial)⟩, ⟨by repeat (first | (with_reducible first | exact HB.out | apply below_alloc | apply pw_below_drewN | apply below_drew1) | exact HB.out)⟩⟩
   ·
    rw [if_neg c19] at H
    have c19b0 : (t296 == t298) = false := beq_eq_false_iff_ne.mpr c19
    have c19b1 : (t296 != t298) = true := bne_iff_ne.mpr c19
    (first | rw [c19b0] | (simp only [i64_w, i32_w]; rw [c19b0]) | skip)
    have H' := Aside0.mk H
    clear H
    go_wp2
    go_meet
    case rel => exact ⟨_, (true), (by first | rfl | (simp; done) | (simp [*]; done)), H', ⟨by first | omega | exact Nat.le_refl _⟩, ⟨by (with_reducible repeat (first | apply Kd.R_alloc | apply Kd.R_drewN | apply Kd.R_drew)); exact Kd.R_mono HO295.out (fun _ hk => trivial)⟩, ⟨by repeat (first | (with_reducible first | exact HB.out | apply below_alloc | apply pw_below_drewN | apply below_drew1) | exact HB.out)⟩⟩
  case rest =>
   clear HC12
   try clear c1
   try clear c2
   try clear p2
   try clear c4
   try clear c4b0
   try clear c4b1
   try clear c5
   try clear c10
   try clear c13
   try clear c19
   try clear c19b0
   try clear c19b1
   try clear c20
   try clear c20b0
   try clear c20b1
   try clear c21
   try clear c22
   obtain ⟨kq, x66_11, rfl, HA, HJ11, HO_7, HB⟩ := hcut
   cases kq with
   | zero => exact absurd HA.out (by simp [headgatelaw19_HeldChanges.j0])
   | succ kj11 =>
    have H := HA.out
    clear HA
    simp only [headgatelaw19_HeldChanges.j0] at H
    by_cases c27 : x66_11 = true
    ·
     subst c27
     have H1 : (some false) = some r := by rw [if_pos rfl] at H; exact H
     clear H
     have H := H1
     clear H1
     exact absurd H (by rw [HT.out]; simp)
    ·
     replace c27 := Bool.eq_false_iff.mpr c27
     subst c27
     have H1 : ((held_Find.f t293 a1).bind fun bt309 => ((headgateref19_Find.f kj11 l0 a1).bind fun bt311 => ((held_Remove.f t293 a1).bind fun bt313 => ((headgateref19_Remove.f kj11 l0 a1).bind fun bt321 => (if bt309.1 = bt311.1 then (if bt309.2 = bt311.2 then ((headgatekit_SameWrites.f kj11 bt313.1 bt321.1).bind fun t329 => (if t329 = true then (if (bt313.2.1 == bt321.2.1 && (bt313.2.2.1 == bt321.2.2.1 && (bt313.2.2.2.1 == bt321.2.2.2.1))) = true then (if bt313.2.2.2.2 = bt321.2.2.2.2 then ((headgatekit_SameWrites.f kj11 t293 l0).bind fun t330 => (if t330 = true then ((headgatelaw19_awake.f kj11).bind fun t331 => (some t331)) else (some false))) else (some false)) else (some false)) else (some false))) else (some false)) else (some false)))))) = some r := by rw [if_neg (show ¬ (false = true) by decide)] at H; exact H
     clear H
     have H := H1
     clear H1
     replace H := Option.bind_eq_some_iff.mp H
     obtain ⟨⟨t309, t310⟩, A280, H⟩ := H
     replace H : ((headgateref19_Find.f kj11 l0 a1).bind fun bt311 => ((held_Remove.f t293 a1).bind fun bt313 => ((headgateref19_Remove.f kj11 l0 a1).bind fun bt321 => (if t309 = bt311.1 then (if t310 = bt311.2 then ((headgatekit_SameWrites.f kj11 bt313.1 bt321.1).bind fun t329 => (if t329 = true then (if (bt313.2.1 == bt321.2.1 && (bt313.2.2.1 == bt321.2.2.1 && (bt313.2.2.2.1 == bt321.2.2.2.1))) = true then (if bt313.2.2.2.2 = bt321.2.2.2.2 then ((headgatekit_SameWrites.f kj11 t293 l0).bind fun t330 => (if t330 = true then ((headgatelaw19_awake.f kj11).bind fun t331 => (some t331)) else (some false))) else (some false)) else (some false)) else (some false))) else (some false)) else (some false))))) = some r := H
     have A28 := Aside0.mk A280
     clear A280
     replace H := Option.bind_eq_some_iff.mp H
     obtain ⟨⟨t311, t312⟩, A290, H⟩ := H
     replace H : ((held_Remove.f t293 a1).bind fun bt313 => ((headgateref19_Remove.f kj11 l0 a1).bind fun bt321 => (if t309 = t311 then (if t310 = t312 then ((headgatekit_SameWrites.f kj11 bt313.1 bt321.1).bind fun t329 => (if t329 = true then (if (bt313.2.1 == bt321.2.1 && (bt313.2.2.1 == bt321.2.2.1 && (bt313.2.2.2.1 == bt321.2.2.2.1))) = true then (if bt313.2.2.2.2 = bt321.2.2.2.2 then ((headgatekit_SameWrites.f kj11 t293 l0).bind fun t330 => (if t330 = true then ((headgatelaw19_awake.f kj11).bind fun t331 => (some t331)) else (some false))) else (some false)) else (some false)) else (some false))) else (some false)) else (some false)))) = some r := H
     have A29 := Aside0.mk A290
     clear A290
     replace H := Option.bind_eq_some_iff.mp H
     obtain ⟨⟨t313, t316, t317, t318, t319⟩, A300, H⟩ := H
     replace H : ((headgateref19_Remove.f kj11 l0 a1).bind fun bt321 => (if t309 = t311 then (if t310 = t312 then ((headgatekit_SameWrites.f kj11 t313 bt321.1).bind fun t329 => (if t329 = true then (if (t316 == bt321.2.1 && (t317 == bt321.2.2.1 && (t318 == bt321.2.2.2.1))) = true then (if t319 = bt321.2.2.2.2 then ((headgatekit_SameWrites.f kj11 t293 l0).bind fun t330 => (if t330 = true then ((headgatelaw19_awake.f kj11).bind fun t331 => (some t331)) else (some false))) else (some false)) else (some false)) else (some false))) else (some false)) else (some false))) = some r := H
     have A30 := Aside0.mk A300
     clear A300
     replace H := Option.bind_eq_some_iff.mp H
     obtain ⟨⟨t321, t324, t325, t326, t327⟩, A310, H⟩ := H
     replace H : (if t309 = t311 then (if t310 = t312 then ((headgatekit_SameWrites.f kj11 t313 t321).bind fun t329 => (if t329 = true then (if (t316 == t324 && (t317 == t325 && (t318 == t326))) = true then (if t319 = t327 then ((headgatekit_SameWrites.f kj11 t293 l0).bind fun t330 => (if t330 = true then ((headgatelaw19_awake.f kj11).bind fun t331 => (some t331)) else (some false))) else (some false)) else (some false)) else (some false))) else (some false)) else (some false)) = some r := H
     have A31 := Aside0.mk A310
     clear A310
     by_cases c32 : t309 = t311
     ·
      rw [if_pos c32] at H
      have c32b0 : (t309 == t311) = true := beq_iff_eq.mpr c32
      have c32b1 : (t309 != t311) = false := bne_eq_false_iff_eq.mpr c32
      clear c32
      by_cases c33 : t310 = t312
      ·
       rw [if_pos c33] at H
       have c33b0 : (t310 == t312) = true := beq_iff_eq.mpr c33
       have c33b1 : (t310 != t312) = false := bne_eq_false_iff_eq.mpr c33
       clear c33
       replace H := Option.bind_eq_some_iff.mp H
       obtain ⟨t329, A340, H⟩ := H
       replace H : (if t329 = true then (if (t316 == t324 && (t317 == t325 && (t318 == t326))) = true then (if t319 = t327 then ((headgatekit_SameWrites.f kj11 t293 l0).bind fun t330 => (if t330 = true then ((headgatelaw19_awake.f kj11).bind fun t331 => (some t331)) else (some false))) else (some false)) else (some false)) else (some false)) = some r := H
       have A34 := Aside0.mk A340
       clear A340
       by_cases c35 : t329 = true
       ·
        subst c35
        have H1 : (if (t316 == t324 && (t317 == t325 && (t318 == t326))) = true then (if t319 = t327 then ((headgatekit_SameWrites.f kj11 t293 l0).bind fun t330 => (if t330 = true then ((headgatelaw19_awake.f kj11).bind fun t331 => (some t331)) else (some false))) else (some false)) else (some false)) = some r := by rw [if_pos rfl] at H; exact H
        clear H
        have H := H1
        clear H1
        by_cases c36 : (t316 == t324 && (t317 == t325 && (t318 == t326))) = true
        ·
         rw [if_pos c36] at H
         have c36b0 : (t316 == t324 && (t317 == t325 && (t318 == t326))) = true := c36
         (try (have c36b1 : decide (t316 = t324 && (t317 == t325 && (t318 == t326))) = true := by simpa using c36))
         (try (have c36b2 : (t316 == t324 && (t317 == t325 && (t318 == t326))) = true := by simpa using c36))
         clear c36
         by_cases c37 : t319 = t327
         ·
          rw [if_pos c37] at H
          have c37b0 : (t319 == t327) = true := beq_iff_eq.mpr c37
          have c37b1 : (t319 != t327) = false := bne_eq_false_iff_eq.mpr c37
          clear c37
          replace H := Option.bind_eq_some_iff.mp H
          obtain ⟨t330, A380, H⟩ := H
          replace H : (if t330 = true then ((headgatelaw19_awake.f kj11).bind fun t331 => (some t331)) else (some false)) = some r := H
          have A38 := Aside0.mk A380
          clear A380
          by_cases c39 : t330 = true
          ·
           subst c39
           have H1 : ((headgatelaw19_awake.f kj11).bind fun t331 => (some t331)) = some r := by rw [if_pos rfl] at H; exact H
           clear H
           have H := H1
           clear H1
           replace H := Option.bind_eq_some_iff.mp H
           obtain ⟨t331, A400, H⟩ := H
           replace H : (some t331) = some r := H
           have A40 := Aside0.mk A400
           clear A400
           obtain rfl := Option.some.inj H
           go_wp2_with (first | ((with_reducible refine gate_callee (f := 23) rfl ?_); refine goesL_ (some 70) rfl rfl Try.func23 (by kernel_rfl) rfl #[.slice Ao14 t293.length co14, .int .i64 a1] rfl (by (try simp only [List.map_toArray, List.map_cons, List.map_nil]); first | done | rfl | (simp only [List.length_drop, List.length_take]; rfl)) ?_; (with_reducible refine (held_Find.calls _ _ t293 a1 t309 t310 _ ?side1 ?side2 A28.out).mono ?_); (case side1 => repeat (first | exact (Kd.R_reads' HO_7.out).2.2 | (with_reducible refine Kd.C_alloc ?_ _) | (with_reducible refine Kd.C_drewN ?_ _) | (with_reducible refine Kd.C_drew ?_))); (case side2 => exact (Kd.R_reads' HO_7.out).2.1); rintro e w41 ⟨rfl, hb⟩; refine ⟨_, rfl, ?_⟩; have n0_ := Aside0.mk (Kd.R_below (by (with_reducible repeat (first | apply Kd.R_alloc | apply Kd.R_drewN | apply Kd.R_drew)); exact HO_7.out) hb); have n1_ := Aside0.mk (below_step (by repeat (first | (with_reducible first | exact HB.out | apply below_alloc | apply pw_below_drewN | apply below_drew1) | exact HB.out)) hb); clear HO_7; clear HB; have HO_7 := n0_; have HB := n1_; clear n0_ n1_; (try clear hb); (try clear hb2); (try clear hk); (try clear hi)) | ((with_reducible refine gate_callee (f := 24) rfl ?_); refine goesL_ (some 76) rfl rfl Try.func24 (by kernel_rfl) rfl #[.slice A0 l0.length c0, .int .i64 a1] rfl (by (try simp only [List.map_toArray, List.map_cons, List.map_nil]); first | done | rfl | (simp only [List.length_drop, List.length_take]; rfl)) ?_; (with_reducible refine (headgateref19_Find.calls kj11 _ _ l0 a1 t311 t312 _ ?side1 ?side2 A29.out).mono ?_); (case side1 => repeat (first | exact (Kd.C_below HR0.out HB.out) | (with_reducible refine Kd.C_alloc ?_ _) | (with_reducible refine Kd.C_drewN ?_ _) | (with_reducible refine Kd.C_drew ?_))); (case side2 => exact HC0.out); rintro e w42 ⟨rfl, hb⟩; refine ⟨_, rfl, ?_⟩; have n0_ := Aside0.mk (Kd.R_below (by (with_reducible repeat (first | apply Kd.R_alloc | apply Kd.R_drewN | apply Kd.R_drew)); exact HO_7.out) hb); have n1_ := Aside0.mk (below_step (by repeat (first | (with_reducible first | exact HB.out | apply below_alloc | apply pw_below_drewN | apply below_drew1) | exact HB.out)) hb); clear HO_7; clear HB; have HO_7 := n0_; have HB := n1_; clear n0_ n1_; (try clear hb); (try clear hb2); (try clear hk); (try clear hi)) | ((with_reducible refine gate_callee (f := 17) rfl ?_); refine goesL_ (some 82) rfl rfl Try.func17 (by kernel_rfl) rfl #[.slice Ao14 t293.length co14, .int .i64 a1] rfl (by (try simp only [List.map_toArray, List.map_cons, List.map_nil]); first | done | rfl | (simp only [List.length_drop, List.length_take]; rfl)) ?_; (with_reducible refine (held_Remove.calls _ _ t293 a1 t313 t316 t317 t318 t319 _ ?side1 ?side2 A30.out).mono ?_); (case side1 => repeat (first | exact (Kd.R_reads' HO_7.out).2.2 | (with_reducible refine Kd.C_alloc ?_ _) | (with_reducible refine Kd.C_drewN ?_ _) | (with_reducible refine Kd.C_drew ?_))); (case side2 => exact (Kd.R_reads' HO_7.out).2.1); rintro e w43 ⟨v314, rfl, ho0, hb⟩; refine ⟨_, rfl, ?_⟩; have n0_ := Aside0.mk (Kd.R_elder' (by (with_reducible repeat (first | apply Kd.R_alloc | apply Kd.R_drewN | apply Kd.R_drew)); exact HO_7.out) (Kd.R_base ho0) hb); have n1_ := Aside0.mk (Kd.R_lower (Kd.R_new' ho0 (Kd.R_lt (by (with_reducible repeat (first | apply Kd.R_alloc | apply Kd.R_drewN | apply Kd.R_drew)); exact HO_7.out))) (below_size (by repeat (first | (with_reducible first | exact HB.out | apply below_alloc | apply pw_below_drewN | apply below_drew1) | exact HB.out)))); have n2_ := Aside0.mk (below_step (by repeat (first | (with_reducible first | exact HB.out | apply below_alloc | apply pw_below_drewN | apply below_drew1) | exact HB.out)) hb); clear HO_7; clear HB; have HO_7 := n0_; have HO315 := n1_; have HB := n2_; clear n0_ n1_ n2_; (try clear hb); (try clear hb2); (try clear hk); (try clear hi); (try clear ho0)) | ((with_reducible refine gate_dst (N := 16) rfl ?_); refine box_event ?hg (N := 16) ?hd (cs := #[.int .i64 0, .int .i64 0, .int .i64 0]) (t := 32) ?hr ?_; (case hd => rfl); (case hg => rfl); (case hr => first | (go_simp; done) | (go_simp; rfl)); intro gb320 hg w44 hbox hb; have n0_ := Aside0.mk (Kd.R_below (Kd.R_elderB (by (with_reducible repeat (first | apply Kd.R_alloc | apply Kd.R_drewN | apply Kd.R_drew)); exact HO_7.out) gb320 (Nat.le_of_eq hg.symm)) hb); have n1_ := Aside0.mk (Kd.R_below (Kd.R_elderB (by (with_reducible repeat (first | apply Kd.R_alloc | apply Kd.R_drewN | apply Kd.R_drew)); exact HO315.out) gb320 (Nat.le_of_eq hg.symm)) hb); have n2_ := Aside0.mk (below_step (by repeat (first | (with_reducible first | exact HB.out | apply below_alloc | apply pw_below_drewN | apply below_drew1) | exact HB.out)) hb); have n3_ := Aside0.mk (hbox); have n4_ := Aside0.mk ((by rw [hg]; exact (below_size (by repeat (first | (with_reducible first | exact HB.out | apply below_alloc | apply pw_below_drewN | apply below_drew1) | exact HB.out))) : w.heap.size ≤ gb320)); have n5_ := Aside0.mk ((by rw [hg]; exact (below_size (by repeat (first | (with_reducible first | exact HB.out | apply below_alloc | apply pw_below_drewN | apply below_drew1) | exact HB.out))) : w.heap.size ≤ gb320)); clear HO_7; clear HO315; clear HB; have HO_7 := n0_; have HO315 := n1_; have HB := n2_; have BK320 := n3_; have GW320 := n4_; have GE320 := n5_; clear n0_ n1_ n2_ n3_ n4_ n5_; clear hb hbox hg; have hcz45_0 : w44.cell? ⟨gb320, 0, none⟩ = some (.int .i64 0) := (blk_cell BK320.out 0).trans rfl; have hcz45_1 : w44.cell? ⟨gb320, 1, none⟩ = some (.int .i64 0) := (blk_cell BK320.out 1).trans rfl; have hcz45_2 : w44.cell? ⟨gb320, 2, none⟩ = some (.int .i64 0) := (blk_cell BK320.out 2).trans rfl; have hfz45_0 := blk_frozen BK320.out 0; have hfz45_1 := blk_frozen BK320.out 1; have hfz45_2 := blk_frozen BK320.out 2) | ((with_reducible refine gate_callee (f := 25) rfl ?_); refine goesL_ (some 89) rfl rfl Try.func25 (by kernel_rfl) rfl #[.slice A0 l0.length c0, .int .i64 a1] rfl (by (try simp only [List.map_toArray, List.map_cons, List.map_nil]); first | done | rfl | (simp only [List.length_drop, List.length_take]; rfl)) ?_; (with_reducible refine (headgateref19_Remove.calls kj11 _ _ l0 a1 t321 t324 t325 t326 t327 _ ?side1 ?side2 A31.out).mono ?_); (case side1 => exact Kd.C_below HR0.out (by repeat (first | (with_reducible first | exact HB.out | apply below_alloc | apply pw_below_drewN | apply below_drew1 | refine below_set ?_ GE320.out) | exact HB.out))); (case side2 => exact HC0.out); rintro e w46 ⟨v322, rfl, ho0, hb⟩; refine ⟨_, rfl, ?_⟩; have n0_ := Aside0.mk (Kd.R_elder' (by (with_reducible repeat (first | apply Kd.R_alloc | apply Kd.R_drewN | apply Kd.R_drew)); exact (Kd.R_mono (Kd.R_far (p := ⟨gb320, 2, none⟩) (Kd.R_far (p := ⟨gb320, 1, none⟩) (Kd.R_far (p := ⟨gb320, 0, none⟩) (Kd.R_mono HO_7.out (fun k_ hk => (⟨hk, hk.2⟩ : _ ∧ k_ ≠ gb320))) (fun _ hk => hk.2) (.int .i64 t316)) (fun _ hk => hk.2) (.int .i64 t317)) (fun _ hk => hk.2) (.int .i64 t318)) (fun _ h_ => h_.1))) (Kd.R_base ho0) hb); have n1_ := Aside0.mk (Kd.R_elder' (by (with_reducible repeat (first | apply Kd.R_alloc | apply Kd.R_drewN | apply Kd.R_drew)); exact (Kd.R_mono (Kd.R_far (p := ⟨gb320, 2, none⟩) (Kd.R_far (p := ⟨gb320, 1, none⟩) (Kd.R_far (p := ⟨gb320, 0, none⟩) (Kd.R_mono HO315.out (fun k_ hk => (⟨hk, hk.2⟩ : _ ∧ k_ ≠ gb320))) (fun _ hk => hk.2) (.int .i64 t316)) (fun _ hk => hk.2) (.int .i64 t317)) (fun _ hk => hk.2) (.int .i64 t318)) (fun _ h_ => h_.1))) (Kd.R_base ho0) hb); have n2_ := Aside0.mk (Kd.R_lower (Kd.R_newB (Kd.R_new' (Kd.R_new' ho0 (Kd.R_lt (by (with_reducible repeat (first | apply Kd.R_alloc | apply Kd.R_drewN | apply Kd.R_drew)); exact (Kd.R_mono (Kd.R_far (p := ⟨gb320, 2, none⟩) (Kd.R_far (p := ⟨gb320, 1, none⟩) (Kd.R_far (p := ⟨gb320, 0, none⟩) (Kd.R_mono HO_7.out (fun k_ hk => (⟨hk, hk.2⟩ : _ ∧ k_ ≠ gb320))) (fun _ hk => hk.2) (.int .i64 t316)) (fun _ hk => hk.2) (.int .i64 t317)) (fun _ hk => hk.2) (.int .i64 t318)) (fun _ h_ => h_.1))))) (Kd.R_lt (by (with_reducible repeat (first | apply Kd.R_alloc | apply Kd.R_drewN | apply Kd.R_drew)); exact (Kd.R_mono (Kd.R_far (p := ⟨gb320, 2, none⟩) (Kd.R_far (p := ⟨gb320, 1, none⟩) (Kd.R_far (p := ⟨gb320, 0, none⟩) (Kd.R_mono HO315.out (fun k_ hk => (⟨hk, hk.2⟩ : _ ∧ k_ ≠ gb320))) (fun _ hk => hk.2) (.int .i64 t316)) (fun _ hk => hk.2) (.int .i64 t317)) (fun _ hk => hk.2) (.int .i64 t318)) (fun _ h_ => h_.1))))) (g := gb320) (o := .cells #[.int .i64 t316, .int .i64 t317, .int .i64 t318] 32 (0, 0)) (by (with_reducible repeat (first | refine blk_drewN ?_ _ | refine blk_drew ?_ | refine blk_alloc ?_ _)); refine blk_put (cs := #[.int .i64 t316, .int .i64 t317, .int .i64 0]) ?_ 2 _ rfl; (with_reducible repeat (first | refine blk_drewN ?_ _ | refine blk_drew ?_ | refine blk_alloc ?_ _)); refine blk_put (cs := #[.int .i64 t316, .int .i64 0, .int .i64 0]) ?_ 1 _ rfl; (with_reducible repeat (first | refine blk_drewN ?_ _ | refine blk_drew ?_ | refine blk_alloc ?_ _)); refine blk_put (cs := #[.int .i64 0, .int .i64 0, .int .i64 0]) ?_ 0 _ rfl; (with_reducible repeat (first | refine blk_drewN ?_ _ | refine blk_drew ?_ | refine blk_alloc ?_ _)); exact BK320.out)) (below_size (by repeat (first | (with_reducible first | exact HB.out | apply below_alloc | apply pw_below_drewN | apply below_drew1 | refine below_set ?_ GE320.out) | exact HB.out)))); have n3_ := Aside0.mk (blk_below (g := gb320) (o := .cells #[.int .i64 t316, .int .i64 t317, .int .i64 t318] 32 (0, 0)) (by (with_reducible repeat (first | refine blk_drewN ?_ _ | refine blk_drew ?_ | refine blk_alloc ?_ _)); refine blk_put (cs := #[.int .i64 t316, .int .i64 t317, .int .i64 0]) ?_ 2 _ rfl; (with_reducible repeat (first | refine blk_drewN ?_ _ | refine blk_drew ?_ | refine blk_alloc ?_ _)); refine blk_put (cs := #[.int .i64 t316, .int .i64 0, .int .i64 0]) ?_ 1 _ rfl; (with_reducible repeat (first | refine blk_drewN ?_ _ | refine blk_drew ?_ | refine blk_alloc ?_ _)); refine blk_put (cs := #[.int .i64 0, .int .i64 0, .int .i64 0]) ?_ 0 _ rfl; (with_reducible repeat (first | refine blk_drewN ?_ _ | refine blk_drew ?_ | refine blk_alloc ?_ _)); exact BK320.out) hb); have n4_ := Aside0.mk (below_step (by repeat (first | (with_reducible first | exact HB.out | apply below_alloc | apply pw_below_drewN | apply below_drew1 | refine below_set ?_ GE320.out) | exact HB.out)) hb); clear HO_7; clear HO315; clear BK320; clear HB; have HO_7 := n0_; have HO315 := n1_; have HO323 := n2_; have BK320 := n3_; have HB := n4_; clear n0_ n1_ n2_ n3_ n4_; (try clear hb); (try clear hb2); (try clear hk); (try clear hi); (try clear ho0)) | ((with_reducible refine gate_dst (N := 17) rfl ?_); refine box_event ?hg (N := 17) ?hd (cs := #[.int .i64 0, .int .i64 0, .int .i64 0]) (t := 32) ?hr ?_; (case hd => rfl); (case hg => rfl); (case hr => first | (go_simp; done) | (go_simp; rfl)); intro gb328 hg w47 hbox hb; have n0_ := Aside0.mk (Kd.R_below (Kd.R_elderB (by (with_reducible repeat (first | apply Kd.R_alloc | apply Kd.R_drewN | apply Kd.R_drew)); exact HO_7.out) gb328 (Nat.le_of_eq hg.symm)) hb); have n1_ := Aside0.mk (Kd.R_below (Kd.R_elderB (by (with_reducible repeat (first | apply Kd.R_alloc | apply Kd.R_drewN | apply Kd.R_drew)); exact HO315.out) gb328 (Nat.le_of_eq hg.symm)) hb); have n2_ := Aside0.mk (Kd.R_below (Kd.R_elderB (by (with_reducible repeat (first | apply Kd.R_alloc | apply Kd.R_drewN | apply Kd.R_drew)); exact HO323.out) gb328 (Nat.le_of_eq hg.symm)) hb); have n3_ := Aside0.mk (blk_below (g := gb320) (o := .cells #[.int .i64 t316, .int .i64 t317, .int .i64 t318] 32 (0, 0)) (by (with_reducible repeat (first | refine blk_drewN ?_ _ | refine blk_drew ?_ | refine blk_alloc ?_ _)); exact BK320.out) hb); have n4_ := Aside0.mk (below_step (by repeat (first | (with_reducible first | exact HB.out | apply below_alloc | apply pw_below_drewN | apply below_drew1 | refine below_set ?_ GE320.out) | exact HB.out)) hb); have n5_ := Aside0.mk (hbox); have n6_ := Aside0.mk ((by rw [hg]; exact (below_size (by repeat (first | (with_reducible first | exact HB.out | apply below_alloc | apply pw_below_drewN | apply below_drew1 | refine below_set ?_ GE320.out) | exact HB.out))) : w.heap.size ≤ gb328)); have n7_ := Aside0.mk ((by rw [hg]; exact (below_size (by repeat (first | (with_reducible first | exact HB.out | apply below_alloc | apply pw_below_drewN | apply below_drew1 | refine below_set ?_ GE320.out) | exact HB.out))) : w.heap.size ≤ gb328)); have n8_ := Aside0.mk ((by rw [hg]; exact Nat.ne_of_lt (blk_lt (g := gb320) (o := .cells #[.int .i64 t316, .int .i64 t317, .int .i64 t318] 32 (0, 0)) (by (with_reducible repeat (first | refine blk_drewN ?_ _ | refine blk_drew ?_ | refine blk_alloc ?_ _)); exact BK320.out)) : gb320 ≠ gb328)); have n9_ := Aside0.mk ((by rw [hg]; exact Nat.ne_of_gt (blk_lt (g := gb320) (o := .cells #[.int .i64 t316, .int .i64 t317, .int .i64 t318] 32 (0, 0)) (by (with_reducible repeat (first | refine blk_drewN ?_ _ | refine blk_drew ?_ | refine blk_alloc ?_ _)); exact BK320.out)) : gb328 ≠ gb320)); clear HO_7; clear HO315; clear HO323; clear BK320; clear HB; have HO_7 := n0_; have HO315 := n1_; have HO323 := n2_; have BK320 := n3_; have HB := n4_; have BK328 := n5_; have GW328 := n6_; have GE328 := n7_; have NB320_328 := n8_; have NB328_320 := n9_; clear n0_ n1_ n2_ n3_ n4_ n5_ n6_ n7_ n8_ n9_; clear hb hbox hg; have hnb48 := NB328_320.out; have hnc48 := NB320_328.out; have hcz49_0 : w47.cell? ⟨gb328, 0, none⟩ = some (.int .i64 0) := (blk_cell BK328.out 0).trans rfl; have hcz49_1 : w47.cell? ⟨gb328, 1, none⟩ = some (.int .i64 0) := (blk_cell BK328.out 1).trans rfl; have hcz49_2 : w47.cell? ⟨gb328, 2, none⟩ = some (.int .i64 0) := (blk_cell BK328.out 2).trans rfl; have hfz49_0 := blk_frozen BK328.out 0; have hfz49_1 := blk_frozen BK328.out 1; have hfz49_2 := blk_frozen BK328.out 2; obtain ⟨Ao50, co50, eo50⟩ := Kd.R_slice HO315.out; subst eo50; obtain ⟨Ao51, co51, eo51⟩ := Kd.R_slice HO323.out; subst eo51) | (go_at_call 18; refine calls_of_args (args' := #[.slice Ao50 t313.length co50, .slice Ao51 t321.length co51]) (by first | rfl) ?_; (with_reducible refine (headgatekit_SameWrites.calls kj11 _ _ t313 _ _ t321 true _ ?side1 ?side2 ?side3 ?side4 A34.out).mono ?_); (case side1 => refine (Kd.R_reads' (e := 32) (base := w.heap.size) (ok := fun k_ => ((((True ∧ some k_ ≠ (.slice Ao14 t293.length co14 : Value).ownBlock) ∧ k_ ≠ gb320) ∧ some k_ ≠ (.slice Ao51 t321.length co51 : Value).ownBlock) ∧ k_ ≠ gb328)) (n := t313.length) (c := co50) ?_).2.2; exact (by (with_reducible repeat (first | apply Kd.R_alloc | apply Kd.R_drewN | apply Kd.R_drew)); exact (Kd.R_mono (Kd.R_far (p := ⟨gb328, 2, none⟩) (Kd.R_far (p := ⟨gb328, 1, none⟩) (Kd.R_far (p := ⟨gb328, 0, none⟩) (Kd.R_mono HO315.out (fun k_ hk => (⟨hk, hk.2⟩ : _ ∧ k_ ≠ gb328))) (fun _ hk => hk.2) (.int .i64 t324)) (fun _ hk => hk.2) (.int .i64 t325)) (fun _ hk => hk.2) (.int .i64 t326)) (fun _ h_ => h_.1)))); (case side2 => exact (Kd.R_reads' HO315.out).2.1); (case side3 => refine (Kd.R_reads' (e := 32) (base := w.heap.size) (ok := fun k_ => ((((True ∧ some k_ ≠ (.slice Ao14 t293.length co14 : Value).ownBlock) ∧ some k_ ≠ (.slice Ao50 t313.length co50 : Value).ownBlock) ∧ k_ ≠ gb320) ∧ k_ ≠ gb328)) (n := t321.length) (c := co51) ?_).2.2; exact (by (with_reducible repeat (first | apply Kd.R_alloc | apply Kd.R_drewN | apply Kd.R_drew)); exact (Kd.R_mono (Kd.R_far (p := ⟨gb328, 2, none⟩) (Kd.R_far (p := ⟨gb328, 1, none⟩) (Kd.R_far (p := ⟨gb328, 0, none⟩) (Kd.R_mono HO323.out (fun k_ hk => (⟨hk, hk.2⟩ : _ ∧ k_ ≠ gb328))) (fun _ hk => hk.2) (.int .i64 t324)) (fun _ hk => hk.2) (.int .i64 t325)) (fun _ hk => hk.2) (.int .i64 t326)) (fun _ h_ => h_.1)))); (case side4 => exact (Kd.R_reads' HO323.out).2.1); rintro e w' ⟨rfl, ⟨nd, rfl⟩⟩; have hcz52_0 : w47.cell? ⟨gb320, 0, none⟩ = some (.int .i64 t316) := (blk_cell BK320.out 0).trans rfl; have hcz52_1 : w47.cell? ⟨gb320, 1, none⟩ = some (.int .i64 t317) := (blk_cell BK320.out 1).trans rfl; have hcz52_2 : w47.cell? ⟨gb320, 2, none⟩ = some (.int .i64 t318) := (blk_cell BK320.out 2).trans rfl; have hfz52_0 := blk_frozen BK320.out 0; have hfz52_1 := blk_frozen BK320.out 1; have hfz52_2 := blk_frozen BK320.out 2) | (go_at_call 18; refine calls_of_args (args' := #[.slice Ao14 t293.length co14, .slice A0 l0.length c0]) (by first | rfl) ?_; (with_reducible refine (headgatekit_SameWrites.calls kj11 _ _ t293 _ _ l0 true _ ?side1 ?side2 ?side3 ?side4 A38.out).mono ?_); (case side1 => refine (Kd.R_reads' (e := 32) (base := w.heap.size) (ok := fun k_ => ((((True ∧ some k_ ≠ (.slice Ao50 t313.length co50 : Value).ownBlock) ∧ k_ ≠ gb320) ∧ some k_ ≠ (.slice Ao51 t321.length co51 : Value).ownBlock) ∧ k_ ≠ gb328)) (n := t293.length) (c := co14) ?_).2.2; exact (by (with_reducible repeat (first | apply Kd.R_alloc | apply Kd.R_drewN | apply Kd.R_drew)); exact (Kd.R_mono (Kd.R_far (p := ⟨gb328, 2, none⟩) (Kd.R_far (p := ⟨gb328, 1, none⟩) (Kd.R_far (p := ⟨gb328, 0, none⟩) (Kd.R_mono HO_7.out (fun k_ hk => (⟨hk, hk.2⟩ : _ ∧ k_ ≠ gb328))) (fun _ hk => hk.2) (.int .i64 t324)) (fun _ hk => hk.2) (.int .i64 t325)) (fun _ hk => hk.2) (.int .i64 t326)) (fun _ h_ => h_.1)))); (case side2 => exact (Kd.R_reads' HO_7.out).2.1); (case side3 => exact Kd.C_below HR0.out (by repeat (first | (with_reducible first | exact HB.out | apply below_alloc | apply pw_below_drewN | apply below_drew1 | refine below_set ?_ GE320.out | refine below_set ?_ GE328.out) | exact HB.out))); (case side4 => exact HC0.out); rintro e w' ⟨rfl, ⟨nd, rfl⟩⟩) | (go_at_call 10; refine calls_of_args (args' := #[]) (by first | rfl) ?_; (with_reducible refine (headgatelaw19_awake.calls kj11  t331 _ A40.out).mono ?_); rintro e w53 ⟨rfl, hb⟩; have n0_ := Aside0.mk (Kd.R_below (by (with_reducible repeat (first | apply Kd.R_alloc | apply Kd.R_drewN | apply Kd.R_drew)); exact (Kd.R_mono (Kd.R_far (p := ⟨gb328, 2, none⟩) (Kd.R_far (p := ⟨gb328, 1, none⟩) (Kd.R_far (p := ⟨gb328, 0, none⟩) (Kd.R_mono HO_7.out (fun k_ hk => (⟨hk, hk.2⟩ : _ ∧ k_ ≠ gb328))) (fun _ hk => hk.2) (.int .i64 t324)) (fun _ hk => hk.2) (.int .i64 t325)) (fun _ hk => hk.2) (.int .i64 t326)) (fun _ h_ => h_.1))) hb); have n1_ := Aside0.mk (Kd.R_below (by (with_reducible repeat (first | apply Kd.R_alloc | apply Kd.R_drewN | apply Kd.R_drew)); exact (Kd.R_mono (Kd.R_far (p := ⟨gb328, 2, none⟩) (Kd.R_far (p := ⟨gb328, 1, none⟩) (Kd.R_far (p := ⟨gb328, 0, none⟩) (Kd.R_mono HO315.out (fun k_ hk => (⟨hk, hk.2⟩ : _ ∧ k_ ≠ gb328))) (fun _ hk => hk.2) (.int .i64 t324)) (fun _ hk => hk.2) (.int .i64 t325)) (fun _ hk => hk.2) (.int .i64 t326)) (fun _ h_ => h_.1))) hb); have n2_ := Aside0.mk (Kd.R_below (by (with_reducible repeat (first | apply Kd.R_alloc | apply Kd.R_drewN | apply Kd.R_drew)); exact (Kd.R_mono (Kd.R_far (p := ⟨gb328, 2, none⟩) (Kd.R_far (p := ⟨gb328, 1, none⟩) (Kd.R_far (p := ⟨gb328, 0, none⟩) (Kd.R_mono HO323.out (fun k_ hk => (⟨hk, hk.2⟩ : _ ∧ k_ ≠ gb328))) (fun _ hk => hk.2) (.int .i64 t324)) (fun _ hk => hk.2) (.int .i64 t325)) (fun _ hk => hk.2) (.int .i64 t326)) (fun _ h_ => h_.1))) hb); have n3_ := Aside0.mk (blk_below (g := gb320) (o := .cells #[.int .i64 t316, .int .i64 t317, .int .i64 t318] 32 (0, 0)) (by (with_reducible repeat (first | refine blk_drewN ?_ _ | refine blk_drew ?_ | refine blk_alloc ?_ _)); refine blk_far ?_ NB320_328.out _; (with_reducible repeat (first | refine blk_drewN ?_ _ | refine blk_drew ?_ | refine blk_alloc ?_ _)); refine blk_far ?_ NB320_328.out _; (with_reducible repeat (first | refine blk_drewN ?_ _ | refine blk_drew ?_ | refine blk_alloc ?_ _)); refine blk_far ?_ NB320_328.out _; (with_reducible repeat (first | refine blk_drewN ?_ _ | refine blk_drew ?_ | refine blk_alloc ?_ _)); exact BK320.out) hb); have n4_ := Aside0.mk (blk_below (g := gb328) (o := .cells #[.int .i64 t324, .int .i64 t325, .int .i64 t326] 32 (0, 0)) (by (with_reducible repeat (first | refine blk_drewN ?_ _ | refine blk_drew ?_ | refine blk_alloc ?_ _)); refine blk_put (cs := #[.int .i64 t324, .int .i64 t325, .int .i64 0]) ?_ 2 _ rfl; (with_reducible repeat (first | refine blk_drewN ?_ _ | refine blk_drew ?_ | refine blk_alloc ?_ _)); refine blk_put (cs := #[.int .i64 t324, .int .i64 0, .int .i64 0]) ?_ 1 _ rfl; (with_reducible repeat (first | refine blk_drewN ?_ _ | refine blk_drew ?_ | refine blk_alloc ?_ _)); refine blk_put (cs := #[.int .i64 0, .int .i64 0, .int .i64 0]) ?_ 0 _ rfl; (with_reducible repeat (first | refine blk_drewN ?_ _ | refine blk_drew ?_ | refine blk_alloc ?_ _)); exact BK328.out) hb); have n5_ := Aside0.mk (below_step (by repeat (first | (with_reducible first | exact HB.out | apply below_alloc | apply pw_below_drewN | apply below_drew1 | refine below_set ?_ GE320.out | refine below_set ?_ GE328.out) | exact HB.out)) hb); clear HO_7; clear HO315; clear HO323; clear BK320; clear BK328; clear HB; have HO_7 := n0_; have HO315 := n1_; have HO323 := n2_; have BK320 := n3_; have BK328 := n4_; have HB := n5_; clear n0_ n1_ n2_ n3_ n4_ n5_; (try clear hb); (try clear hb2); (try clear hk); (try clear hi)))
           go_ret
           exact ⟨by first | rfl | (simp [errW_none, errW_some] <;> rfl) | (simp [*, errW_none, errW_some] <;> rfl), by repeat (first | (with_reducible first | exact HB.out | apply below_alloc | apply pw_below_drewN | apply below_drew1 | refine below_set ?_ GE320.out | refine below_set ?_ GE328.out) | exact HB.out)⟩
          ·
           replace c39 := Bool.eq_false_iff.mpr c39
           subst c39
           have H1 : (some false) = some r := by rw [if_neg (show ¬ (false = true) by decide)] at H; exact H
           clear H
           have H := H1
           clear H1
           exact absurd H (by rw [HT.out]; simp)
         ·
          rw [if_neg c37] at H
          have c37b0 : (t319 == t327) = false := beq_eq_false_iff_ne.mpr c37
          have c37b1 : (t319 != t327) = true := bne_iff_ne.mpr c37
          exact absurd H (by rw [HT.out]; simp)
        ·
         rw [if_neg c36] at H
         have c36b0 : (t316 == t324 && (t317 == t325 && (t318 == t326))) = false := by simpa using c36
         (try (have c36b1 : decide (t316 = t324 && (t317 == t325 && (t318 == t326))) = false := by simpa using c36))
         (try (have c36b2 : (t316 == t324 && (t317 == t325 && (t318 == t326))) = false := by simpa using c36))
         (try (have c36b3 : ¬ (t316 = t324 && (t317 == t325 && (t318 == t326))) := by simpa using c36))
         clear c36
         exact absurd H (by rw [HT.out]; simp)
       ·
        replace c35 := Bool.eq_false_iff.mpr c35
        subst c35
        have H1 : (some false) = some r := by rw [if_neg (show ¬ (false = true) by decide)] at H; exact H
        clear H
        have H := H1
        clear H1
        exact absurd H (by rw [HT.out]; simp)
      ·
       rw [if_neg c33] at H
       have c33b0 : (t310 == t312) = false := beq_eq_false_iff_ne.mpr c33
       have c33b1 : (t310 != t312) = true := bne_iff_ne.mpr c33
       exact absurd H (by rw [HT.out]; simp)
     ·
      rw [if_neg c32] at H
      have c32b0 : (t309 == t311) = false := beq_eq_false_iff_ne.mpr c32
      have c32b1 : (t309 != t311) = true := bne_iff_ne.mpr c32
      exact absurd H (by rw [HT.out]; simp)

/-- THE ONE PURE STATEMENT of headgatelaw19_HeldChanges. -/
def headgatelaw19_HeldChanges.Pure : Prop := ∀ (l0 : List (S32)) (a1 : Int) (a2 : Int), (l0.length ≤ maxLen ∧ ∀ x ∈ l0, ((Lit.int .i64 x.f0).wf = true) ∧ ((Lit.int .i64 x.f1).wf = true) ∧ ((Lit.int .i64 x.f2).wf = true)) → ((Lit.int .i64 a1).wf = true) → ((Lit.int .i64 a2).wf = true) → ∃ k, headgatelaw19_HeldChanges.f k l0 a1 a2 = some true
theorem headgatelaw19_HeldChanges.walk (P : headgatelaw19_HeldChanges.Pure) (A0 : Option Addr) (c0 : Nat) (l0 : List (S32)) (a1 : Int) (a2 : Int) (w : World) (hr0 : Kd.C k32 w A0 l0.length l0) (hc0 : l0.length ≤ c0) (w0 : l0.length ≤ maxLen ∧ ∀ x ∈ l0, ((Lit.int .i64 x.f0).wf = true) ∧ ((Lit.int .i64 x.f1).wf = true) ∧ ((Lit.int .i64 x.f2).wf = true)) (w1 : (Lit.int .i64 a1).wf = true) (w2 : (Lit.int .i64 a2).wf = true) :
  Calls Try.prog 5 #[.slice A0 l0.length c0, .int .i64 a1, .int .i64 a2] w fun e w' => e = .returned (.bool true) ∧ Below w.heap.size w w' := by
 obtain ⟨k, h⟩ := P l0 a1 a2 w0 w1 w2
 refine (headgatelaw19_HeldChanges.calls k A0 c0 l0 a1 a2 true w hr0 hc0 ⟨rfl⟩ h).mono ?_
 rintro e w' ⟨rfl, hd⟩
 exact ⟨rfl, hd⟩

end Go.Proofs.Ytfnhoncpaheejaa.X
