/- What Go functions of this seat compute, told as Lean functions, and that each call of the Go code comes to that answer; for a law: its row, for every input. Written by a program of the session. -/
import Derived.Test.YtfnhoncpaheejaaX0
import Derived.Test.YtfnhoncpaheejaaX1
import Derived.Test.YtfnhoncpaheejaaX2
import Derived.Test.YtfnhoncpaheejaaX3
import Derived.Test.YtfnhoncpaheejaaX13
import Derived.Test.YtfnhoncpaheejaaX14
import Derived.Test.YtfnhoncpaheejaaX16
import Derived.Test.YtfnhoncpaheejaaX17
import Derived.Test.YtfnhoncpaheejaaX23
import Derived.Test.YtfnhoncpaheejaaX24
namespace Go.Proofs.Ytfnhoncpaheejaa.X
open Go.RowKit Go.Proofs.YtfnhoncpaheejaaW.PrintWords Go.Proofs.YtfnhoncpaheejaaW.PrintLast Go.Proofs.YtfnhoncpaheejaaW.PrintMore
attribute [local go_sem] max2_int min2_int max_two min_two max_three min_three max_four min_four   -- for this text's walks alone
set_option linter.unusedVariables false
set_option linter.unusedSimpArgs false

attribute [local go_sem high] eqA32
/-! ### headgatelaw19_HeldUndo: function 6 -/
def headgatelaw19_HeldUndo.l0 : Nat → List (S32) → Int → Int → Int → Bool → Int → Option (Bool)
 | 0, _, _, _, _, _, _ => none
 | k + 1, x7, x8, x9, x11, x12, x13 => if x13 < (x7.length : Int) then (if x12 = true then (headgatelaw19_HeldUndo.l0 k x7 x8 x9 x11 true (wrap64 (x13 + 1))) else (if 0 ≤ x13 then (if ((rd_T32 x7 x13).f0) = x8 then (headgatelaw19_HeldUndo.l0 k x7 x8 x9 x11 true (wrap64 (x13 + 1))) else (headgatelaw19_HeldUndo.l0 k x7 x8 x9 x11 (((rd_T32 x7 x13).f1) == x9) (wrap64 (x13 + 1)))) else (none))) else (if x11 = 7 then (if x12 = true then ((headgatelaw19_awake.f k).bind fun t166 => (some t166)) else (if x11 = 5 then (if (x7.length : Int) = 16 then ((headgatelaw19_awake.f k).bind fun t167 => (some t167)) else (some false)) else (some false))) else (if x11 = 5 then (if x12 = true then (some false) else (if (x7.length : Int) = 16 then ((headgatelaw19_awake.f k).bind fun t168 => (some t168)) else (some false))) else (some false)))
def headgatelaw19_HeldUndo.f (k : Nat) (l0 : List Int) (a1 : Int) (a2 : Int) : Option (Bool) := (headgatelaw19_made.f k l0).bind fun t152 => ((headgatekit_Mod.f a1 60).bind fun t155 => ((headgatekit_Mod.f a2 80).bind fun t156 => ((headgatekit_OwnWrites.f t152).bind fun t157 => ((held_Add.f t157 t155 t156).bind fun bt160 => (if bt160.2 = 0 then ((held_Check.f bt160.1).bind fun bt169 => ((held_Remove.f bt160.1 t155).bind fun bt171 => (if bt169.1 = 0 then (if (bt171.2.1 == t155 && (bt171.2.2.1 == t156 && (bt171.2.2.2.1 == 0))) = true then ((headgatelaw19_is.f k bt171.1 t152 bt171.2.2.2.2).bind fun t179 => (if t179 = true then ((headgatelaw19_awake.f k).bind fun t180 => (some t180)) else (some false))) else (some false)) else (some false)))) else (headgatelaw19_HeldUndo.l0 k t152 t155 t156 bt160.2 false 0))))))
theorem headgatelaw19_HeldUndo.mono_l : ∀ k, (∀ y0 y1 y2 y3 y4 y5, LeO (headgatelaw19_HeldUndo.l0 k y0 y1 y2 y3 y4 y5) (headgatelaw19_HeldUndo.l0 (k + 1) y0 y1 y2 y3 y4 y5))
 | 0 => fun _ _ _ _ _ _ r h => by simp [headgatelaw19_HeldUndo.l0] at h
 | k + 1 => by
  have ih0 := headgatelaw19_HeldUndo.mono_l k
  ·
   intro y0 y1 y2 y3 y4 y5
   unfold headgatelaw19_HeldUndo.l0
   repeat' first
   | (with_reducible exact ih0 _ _ _ _ _ _)
   | (with_reducible exact headgatelaw19_awake.mono _)
   | (with_reducible exact headgatelaw19_is.mono _ _ _ _)
   | (with_reducible exact headgatelaw19_made.mono _ _)
   | (with_reducible exact LeO.refl _)
   | (with_reducible exact LeO.none _)
   | (with_reducible refine LeO.ite ?_ ?_)
   | (with_reducible refine LeO.bind ?_ (fun _ => ?_))
   | exact ih0 _ _ _ _ _ _
   | exact headgatelaw19_awake.mono _
   | exact headgatelaw19_is.mono _ _ _ _
   | exact headgatelaw19_made.mono _ _
   | exact LeO.none _
   | refine LeO.ite ?_ ?_
   | refine LeO.bind ?_ (fun _ => ?_)
theorem headgatelaw19_HeldUndo.mono : ∀ a0 a1 a2 k, LeO (headgatelaw19_HeldUndo.f k a0 a1 a2) (headgatelaw19_HeldUndo.f (k + 1) a0 a1 a2) := by
 intro a0 a1 a2 k
 have ih0 := headgatelaw19_HeldUndo.mono_l k
 unfold headgatelaw19_HeldUndo.f
 repeat' first
   | (with_reducible exact ih0 _ _ _ _ _ _)
   | (with_reducible exact headgatelaw19_awake.mono _)
   | (with_reducible exact headgatelaw19_is.mono _ _ _ _)
   | (with_reducible exact headgatelaw19_made.mono _ _)
   | (with_reducible exact LeO.refl _)
   | (with_reducible exact LeO.none _)
   | (with_reducible refine LeO.ite ?_ ?_)
   | (with_reducible refine LeO.bind ?_ (fun _ => ?_))
   | exact ih0 _ _ _ _ _ _
   | exact headgatelaw19_awake.mono _
   | exact headgatelaw19_is.mono _ _ _ _
   | exact headgatelaw19_made.mono _ _
   | exact LeO.none _
   | refine LeO.ite ?_ ?_
   | refine LeO.bind ?_ (fun _ => ?_)
set_option maxHeartbeats 2000000 in
set_option maxRecDepth 100000 in
theorem headgatelaw19_HeldUndo.calls (k : Nat) (A0 : Option Addr) (c0 : Nat) (l0 : List Int) (a1 : Int) (a2 : Int) (r : Bool) (w : World) (hr0 : Kd.C (Kd.int .i64) w A0 l0.length l0) (hc0 : l0.length ≤ c0) (HT : Aside0 (r = true)) (h : headgatelaw19_HeldUndo.f k l0 a1 a2 = some r) :
  Calls Try.prog 6 #[.slice A0 l0.length c0, .int .i64 a1, .int .i64 a2] w fun e w' => e = .returned (.bool r) ∧ Below w.heap.size w w' := by
 have hu32 := Try.underlying32
 have HR0 := Aside0.mk hr0
 have HC0 := Aside0.mk hc0
 clear hr0 hc0
 have HB := Aside0.mk (Below.refl w.heap.size w)
 have H : ((headgatelaw19_made.f k l0).bind fun t152 => ((headgatekit_Mod.f a1 60).bind fun t155 => ((headgatekit_Mod.f a2 80).bind fun t156 => ((headgatekit_OwnWrites.f t152).bind fun t157 => ((held_Add.f t157 t155 t156).bind fun bt160 => (if bt160.2 = 0 then ((held_Check.f bt160.1).bind fun bt169 => ((held_Remove.f bt160.1 t155).bind fun bt171 => (if bt169.1 = 0 then (if (bt171.2.1 == t155 && (bt171.2.2.1 == t156 && (bt171.2.2.2.1 == 0))) = true then ((headgatelaw19_is.f k bt171.1 t152 bt171.2.2.2.2).bind fun t179 => (if t179 = true then ((headgatelaw19_awake.f k).bind fun t180 => (some t180)) else (some false))) else (some false)) else (some false)))) else (headgatelaw19_HeldUndo.l0 k t152 t155 t156 bt160.2 false 0))))))) = some r := h
 clear h
 replace H := Option.bind_eq_some_iff.mp H
 obtain ⟨t152, A40, H⟩ := H
 replace H : ((headgatekit_Mod.f a1 60).bind fun t155 => ((headgatekit_Mod.f a2 80).bind fun t156 => ((headgatekit_OwnWrites.f t152).bind fun t157 => ((held_Add.f t157 t155 t156).bind fun bt160 => (if bt160.2 = 0 then ((held_Check.f bt160.1).bind fun bt169 => ((held_Remove.f bt160.1 t155).bind fun bt171 => (if bt169.1 = 0 then (if (bt171.2.1 == t155 && (bt171.2.2.1 == t156 && (bt171.2.2.2.1 == 0))) = true then ((headgatelaw19_is.f k bt171.1 t152 bt171.2.2.2.2).bind fun t179 => (if t179 = true then ((headgatelaw19_awake.f k).bind fun t180 => (some t180)) else (some false))) else (some false)) else (some false)))) else (headgatelaw19_HeldUndo.l0 k t152 t155 t156 bt160.2 false 0)))))) = some r := H
 have A4 := Aside0.mk A40
 clear A40
 replace H := Option.bind_eq_some_iff.mp H
 obtain ⟨t155, A50, H⟩ := H
 replace H : ((headgatekit_Mod.f a2 80).bind fun t156 => ((headgatekit_OwnWrites.f t152).bind fun t157 => ((held_Add.f t157 t155 t156).bind fun bt160 => (if bt160.2 = 0 then ((held_Check.f bt160.1).bind fun bt169 => ((held_Remove.f bt160.1 t155).bind fun bt171 => (if bt169.1 = 0 then (if (bt171.2.1 == t155 && (bt171.2.2.1 == t156 && (bt171.2.2.2.1 == 0))) = true then ((headgatelaw19_is.f k bt171.1 t152 bt171.2.2.2.2).bind fun t179 => (if t179 = true then ((headgatelaw19_awake.f k).bind fun t180 => (some t180)) else (some false))) else (some false)) else (some false)))) else (headgatelaw19_HeldUndo.l0 k t152 t155 t156 bt160.2 false 0))))) = some r := H
 have A5 := Aside0.mk A50
 clear A50
 replace H := Option.bind_eq_some_iff.mp H
 obtain ⟨t156, A60, H⟩ := H
 replace H : ((headgatekit_OwnWrites.f t152).bind fun t157 => ((held_Add.f t157 t155 t156).bind fun bt160 => (if bt160.2 = 0 then ((held_Check.f bt160.1).bind fun bt169 => ((held_Remove.f bt160.1 t155).bind fun bt171 => (if bt169.1 = 0 then (if (bt171.2.1 == t155 && (bt171.2.2.1 == t156 && (bt171.2.2.2.1 == 0))) = true then ((headgatelaw19_is.f k bt171.1 t152 bt171.2.2.2.2).bind fun t179 => (if t179 = true then ((headgatelaw19_awake.f k).bind fun t180 => (some t180)) else (some false))) else (some false)) else (some false)))) else (headgatelaw19_HeldUndo.l0 k t152 t155 t156 bt160.2 false 0)))) = some r := H
 have A6 := Aside0.mk A60
 clear A60
 replace H := Option.bind_eq_some_iff.mp H
 obtain ⟨t157, A70, H⟩ := H
 replace H : ((held_Add.f t157 t155 t156).bind fun bt160 => (if bt160.2 = 0 then ((held_Check.f bt160.1).bind fun bt169 => ((held_Remove.f bt160.1 t155).bind fun bt171 => (if bt169.1 = 0 then (if (bt171.2.1 == t155 && (bt171.2.2.1 == t156 && (bt171.2.2.2.1 == 0))) = true then ((headgatelaw19_is.f k bt171.1 t152 bt171.2.2.2.2).bind fun t179 => (if t179 = true then ((headgatelaw19_awake.f k).bind fun t180 => (some t180)) else (some false))) else (some false)) else (some false)))) else (headgatelaw19_HeldUndo.l0 k t152 t155 t156 bt160.2 false 0))) = some r := H
 have A7 := Aside0.mk A70
 clear A70
 replace H := Option.bind_eq_some_iff.mp H
 obtain ⟨⟨t160, t161⟩, A80, H⟩ := H
 replace H : (if t161 = 0 then ((held_Check.f t160).bind fun bt169 => ((held_Remove.f t160 t155).bind fun bt171 => (if bt169.1 = 0 then (if (bt171.2.1 == t155 && (bt171.2.2.1 == t156 && (bt171.2.2.2.1 == 0))) = true then ((headgatelaw19_is.f k bt171.1 t152 bt171.2.2.2.2).bind fun t179 => (if t179 = true then ((headgatelaw19_awake.f k).bind fun t180 => (some t180)) else (some false))) else (some false)) else (some false)))) else (headgatelaw19_HeldUndo.l0 k t152 t155 t156 t161 false 0)) = some r := H
 have A8 := Aside0.mk A80
 clear A80
 by_cases c9 : t161 = 0
 ·
  rw [if_pos c9] at H
  have c9b0 : (t161 == 0) = true := beq_iff_eq.mpr c9
  have c9b1 : (t161 != 0) = false := bne_eq_false_iff_eq.mpr c9
  clear c9
  replace H := Option.bind_eq_some_iff.mp H
  obtain ⟨⟨t169, t170⟩, A100, H⟩ := H
  replace H : ((held_Remove.f t160 t155).bind fun bt171 => (if t169 = 0 then (if (bt171.2.1 == t155 && (bt171.2.2.1 == t156 && (bt171.2.2.2.1 == 0))) = true then ((headgatelaw19_is.f k bt171.1 t152 bt171.2.2.2.2).bind fun t179 => (if t179 = true then ((headgatelaw19_awake.f k).bind fun t180 => (some t180)) else (some false))) else (some false)) else (some false))) = some r := H
  have A10 := Aside0.mk A100
  clear A100
  replace H := Option.bind_eq_some_iff.mp H
  obtain ⟨⟨t171, t174, t175, t176, t177⟩, A110, H⟩ := H
  replace H : (if t169 = 0 then (if (t174 == t155 && (t175 == t156 && (t176 == 0))) = true then ((headgatelaw19_is.f k t171 t152 t177).bind fun t179 => (if t179 = true then ((headgatelaw19_awake.f k).bind fun t180 => (some t180)) else (some false))) else (some false)) else (some false)) = some r := H
  have A11 := Aside0.mk A110
  clear A110
  by_cases c12 : t169 = 0
  ·
   rw [if_pos c12] at H
   have c12b0 : (t169 == 0) = true := beq_iff_eq.mpr c12
   have c12b1 : (t169 != 0) = false := bne_eq_false_iff_eq.mpr c12
   clear c12
   by_cases c13 : (t174 == t155 && (t175 == t156 && (t176 == 0))) = true
   ·
    rw [if_pos c13] at H
    have c13b0 : (t174 == t155 && (t175 == t156 && (t176 == 0))) = true := c13
    (try (have c13b1 : decide (t174 = t155 && (t175 == t156 && (t176 == 0))) = true := by simpa using c13))
    (try (have c13b2 : (t174 == t155 && (t175 == t156 && (t176 == 0))) = true := by simpa using c13))
    clear c13
    replace H := Option.bind_eq_some_iff.mp H
    obtain ⟨t179, A140, H⟩ := H
    replace H : (if t179 = true then ((headgatelaw19_awake.f k).bind fun t180 => (some t180)) else (some false)) = some r := H
    have A14 := Aside0.mk A140
    clear A140
    by_cases c15 : t179 = true
    ·
     subst c15
     have H1 : ((headgatelaw19_awake.f k).bind fun t180 => (some t180)) = some r := by rw [if_pos rfl] at H; exact H
     clear H
     have H := H1
     clear H1
     replace H := Option.bind_eq_some_iff.mp H
     obtain ⟨t180, A160, H⟩ := H
     replace H : (some t180) = some r := H
     have A16 := Aside0.mk A160
     clear A160
     obtain rfl := Option.some.inj H
     go_enter Try.func6, Try.ntmps6
     go_wp2_with (first | ((with_reducible refine gate_callee (f := 9) rfl ?_); refine goesL_ (some 20) rfl rfl Try.func9 (by kernel_rfl) rfl #[.slice A0 l0.length c0] rfl (by (try simp only [List.map_toArray, List.map_cons, List.map_nil]); first | done | rfl | (simp only [List.length_drop, List.length_take]; rfl)) ?_; (with_reducible refine (headgatelaw19_made.calls k _ _ l0 t152 _ ?side1 ?side2 A4.out).mono ?_); (case side1 => repeat (first | exact HR0.out | (with_reducible refine Kd.C_alloc ?_ _) | (with_reducible refine Kd.C_drewN ?_ _) | (with_reducible refine Kd.C_drew ?_))); (case side2 => exact HC0.out); rintro e w17 ⟨v153, rfl, ho0, hb⟩; refine ⟨_, rfl, ?_⟩; have n0_ := Aside0.mk (Kd.R_lower ho0 (below_size (by repeat (first | (with_reducible first | exact HB.out | apply below_alloc | apply pw_below_drewN | apply below_drew1) | exact HB.out)))); have n1_ := Aside0.mk (below_step (by repeat (first | (with_reducible first | exact HB.out | apply below_alloc | apply pw_below_drewN | apply below_drew1) | exact HB.out)) hb); clear HB; have HO154 := n0_; have HB := n1_; clear n0_ n1_; (try clear hb); (try clear hb2); (try clear hk); (try clear hi); (try clear ho0)) | ((with_reducible refine gate_callee (f := 11) rfl ?_); refine goesL_ (some 22) rfl rfl Try.func11 (by kernel_rfl) rfl #[.int .i64 a1, .int .i64 60] rfl (by (try simp only [List.map_toArray, List.map_cons, List.map_nil]); first | done | rfl | (simp only [List.length_drop, List.length_take]; rfl)) ?_; (with_reducible refine (headgatekit_Mod.calls a1 60 t155 _ A5.out).mono ?_); rintro e w' ⟨rfl, ⟨nd, rfl⟩⟩; refine ⟨_, rfl, ?_⟩; (try (rw [drewN_self w17]; generalize hq_ : World.drewN w17 _ = w17; have n0_ : Aside0 (Kd.R k32 32 w17 w.heap.size (fun _ => True) v153 t152) := ⟨by rw [← hq_]; exact (by (with_reducible repeat (first | apply Kd.R_alloc | apply Kd.R_drewN | apply Kd.R_drew)); exact HO154.out)⟩; have n1_ : Aside0 (Below w.heap.size w w17) := ⟨by rw [← hq_]; exact (by repeat (first | (with_reducible first | exact HB.out | apply below_alloc | apply pw_below_drewN | apply below_drew1) | exact HB.out))⟩; clear HO154 HB hq_; have HO154 := n0_; have HB := n1_; clear n0_ n1_))) | ((with_reducible refine gate_callee (f := 11) rfl ?_); refine goesL_ (some 24) rfl rfl Try.func11 (by kernel_rfl) rfl #[.int .i64 a2, .int .i64 80] rfl (by (try simp only [List.map_toArray, List.map_cons, List.map_nil]); first | done | rfl | (simp only [List.length_drop, List.length_take]; rfl)) ?_; (with_reducible refine (headgatekit_Mod.calls a2 80 t156 _ A6.out).mono ?_); rintro e w' ⟨rfl, ⟨nd, rfl⟩⟩; refine ⟨_, rfl, ?_⟩; (try (rw [drewN_self w17]; generalize hq_ : World.drewN w17 _ = w17; have n0_ : Aside0 (Kd.R k32 32 w17 w.heap.size (fun _ => True) v153 t152) := ⟨by rw [← hq_]; exact (by (with_reducible repeat (first | apply Kd.R_alloc | apply Kd.R_drewN | apply Kd.R_drew)); exact HO154.out)⟩; have n1_ : Aside0 (Below w.heap.size w w17) := ⟨by rw [← hq_]; exact (by repeat (first | (with_reducible first | exact HB.out | apply below_alloc | apply pw_below_drewN | apply below_drew1) | exact HB.out))⟩; clear HO154 HB hq_; have HO154 := n0_; have HB := n1_; clear n0_ n1_)); obtain ⟨Ao18, co18, eo18⟩ := Kd.R_slice HO154.out; subst eo18) | ((with_reducible refine gate_callee (f := 13) rfl ?_); refine goesL_ (some 27) rfl rfl Try.func13 (by kernel_rfl) rfl #[.slice Ao18 t152.length co18] rfl (by (try simp only [List.map_toArray, List.map_cons, List.map_nil]); first | done | rfl | (simp only [List.length_drop, List.length_take]; rfl)) ?_; (with_reducible refine (headgatekit_OwnWrites.calls _ _ t152 t157 _ ?side1 ?side2 A7.out).mono ?_); (case side1 => repeat (first | exact (Kd.R_reads' HO154.out).2.2 | (with_reducible refine Kd.C_alloc ?_ _) | (with_reducible refine Kd.C_drewN ?_ _) | (with_reducible refine Kd.C_drew ?_))); (case side2 => exact (Kd.R_reads' HO154.out).2.1); rintro e w19 ⟨v158, rfl, ho0, hb⟩; refine ⟨_, rfl, ?_⟩; have n0_ := Aside0.mk (Kd.R_elder' (by (with_reducible repeat (first | apply Kd.R_alloc | apply Kd.R_drewN | apply Kd.R_drew)); exact HO154.out) (Kd.R_base ho0) hb); have n1_ := Aside0.mk (Kd.R_lower (Kd.R_new' ho0 (Kd.R_lt (by (with_reducible repeat (first | apply Kd.R_alloc | apply Kd.R_drewN | apply Kd.R_drew)); exact HO154.out))) (below_size (by repeat (first | (with_reducible first | exact HB.out | apply below_alloc | apply pw_below_drewN | apply below_drew1) | exact HB.out)))); have n2_ := Aside0.mk (below_step (by repeat (first | (with_reducible first | exact HB.out | apply below_alloc | apply pw_below_drewN | apply below_drew1) | exact HB.out)) hb); clear HO154; clear HB; have HO154 := n0_; have HO159 := n1_; have HB := n2_; clear n0_ n1_ n2_; (try clear hb); (try clear hb2); (try clear hk); (try clear hi); (try clear ho0); obtain ⟨Ao20, co20, eo20⟩ := Kd.R_slice HO159.out; subst eo20) | ((with_reducible refine gate_callee (f := 21) rfl ?_); refine goesL_ (some 30) rfl rfl Try.func21 (by kernel_rfl) rfl #[.slice Ao20 t157.length co20, .int .i64 t155, .int .i64 t156] rfl (by (try simp only [List.map_toArray, List.map_cons, List.map_nil]); first | done | rfl | (simp only [List.length_drop, List.length_take]; rfl)) ?_; (with_reducible refine (held_Add.calls _ _ t157 t155 t156 t160 t161 _ ?side1 ?side2 A8.out).mono ?_); (case side1 => repeat (first | exact (Kd.R_reads' HO159.out).2.2 | (with_reducible refine Kd.C_alloc ?_ _) | (with_reducible refine Kd.C_drewN ?_ _) | (with_reducible refine Kd.C_drew ?_))); (case side2 => exact (Kd.R_reads' HO159.out).2.1); rintro e w21 ⟨v162, rfl, ho0, hb⟩; refine ⟨_, rfl, ?_⟩; have n0_ := Aside0.mk (Kd.R_elder' (by (with_reducible repeat (first | apply Kd.R_alloc | apply Kd.R_drewN | apply Kd.R_drew)); exact HO154.out) (Kd.R_base ho0) hb); have n1_ := Aside0.mk (Kd.R_elder' (by (with_reducible repeat (first | apply Kd.R_alloc | apply Kd.R_drewN | apply Kd.R_drew)); exact HO159.out) (Kd.R_base ho0) hb); have n2_ := Aside0.mk (Kd.R_lower (Kd.R_new' (Kd.R_new' ho0 (Kd.R_lt (by (with_reducible repeat (first | apply Kd.R_alloc | apply Kd.R_drewN | apply Kd.R_drew)); exact HO154.out))) (Kd.R_lt (by (with_reducible repeat (first | apply Kd.R_alloc | apply Kd.R_drewN | apply Kd.R_drew)); exact HO159.out))) (below_size (by repeat (first | (with_reducible first | exact HB.out | apply below_alloc | apply pw_below_drewN | apply below_drew1) | exact HB.out)))); have n3_ := Aside0.mk (below_step (by repeat (first | (with_reducible first | exact HB.out | apply below_alloc | apply pw_below_drewN | apply below_drew1) | exact HB.out)) hb); clear HO154; clear HO159; clear HB; have HO154 := n0_; have HO159 := n1_; have HO163 := n2_; have HB := n3_; clear n0_ n1_ n2_ n3_; (try clear hb); (try clear hb2); (try clear hk); (try clear hi); (try clear ho0); obtain ⟨Ao22, co22, eo22⟩ := Kd.R_slice HO163.out; subst eo22) | ((with_reducible refine gate_callee (f := 19) rfl ?_); refine goesL_ (some 83) rfl rfl Try.func19 (by kernel_rfl) rfl #[.slice Ao22 t160.length co22] rfl (by (try simp only [List.map_toArray, List.map_cons, List.map_nil]); first | done | rfl | (simp only [List.length_drop, List.length_take]; rfl)) ?_; (with_reducible refine (held_Check.calls _ _ t160 t169 t170 _ ?side1 ?side2 A10.out).mono ?_); (case side1 => repeat (first | exact (Kd.R_reads' HO163.out).2.2 | (with_reducible refine Kd.C_alloc ?_ _) | (with_reducible refine Kd.C_drewN ?_ _) | (with_reducible refine Kd.C_drew ?_))); (case side2 => exact (Kd.R_reads' HO163.out).2.1); rintro e w23 ⟨rfl, hb⟩; refine ⟨_, rfl, ?_⟩; have n0_ := Aside0.mk (Kd.R_below (by (with_reducible repeat (first | apply Kd.R_alloc | apply Kd.R_drewN | apply Kd.R_drew)); exact HO154.out) hb); have n1_ := Aside0.mk (Kd.R_below (by (with_reducible repeat (first | apply Kd.R_alloc | apply Kd.R_drewN | apply Kd.R_drew)); exact HO159.out) hb); have n2_ := Aside0.mk (Kd.R_below (by (with_reducible repeat (first | apply Kd.R_alloc | apply Kd.R_drewN | apply Kd.R_drew)); exact HO163.out) hb); have n3_ := Aside0.mk (below_step (by repeat (first | (with_reducible first | exact HB.out | apply below_alloc | apply pw_below_drewN | apply below_drew1) | exact HB.out)) hb); clear HO154; clear HO159; clear HO163; clear HB; have HO154 := n0_; have HO159 := n1_; have HO163 := n2_; have HB := n3_; clear n0_ n1_ n2_ n3_; (try clear hb); (try clear hb2); (try clear hk); (try clear hi)) | ((with_reducible refine gate_callee (f := 17) rfl ?_); refine goesL_ (some 89) rfl rfl Try.func17 (by kernel_rfl) rfl #[.slice Ao22 t160.length co22, .int .i64 t155] rfl (by (try simp only [List.map_toArray, List.map_cons, List.map_nil]); first | done | rfl | (simp only [List.length_drop, List.length_take]; rfl)) ?_; (with_reducible refine (held_Remove.calls _ _ t160 t155 t171 t174 t175 t176 t177 _ ?side1 ?side2 A11.out).mono ?_); (case side1 => repeat (first | exact (Kd.R_reads' HO163.out).2.2 | (with_reducible refine Kd.C_alloc ?_ _) | (with_reducible refine Kd.C_drewN ?_ _) | (with_reducible refine Kd.C_drew ?_))); (case side2 => exact (Kd.R_reads' HO163.out).2.1); rintro e w24 ⟨v172, rfl, ho0, hb⟩; refine ⟨_, rfl, ?_⟩; have n0_ := Aside0.mk (Kd.R_elder' (by (with_reducible repeat (first | apply Kd.R_alloc | apply Kd.R_drewN | apply Kd.R_drew)); exact HO154.out) (Kd.R_base ho0) hb); have n1_ := Aside0.mk (Kd.R_elder' (by (with_reducible repeat (first | apply Kd.R_alloc | apply Kd.R_drewN | apply Kd.R_drew)); exact HO159.out) (Kd.R_base ho0) hb); have n2_ := Aside0.mk (Kd.R_elder' (by (with_reducible repeat (first | apply Kd.R_alloc | apply Kd.R_drewN | apply Kd.R_drew)); exact HO163.out) (Kd.R_base ho0) hb); have n3_ := Aside0.mk (Kd.R_lower (Kd.R_new' (Kd.R_new' (Kd.R_new' ho0 (Kd.R_lt (by (with_reducible repeat (first | apply Kd.R_alloc | apply Kd.R_drewN | apply Kd.R_drew)); exact HO154.out))) (Kd.R_lt (by (with_reducible repeat (first | apply Kd.R_alloc | apply Kd.R_drewN | apply Kd.R_drew)); exact HO159.out))) (Kd.R_lt (by (with_reducible repeat (first | apply Kd.R_alloc | apply Kd.R_drewN | apply Kd.R_drew)); exact HO163.out))) (below_size (by repeat (first | (with_reducible first | exact HB.out | apply below_alloc | apply pw_below_drewN | apply below_drew1) | exact HB.out)))); have n4_ := Aside0.mk (below_step (by repeat (first | (with_reducible first | exact HB.out | apply below_alloc | apply pw_below_drewN | apply below_drew1) | exact HB.out)) hb); clear HO154; clear HO159; clear HO163; clear HB; have HO154 := n0_; have HO159 := n1_; have HO163 := n2_; have HO173 := n3_; have HB := n4_; clear n0_ n1_ n2_ n3_ n4_; (try clear hb); (try clear hb2); (try clear hk); (try clear hi); (try clear ho0)) | ((with_reducible refine gate_dst (N := 17) rfl ?_); (try (refine gate_guard (by rfl) ?_; dsimp only)); refine box_event ?hg (N := 17) ?hd (cs := #[.int .i64 0, .int .i64 0, .int .i64 0]) (t := 32) ?hr ?_; (case hd => rfl); (case hg => rfl); (case hr => first | (go_simp; done) | (go_simp; rfl)); intro gb178 hg w25 hbox hb; have n0_ := Aside0.mk (Kd.R_below (Kd.R_elderB (by (with_reducible repeat (first | apply Kd.R_alloc | apply Kd.R_drewN | apply Kd.R_drew)); exact HO154.out) gb178 (Nat.le_of_eq hg.symm)) hb); have n1_ := Aside0.mk (Kd.R_below (Kd.R_elderB (by (with_reducible repeat (first | apply Kd.R_alloc | apply Kd.R_drewN | apply Kd.R_drew)); exact HO159.out) gb178 (Nat.le_of_eq hg.symm)) hb); have n2_ := Aside0.mk (Kd.R_below (Kd.R_elderB (by (with_reducible repeat (first | apply Kd.R_alloc | apply Kd.R_drewN | apply Kd.R_drew)); exact HO163.out) gb178 (Nat.le_of_eq hg.symm)) hb); have n3_ := Aside0.mk (Kd.R_below (Kd.R_elderB (by (with_reducible repeat (first | apply Kd.R_alloc | apply Kd.R_drewN | apply Kd.R_drew)); exact HO173.out) gb178 (Nat.le_of_eq hg.symm)) hb); have n4_ := Aside0.mk (below_step (by repeat (first | (with_reducible first | exact HB.out | apply below_alloc | apply pw_below_drewN | apply below_drew1) | exact HB.out)) hb); have n5_ := Aside0.mk (hbox); have n6_ := Aside0.mk ((by rw [hg]; exact (below_size (by repeat (first | (with_reducible first | exact HB.out | apply below_alloc | apply pw_below_drewN | apply below_drew1) | exact HB.out))) : w.heap.size ≤ gb178)); have n7_ := Aside0.mk ((by rw [hg]; exact (below_size (by repeat (first | (with_reducible first | exact HB.out | apply below_alloc | apply pw_below_drewN | apply below_drew1) | exact HB.out))) : w.heap.size ≤ gb178)); clear HO154; clear HO159; clear HO163; clear HO173; clear HB; have HO154 := n0_; have HO159 := n1_; have HO163 := n2_; have HO173 := n3_; have HB := n4_; have BK178 := n5_; have GW178 := n6_; have GE178 := n7_; clear n0_ n1_ n2_ n3_ n4_ n5_ n6_ n7_; clear hb hbox hg; have hcz26_0 : w25.cell? ⟨gb178, 0, none⟩ = some (.int .i64 0) := (blk_cell BK178.out 0).trans rfl; have hcz26_1 : w25.cell? ⟨gb178, 1, none⟩ = some (.int .i64 0) := (blk_cell BK178.out 1).trans rfl; have hcz26_2 : w25.cell? ⟨gb178, 2, none⟩ = some (.int .i64 0) := (blk_cell BK178.out 2).trans rfl; have hfz26_0 := blk_frozen BK178.out 0; have hfz26_1 := blk_frozen BK178.out 1; have hfz26_2 := blk_frozen BK178.out 2; obtain ⟨Ao27, co27, eo27⟩ := Kd.R_slice HO173.out; subst eo27) | (go_at_call 16; refine calls_of_args (args' := #[.slice Ao27 t171.length co27, .slice Ao18 t152.length co18, .int .i64 t177]) (by first | rfl) ?_; (with_reducible refine (headgatelaw19_is.calls k _ _ t171 _ _ t152 t177 true _ ?side1 ?side2 ?side3 ?side4 A14.out).mono ?_); (case side1 => refine (Kd.R_reads' (e := 32) (base := w.heap.size) (ok := fun k_ => ((((True ∧ some k_ ≠ (.slice Ao18 t152.length co18 : Value).ownBlock) ∧ some k_ ≠ (.slice Ao20 t157.length co20 : Value).ownBlock) ∧ some k_ ≠ (.slice Ao22 t160.length co22 : Value).ownBlock) ∧ k_ ≠ gb178)) (n := t171.length) (c := co27) ?_).2.2; exact (by (with_reducible repeat (first | apply Kd.R_alloc | apply Kd.R_drewN | apply Kd.R_drew)); exact (Kd.R_mono (Kd.R_far (p := ⟨gb178, 2, none⟩) (Kd.R_far (p := ⟨gb178, 1, none⟩) (Kd.R_far (p := ⟨gb178, 0, none⟩) (Kd.R_mono HO173.out (fun k_ hk => (⟨hk, hk.2⟩ : _ ∧ k_ ≠ gb178))) (fun _ hk => hk.2) (.int .i64 t174)) (fun _ hk => hk.2) (.int .i64 t175)) (fun _ hk => hk.2) (.int .i64 t176)) (fun _ h_ => h_.1)))); (case side2 => exact (Kd.R_reads' HO173.out).2.1); (case side3 => refine (Kd.R_reads' (e := 32) (base := w.heap.size) (ok := fun k_ => ((((True ∧ some k_ ≠ (.slice Ao20 t157.length co20 : Value).ownBlock) ∧ some k_ ≠ (.slice Ao22 t160.length co22 : Value).ownBlock) ∧ some k_ ≠ (.slice Ao27 t171.length co27 : Value).ownBlock) ∧ k_ ≠ gb178)) (n := t152.length) (c := co18) ?_).2.2; exact (by (with_reducible repeat (first | apply Kd.R_alloc | apply Kd.R_drewN | apply Kd.R_drew)); exact (Kd.R_mono (Kd.R_far (p := ⟨gb178, 2, none⟩) (Kd.R_far (p := ⟨gb178, 1, none⟩) (Kd.R_far (p := ⟨gb178, 0, none⟩) (Kd.R_mono HO154.out (fun k_ hk => (⟨hk, hk.2⟩ : _ ∧ k_ ≠ gb178))) (fun _ hk => hk.2) (.int .i64 t174)) (fun _ hk => hk.2) (.int .i64 t175)) (fun _ hk => hk.2) (.int .i64 t176)) (fun _ h_ => h_.1)))); (case side4 => exact (Kd.R_reads' HO154.out).2.1); rintro e w' ⟨rfl, ⟨nd, rfl⟩⟩) | (go_at_call 10; refine calls_of_args (args' := #[]) (by first | rfl) ?_; (with_reducible refine (headgatelaw19_awake.calls k  t180 _ A16.out).mono ?_); rintro e w28 ⟨rfl, hb⟩; have n0_ := Aside0.mk (Kd.R_below (by (with_reducible repeat (first | apply Kd.R_alloc | apply Kd.R_drewN | apply Kd.R_drew)); exact (Kd.R_mono (Kd.R_far (p := ⟨gb178, 2, none⟩) (Kd.R_far (p := ⟨gb178, 1, none⟩) (Kd.R_far (p := ⟨gb178, 0, none⟩) (Kd.R_mono HO154.out (fun k_ hk => (⟨hk, hk.2⟩ : _ ∧ k_ ≠ gb178))) (fun _ hk => hk.2) (.int .i64 t174)) (fun _ hk => hk.2) (.int .i64 t175)) (fun _ hk => hk.2) (.int .i64 t176)) (fun _ h_ => h_.1))) hb); have n1_ := Aside0.mk (Kd.R_below (by (with_reducible repeat (first | apply Kd.R_alloc | apply Kd.R_drewN | apply Kd.R_drew)); exact (Kd.R_mono (Kd.R_far (p := ⟨gb178, 2, none⟩) (Kd.R_far (p := ⟨gb178, 1, none⟩) (Kd.R_far (p := ⟨gb178, 0, none⟩) (Kd.R_mono HO159.out (fun k_ hk => (⟨hk, hk.2⟩ : _ ∧ k_ ≠ gb178))) (fun _ hk => hk.2) (.int .i64 t174)) (fun _ hk => hk.2) (.int .i64 t175)) (fun _ hk => hk.2) (.int .i64 t176)) (fun _ h_ => h_.1))) hb); have n2_ := Aside0.mk (Kd.R_below (by (with_reducible repeat (first | apply Kd.R_alloc | apply Kd.R_drewN | apply Kd.R_drew)); exact (Kd.R_mono (Kd.R_far (p := ⟨gb178, 2, none⟩) (Kd.R_far (p := ⟨gb178, 1, none⟩) (Kd.R_far (p := ⟨gb178, 0, none⟩) (Kd.R_mono HO163.out (fun k_ hk => (⟨hk, hk.2⟩ : _ ∧ k_ ≠ gb178))) (fun _ hk => hk.2) (.int .i64 t174)) (fun _ hk => hk.2) (.int .i64 t175)) (fun _ hk => hk.2) (.int .i64 t176)) (fun _ h_ => h_.1))) hb); have n3_ := Aside0.mk (Kd.R_below (by (with_reducible repeat (first | apply Kd.R_alloc | apply Kd.R_drewN | apply Kd.R_drew)); exact (Kd.R_mono (Kd.R_far (p := ⟨gb178, 2, none⟩) (Kd.R_far (p := ⟨gb178, 1, none⟩) (Kd.R_far (p := ⟨gb178, 0, none⟩) (Kd.R_mono HO173.out (fun k_ hk => (⟨hk, hk.2⟩ : _ ∧ k_ ≠ gb178))) (fun _ hk => hk.2) (.int .i64 t174)) (fun _ hk => hk.2) (.int .i64 t175)) (fun _ hk => hk.2) (.int .i64 t176)) (fun _ h_ => h_.1))) hb); have n4_ := Aside0.mk (blk_below (g := gb178) (o := .cells #[.int .i64 t174, .int .i64 t175, .int .i64 t176] 32 (0, 0)) (by (with_reducible repeat (first | refine blk_drewN ?_ _ | refine blk_drew ?_ | refine blk_alloc ?_ _)); refine blk_put (cs := #[.int .i64 t174, .int .i64 t175, .int .i64 0]) ?_ 2 _ rfl; (with_reducible repeat (first | refine blk_drewN ?_ _ | refine blk_drew ?_ | refine blk_alloc ?_ _)); refine blk_put (cs := #[.int .i64 t174, .int .i64 0, .int .i64 0]) ?_ 1 _ rfl; (with_reducible repeat (first | refine blk_drewN ?_ _ | refine blk_drew ?_ | refine blk_alloc ?_ _)); refine blk_put (cs := #[.int .i64 0, .int .i64 0, .int .i64 0]) ?_ 0 _ rfl; (with_reducible repeat (first | refine blk_drewN ?_ _ | refine blk_drew ?_ | refine blk_alloc ?_ _)); exact BK178.out) hb); have n5_ := Aside0.mk (below_step (by repeat (first | (with_reducible first | exact HB.out | apply below_alloc | apply pw_below_drewN | apply below_drew1 | refine below_set ?_ GE178.out) | exact HB.out)) hb); clear HO154; clear HO159; clear HO163; clear HO173; clear BK178; clear HB; have HO154 := n0_; have HO159 := n1_; have HO163 := n2_; have HO173 := n3_; have BK178 := n4_; have HB := n5_; clear n0_ n1_ n2_ n3_ n4_ n5_; (try clear hb); (try clear hb2); (try clear hk); (try clear hi)))
     go_ret
     exact ⟨by first | rfl | (simp [errW_none, errW_some] <;> rfl) | (simp [*, errW_none, errW_some] <;> rfl), by repeat (first | (with_reducible first | exact HB.out | apply below_alloc | apply pw_below_drewN | apply below_drew1 | refine below_set ?_ GE178.out) | exact HB.out)⟩
    ·
     replace c15 := Bool.eq_false_iff.mpr c15
     subst c15
     have H1 : (some false) = some r := by rw [if_neg (show ¬ (false = true) by decide)] at H; exact H
     clear H
     have H := H1
     clear H1
     exact absurd H (by rw [HT.out]; simp)
   ·
    rw [if_neg c13] at H
    have c13b0 : (t174 == t155 && (t175 == t156 && (t176 == 0))) = false := by simpa using c13
    (try (have c13b1 : decide (t174 = t155 && (t175 == t156 && (t176 == 0))) = false := by simpa using c13))
    (try (have c13b2 : (t174 == t155 && (t175 == t156 && (t176 == 0))) = false := by simpa using c13))
    (try (have c13b3 : ¬ (t174 = t155 && (t175 == t156 && (t176 == 0))) := by simpa using c13))
    clear c13
    exact absurd H (by rw [HT.out]; simp)
  ·
   rw [if_neg c12] at H
   have c12b0 : (t169 == 0) = false := beq_eq_false_iff_ne.mpr c12
   have c12b1 : (t169 != 0) = true := bne_iff_ne.mpr c12
   exact absurd H (by rw [HT.out]; simp)
 ·
  rw [if_neg c9] at H
  have c9b0 : (t161 == 0) = false := beq_eq_false_iff_ne.mpr c9
  have c9b1 : (t161 != 0) = true := bne_iff_ne.mpr c9
  have H' := Aside0.mk H
  clear H
  go_enter Try.func6, Try.ntmps6
  go_wp2_with (first | ((with_reducible refine gate_callee (f := 9) rfl ?_); refine goesL_ (some 20) rfl rfl Try.func9 (by kernel_rfl) rfl #[.slice A0 l0.length c0] rfl (by (try simp only [List.map_toArray, List.map_cons, List.map_nil]); first | done | rfl | (simp only [List.length_drop, List.length_take]; rfl)) ?_; (with_reducible refine (headgatelaw19_made.calls k _ _ l0 t152 _ ?side1 ?side2 A4.out).mono ?_); (case side1 => repeat (first | exact HR0.out | (with_reducible refine Kd.C_alloc ?_ _) | (with_reducible refine Kd.C_drewN ?_ _) | (with_reducible refine Kd.C_drew ?_))); (case side2 => exact HC0.out); rintro e w29 ⟨v153, rfl, ho0, hb⟩; refine ⟨_, rfl, ?_⟩; have n0_ := Aside0.mk (Kd.R_lower ho0 (below_size (by repeat (first | (with_reducible first | exact HB.out | apply below_alloc | apply pw_below_drewN | apply below_drew1) | exact HB.out)))); have n1_ := Aside0.mk (below_step (by repeat (first | (with_reducible first | exact HB.out | apply below_alloc | apply pw_below_drewN | apply below_drew1) | exact HB.out)) hb); clear HB; have HO154 := n0_; have HB := n1_; clear n0_ n1_; (try clear hb); (try clear hb2); (try clear hk); (try clear hi); (try clear ho0)) | ((with_reducible refine gate_callee (f := 11) rfl ?_); refine goesL_ (some 22) rfl rfl Try.func11 (by kernel_rfl) rfl #[.int .i64 a1, .int .i64 60] rfl (by (try simp only [List.map_toArray, List.map_cons, List.map_nil]); first | done | rfl | (simp only [List.length_drop, List.length_take]; rfl)) ?_; (with_reducible refine (headgatekit_Mod.calls a1 60 t155 _ A5.out).mono ?_); rintro e w' ⟨rfl, ⟨nd, rfl⟩⟩; refine ⟨_, rfl, ?_⟩) | ((with_reducible refine gate_callee (f := 11) rfl ?_); refine goesL_ (some 24) rfl rfl Try.func11 (by kernel_rfl) rfl #[.int .i64 a2, .int .i64 80] rfl (by (try simp only [List.map_toArray, List.map_cons, List.map_nil]); first | done | rfl | (simp only [List.length_drop, List.length_take]; rfl)) ?_; (with_reducible refine (headgatekit_Mod.calls a2 80 t156 _ A6.out).mono ?_); rintro e w' ⟨rfl, ⟨nd, rfl⟩⟩; refine ⟨_, rfl, ?_⟩; obtain ⟨Ao30, co30, eo30⟩ := Kd.R_slice HO154.out; subst eo30) | ((with_reducible refine gate_callee (f := 13) rfl ?_); refine goesL_ (some 27) rfl rfl Try.func13 (by kernel_rfl) rfl #[.slice Ao30 t152.length co30] rfl (by (try simp only [List.map_toArray, List.map_cons, List.map_nil]); first | done | rfl | (simp only [List.length_drop, List.length_take]; rfl)) ?_; (with_reducible refine (headgatekit_OwnWrites.calls _ _ t152 t157 _ ?side1 ?side2 A7.out).mono ?_); (case side1 => repeat (first | exact (Kd.R_reads' HO154.out).2.2 | (with_reducible refine Kd.C_alloc ?_ _) | (with_reducible refine Kd.C_drewN ?_ _) | (with_reducible refine Kd.C_drew ?_))); (case side2 => exact (Kd.R_reads' HO154.out).2.1); rintro e w31 ⟨v158, rfl, ho0, hb⟩; refine ⟨_, rfl, ?_⟩; have n0_ := Aside0.mk (Kd.R_elder' (by (with_reducible repeat (first | apply Kd.R_alloc | apply Kd.R_drewN | apply Kd.R_drew)); exact HO154.out) (Kd.R_base ho0) hb); have n1_ := Aside0.mk (Kd.R_lower (Kd.R_new' ho0 (Kd.R_lt (by (with_reducible repeat (first | apply Kd.R_alloc | apply Kd.R_drewN | apply Kd.R_drew)); exact HO154.out))) (below_size (by repeat (first | (with_reducible first | exact HB.out | apply below_alloc | apply pw_below_drewN | apply below_drew1) | exact HB.out)))); have n2_ := Aside0.mk (below_step (by repeat (first | (with_reducible first | exact HB.out | apply below_alloc | apply pw_below_drewN | apply below_drew1) | exact HB.out)) hb); clear HO154; clear HB; have HO154 := n0_; have HO159 := n1_; have HB := n2_; clear n0_ n1_ n2_; (try clear hb); (try clear hb2); (try clear hk); (try clear hi); (try clear ho0); obtain ⟨Ao32, co32, eo32⟩ := Kd.R_slice HO159.out; subst eo32) | ((with_reducible refine gate_callee (f := 21) rfl ?_); refine goesL_ (some 30) rfl rfl Try.func21 (by kernel_rfl) rfl #[.slice Ao32 t157.length co32, .int .i64 t155, .int .i64 t156] rfl (by (try simp only [List.map_toArray, List.map_cons, List.map_nil]); first | done | rfl | (simp only [List.length_drop, List.length_take]; rfl)) ?_; (with_reducible refine (held_Add.calls _ _ t157 t155 t156 t160 t161 _ ?side1 ?side2 A8.out).mono ?_); (case side1 => repeat (first | exact (Kd.R_reads' HO159.out).2.2 | (with_reducible refine Kd.C_alloc ?_ _) | (with_reducible refine Kd.C_drewN ?_ _) | (with_reducible refine Kd.C_drew ?_))); (case side2 => exact (Kd.R_reads' HO159.out).2.1); rintro e w33 ⟨v162, rfl, ho0, hb⟩; refine ⟨_, rfl, ?_⟩; have n0_ := Aside0.mk (Kd.R_elder' (by (with_reducible repeat (first | apply Kd.R_alloc | apply Kd.R_drewN | apply Kd.R_drew)); exact HO154.out) (Kd.R_base ho0) hb); have n1_ := Aside0.mk (Kd.R_elder' (by (with_reducible repeat (first | apply Kd.R_alloc | apply Kd.R_drewN | apply Kd.R_drew)); exact HO159.out) (Kd.R_base ho0) hb); have n2_ := Aside0.mk (Kd.R_lower (Kd.R_new' (Kd.R_new' ho0 (Kd.R_lt (by (with_reducible repeat (first | apply Kd.R_alloc | apply Kd.R_drewN | apply Kd.R_drew)); exact HO154.out))) (Kd.R_lt (by (with_reducible repeat (first | apply Kd.R_alloc | apply Kd.R_drewN | apply Kd.R_drew)); exact HO159.out))) (below_size (by repeat (first | (with_reducible first | exact HB.out | apply below_alloc | apply pw_below_drewN | apply below_drew1) | exact HB.out)))); have n3_ := Aside0.mk (below_step (by repeat (first | (with_reducible first | exact HB.out | apply below_alloc | apply pw_below_drewN | apply below_drew1) | exact HB.out)) hb); clear HO154; clear HO159; clear HB; have HO154 := n0_; have HO159 := n1_; have HO163 := n2_; have HB := n3_; clear n0_ n1_ n2_ n3_; (try clear hb); (try clear hb2); (try clear hk); (try clear hi); (try clear ho0)))
  go_loopg [12, 13] k (fun kq v12 v13 w' => ∃ (x12_1 : Bool) (x13_1 : Int), v12 = .bool x12_1 ∧ v13 = .int .i64 x13_1 ∧ Aside0 (headgatelaw19_HeldUndo.l0 kq t152 t155 t156 t161 x12_1 x13_1 = some r) ∧ Aside0 (kq ≤ k) ∧ Aside0 (Kd.R k32 32 w' w.heap.size (fun _ => True) (.slice Ao30 t152.length co30) t152) ∧ Aside0 (Below w.heap.size w w'))
  case atStart => exact ⟨(false), (0), (by first | rfl | (simp; done) | (simp [*]; done)), (by first | rfl | (simp; done) | (simp [*]; done)), H', ⟨Nat.le_refl _⟩, ⟨by (with_reducible repeat (first | apply Kd.R_alloc | apply Kd.R_drewN | apply Kd.R_drew)); exact Kd.R_mono HO154.out (fun _ hk => trivial)⟩, ⟨by repeat (first | (with_reducible first | exact HB.out | apply below_alloc | apply pw_below_drewN | apply below_drew1) | exact HB.out)⟩⟩
  case round =>
   clear H'
   try clear c1
   try clear c2
   try clear p2
   try clear c6
   try clear c9
   try clear c9b0
   try clear c9b1
   try clear c11
   try clear c12
   try clear c12b0
   try clear c12b1
   try clear c13
   try clear c13b0
   try clear c13b1
   try clear c13b2
   try clear c15
   try clear c17
   try clear c19
   try clear c21
   try clear hcz26_0
   try clear hcz26_1
   try clear hcz26_2
   try clear hfz26_0
   try clear hfz26_1
   try clear hfz26_2
   obtain ⟨x12_1, x13_1, rfl, rfl, HA, HK1, HO_7, HB⟩ := hrel
   cases gk with
   | zero => exact absurd HA.out (by simp [headgatelaw19_HeldUndo.l0])
   | succ k1 =>
    have H := HA.out
    clear HA
    simp only [headgatelaw19_HeldUndo.l0] at H
    by_cases c34 : x13_1 < (t152.length : Int)
    ·
     rw [if_pos c34] at H
     have c34b0 : decide (x13_1 < (t152.length : Int)) = true := decide_eq_true c34
     clear c34
     by_cases c35 : x12_1 = true
     ·
      subst c35
      have H1 : (headgatelaw19_HeldUndo.l0 k1 t152 t155 t156 t161 true (wrap64 (x13_1 + 1))) = some r := by rw [if_pos rfl] at H; exact H
      clear H
      have H := H1
      clear H1
      have H' := Aside0.mk H
      clear H
      go_wp2
      go_roundg k1
      case measure => have := HK1.out; omega
      case rel => exact ⟨(true), (wrap64 (x13_1 + 1)), (by first | rfl | (simp; done) | (simp [*]; done)), (by first | rfl | (simp; done) | (simp [*]; done)), H', ⟨by have := HK1.out; omega⟩, ⟨by (with_reducible repeat (first | apply Kd.R_alloc | apply Kd.R_drewN | apply Kd.R_drew)); exact HO_7.out⟩, ⟨by repeat (first | (with_reducible first | exact HB.out | apply below_alloc | apply pw_below_drewN | apply below_drew1) | exact HB.out)⟩⟩
     ·
      replace c35 := Bool.eq_false_iff.mpr c35
      subst c35
      have H1 : (if 0 ≤ x13_1 then (if ((rd_T32 t152 x13_1).f0) = t155 then (headgatelaw19_HeldUndo.l0 k1 t152 t155 t156 t161 true (wrap64 (x13_1 + 1))) else (headgatelaw19_HeldUndo.l0 k1 t152 t155 t156 t161 (((rd_T32 t152 x13_1).f1) == t156) (wrap64 (x13_1 + 1)))) else (none)) = some r := by rw [if_neg (show ¬ (false = true) by decide)] at H; exact H
      clear H
      have H := H1
      clear H1
      by_cases c36 : 0 ≤ x13_1
      ·
       rw [if_pos c36] at H
       have c36b0 : decide (0 ≤ x13_1) = true := decide_eq_true c36
       clear c36
       by_cases c37 : ((rd_T32 t152 x13_1).f0) = t155
       ·
        rw [if_pos c37] at H
        have c37b0 : (((rd_T32 t152 x13_1).f0) == t155) = true := beq_iff_eq.mpr c37
        have c37b1 : (((rd_T32 t152 x13_1).f0) != t155) = false := bne_eq_false_iff_eq.mpr c37
        clear c37
        have H' := Aside0.mk H
        clear H
        have p164 : 0 ≤ (x13_1 : Int) := of_decide_eq_true (by first | (with_reducible assumption) | assumption)
        have q164 : x13_1 < (t152.length : Int) := of_decide_eq_true (by first | (with_reducible assumption) | assumption)
        obtain ⟨ad164, e164, hx164_0, hx164_1, hx164_2⟩ := at_T32 (Kd.R_reads' HO_7.out).2.2 x13_1 p164 q164
        cases e164
        replace p164 := eq_true p164
        replace q164 := eq_true q164
        go_wp2
        go_roundg k1
        case measure => have := HK1.out; omega
        case rel => exact ⟨(true), (wrap64 (x13_1 + 1)), (by first | rfl | (simp; done) | (simp [*]; done)), (by first | rfl | (simp; done) | (simp [*]; done)), H', ⟨by have := HK1.out; omega⟩, ⟨by (with_reducible repeat (first | apply Kd.R_alloc | apply Kd.R_drewN | apply Kd.R_drew)); exact HO_7.out⟩, ⟨by repeat (first | (with_reducible first | exact HB.out | apply below_alloc | apply pw_below_drewN | apply below_drew1) | exact HB.out)⟩⟩
       ·
        rw [if_neg c37] at H
        have c37b0 : (((rd_T32 t152 x13_1).f0) == t155) = false := beq_eq_false_iff_ne.mpr c37
        have c37b1 : (((rd_T32 t152 x13_1).f0) != t155) = true := bne_iff_ne.mpr c37
        have H' := Aside0.mk H
        clear H
        have p164 : 0 ≤ (x13_1 : Int) := of_decide_eq_true (by first | (with_reducible assumption) | assumption)
        have q164 : x13_1 < (t152.length : Int) := of_decide_eq_true (by first | (with_reducible assumption) | assumption)
        obtain ⟨ad164, e164, hx164_0, hx164_1, hx164_2⟩ := at_T32 (Kd.R_reads' HO_7.out).2.2 x13_1 p164 q164
        cases e164
        replace p164 := eq_true p164
        replace q164 := eq_true q164
        have p165 : 0 ≤ (x13_1 : Int) := of_decide_eq_true (by first | (with_reducible assumption) | assumption)
        have q165 : x13_1 < (t152.length : Int) := of_decide_eq_true (by first | (with_reducible assumption) | assumption)
        obtain ⟨ad165, e165, hx165_0, hx165_1, hx165_2⟩ := at_T32 (Kd.R_reads' HO_7.out).2.2 x13_1 p165 q165
        obtain rfl : ad164 = ad165 := (by injection e165)
        replace p165 := eq_true p165
        replace q165 := eq_true q165
        go_wp2
        go_roundg k1
        case measure => have := HK1.out; omega
        case rel => exact ⟨((((rd_T32 t152 x13_1).f1) == t156)), (wrap64 (x13_1 + 1)), (by first | rfl | (simp; done) | (simp [*]; done)), (by first | rfl | (simp; done) | (simp [*]; done)), H', ⟨by have := HK1.out; omega⟩, ⟨by (with_reducible repeat (first | apply Kd.R_alloc | apply Kd.R_drewN | apply Kd.R_drew)); exact HO_7.out⟩, ⟨by repeat (first | (with_reducible first | exact HB.out | apply below_alloc | apply pw_below_drewN | apply below_drew1) | exact HB.out)⟩⟩
      ·
       rw [if_neg c36] at H
       exact absurd H (by simp)
    ·
     rw [if_neg c34] at H
     have c34b0 : decide (x13_1 < (t152.length : Int)) = false := decide_eq_false c34
     clear c34
     by_cases c38 : t161 = 7
     ·
      rw [if_pos c38] at H
      have c38b0 : (t161 == 7) = true := beq_iff_eq.mpr c38
      have c38b1 : (t161 != 7) = false := bne_eq_false_iff_eq.mpr c38
      clear c38
      by_cases c39 : x12_1 = true
      ·
       subst c39
       have H1 : ((headgatelaw19_awake.f k1).bind fun t166 => (some t166)) = some r := by rw [if_pos rfl] at H; exact H
       clear H
       have H := H1
       clear H1
       replace H := Option.bind_eq_some_iff.mp H
       obtain ⟨t166, A400, H⟩ := H
       replace H : (some t166) = some r := H
       have A40 := Aside0.mk A400
       clear A400
       obtain rfl := Option.some.inj H
       go_wp2_with (first | (go_at_call 10; refine calls_of_args (args' := #[]) (by first | rfl) ?_; (with_reducible refine (headgatelaw19_awake.calls k1  t166 _ A40.out).mono ?_); rintro e w41 ⟨rfl, hb⟩; have n0_ := Aside0.mk (Kd.R_below (by (with_reducible repeat (first | apply Kd.R_alloc | apply Kd.R_drewN | apply Kd.R_drew)); exact HO_7.out) hb); have n1_ := Aside0.mk (below_step (by repeat (first | (with_reducible first | exact HB.out | apply below_alloc | apply pw_below_drewN | apply below_drew1) | exact HB.out)) hb); clear HO_7; clear HB; have HO_7 := n0_; have HB := n1_; clear n0_ n1_; (try clear hb); (try clear hb2); (try clear hk); (try clear hi)))
       go_ret
       exact ⟨by first | rfl | (simp [errW_none, errW_some] <;> rfl) | (simp [*, errW_none, errW_some] <;> rfl), by repeat (first | (with_reducible first | exact HB.out | apply below_alloc | apply pw_below_drewN | apply below_drew1) | exact HB.out)⟩
      ·
       replace c39 := Bool.eq_false_iff.mpr c39
       subst c39
       have H1 : (if t161 = 5 then (if (t152.length : Int) = 16 then ((headgatelaw19_awake.f k1).bind fun t167 => (some t167)) else (some false)) else (some false)) = some r := by rw [if_neg (show ¬ (false = true) by decide)] at H; exact H
       clear H
       have H := H1
       clear H1
       by_cases c42 : t161 = 5
       ·
        rw [if_pos c42] at H
        have c42b0 : (t161 == 5) = true := beq_iff_eq.mpr c42
        have c42b1 : (t161 != 5) = false := bne_eq_false_iff_eq.mpr c42
        clear c42
        by_cases c43 : (t152.length : Int) = 16
        ·
         rw [if_pos c43] at H
         have c43b0 : ((t152.length : Int) == 16) = true := beq_iff_eq.mpr c43
         have c43b1 : ((t152.length : Int) != 16) = false := bne_eq_false_iff_eq.mpr c43
         clear c43
         replace H := Option.bind_eq_some_iff.mp H
         obtain ⟨t167, A440, H⟩ := H
         replace H : (some t167) = some r := H
         have A44 := Aside0.mk A440
         clear A440
         obtain rfl := Option.some.inj H
         go_wp2_with (first | (go_at_call 10; refine calls_of_args (args' := #[]) (by first | rfl) ?_; (with_reducible refine (headgatelaw19_awake.calls k1  t167 _ A44.out).mono ?_); rintro e w45 ⟨rfl, hb⟩; have n0_ := Aside0.mk (Kd.R_below (by (with_reducible repeat (first | apply Kd.R_alloc | apply Kd.R_drewN | apply Kd.R_drew)); exact HO_7.out) hb); have n1_ := Aside0.mk (below_step (by repeat (first | (with_reducible first | exact HB.out | apply below_alloc | apply pw_below_drewN | apply below_drew1) | exact HB.out)) hb); clear HO_7; clear HB; have HO_7 := n0_; have HB := n1_; clear n0_ n1_; (try clear hb); (try clear hb2); (try clear hk); (try clear hi)))
         go_ret
         exact ⟨by first | rfl | (simp [errW_none, errW_some] <;> rfl) | (simp [*, errW_none, errW_some] <;> rfl), by repeat (first | (with_reducible first | exact HB.out | apply below_alloc | apply pw_below_drewN | apply below_drew1) | exact HB.out)⟩
        ·
         rw [if_neg c43] at H
         have c43b0 : ((t152.length : Int) == 16) = false := beq_eq_false_iff_ne.mpr c43
         have c43b1 : ((t152.length : Int) != 16) = true := bne_iff_ne.mpr c43
         exact absurd H (by rw [HT.out]; simp)
       ·
        rw [if_neg c42] at H
        have c42b0 : (t161 == 5) = false := beq_eq_false_iff_ne.mpr c42
        have c42b1 : (t161 != 5) = true := bne_iff_ne.mpr c42
        exact absurd H (by rw [HT.out]; simp)
     ·
      rw [if_neg c38] at H
      have c38b0 : (t161 == 7) = false := beq_eq_false_iff_ne.mpr c38
      have c38b1 : (t161 != 7) = true := bne_iff_ne.mpr c38
      by_cases c46 : t161 = 5
      ·
       rw [if_pos c46] at H
       have c46b0 : (t161 == 5) = true := beq_iff_eq.mpr c46
       have c46b1 : (t161 != 5) = false := bne_eq_false_iff_eq.mpr c46
       clear c46
       by_cases c47 : x12_1 = true
       ·
        subst c47
        have H1 : (some false) = some r := by rw [if_pos rfl] at H; exact H
        clear H
        have H := H1
        clear H1
        exact absurd H (by rw [HT.out]; simp)
       ·
        replace c47 := Bool.eq_false_iff.mpr c47
        subst c47
        have H1 : (if (t152.length : Int) = 16 then ((headgatelaw19_awake.f k1).bind fun t168 => (some t168)) else (some false)) = some r := by rw [if_neg (show ¬ (false = true) by decide)] at H; exact H
        clear H
        have H := H1
        clear H1
        by_cases c48 : (t152.length : Int) = 16
        ·
         rw [if_pos c48] at H
         have c48b0 : ((t152.length : Int) == 16) = true := beq_iff_eq.mpr c48
         have c48b1 : ((t152.length : Int) != 16) = false := bne_eq_false_iff_eq.mpr c48
         clear c48
         replace H := Option.bind_eq_some_iff.mp H
         obtain ⟨t168, A490, H⟩ := H
         replace H : (some t168) = some r := H
         have A49 := Aside0.mk A490
         clear A490
         obtain rfl := Option.some.inj H
         go_wp2_with (first | (go_at_call 10; refine calls_of_args (args' := #[]) (by first | rfl) ?_; (with_reducible refine (headgatelaw19_awake.calls k1  t168 _ A49.out).mono ?_); rintro e w50 ⟨rfl, hb⟩; have n0_ := Aside0.mk (Kd.R_below (by (with_reducible repeat (first | apply Kd.R_alloc | apply Kd.R_drewN | apply Kd.R_drew)); exact HO_7.out) hb); have n1_ := Aside0.mk (below_step (by repeat (first | (with_reducible first | exact HB.out | apply below_alloc | apply pw_below_drewN | apply below_drew1) | exact HB.out)) hb); clear HO_7; clear HB; have HO_7 := n0_; have HB := n1_; clear n0_ n1_; (try clear hb); (try clear hb2); (try clear hk); (try clear hi)))
         go_ret
         exact ⟨by first | rfl | (simp [errW_none, errW_some] <;> rfl) | (simp [*, errW_none, errW_some] <;> rfl), by repeat (first | (with_reducible first | exact HB.out | apply below_alloc | apply pw_below_drewN | apply below_drew1) | exact HB.out)⟩
        ·
         rw [if_neg c48] at H
         have c48b0 : ((t152.length : Int) == 16) = false := beq_eq_false_iff_ne.mpr c48
         have c48b1 : ((t152.length : Int) != 16) = true := bne_iff_ne.mpr c48
         exact absurd H (by rw [HT.out]; simp)
      ·
       rw [if_neg c46] at H
       have c46b0 : (t161 == 5) = false := beq_eq_false_iff_ne.mpr c46
       have c46b1 : (t161 != 5) = true := bne_iff_ne.mpr c46
       exact absurd H (by rw [HT.out]; simp)

/-- THE ONE PURE STATEMENT of headgatelaw19_HeldUndo: yours. -/
def headgatelaw19_HeldUndo.Pure : Prop := ∀ (l0 : List Int) (a1 : Int) (a2 : Int), l0.length ≤ maxLen → l0.length * 8 ≤ 140737488351232 → (∀ x ∈ l0, (Lit.int .i64 x).wf = true) → (Lit.int .i64 a1).wf = true → (Lit.int .i64 a2).wf = true → ∃ k, headgatelaw19_HeldUndo.f k l0 a1 a2 = some true
theorem headgatelaw19_HeldUndo.walk (P : headgatelaw19_HeldUndo.Pure) (a0 : Option Addr) (len0 cap0 : Nat) (z0 : List Int) (a1 : Int) (a2 : Int) (w : World) (w0 : (a0 = none ∧ len0 = 0 ∧ cap0 = 0 ∧ z0 = []) ∨ ∃ x, a0 = some x ∧ len0 ≤ cap0 ∧ cap0 ≤ maxLen ∧ z0.length = cap0 ∧ (∀ i, i < z0.length → w.cell? (x.add i) = some (.int .i64 (z0.getD i 0))) ∧ ∀ n ∈ z0, (Lit.int .i64 n).wf = true) (y0 : len0 * 8 ≤ 140737488351232) (w1 : (Lit.int .i64 a1).wf = true) (w2 : (Lit.int .i64 a2).wf = true) :
  Calls Try.prog 6 #[.slice a0 len0 cap0, .int .i64 a1, .int .i64 a2] w fun e w' => e = .returned (.bool true) ∧ Below w.heap.size w w' := by
 obtain ⟨l0, rfl, hr0, hm0, hw0, hc0⟩ := ReadsInt.ofRowC w0
 obtain ⟨k, h⟩ := P l0 a1 a2 hm0 y0 hw0 w1 w2
 refine (headgatelaw19_HeldUndo.calls k _ _ l0 a1 a2 true w (Kd.C_of_reads (d := (0 : Int)) (h1 := fun _ => rfl) hr0) hc0 ⟨rfl⟩ h).mono ?_
 rintro e w' ⟨rfl, hd⟩
 exact ⟨rfl, hd⟩

end Go.Proofs.Ytfnhoncpaheejaa.X
