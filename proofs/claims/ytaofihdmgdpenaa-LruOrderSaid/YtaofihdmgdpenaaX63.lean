/- What Go functions of this seat compute, told as Lean functions, and that each call of the Go code comes to that answer; for a law: its row, for every input. Written by a program of the session. -/
import Derived.Test.YtaofihdmgdpenaaX0
import Derived.Test.YtaofihdmgdpenaaX25
import Derived.Test.YtaofihdmgdpenaaX40
import Derived.Test.YtaofihdmgdpenaaX44
import Derived.Test.YtaofihdmgdpenaaX59
import Derived.Test.YtaofihdmgdpenaaX60
import Derived.Test.YtaofihdmgdpenaaX61
import Derived.Test.YtaofihdmgdpenaaX62
namespace Go.Proofs.Ytaofihdmgdpenaa.X
open Go.RowKit Go.Proofs.YtaofihdmgdpenaaW.PrintWords Go.Proofs.YtaofihdmgdpenaaW.PrintLast Go.Proofs.YtaofihdmgdpenaaW.PrintMore
attribute [local go_sem] max2_int min2_int max_two min_two max_three min_three max_four min_four   -- for this text's walks alone
set_option linter.unusedVariables false
set_option linter.unusedSimpArgs false

/-! ### headgatelaw07_LruOrder: function 6 -/
mutual
def headgatelaw07_LruOrder.j0 : Nat → List Int → Bool → List Int → List Int → List Bool → Option (Bool)
 | 0, _, _, _, _, _ => none
 | k + 1, x4, x26, x517000, x517001, x517002 => if x26 = true then (some false) else (headgatelaw07_LruOrder.l0 k x4 0 x517000 x517001 x517002)
def headgatelaw07_LruOrder.l0 : Nat → List Int → Int → List Int → List Int → List Bool → Option (Bool)
 | 0, _, _, _, _, _ => none
 | k + 1, x4, x6, x517000, x517001, x517002 => if x6 < (x4.length : Int) then (if 0 ≤ x6 then ((lru_Where.f k x517000 x517001 x517002 (rd x4 x6)).bind fun bt530 => (if bt530.2 = 0 then (if bt530.1 = 0 then (some false) else (if ((bt530.1 == 2) != (decide (x6 < (x517001.length : Int)))) = true then (some false) else (if x6 ≤ (x4.length : Int) then ((headgatekit_Has.f k (x4.take (x6 : Int).toNat) (rd x4 x6)).bind fun t537 => (if t537 = true then (some false) else (headgatelaw07_LruOrder.l0 k x4 (wrap64 (x6 + 1)) x517000 x517001 x517002))) else (none)))) else (some false))) else (none)) else ((lru_Last.f x517000 x517001 x517002).bind fun bt522 => (if (x4.length : Int) = 0 then (if bt522.2 = 6 then ((headgatelaw07_awake.f).bind fun t524 => (some t524)) else (if (x4.length : Int) > 0 then (if bt522.2 = 0 then (if 0 < (x4.length : Int) then (if bt522.1 = (rd x4 0) then ((headgatelaw07_awake.f).bind fun t526 => (some t526)) else (some false)) else (none)) else (some false)) else (some false))) else (if (x4.length : Int) > 0 then (if bt522.2 = 0 then (if 0 < (x4.length : Int) then (if bt522.1 = (rd x4 0) then ((headgatelaw07_awake.f).bind fun t528 => (some t528)) else (some false)) else (none)) else (some false)) else (some false))))
end
def headgatelaw07_LruOrder.f (k : Nat) (l0 : List Int) : Option (Bool) := (headgatelaw07_made.f k l0).bind fun bt507 => ((lru_Order.f k bt507.1 bt507.2.1 bt507.2.2).bind fun bt517 => (if bt517.2 = 0 then ((headgatelaw07_size.f bt507.1 bt507.2.1 bt507.2.2).bind fun t521 => (headgatelaw07_LruOrder.j0 k bt517.1 ((bt517.1.length : Int) != t521) bt507.1 bt507.2.1 bt507.2.2)) else (headgatelaw07_LruOrder.j0 k bt517.1 true bt507.1 bt507.2.1 bt507.2.2)))
theorem headgatelaw07_LruOrder.mono_l : ∀ k, (∀ y0 y1 y2 y3 y4, LeO (headgatelaw07_LruOrder.j0 k y0 y1 y2 y3 y4) (headgatelaw07_LruOrder.j0 (k + 1) y0 y1 y2 y3 y4)) ∧ (∀ y0 y1 y2 y3 y4, LeO (headgatelaw07_LruOrder.l0 k y0 y1 y2 y3 y4) (headgatelaw07_LruOrder.l0 (k + 1) y0 y1 y2 y3 y4))
 | 0 => ⟨fun _ _ _ _ _ r h => by simp [headgatelaw07_LruOrder.j0] at h, fun _ _ _ _ _ r h => by simp [headgatelaw07_LruOrder.l0] at h⟩
 | k + 1 => by
  obtain ⟨ih0, ih1⟩ := headgatelaw07_LruOrder.mono_l k
  refine ⟨?_, ?_⟩
  ·
   intro y0 y1 y2 y3 y4
   unfold headgatelaw07_LruOrder.j0
   repeat' first
   | (with_reducible exact ih0 _ _ _ _ _)
   | (with_reducible exact ih1 _ _ _ _ _)
   | (with_reducible exact headgatekit_Has.mono _ _ _)
   | (with_reducible exact headgatelaw07_made.mono _ _)
   | (with_reducible exact lru_Order.mono _ _ _ _)
   | (with_reducible exact lru_Where.mono _ _ _ _ _)
   | (with_reducible exact LeO.refl _)
   | (with_reducible exact LeO.none _)
   | (with_reducible refine LeO.ite ?_ ?_)
   | (with_reducible refine LeO.bind ?_ (fun _ => ?_))
   | exact ih0 _ _ _ _ _
   | exact ih1 _ _ _ _ _
   | exact headgatekit_Has.mono _ _ _
   | exact headgatelaw07_made.mono _ _
   | exact lru_Order.mono _ _ _ _
   | exact lru_Where.mono _ _ _ _ _
   | exact LeO.none _
   | refine LeO.ite ?_ ?_
   | refine LeO.bind ?_ (fun _ => ?_)
  ·
   intro y0 y1 y2 y3 y4
   unfold headgatelaw07_LruOrder.l0
   repeat' first
   | (with_reducible exact ih0 _ _ _ _ _)
   | (with_reducible exact ih1 _ _ _ _ _)
   | (with_reducible exact headgatekit_Has.mono _ _ _)
   | (with_reducible exact headgatelaw07_made.mono _ _)
   | (with_reducible exact lru_Order.mono _ _ _ _)
   | (with_reducible exact lru_Where.mono _ _ _ _ _)
   | (with_reducible exact LeO.refl _)
   | (with_reducible exact LeO.none _)
   | (with_reducible refine LeO.ite ?_ ?_)
   | (with_reducible refine LeO.bind ?_ (fun _ => ?_))
   | exact ih0 _ _ _ _ _
   | exact ih1 _ _ _ _ _
   | exact headgatekit_Has.mono _ _ _
   | exact headgatelaw07_made.mono _ _
   | exact lru_Order.mono _ _ _ _
   | exact lru_Where.mono _ _ _ _ _
   | exact LeO.none _
   | refine LeO.ite ?_ ?_
   | refine LeO.bind ?_ (fun _ => ?_)
theorem headgatelaw07_LruOrder.mono : ∀ a0 k, LeO (headgatelaw07_LruOrder.f k a0) (headgatelaw07_LruOrder.f (k + 1) a0) := by
 intro a0 k
 obtain ⟨ih0, ih1⟩ := headgatelaw07_LruOrder.mono_l k
 unfold headgatelaw07_LruOrder.f
 repeat' first
   | (with_reducible exact ih0 _ _ _ _ _)
   | (with_reducible exact ih1 _ _ _ _ _)
   | (with_reducible exact headgatekit_Has.mono _ _ _)
   | (with_reducible exact headgatelaw07_made.mono _ _)
   | (with_reducible exact lru_Order.mono _ _ _ _)
   | (with_reducible exact lru_Where.mono _ _ _ _ _)
   | (with_reducible exact LeO.refl _)
   | (with_reducible exact LeO.none _)
   | (with_reducible refine LeO.ite ?_ ?_)
   | (with_reducible refine LeO.bind ?_ (fun _ => ?_))
   | exact ih0 _ _ _ _ _
   | exact ih1 _ _ _ _ _
   | exact headgatekit_Has.mono _ _ _
   | exact headgatelaw07_made.mono _ _
   | exact lru_Order.mono _ _ _ _
   | exact lru_Where.mono _ _ _ _ _
   | exact LeO.none _
   | refine LeO.ite ?_ ?_
   | refine LeO.bind ?_ (fun _ => ?_)
def headgatelaw07_LruOrder.T8 : Bool × List (List Nat × List Nat) := (true, [([], []), ([], []), ([], []), ([1, 2], [1, 2]), ([3], [3]), ([0, 4], [0, 4]), ([5], [5]), ([6], [6]), ([6], [6]), ([7, 5, 0, 1, 2, 3, 4, 5, 6, 7], [7]), ([8, 9, 0, 1, 2, 3, 4, 5, 6, 7, 8, 9], [8])])
def headgatelaw07_LruOrder.B8 : List Nat := [0, 0, 0, 6, 14, 31, 63, 127, 127, 255, 1023]
theorem headgatelaw07_LruOrder.tab8 : rtab .any (opsOf Try.f6 8) = headgatelaw07_LruOrder.T8 := by kernel_rfl
theorem headgatelaw07_LruOrder.bits8 : waitsOk headgatelaw07_LruOrder.T8.2 headgatelaw07_LruOrder.B8 = true := by kernel_rfl
def headgatelaw07_LruOrder.T9 : Bool × List (List Nat × List Nat) := (true, [([], []), ([0], [0]), ([1], [1]), ([2], [2]), ([3, 2], [2, 3]), ([2, 4], [2, 4]), ([5, 2], [5]), ([6], [6]), ([7, 6], [6, 7]), ([6], [6]), ([6], [6]), ([10, 6], [6, 10]), ([11, 6], [6, 11]), ([9, 12, 6], [6, 9, 12]), ([8, 13, 6], [6, 8, 13]), ([6, 14], [6, 14]), ([15, 6], [15]), ([16], [16]), ([16], [16]), ([17, 18, 16], [16, 17, 18]), ([16], [16]), ([16], [16]), ([20, 21, 16], [16, 20, 21]), ([22, 16], [16, 22]), ([19, 23, 16, 16], [16, 19, 23]), ([16, 24], [16, 24])])
def headgatelaw07_LruOrder.B9 : List Nat := [0, 1, 3, 7, 15, 31, 63, 127, 255, 127, 127, 1151, 3199, 7807, 16383, 32767, 65535, 131071, 131071, 524287, 131071, 131071, 3276799, 7471103, 16777215, 33554431]
theorem headgatelaw07_LruOrder.tab9 : rtab .any (opsOf Try.f6 9) = headgatelaw07_LruOrder.T9 := by kernel_rfl
theorem headgatelaw07_LruOrder.bits9 : waitsOk headgatelaw07_LruOrder.T9.2 headgatelaw07_LruOrder.B9 = true := by kernel_rfl
set_option maxHeartbeats 2000000 in
set_option maxRecDepth 100000 in
theorem headgatelaw07_LruOrder.calls (k : Nat) (A0 : Option Addr) (c0 : Nat) (l0 : List Int) (r : Bool) (w : World) (hr0 : Kd.C (Kd.int .i64) w A0 l0.length l0) (hc0 : l0.length ≤ c0) (HT : Aside0 (r = true)) (h : headgatelaw07_LruOrder.f k l0 = some r) :
  Calls Try.prog 6 #[.slice A0 l0.length c0] w fun e w' => e = .returned (.bool r) ∧ Below w.heap.size w w' := by
 have hu25 := Try.underlying25
 have HR0 := Aside0.mk hr0
 have HC0 := Aside0.mk hc0
 clear hr0 hc0
 have HB := Aside0.mk (Below.refl w.heap.size w)
 have H : ((headgatelaw07_made.f k l0).bind fun bt507 => ((lru_Order.f k bt507.1 bt507.2.1 bt507.2.2).bind fun bt517 => (if bt517.2 = 0 then ((headgatelaw07_size.f bt507.1 bt507.2.1 bt507.2.2).bind fun t521 => (headgatelaw07_LruOrder.j0 k bt517.1 ((bt517.1.length : Int) != t521) bt507.1 bt507.2.1 bt507.2.2)) else (headgatelaw07_LruOrder.j0 k bt517.1 true bt507.1 bt507.2.1 bt507.2.2)))) = some r := h
 clear h
 replace H := Option.bind_eq_some_iff.mp H
 obtain ⟨⟨t507, t510, t513⟩, A20, H⟩ := H
 replace H : ((lru_Order.f k t507 t510 t513).bind fun bt517 => (if bt517.2 = 0 then ((headgatelaw07_size.f t507 t510 t513).bind fun t521 => (headgatelaw07_LruOrder.j0 k bt517.1 ((bt517.1.length : Int) != t521) t507 t510 t513)) else (headgatelaw07_LruOrder.j0 k bt517.1 true t507 t510 t513))) = some r := H
 have A2 := Aside0.mk A20
 clear A20
 replace H := Option.bind_eq_some_iff.mp H
 obtain ⟨⟨t517, t520⟩, A30, H⟩ := H
 replace H : (if t520 = 0 then ((headgatelaw07_size.f t507 t510 t513).bind fun t521 => (headgatelaw07_LruOrder.j0 k t517 ((t517.length : Int) != t521) t507 t510 t513)) else (headgatelaw07_LruOrder.j0 k t517 true t507 t510 t513)) = some r := H
 have A3 := Aside0.mk A30
 clear A30
 have HC4 := Aside0.mk H
 clear H
 go_enter Try.func6, Try.ntmps6
 go_upto_region 3 with (first | ((with_reducible refine gate_callee (f := 26) rfl ?_); refine goesL_ (some 12) rfl rfl Try.func26 (by kernel_rfl) rfl #[.slice A0 l0.length c0] rfl (by (try simp only [List.map_toArray, List.map_cons, List.map_nil]); first | done | rfl | (simp only [List.length_drop, List.length_take]; rfl)) ?_; (with_reducible refine (headgatelaw07_made.calls k _ _ l0 t507 t510 t513 _ ?side1 ?side2 A2.out).mono ?_); (case side1 => repeat (first | exact HR0.out | (with_reducible refine Kd.C_alloc ?_ _) | (with_reducible refine Kd.C_drewN ?_ _) | (with_reducible refine Kd.C_drew ?_))); (case side2 => exact HC0.out); rintro e w5 ⟨v508, v511, v514, rfl, ho0, ho1, ho2, hb⟩; refine ⟨_, rfl, ?_⟩; have n0_ := Aside0.mk (Kd.R_lower ho0 (below_size (by repeat (first | (with_reducible first | exact HB.out | apply below_alloc | apply pw_below_drewN | apply below_drew1) | exact HB.out)))); have n1_ := Aside0.mk (Kd.R_lower ho1 (below_size (by repeat (first | (with_reducible first | exact HB.out | apply below_alloc | apply pw_below_drewN | apply below_drew1) | exact HB.out)))); have n2_ := Aside0.mk (Kd.R_lower ho2 (below_size (by repeat (first | (with_reducible first | exact HB.out | apply below_alloc | apply pw_below_drewN | apply below_drew1) | exact HB.out)))); have n3_ := Aside0.mk (below_step (by repeat (first | (with_reducible first | exact HB.out | apply below_alloc | apply pw_below_drewN | apply below_drew1) | exact HB.out)) hb); clear HB; have HO509 := n0_; have HO512 := n1_; have HO515 := n2_; have HB := n3_; clear n0_ n1_ n2_ n3_; (try clear hb); (try clear hb2); (try clear hk); (try clear hi); (try clear ho0); (try clear ho1); (try clear ho2)) | ((with_reducible refine gate_dst (N := 3) rfl ?_); (try (refine gate_guard (by rfl) ?_; dsimp only)); refine box_event ?hg (N := 3) ?hd (cs := #[.slice none 0 0, .slice none 0 0, .slice none 0 0]) (t := 25) ?hr ?_; (case hd => rfl); (case hg => rfl); (case hr => first | (go_simp; done) | (go_simp; rfl)); intro gb516 hg w6 hbox hb; have n0_ := Aside0.mk (Kd.R_below (by (with_reducible repeat (first | apply Kd.R_alloc | apply Kd.R_drewN | apply Kd.R_drew)); exact HO509.out) hb); have n1_ := Aside0.mk (Kd.R_below (by (with_reducible repeat (first | apply Kd.R_alloc | apply Kd.R_drewN | apply Kd.R_drew)); exact HO512.out) hb); have n2_ := Aside0.mk (Kd.R_below (by (with_reducible repeat (first | apply Kd.R_alloc | apply Kd.R_drewN | apply Kd.R_drew)); exact HO515.out) hb); have n3_ := Aside0.mk (below_step (by repeat (first | (with_reducible first | exact HB.out | apply below_alloc | apply pw_below_drewN | apply below_drew1) | exact HB.out)) hb); have n4_ := Aside0.mk (hbox); have n5_ := Aside0.mk ((by rw [hg]; exact (below_size (by repeat (first | (with_reducible first | exact HB.out | apply below_alloc | apply pw_below_drewN | apply below_drew1) | exact HB.out))) : w.heap.size ≤ gb516)); have n6_ := Aside0.mk ((by rw [hg]; exact (below_size (by repeat (first | (with_reducible first | exact HB.out | apply below_alloc | apply pw_below_drewN | apply below_drew1) | exact HB.out))) : w.heap.size ≤ gb516)); clear HO509; clear HO512; clear HO515; clear HB; have HO509 := n0_; have HO512 := n1_; have HO515 := n2_; have HB := n3_; have BK516 := n4_; have GW516 := n5_; have GE516 := n6_; clear n0_ n1_ n2_ n3_ n4_ n5_ n6_; clear hb hbox hg; obtain ⟨Ao7, co7, eo7⟩ := Kd.R_slice HO509.out; subst eo7; have hcz8_0 : w6.cell? ⟨gb516, 0, none⟩ = some (.slice none 0 0) := (blk_cell BK516.out 0).trans rfl; have hcz8_1 : w6.cell? ⟨gb516, 1, none⟩ = some (.slice none 0 0) := (blk_cell BK516.out 1).trans rfl; have hcz8_2 : w6.cell? ⟨gb516, 2, none⟩ = some (.slice none 0 0) := (blk_cell BK516.out 2).trans rfl; have hfz8_0 := blk_frozen BK516.out 0; have hfz8_1 := blk_frozen BK516.out 1; have hfz8_2 := blk_frozen BK516.out 2; obtain ⟨Ao9, co9, eo9⟩ := Kd.R_slice HO512.out; subst eo9; obtain ⟨Ao10, co10, eo10⟩ := Kd.R_slice HO515.out; subst eo10) | ((with_reducible refine gate_callee (f := 34) rfl ?_); refine goesL_ (some 15) rfl rfl Try.func34 (by kernel_rfl) rfl #[.agg #[.slice Ao7 t507.length co7, .slice Ao9 t510.length co9, .slice Ao10 t513.length co10]] rfl (by (try simp only [List.map_toArray, List.map_cons, List.map_nil]); first | done | rfl | (simp only [List.length_drop, List.length_take]; rfl)) ?_; (with_reducible refine (lru_Order.calls k _ _ t507 _ _ t510 _ _ t513 t517 t520 _ ?side1 ?side2 ?side3 ?side4 ?side5 ?side6 A3.out).mono ?_); (case side1 => refine (Kd.R_reads' (e := 3) (base := w.heap.size) (ok := fun k_ => some k_ ≠ (.slice Ao9 t510.length co9 : Value).ownBlock) (n := t507.length) (c := co7) ?_).2.2; exact (by (with_reducible repeat (first | apply Kd.R_alloc | apply Kd.R_drewN | apply Kd.R_drew)); exact (Kd.R_mono (Kd.R_far (p := ⟨gb516, 2, none⟩) (Kd.R_far (p := ⟨gb516, 1, none⟩) (Kd.R_far (p := ⟨gb516, 0, none⟩) (Kd.R_types HO509.out BK516.out (by decide)) (fun _ hk => hk.2) (.slice Ao7 t507.length co7)) (fun _ hk => hk.2) (.slice Ao9 t510.length co9)) (fun _ hk => hk.2) (.slice Ao10 t513.length co10)) (fun _ h_ => h_.1)))); (case side2 => exact (Kd.R_reads' HO509.out).2.1); (case side3 => refine (Kd.R_reads' (e := 3) (base := w.heap.size) (ok := fun k_ => some k_ ≠ (.slice Ao7 t507.length co7 : Value).ownBlock) (n := t510.length) (c := co9) ?_).2.2; exact (by (with_reducible repeat (first | apply Kd.R_alloc | apply Kd.R_drewN | apply Kd.R_drew)); exact (Kd.R_mono (Kd.R_far (p := ⟨gb516, 2, none⟩) (Kd.R_far (p := ⟨gb516, 1, none⟩) (Kd.R_far (p := ⟨gb516, 0, none⟩) (Kd.R_types HO512.out BK516.out (by decide)) (fun _ hk => hk.2) (.slice Ao7 t507.length co7)) (fun _ hk => hk.2) (.slice Ao9 t510.length co9)) (fun _ hk => hk.2) (.slice Ao10 t513.length co10)) (fun _ h_ => h_.1)))); (case side4 => exact (Kd.R_reads' HO512.out).2.1); (case side5 => refine (Kd.R_reads' (e := 4) (base := w.heap.size) (ok := fun k_ => True) (n := t513.length) (c := co10) ?_).2.2; exact (by (with_reducible repeat (first | apply Kd.R_alloc | apply Kd.R_drewN | apply Kd.R_drew)); exact (Kd.R_mono (Kd.R_far (p := ⟨gb516, 2, none⟩) (Kd.R_far (p := ⟨gb516, 1, none⟩) (Kd.R_far (p := ⟨gb516, 0, none⟩) (Kd.R_types HO515.out BK516.out (by decide)) (fun _ hk => hk.2) (.slice Ao7 t507.length co7)) (fun _ hk => hk.2) (.slice Ao9 t510.length co9)) (fun _ hk => hk.2) (.slice Ao10 t513.length co10)) (fun _ h_ => h_.1)))); (case side6 => exact (Kd.R_reads' HO515.out).2.1); rintro e w11 ⟨v518, rfl, ho0, hb⟩; refine ⟨_, rfl, ?_⟩; have n0_ := Aside0.mk (Kd.R_elder' (by (with_reducible repeat (first | apply Kd.R_alloc | apply Kd.R_drewN | apply Kd.R_drew)); exact (Kd.R_mono (Kd.R_far (p := ⟨gb516, 2, none⟩) (Kd.R_far (p := ⟨gb516, 1, none⟩) (Kd.R_far (p := ⟨gb516, 0, none⟩) (Kd.R_types HO509.out BK516.out (by decide)) (fun _ hk => hk.2) (.slice Ao7 t507.length co7)) (fun _ hk => hk.2) (.slice Ao9 t510.length co9)) (fun _ hk => hk.2) (.slice Ao10 t513.length co10)) (fun _ h_ => h_.1))) (Kd.R_base ho0) hb); have n1_ := Aside0.mk (Kd.R_elder' (by (with_reducible repeat (first | apply Kd.R_alloc | apply Kd.R_drewN | apply Kd.R_drew)); exact (Kd.R_mono (Kd.R_far (p := ⟨gb516, 2, none⟩) (Kd.R_far (p := ⟨gb516, 1, none⟩) (Kd.R_far (p := ⟨gb516, 0, none⟩) (Kd.R_types HO512.out BK516.out (by decide)) (fun _ hk => hk.2) (.slice Ao7 t507.length co7)) (fun _ hk => hk.2) (.slice Ao9 t510.length co9)) (fun _ hk => hk.2) (.slice Ao10 t513.length co10)) (fun _ h_ => h_.1))) (Kd.R_base ho0) hb); have n2_ := Aside0.mk (Kd.R_below (by (with_reducible repeat (first | apply Kd.R_alloc | apply Kd.R_drewN | apply Kd.R_drew)); exact (Kd.R_mono (Kd.R_far (p := ⟨gb516, 2, none⟩) (Kd.R_far (p := ⟨gb516, 1, none⟩) (Kd.R_far (p := ⟨gb516, 0, none⟩) (Kd.R_types HO515.out BK516.out (by decide)) (fun _ hk => hk.2) (.slice Ao7 t507.length co7)) (fun _ hk => hk.2) (.slice Ao9 t510.length co9)) (fun _ hk => hk.2) (.slice Ao10 t513.length co10)) (fun _ h_ => h_.1))) hb); have n3_ := Aside0.mk (Kd.R_lower (Kd.R_new' (Kd.R_new' ho0 (Kd.R_lt (by (with_reducible repeat (first | apply Kd.R_alloc | apply Kd.R_drewN | apply Kd.R_drew)); exact (Kd.R_mono (Kd.R_far (p := ⟨gb516, 2, none⟩) (Kd.R_far (p := ⟨gb516, 1, none⟩) (Kd.R_far (p := ⟨gb516, 0, none⟩) (Kd.R_types HO509.out BK516.out (by decide)) (fun _ hk => hk.2) (.slice Ao7 t507.length co7)) (fun _ hk => hk.2) (.slice Ao9 t510.length co9)) (fun _ hk => hk.2) (.slice Ao10 t513.length co10)) (fun _ h_ => h_.1))))) (Kd.R_lt (by (with_reducible repeat (first | apply Kd.R_alloc | apply Kd.R_drewN | apply Kd.R_drew)); exact (Kd.R_mono (Kd.R_far (p := ⟨gb516, 2, none⟩) (Kd.R_far (p := ⟨gb516, 1, none⟩) (Kd.R_far (p := ⟨gb516, 0, none⟩) (Kd.R_types HO512.out BK516.out (by decide)) (fun _ hk => hk.2) (.slice Ao7 t507.length co7)) (fun _ hk => hk.2) (.slice Ao9 t510.length co9)) (fun _ hk => hk.2) (.slice Ao10 t513.length co10)) (fun _ h_ => h_.1))))) (below_size (by repeat (first | (with_reducible first | exact HB.out | apply below_alloc | apply pw_below_drewN | apply below_drew1 | refine below_set ?_ GE516.out) | exact HB.out)))); have n4_ := Aside0.mk (blk_below (g := gb516) (o := .cells #[.slice Ao7 t507.length co7, .slice Ao9 t510.length co9, .slice Ao10 t513.length co10] 25 (0, 0)) (by (with_reducible repeat (first | refine blk_drewN ?_ _ | refine blk_drew ?_ | refine blk_alloc ?_ _)); refine blk_put (cs := #[.slice Ao7 t507.length co7, .slice Ao9 t510.length co9, .slice none 0 0]) ?_ 2 _ rfl; (with_reducible repeat (first | refine blk_drewN ?_ _ | refine blk_drew ?_ | refine blk_alloc ?_ _)); refine blk_put (cs := #[.slice Ao7 t507.length co7, .slice none 0 0, .slice none 0 0]) ?_ 1 _ rfl; (with_reducible repeat (first | refine blk_drewN ?_ _ | refine blk_drew ?_ | refine blk_alloc ?_ _)); refine blk_put (cs := #[.slice none 0 0, .slice none 0 0, .slice none 0 0]) ?_ 0 _ rfl; (with_reducible repeat (first | refine blk_drewN ?_ _ | refine blk_drew ?_ | refine blk_alloc ?_ _)); exact BK516.out) hb); have n5_ := Aside0.mk (below_step (by repeat (first | (with_reducible first | exact HB.out | apply below_alloc | apply pw_below_drewN | apply below_drew1 | refine below_set ?_ GE516.out) | exact HB.out)) hb); clear HO509; clear HO512; clear HO515; clear BK516; clear HB; have HO509 := n0_; have HO512 := n1_; have HO515 := n2_; have HO519 := n3_; have BK516 := n4_; have HB := n5_; clear n0_ n1_ n2_ n3_ n4_ n5_; (try clear hb); (try clear hb2); (try clear hk); (try clear hi); (try clear ho0)))
 (try simp only [Act.put, List.setIfInBounds_toArray, List.set_cons_zero, List.set_cons_succ])
 go_cut [26] (fun v26 wc => ∃ (kq : Nat) (x26_3 : Bool), v26 = .bool x26_3 ∧ Aside0 (headgatelaw07_LruOrder.j0 kq t517 x26_3 t507 t510 t513 = some r) ∧ Aside0 (kq ≤ k) ∧ Aside0 (Kd.R (Kd.int .i64) 3 wc w.heap.size (fun k_ => some k_ ≠ ((.slice Ao7 t507.length co7) : Value).ownBlock ∧ some k_ ≠ ((.slice Ao9 t510.length co9) : Value).ownBlock) v518 t517) ∧ Aside0 (Kd.R (Kd.int .i64) 3 wc w.heap.size (fun k_ => some k_ ≠ (v518 : Value).ownBlock ∧ some k_ ≠ ((.slice Ao9 t510.length co9) : Value).ownBlock) (.slice Ao7 t507.length co7) t507) ∧ Aside0 (Kd.R (Kd.int .i64) 3 wc w.heap.size (fun k_ => some k_ ≠ (v518 : Value).ownBlock ∧ some k_ ≠ ((.slice Ao7 t507.length co7) : Value).ownBlock) (.slice Ao9 t510.length co9) t510) ∧ Aside0 (Kd.R Kd.bool 4 wc w.heap.size (fun _ => True) (.slice Ao10 t513.length co10) t513) ∧ Aside0 (wc.heap[gb516]? = some (.cells #[(.slice Ao7 t507.length co7), (.slice Ao9 t510.length co9), (.slice Ao10 t513.length co10)] 25 (0, 0))) ∧ Aside0 (Below w.heap.size w wc))
 case first =>
  have H := HC4.out
  clear HC4
  by_cases c12 : t520 = 0
  ·
   rw [if_pos c12] at H
   have c12b0 : (t520 == 0) = true := beq_iff_eq.mpr c12
   have c12b1 : (t520 != 0) = false := bne_eq_false_iff_eq.mpr c12
   clear c12
   (first | rw [c12b0] | (simp only [i64_w, i32_w]; rw [c12b0]) | skip)
   replace H := Option.bind_eq_some_iff.mp H
   obtain ⟨t521, A130, H⟩ := H
   replace H : (headgatelaw07_LruOrder.j0 k t517 ((t517.length : Int) != t521) t507 t510 t513) = some r := H
   have A13 := Aside0.mk A130
   clear A130
   have H' := Aside0.mk H
   clear H
   obtain ⟨Ao14, co14, eo14⟩ := Kd.R_slice HO519.out
   subst eo14
   have hcz15_0 : w11.cell? ⟨gb516, 0, none⟩ = some (.slice Ao7 t507.length co7) := (blk_cell BK516.out 0).trans rfl
   have hcz15_1 : w11.cell? ⟨gb516, 1, none⟩ = some (.slice Ao9 t510.length co9) := (blk_cell BK516.out 1).trans rfl
   have hcz15_2 : w11.cell? ⟨gb516, 2, none⟩ = some (.slice Ao10 t513.length co10) := (blk_cell BK516.out 2).trans rfl
   have hfz15_0 := blk_frozen BK516.out 0
   have hfz15_1 := blk_frozen BK516.out 1
   have hfz15_2 := blk_frozen BK516.out 2
   go_wp2_with (first | (go_at_call 35; refine calls_of_args (args' := #[.agg #[.slice Ao7 t507.length co7, .slice Ao9 t510.length co9, .slice Ao10 t513.length co10]]) (by first | rfl) ?_; (with_reducible refine (headgatelaw07_size.calls _ _ t507 _ _ t510 _ _ t513 t521 _ ?side1 ?side2 ?side3 ?side4 ?side5 ?side6 A13.out).mono ?_); (case side1 => repeat (first | exact (Kd.R_reads' HO509.out).2.2 | (with_reducible refine Kd.C_alloc ?_ _) | (with_reducible refine Kd.C_drewN ?_ _) | (with_reducible refine Kd.C_drew ?_))); (case side2 => exact (Kd.R_reads' HO509.out).2.1); (case side3 => repeat (first | exact (Kd.R_reads' HO512.out).2.2 | (with_reducible refine Kd.C_alloc ?_ _) | (with_reducible refine Kd.C_drewN ?_ _) | (with_reducible refine Kd.C_drew ?_))); (case side4 => exact (Kd.R_reads' HO512.out).2.1); (case side5 => repeat (first | exact (Kd.R_reads' HO515.out).2.2 | (with_reducible refine Kd.C_alloc ?_ _) | (with_reducible refine Kd.C_drewN ?_ _) | (with_reducible refine Kd.C_drew ?_))); (case side6 => exact (Kd.R_reads' HO515.out).2.1); rintro e w16 ⟨rfl, hb⟩; have n0_ := Aside0.mk (Kd.R_below (by (with_reducible repeat (first | apply Kd.R_alloc | apply Kd.R_drewN | apply Kd.R_drew)); exact HO509.out) hb); have n1_ := Aside0.mk (Kd.R_below (by (with_reducible repeat (first | apply Kd.R_alloc | apply Kd.R_drewN | apply Kd.R_drew)); exact HO512.out) hb); have n2_ := Aside0.mk (Kd.R_below (by (with_reducible repeat (first | apply Kd.R_alloc | apply Kd.R_drewN | apply Kd.R_drew)); exact HO515.out) hb); have n3_ := Aside0.mk (Kd.R_below (by (with_reducible repeat (first | apply Kd.R_alloc | apply Kd.R_drewN | apply Kd.R_drew)); exact HO519.out) hb); have n4_ := Aside0.mk (blk_below (g := gb516) (o := .cells #[.slice Ao7 t507.length co7, .slice Ao9 t510.length co9, .slice Ao10 t513.length co10] 25 (0, 0)) (by (with_reducible repeat (first | refine blk_drewN ?_ _ | refine blk_drew ?_ | refine blk_alloc ?_ _)); exact BK516.out) hb); have n5_ := Aside0.mk (below_step (by repeat (first | (with_reducible first | exact HB.out | apply below_alloc | apply pw_below_drewN | apply below_drew1 | refine below_set ?_ GE516.out) | exact HB.out)) hb); clear HO509; clear HO512; clear HO515; clear HO519; clear BK516; clear HB; have HO509 := n0_; have HO512 := n1_; have HO515 := n2_; have HO519 := n3_; have BK516 := n4_; have HB := n5_; clear n0_ n1_ n2_ n3_ n4_ n5_; (try clear hb); (try clear hb2); (try clear hk); (try clear hi)))
   go_meet
   case rel => exact ⟨_, (((t517.length : Int) != t521)), (by first | rfl | (simp; done) | (simp [*]; done)), H', ⟨by first | omega | exact Nat.le_refl _⟩, ⟨by (with_reducible repeat (first | apply Kd.R_alloc | apply Kd.R_drewN | apply Kd.R_drew)); exact Kd.R_mono HO519.out (fun _ hk => ⟨hk.1.2, hk.2⟩)⟩, ⟨by (with_reducible repeat (first | apply Kd.R_alloc | apply Kd.R_drewN | apply Kd.R_drew)); exact Kd.R_mono HO509.out (fun _ hk => ⟨hk.2, hk.1⟩)⟩, ⟨by (with_reducible repeat (first | apply Kd.R_alloc | apply Kd.R_drewN | apply Kd.R_drew)); exact Kd.R_mono HO512.out (fun _ hk => ⟨hk.2, hk.1⟩)⟩, ⟨by (with_reducible repeat (first | apply Kd.R_alloc | apply Kd.R_drewN | apply Kd.R_drew)); exact HO515.out⟩, ⟨by (with_reducible repeat (first | refine blk_drewN ?_ _ | refine blk_drew ?_ | refine blk_alloc ?_ _)); exact BK516.out⟩, ⟨by repeat (first | (with_reducible first | exact HB.out | apply below_alloc | apply pw_below_drewN | apply below_drew1 | refine below_set ?_ GE516.out) | exact HB.out)⟩⟩
  ·
   rw [if_neg c12] at H
   have c12b0 : (t520 == 0) = false := beq_eq_false_iff_ne.mpr c12
   have c12b1 : (t520 != 0) = true := bne_iff_ne.mpr c12
   (first | rw [c12b0] | (simp only [i64_w, i32_w]; rw [c12b0]) | skip)
   have H' := Aside0.mk H
   clear H
   go_wp2
   go_meet
   case rel => exact ⟨_, (true), (by first | rfl | (simp; done) | (simp [*]; done)), H', ⟨by first | omega | exact Nat.le_refl _⟩, ⟨by (with_reducible repeat (first | apply Kd.R_alloc | apply Kd.R_drewN | apply Kd.R_drew)); exact Kd.R_mono HO519.out (fun _ hk => ⟨hk.1.2, hk.2⟩)⟩, ⟨by (with_reducible repeat (first | apply Kd.R_alloc | apply Kd.R_drewN | apply Kd.R_drew)); exact Kd.R_mono HO509.out (fun _ hk => ⟨hk.2, hk.1⟩)⟩, ⟨by (with_reducible repeat (first | apply Kd.R_alloc | apply Kd.R_drewN | apply Kd.R_drew)); exact Kd.R_mono HO512.out (fun _ hk => ⟨hk.2, hk.1⟩)⟩, ⟨by (with_reducible repeat (first | apply Kd.R_alloc | apply Kd.R_drewN | apply Kd.R_drew)); exact HO515.out⟩, ⟨by (with_reducible repeat (first | refine blk_drewN ?_ _ | refine blk_drew ?_ | refine blk_alloc ?_ _)); exact BK516.out⟩, ⟨by repeat (first | (with_reducible first | exact HB.out | apply below_alloc | apply pw_below_drewN | apply below_drew1 | refine below_set ?_ GE516.out) | exact HB.out)⟩⟩
 case rest =>
  clear HC4
  try clear c1
  try clear c2
  try clear p2
  try clear c3
  try clear c6
  try clear c12
  try clear c12b0
  try clear c12b1
  try clear hcz15_0
  try clear hcz15_1
  try clear hcz15_2
  try clear hcz8_0
  try clear hcz8_1
  try clear hcz8_2
  try clear hfz15_0
  try clear hfz15_1
  try clear hfz15_2
  try clear hfz8_0
  try clear hfz8_1
  try clear hfz8_2
  obtain ⟨kq, x26_3, rfl, HA, HJ3, HO_4, HO_517000, HO_517001, HO_517002, BK516, HB⟩ := hcut
  cases kq with
  | zero => exact absurd HA.out (by simp [headgatelaw07_LruOrder.j0])
  | succ kj3 =>
   have H := HA.out
   clear HA
   simp only [headgatelaw07_LruOrder.j0] at H
   by_cases c17 : x26_3 = true
   ·
    subst c17
    have H1 : (some false) = some r := by rw [if_pos rfl] at H; exact H
    clear H
    have H := H1
    clear H1
    exact absurd H (by rw [HT.out]; simp)
   ·
    replace c17 := Bool.eq_false_iff.mpr c17
    subst c17
    have H1 : (headgatelaw07_LruOrder.l0 kj3 t517 0 t507 t510 t513) = some r := by rw [if_neg (show ¬ (false = true) by decide)] at H; exact H
    clear H
    have H := H1
    clear H1
    have H' := Aside0.mk H
    clear H
    go_wp2
    go_loopg [6] kj3 (fun kq v6 w' => ∃ (x6_2 : Int), v6 = .int .i64 x6_2 ∧ Aside0 (headgatelaw07_LruOrder.l0 kq t517 x6_2 t507 t510 t513 = some r) ∧ Aside0 (kq ≤ kj3) ∧ Aside0 (Kd.R (Kd.int .i64) 3 w' w.heap.size (fun k_ => some k_ ≠ ((.slice Ao7 t507.length co7) : Value).ownBlock ∧ some k_ ≠ ((.slice Ao9 t510.length co9) : Value).ownBlock) v518 t517) ∧ Aside0 (Kd.R (Kd.int .i64) 3 w' w.heap.size (fun k_ => some k_ ≠ (v518 : Value).ownBlock ∧ some k_ ≠ ((.slice Ao9 t510.length co9) : Value).ownBlock) (.slice Ao7 t507.length co7) t507) ∧ Aside0 (Kd.R (Kd.int .i64) 3 w' w.heap.size (fun k_ => some k_ ≠ (v518 : Value).ownBlock ∧ some k_ ≠ ((.slice Ao7 t507.length co7) : Value).ownBlock) (.slice Ao9 t510.length co9) t510) ∧ Aside0 (Kd.R Kd.bool 4 w' w.heap.size (fun _ => True) (.slice Ao10 t513.length co10) t513) ∧ Aside0 (w'.heap[gb516]? = some (.cells #[(.slice Ao7 t507.length co7), (.slice Ao9 t510.length co9), (.slice Ao10 t513.length co10)] 25 (0, 0))) ∧ Aside0 (Below w.heap.size w w'))
    case atStart => exact ⟨(0), (by first | rfl | (simp; done) | (simp [*]; done)), H', ⟨Nat.le_refl _⟩, ⟨by (with_reducible repeat (first | apply Kd.R_alloc | apply Kd.R_drewN | apply Kd.R_drew)); exact HO_4.out⟩, ⟨by (with_reducible repeat (first | apply Kd.R_alloc | apply Kd.R_drewN | apply Kd.R_drew)); exact HO_517000.out⟩, ⟨by (with_reducible repeat (first | apply Kd.R_alloc | apply Kd.R_drewN | apply Kd.R_drew)); exact HO_517001.out⟩, ⟨by (with_reducible repeat (first | apply Kd.R_alloc | apply Kd.R_drewN | apply Kd.R_drew)); exact HO_517002.out⟩, ⟨by (with_reducible repeat (first | refine blk_drewN ?_ _ | refine blk_drew ?_ | refine blk_alloc ?_ _)); exact BK516.out⟩, ⟨by repeat (first | (with_reducible first | exact HB.out | apply below_alloc | apply pw_below_drewN | apply below_drew1 | refine below_set ?_ GE516.out) | exact HB.out)⟩⟩
    case round =>
     clear H'
     try clear c1
     try clear c2
     try clear p2
     try clear c3
     try clear c6
     try clear c12
     try clear c12b0
     try clear c12b1
     try clear c17
     try clear hcz15_0
     try clear hcz15_1
     try clear hcz15_2
     try clear hcz8_0
     try clear hcz8_1
     try clear hcz8_2
     try clear hfz15_0
     try clear hfz15_1
     try clear hfz15_2
     try clear hfz8_0
     try clear hfz8_1
     try clear hfz8_2
     try clear p2
     obtain ⟨x6_2, rfl, HA, HK2, HO_4, HO_517000, HO_517001, HO_517002, BK516, HB⟩ := hrel
     cases gk with
     | zero => exact absurd HA.out (by simp [headgatelaw07_LruOrder.l0])
     | succ k2 =>
      have H := HA.out
      clear HA
      simp only [headgatelaw07_LruOrder.l0] at H
      by_cases c18 : x6_2 < (t517.length : Int)
      ·
       rw [if_pos c18] at H
       have c18b0 : decide (x6_2 < (t517.length : Int)) = true := decide_eq_true c18
       clear c18
       by_cases c19 : 0 ≤ x6_2
       ·
        rw [if_pos c19] at H
        have c19b0 : decide (0 ≤ x6_2) = true := decide_eq_true c19
        clear c19
        replace H := Option.bind_eq_some_iff.mp H
        obtain ⟨⟨t530, t531⟩, A200, H⟩ := H
        replace H : (if t531 = 0 then (if t530 = 0 then (some false) else (if ((t530 == 2) != (decide (x6_2 < (t510.length : Int)))) = true then (some false) else (if x6_2 ≤ (t517.length : Int) then ((headgatekit_Has.f k2 (t517.take (x6_2 : Int).toNat) (rd t517 x6_2)).bind fun t537 => (if t537 = true then (some false) else (headgatelaw07_LruOrder.l0 k2 t517 (wrap64 (x6_2 + 1)) t507 t510 t513))) else (none)))) else (some false)) = some r := H
        have A20 := Aside0.mk A200
        clear A200
        by_cases c21 : t531 = 0
        ·
         rw [if_pos c21] at H
         have c21b0 : (t531 == 0) = true := beq_iff_eq.mpr c21
         have c21b1 : (t531 != 0) = false := bne_eq_false_iff_eq.mpr c21
         clear c21
         by_cases c22 : t530 = 0
         ·
          rw [if_pos c22] at H
          have c22b0 : (t530 == 0) = true := beq_iff_eq.mpr c22
          have c22b1 : (t530 != 0) = false := bne_eq_false_iff_eq.mpr c22
          clear c22
          exact absurd H (by rw [HT.out]; simp)
         ·
          rw [if_neg c22] at H
          have c22b0 : (t530 == 0) = false := beq_eq_false_iff_ne.mpr c22
          have c22b1 : (t530 != 0) = true := bne_iff_ne.mpr c22
          by_cases c23 : ((t530 == 2) != (decide (x6_2 < (t510.length : Int)))) = true
          ·
           rw [if_pos c23] at H
           have c23b0 : ((t530 == 2) != (decide (x6_2 < (t510.length : Int)))) = true := c23
           (try (have c23b1 : decide ((t530 == 2) = (decide (x6_2 < (t510.length : Int)))) = false := by simpa using c23))
           (try (have c23b2 : ((t530 == 2) == (decide (x6_2 < (t510.length : Int)))) = false := by simpa using c23))
           (try (have c23b3 : ¬ ((t530 == 2) = (decide (x6_2 < (t510.length : Int)))) := by simpa using c23))
           clear c23
           exact absurd H (by rw [HT.out]; simp)
          ·
           rw [if_neg c23] at H
           have c23b0 : ((t530 == 2) != (decide (x6_2 < (t510.length : Int)))) = false := by simpa using c23
           (try (have c23b1 : decide ((t530 == 2) = (decide (x6_2 < (t510.length : Int)))) = true := by simpa using c23))
           (try (have c23b2 : ((t530 == 2) == (decide (x6_2 < (t510.length : Int)))) = true := by simpa using c23))
           clear c23
           have c24b0 := eq_true (of_decide_eq_true (by first | (with_reducible assumption) | assumption) : 0 ≤ x6_2)
           by_cases c25 : x6_2 ≤ (t517.length : Int)
           ·
            rw [if_pos c25] at H
            have c25b0 := eq_true c25
            have c25b1 : decide (x6_2 ≤ (t517.length : Int)) = true := decide_eq_true c25
            clear c25
            obtain ⟨y532, hy532⟩ : ∃ y_ : List Int, y_ = (t517.take (x6_2 : Int).toNat) := ⟨_, rfl⟩
            replace H : ((headgatekit_Has.f k2 y532 (rd t517 x6_2)).bind fun t537 => (if t537 = true then (some false) else (headgatelaw07_LruOrder.l0 k2 t517 (wrap64 (x6_2 + 1)) t507 t510 t513))) = some r := by first | (rw [hy532]; with_reducible exact H) | (have H2_ := (Option.bind_some _ _).symm.trans H; rw [hy532]; with_reducible exact H2_) | (have H2_ := (Option.bind_some _ _).symm.trans H; with_reducible exact H2_) | with_reducible exact H | (rw [hy532]; exact H) | exact H
            have Ny532 := Aside0.mk hy532
            clear hy532
            replace H := Option.bind_eq_some_iff.mp H
            obtain ⟨t537, A260, H⟩ := H
            replace H : (if t537 = true then (some false) else (headgatelaw07_LruOrder.l0 k2 t517 (wrap64 (x6_2 + 1)) t507 t510 t513)) = some r := H
            have A26 := Aside0.mk A260
            clear A260
            by_cases c27 : t537 = true
            ·
             subst c27
             have H1 : (some false) = some r := by rw [if_pos rfl] at H; exact H
             clear H
             have H := H1
             clear H1
             exact absurd H (by rw [HT.out]; simp)
            ·
             replace c27 := Bool.eq_false_iff.mpr c27
             subst c27
             have H1 : (headgatelaw07_LruOrder.l0 k2 t517 (wrap64 (x6_2 + 1)) t507 t510 t513) = some r := by rw [if_neg (show ¬ (false = true) by decide)] at H; exact H
             clear H
             have H := H1
             clear H1
             have H' := Aside0.mk H
             clear H
             obtain ⟨Ao28, co28, eo28⟩ := Kd.R_slice HO_4.out
             subst eo28
             try go_wp2
             have n0_ := Aside0.mk (Kd.R_drew HO_4.out)
             have n1_ := Aside0.mk (Kd.R_drew HO_517000.out)
             have n2_ := Aside0.mk (Kd.R_drew HO_517001.out)
             have n3_ := Aside0.mk (Kd.R_drew HO_517002.out)
             have n4_ := Aside0.mk (blk_drew BK516.out)
             have n5_ := Aside0.mk (below_drew1 HB.out)
             clear HO_4
             clear HO_517000
             clear HO_517001
             clear HO_517002
             clear BK516
             clear HB
             have HO_4 := n0_
             have HO_517000 := n1_
             have HO_517001 := n2_
             have HO_517002 := n3_
             have BK516 := n4_
             have HB := n5_
             clear n0_ n1_ n2_ n3_ n4_ n5_
             have p529 : 0 ≤ (x6_2 : Int) := of_decide_eq_true (by first | (with_reducible assumption) | assumption)
             have q529 : x6_2 < (t517.length : Int) := of_decide_eq_true (by first | (with_reducible assumption) | assumption)
             obtain ⟨ad529, e529, hx529_0⟩ := Kd.at_int (Kd.R_reads' HO_4.out).2.2 x6_2 p529 q529
             cases e529
             replace p529 := eq_true p529
             replace q529 := eq_true q529
             refine start_ (n := 11) (S := fun w' => w'.cell? ⟨gb516, 0, none⟩ = some (.slice Ao7 t507.length co7) ∧ w'.cell? ⟨gb516, 1, none⟩ = some (.slice Ao9 t510.length co9) ∧ w'.cell? ⟨gb516, 2, none⟩ = some (.slice Ao10 t513.length co10) ∧ w'.cell? (ad529.add (x6_2).toNat) = some (.int .i64 (rd t517 x6_2))) (ds := []) #[false, false, false, false, false, false, false, false, false, false, false] (by kernel_rfl) rfl rfl ⟨(blk_cell BK516.out 0).trans rfl, (blk_cell BK516.out 1).trans rfl, (blk_cell BK516.out 2).trans rfl, hx529_0⟩ (fun hHeld => ?_); refine with_tabW headgatelaw07_LruOrder.tab8 headgatelaw07_LruOrder.bits8 (fun HT_ HW_ => ?_)
             generalize wr.drew = w29 at HO_4 HO_517000 HO_517001 HO_517002 BK516 HB hx529_0 hHeld ⊢
             refine pure_ (i := 1) (N := some 35) (v := ?_) (a' := ?_) #[false, true, false, false, false, false, false, false, false, false, false] rfl rfl (any_of HT_.out (by kernel_rfl)) (fun _ _ _ h => h) (Or.inl ⟨by rfl, ?_⟩) ?_ ?_
             rotate_left
             ·
              intro w'
              go_simp
              with_reducible rfl
             rotate_left
             ·
              simp only [Act.put, List.setIfInBounds_toArray, List.set_cons_zero, List.set_cons_succ, i64_w, i32_w]
              rfl
             refine pure_ (i := 2) (N := some 36) (v := ?_) (a' := ?_) #[false, true, true, false, false, false, false, false, false, false, false] rfl rfl (any_of HT_.out (by kernel_rfl)) (fun _ _ _ h => h) (Or.inl ⟨by rfl, ?_⟩) ?_ ?_
             rotate_left
             ·
              intro w'
              go_simp
              with_reducible rfl
             rotate_left
             ·
              simp only [Act.put, List.setIfInBounds_toArray, List.set_cons_zero, List.set_cons_succ, i64_w, i32_w]
              rfl
             refine pure_ (i := 3) (N := some 37) (v := ?_) (a' := ?_) #[false, true, true, true, false, false, false, false, false, false, false] rfl rfl (any_of HT_.out (by kernel_rfl)) (fun _ _ _ h => h) (Or.inl ⟨by rfl, ?_⟩) ?_ ?_
             rotate_left
             ·
              intro w'
              go_simp
              with_reducible rfl
             rotate_left
             ·
              simp only [Act.put, List.setIfInBounds_toArray, List.set_cons_zero, List.set_cons_succ, i64_w, i32_w]
              rfl
             refine take_ (i := 0) (N := some 34) (v := ?_) (a' := ?_) #[true, true, true, true, false, false, false, false, false, false, false] rfl rfl (take_ofW HT_.out HW_.out (by kernel_rfl)) (fun _ _ _ h => h) (Or.inl ⟨by rfl, ?_⟩) hHeld ?_ ?_
             rotate_left
             ·
              rintro w' ⟨s0, s1, s2, s3⟩
              go_simp
              with_reducible rfl
             rotate_left
             ·
              simp only [Act.put, List.setIfInBounds_toArray, List.set_cons_zero, List.set_cons_succ, i64_w, i32_w]
              rfl
             refine take_ (i := 4) (N := some 38) (v := ?_) (a' := ?_) #[true, true, true, true, true, false, false, false, false, false, false] rfl rfl (take_ofW HT_.out HW_.out (by kernel_rfl)) (fun _ _ _ h => h) (Or.inl ⟨by rfl, ?_⟩) hHeld ?_ ?_
             rotate_left
             ·
              rintro w' ⟨s0, s1, s2, s3⟩
              go_simp
              with_reducible rfl
             rotate_left
             ·
              simp only [Act.put, List.setIfInBounds_toArray, List.set_cons_zero, List.set_cons_succ, i64_w, i32_w]
              rfl
             refine one_ (i := 5) (N := some 39) #[true, true, true, true, true, true, false, false, false, false, false] rfl rfl (one_of HT_.out (by kernel_rfl)) (by decide) (fun K hK => ?_)
             refine goes_ Try.func24 (by kernel_rfl) rfl #[.agg #[.slice Ao7 t507.length co7, .slice Ao9 t510.length co9, .slice Ao10 t513.length co10], .int .i64 (rd t517 x6_2)] (by rfl) rfl rfl (by (try simp only [List.map_toArray, List.map_cons, List.map_nil]); first | done | rfl | (simp only [List.length_drop, List.length_take]; rfl)) ?_
             with_reducible refine (lru_Where.calls k2 _ _ t507 _ _ t510 _ _ t513 (rd t517 x6_2) t530 t531 _ ?side1 ?side2 ?side3 ?side4 ?side5 ?side6 A20.out).mono ?_
             (case side1 => repeat (first | exact (Kd.R_reads' HO_517000.out).2.2 | (with_reducible refine Kd.C_alloc ?_ _) | (with_reducible refine Kd.C_drewN ?_ _) | (with_reducible refine Kd.C_drew ?_)))
             (case side2 => exact (Kd.R_reads' HO_517000.out).2.1)
             (case side3 => repeat (first | exact (Kd.R_reads' HO_517001.out).2.2 | (with_reducible refine Kd.C_alloc ?_ _) | (with_reducible refine Kd.C_drewN ?_ _) | (with_reducible refine Kd.C_drew ?_)))
             (case side4 => exact (Kd.R_reads' HO_517001.out).2.1)
             (case side5 => repeat (first | exact (Kd.R_reads' HO_517002.out).2.2 | (with_reducible refine Kd.C_alloc ?_ _) | (with_reducible refine Kd.C_drewN ?_ _) | (with_reducible refine Kd.C_drew ?_)))
             (case side6 => exact (Kd.R_reads' HO_517002.out).2.1)
             rintro e w30 ⟨rfl, hb⟩
             have HS3_ := (hb.cell (World.block_lt_of_cell? _ _ (hHeld.2.2.2))).trans (hHeld.2.2.2)
             refine ⟨_, rfl, ?_⟩
             have n0_ := Aside0.mk (Kd.R_below (by (with_reducible repeat (first | apply Kd.R_alloc | apply Kd.R_drewN | apply Kd.R_drew)); exact HO_4.out) hb)
             have n1_ := Aside0.mk (Kd.R_below (by (with_reducible repeat (first | apply Kd.R_alloc | apply Kd.R_drewN | apply Kd.R_drew)); exact HO_517000.out) hb)
             have n2_ := Aside0.mk (Kd.R_below (by (with_reducible repeat (first | apply Kd.R_alloc | apply Kd.R_drewN | apply Kd.R_drew)); exact HO_517001.out) hb)
             have n3_ := Aside0.mk (Kd.R_below (by (with_reducible repeat (first | apply Kd.R_alloc | apply Kd.R_drewN | apply Kd.R_drew)); exact HO_517002.out) hb)
             have n4_ := Aside0.mk (blk_below (g := gb516) (o := .cells #[.slice Ao7 t507.length co7, .slice Ao9 t510.length co9, .slice Ao10 t513.length co10] 25 (0, 0)) (by (with_reducible repeat (first | refine blk_drewN ?_ _ | refine blk_drew ?_ | refine blk_alloc ?_ _)); exact BK516.out) hb)
             have n5_ := Aside0.mk (below_step (by repeat (first | (with_reducible first | exact HB.out | apply below_alloc | apply pw_below_drewN | apply below_drew1 | refine below_set ?_ GE516.out) | exact HB.out)) hb)
             clear HO_4
             clear HO_517000
             clear HO_517001
             clear HO_517002
             clear BK516
             clear HB
             have HO_4 := n0_
             have HO_517000 := n1_
             have HO_517001 := n2_
             have HO_517002 := n3_
             have BK516 := n4_
             have HB := n5_
             clear n0_ n1_ n2_ n3_ n4_ n5_
             (try clear hb)
             (try clear hb2)
             (try clear hk)
             (try clear hi)
             refine hK.out _ _ ⟨(blk_cell BK516.out 0).trans rfl, (blk_cell BK516.out 1).trans rfl, (blk_cell BK516.out 2).trans rfl, HS3_⟩ (fun hHeld => ?_)
             clear hK K
             refine norm_ (a' := ?_) ?_ ?_
             rotate_left
             ·
              show Act.put _ (some 39) _ = _
              simp only [Act.put, List.setIfInBounds_toArray, List.set_cons_zero, List.set_cons_succ, i64_w, i32_w]
              rfl
             refine pure_ (i := 6) (N := some 33) (v := ?_) (a' := ?_) #[true, true, true, true, true, true, true, false, false, false, false] rfl rfl (any_of HT_.out (by kernel_rfl)) (fun _ _ _ h => h) (Or.inl ⟨by rfl, ?_⟩) ?_ ?_
             rotate_left
             ·
              intro w'
              go_simp
              with_reducible rfl
             rotate_left
             ·
              simp only [Act.put, List.setIfInBounds_toArray, List.set_cons_zero, List.set_cons_succ, i64_w, i32_w]
              rfl
             refine pure_ (i := 7) (N := some 40) (v := ?_) (a' := ?_) #[true, true, true, true, true, true, true, true, false, false, false] rfl rfl (any_of HT_.out (by kernel_rfl)) (fun _ _ _ h => h) (Or.inl ⟨by rfl, ?_⟩) ?_ ?_
             rotate_left
             ·
              intro w'
              go_simp
              with_reducible rfl
             rotate_left
             ·
              simp only [Act.put, List.setIfInBounds_toArray, List.set_cons_zero, List.set_cons_succ, i64_w, i32_w]
              rfl
             refine pure_ (i := 8) (N := some 41) (v := ?_) (a' := ?_) #[true, true, true, true, true, true, true, true, true, false, false] rfl rfl (any_of HT_.out (by kernel_rfl)) (fun _ _ _ h => h) (Or.inl ⟨by rfl, ?_⟩) ?_ ?_
             rotate_left
             ·
              intro w'
              go_simp
              with_reducible rfl
             rotate_left
             ·
              simp only [Act.put, List.setIfInBounds_toArray, List.set_cons_zero, List.set_cons_succ, i64_w, i32_w]
              rfl
             refine pure_ (i := 9) (N := some 7) (v := ?_) (a' := ?_) #[true, true, true, true, true, true, true, true, true, true, false] rfl rfl (any_of HT_.out (by kernel_rfl)) (fun _ _ _ h => h) (Or.inl ⟨by rfl, ?_⟩) ?_ ?_
             rotate_left
             ·
              intro w'
              go_simp
              with_reducible rfl
             rotate_left
             ·
              simp only [Act.put, List.setIfInBounds_toArray, List.set_cons_zero, List.set_cons_succ, i64_w, i32_w]
              rfl
             refine pure_ (i := 10) (N := some 8) (v := ?_) (a' := ?_) #[true, true, true, true, true, true, true, true, true, true, true] rfl rfl (any_of HT_.out (by kernel_rfl)) (fun _ _ _ h => h) (Or.inl ⟨by rfl, ?_⟩) ?_ ?_
             rotate_left
             ·
              intro w'
              go_simp
              with_reducible rfl
             rotate_left
             ·
              simp only [Act.put, List.setIfInBounds_toArray, List.set_cons_zero, List.set_cons_succ, i64_w, i32_w]
              rfl
             refine done_ (done_of HT_.out (by kernel_rfl)) ?_
             try go_wp2
             have n0_ := Aside0.mk (Kd.R_drew HO_4.out)
             have n1_ := Aside0.mk (Kd.R_drew HO_517000.out)
             have n2_ := Aside0.mk (Kd.R_drew HO_517001.out)
             have n3_ := Aside0.mk (Kd.R_drew HO_517002.out)
             have n4_ := Aside0.mk (blk_drew BK516.out)
             have n5_ := Aside0.mk (below_drew1 HB.out)
             clear HO_4
             clear HO_517000
             clear HO_517001
             clear HO_517002
             clear BK516
             clear HB
             have HO_4 := n0_
             have HO_517000 := n1_
             have HO_517001 := n2_
             have HO_517002 := n3_
             have BK516 := n4_
             have HB := n5_
             clear n0_ n1_ n2_ n3_ n4_ n5_
             have q32 : (x6_2 : Int) ≤ ((t517.length : Int) : Int) := of_decide_eq_true (by first | (with_reducible assumption) | assumption)
             obtain ⟨i032, hi032, _, hsz32, _⟩ := info_parts info3
             have hroom32 : t517.length ≤ co28 := (Kd.R_reads' HO_4.out).2.1
             have hC32 : Kd.C (Kd.int .i64) _ (some ad529) t517.length t517 := (Kd.R_reads' HO_4.out).2.2
             have hcut32 := cut_to (P := Try.prog) 22 3 .i64 Try.underlying22 hi032 (some ad529) t517.length co28 x6_2 (of_decide_eq_true (by first | (with_reducible assumption) | assumption)) q32 hroom32
             have hr32 := Kd.C_take (m := (x6_2 : Int).toNat) hC32 (by omega)
             have hy32 : y532.length = (x6_2 : Int).toNat := (by rw [Ny532.out, List.length_take]; omega)
             rw [← Ny532.out] at hr32
             rw [← hy32] at hcut32
             have HR535 := Aside0.mk hr32
             have HC535 := Aside0.mk (show y532.length ≤ co28 from by omega)
             clear hr32 hC32 hroom32 hi032 hsz32
             have KY32 := Aside0.mk hy32
             clear hy32
             have KL32 := Aside0.mk (show (x6_2 : Int).toNat ≤ t517.length from by omega)
             replace q32 := eq_true q32
             have p536 : 0 ≤ (x6_2 : Int) := of_decide_eq_true (by first | (with_reducible assumption) | assumption)
             have q536 : x6_2 < (t517.length : Int) := of_decide_eq_true (by first | (with_reducible assumption) | assumption)
             obtain ⟨ad536, e536, hx536_0⟩ := Kd.at_int (Kd.R_reads' HO_4.out).2.2 x6_2 p536 q536
             obtain rfl : ad529 = ad536 := (by injection e536)
             replace p536 := eq_true p536
             replace q536 := eq_true q536
             refine start_ (n := 26) (S := fun w' => w'.cell? ⟨gb516, 0, none⟩ = some (.slice Ao7 t507.length co7) ∧ w'.cell? ⟨gb516, 1, none⟩ = some (.slice Ao9 t510.length co9) ∧ w'.cell? ⟨gb516, 2, none⟩ = some (.slice Ao10 t513.length co10) ∧ w'.cell? (ad529.add (x6_2).toNat) = some (.int .i64 (rd t517 x6_2))) (ds := []) #[false, false, false, false, false, false, false, false, false, false, false, false, false, false, false, false, false, false, false, false, false, false, false, false, false, false] (by kernel_rfl) rfl rfl ⟨(blk_cell BK516.out 0).trans rfl, (blk_cell BK516.out 1).trans rfl, (blk_cell BK516.out 2).trans rfl, hx536_0⟩ (fun hHeld => ?_); refine with_tabW headgatelaw07_LruOrder.tab9 headgatelaw07_LruOrder.bits9 (fun HT_ HW_ => ?_)
             generalize w30.drew = w31 at HO_4 HO_517000 HO_517001 HO_517002 BK516 HB HR535 hx536_0 hHeld ⊢
             refine pure_ (i := 0) (N := some 42) (v := ?_) (a' := ?_) #[true, false, false, false, false, false, false, false, false, false, false, false, false, false, false, false, false, false, false, false, false, false, false, false, false, false] rfl rfl (any_of HT_.out (by kernel_rfl)) (fun _ _ _ h => h) (Or.inl ⟨by rfl, ?_⟩) ?_ ?_
             rotate_left
             ·
              intro w'
              go_simp
              with_reducible rfl
             rotate_left
             ·
              simp only [Act.put, List.setIfInBounds_toArray, List.set_cons_zero, List.set_cons_succ, i64_w, i32_w]
              rfl
             refine pure_ (i := 1) (N := some 43) (v := ?_) (a' := ?_) #[true, true, false, false, false, false, false, false, false, false, false, false, false, false, false, false, false, false, false, false, false, false, false, false, false, false] rfl rfl (any_of HT_.out (by kernel_rfl)) (fun _ _ _ h => h) (Or.inl ⟨by rfl, ?_⟩) ?_ ?_
             rotate_left
             ·
              intro w'
              go_simp
              with_reducible rfl
             rotate_left
             ·
              simp only [Act.put, List.setIfInBounds_toArray, List.set_cons_zero, List.set_cons_succ, i64_w, i32_w]
              rfl
             refine pure_ (i := 2) (N := some 44) (v := ?_) (a' := ?_) #[true, true, true, false, false, false, false, false, false, false, false, false, false, false, false, false, false, false, false, false, false, false, false, false, false, false] rfl rfl (any_of HT_.out (by kernel_rfl)) (fun _ _ _ h => h) (Or.inl ⟨by rfl, ?_⟩) ?_ ?_
             rotate_left
             ·
              intro w'
              go_simp
              with_reducible rfl
             rotate_left
             ·
              simp only [Act.put, List.setIfInBounds_toArray, List.set_cons_zero, List.set_cons_succ, i64_w, i32_w]
              rfl
             refine pure_ (i := 3) (N := some 45) (v := ?_) (a' := ?_) #[true, true, true, true, false, false, false, false, false, false, false, false, false, false, false, false, false, false, false, false, false, false, false, false, false, false] rfl rfl (any_of HT_.out (by kernel_rfl)) (fun _ _ _ h => h) (Or.inl ⟨by rfl, ?_⟩) ?_ ?_
             rotate_left
             ·
              intro w'
              go_simp
              with_reducible rfl
             rotate_left
             ·
              simp only [Act.put, List.setIfInBounds_toArray, List.set_cons_zero, List.set_cons_succ, i64_w, i32_w]
              rfl
             refine pure_ (i := 4) (N := some 46) (v := ?_) (a' := ?_) #[true, true, true, true, true, false, false, false, false, false, false, false, false, false, false, false, false, false, false, false, false, false, false, false, false, false] rfl rfl (any_of HT_.out (by kernel_rfl)) (fun _ _ _ h => h) (Or.inl ⟨by rfl, ?_⟩) ?_ ?_
             rotate_left
             ·
              intro w'
              go_simp
              with_reducible rfl
             rotate_left
             ·
              simp only [Act.put, List.setIfInBounds_toArray, List.set_cons_zero, List.set_cons_succ, i64_w, i32_w]
              rfl
             refine pure_ (i := 5) (N := some 47) (v := ?_) (a' := ?_) #[true, true, true, true, true, true, false, false, false, false, false, false, false, false, false, false, false, false, false, false, false, false, false, false, false, false] rfl rfl (any_of HT_.out (by kernel_rfl)) (fun _ _ _ h => h) (Or.inl ⟨by rfl, ?_⟩) ?_ ?_
             rotate_left
             ·
              intro w'
              go_simp
              with_reducible rfl
             rotate_left
             ·
              simp only [Act.put, List.setIfInBounds_toArray, List.set_cons_zero, List.set_cons_succ, i64_w, i32_w]
              rfl
             refine pure_ (i := 6) (N := some 48) (v := ?_) (a' := ?_) #[true, true, true, true, true, true, true, false, false, false, false, false, false, false, false, false, false, false, false, false, false, false, false, false, false, false] rfl rfl (any_of HT_.out (by kernel_rfl)) (fun _ _ _ h => h) (Or.inl ⟨by rfl, ?_⟩) ?_ ?_
             rotate_left
             ·
              intro w'
              go_simp
              with_reducible rfl
             rotate_left
             ·
              simp only [Act.put, List.setIfInBounds_toArray, List.set_cons_zero, List.set_cons_succ, i64_w, i32_w]
              rfl
             refine pure_ (i := 7) (N := some 49) (v := ?_) (a' := ?_) #[true, true, true, true, true, true, true, true, false, false, false, false, false, false, false, false, false, false, false, false, false, false, false, false, false, false] rfl rfl (any_of HT_.out (by kernel_rfl)) (fun _ _ _ h => h) (Or.inl ⟨by rfl, ?_⟩) ?_ ?_
             rotate_left
             ·
              intro w'
              go_simp
              with_reducible rfl
             rotate_left
             ·
              simp only [Act.put, List.setIfInBounds_toArray, List.set_cons_zero, List.set_cons_succ, i64_w, i32_w]
              rfl
             refine pure_ (i := 8) (N := some 50) (v := ?_) (a' := ?_) #[true, true, true, true, true, true, true, true, true, false, false, false, false, false, false, false, false, false, false, false, false, false, false, false, false, false] rfl rfl (any_of HT_.out (by kernel_rfl)) (fun _ _ _ h => h) (Or.inl ⟨by rfl, ?_⟩) ?_ ?_
             rotate_left
             ·
              intro w'
              go_simp
              with_reducible rfl
             rotate_left
             ·
              simp only [Act.put, List.setIfInBounds_toArray, List.set_cons_zero, List.set_cons_succ, i64_w, i32_w]
              rfl
             refine pure_ (i := 9) (N := some 51) (v := ?_) (a' := ?_) #[true, true, true, true, true, true, true, true, true, true, false, false, false, false, false, false, false, false, false, false, false, false, false, false, false, false] rfl rfl (any_of HT_.out (by kernel_rfl)) (fun _ _ _ h => h) (Or.inl ⟨by rfl, ?_⟩) ?_ ?_
             rotate_left
             ·
              intro w'
              go_simp
              with_reducible rfl
             rotate_left
             ·
              simp only [Act.put, List.setIfInBounds_toArray, List.set_cons_zero, List.set_cons_succ, i64_w, i32_w]
              rfl
             refine pure_ (i := 10) (N := some 52) (v := ?_) (a' := ?_) #[true, true, true, true, true, true, true, true, true, true, true, false, false, false, false, false, false, false, false, false, false, false, false, false, false, false] rfl rfl (any_of HT_.out (by kernel_rfl)) (fun _ _ _ h => h) (Or.inl ⟨by rfl, ?_⟩) ?_ ?_
             rotate_left
             ·
              intro w'
              go_simp
              with_reducible rfl
             rotate_left
             ·
              simp only [Act.put, List.setIfInBounds_toArray, List.set_cons_zero, List.set_cons_succ, i64_w, i32_w]
              rfl
             refine take_ (i := 11) (N := some 53) (v := ?_) (a' := ?_) #[true, true, true, true, true, true, true, true, true, true, true, true, false, false, false, false, false, false, false, false, false, false, false, false, false, false] rfl rfl (take_ofW HT_.out HW_.out (by kernel_rfl)) (fun _ _ _ h => h) (Or.inl ⟨by rfl, ?_⟩) hHeld ?_ ?_
             rotate_left
             ·
              rintro w' ⟨s0, s1, s2, s3⟩
              go_simp
              with_reducible rfl
             rotate_left
             ·
              simp only [Act.put, List.setIfInBounds_toArray, List.set_cons_zero, List.set_cons_succ, i64_w, i32_w]
              rfl
             refine pure_ (i := 12) (N := some 54) (v := ?_) (a' := ?_) #[true, true, true, true, true, true, true, true, true, true, true, true, true, false, false, false, false, false, false, false, false, false, false, false, false, false] rfl rfl (any_of HT_.out (by kernel_rfl)) (fun _ _ _ h => h) (Or.inl ⟨by rfl, ?_⟩) ?_ ?_
             rotate_left
             ·
              intro w'
              go_simp
              with_reducible rfl
             rotate_left
             ·
              simp only [Act.put, List.setIfInBounds_toArray, List.set_cons_zero, List.set_cons_succ, i64_w, i32_w]
              rfl
             refine pure_ (i := 13) (N := some 55) (v := ?_) (a' := ?_) #[true, true, true, true, true, true, true, true, true, true, true, true, true, true, false, false, false, false, false, false, false, false, false, false, false, false] rfl rfl (any_of HT_.out (by kernel_rfl)) (fun _ _ _ h => h) (Or.inl ⟨by rfl, ?_⟩) ?_ ?_
             rotate_left
             ·
              intro w'
              go_simp
              with_reducible rfl
             rotate_left
             ·
              simp only [Act.put, List.setIfInBounds_toArray, List.set_cons_zero, List.set_cons_succ, i64_w, i32_w]
              rfl
             refine pure_ (i := 14) (N := some 56) (v := ?_) (a' := ?_) #[true, true, true, true, true, true, true, true, true, true, true, true, true, true, true, false, false, false, false, false, false, false, false, false, false, false] rfl rfl (any_of HT_.out (by kernel_rfl)) (fun _ _ _ h => h) (Or.inl ⟨by rfl, ?_⟩) ?_ ?_
             rotate_left
             ·
              intro w'
              go_simp
              with_reducible rfl
             rotate_left
             ·
              simp only [Act.put, List.setIfInBounds_toArray, List.set_cons_zero, List.set_cons_succ, i64_w, i32_w]
              rfl
             refine pure_ (i := 15) (N := some 57) (v := ?_) (a' := ?_) #[true, true, true, true, true, true, true, true, true, true, true, true, true, true, true, true, false, false, false, false, false, false, false, false, false, false] rfl rfl (any_of HT_.out (by kernel_rfl)) (fun _ _ _ h => h) (Or.inl ⟨by rfl, ?_⟩) ?_ ?_
             rotate_left
             ·
              intro w'
              go_simp
              with_reducible rfl
             rotate_left
             ·
              simp only [Act.put, List.setIfInBounds_toArray, List.set_cons_zero, List.set_cons_succ, i64_w, i32_w]
              rfl
             refine pure_ (i := 16) (N := some 58) (v := ?_) (a' := ?_) #[true, true, true, true, true, true, true, true, true, true, true, true, true, true, true, true, true, false, false, false, false, false, false, false, false, false] rfl rfl (any_of HT_.out (by kernel_rfl)) (fun _ _ _ h => h) (Or.inl ⟨by rfl, ?_⟩) ?_ ?_
             rotate_left
             ·
              intro w'
              go_simp
              with_reducible rfl
             rotate_left
             ·
              simp only [Act.put, List.setIfInBounds_toArray, List.set_cons_zero, List.set_cons_succ, i64_w, i32_w]
              rfl
             refine pure_ (i := 17) (N := some 59) (v := ?_) (a' := ?_) #[true, true, true, true, true, true, true, true, true, true, true, true, true, true, true, true, true, true, false, false, false, false, false, false, false, false] rfl rfl (any_of HT_.out (by kernel_rfl)) (fun _ _ _ h => h) (Or.inl ⟨by rfl, ?_⟩) ?_ ?_
             rotate_left
             ·
              intro w'
              go_simp
              with_reducible rfl
             rotate_left
             ·
              simp only [Act.put, List.setIfInBounds_toArray, List.set_cons_zero, List.set_cons_succ, i64_w, i32_w]
              rfl
             refine pure_ (i := 18) (N := some 60) (v := ?_) (a' := ?_) #[true, true, true, true, true, true, true, true, true, true, true, true, true, true, true, true, true, true, true, false, false, false, false, false, false, false] rfl rfl (any_of HT_.out (by kernel_rfl)) (fun _ _ _ h => h) (Or.inl ⟨by rfl, ?_⟩) ?_ ?_
             rotate_left
             ·
              intro w'
              go_simp
              with_reducible rfl
             rotate_left
             ·
              simp only [Act.put, List.setIfInBounds_toArray, List.set_cons_zero, List.set_cons_succ, i64_w, i32_w]
              rfl
             refine pure_ (i := 19) (N := some 61) (v := ?_) (a' := ?_) #[true, true, true, true, true, true, true, true, true, true, true, true, true, true, true, true, true, true, true, true, false, false, false, false, false, false] rfl rfl (any_of HT_.out (by kernel_rfl)) (fun _ _ _ h => h) (Or.inl ⟨by rfl, ?_⟩) ?_ ?_
             rotate_left
             ·
              intro w'
              go_simp
              with_reducible rfl
             rotate_left
             ·
              simp only [Act.put, List.setIfInBounds_toArray, List.set_cons_zero, List.set_cons_succ, i64_w, i32_w]
              rfl
             refine pure_ (i := 20) (N := some 62) (v := ?_) (a' := ?_) #[true, true, true, true, true, true, true, true, true, true, true, true, true, true, true, true, true, true, true, true, true, false, false, false, false, false] rfl rfl (any_of HT_.out (by kernel_rfl)) (fun _ _ _ h => h) (Or.inl ⟨by rfl, ?_⟩) ?_ ?_
             rotate_left
             ·
              intro w'
              go_simp
              with_reducible rfl
             rotate_left
             ·
              simp only [Act.put, List.setIfInBounds_toArray, List.set_cons_zero, List.set_cons_succ, i64_w, i32_w]
              rfl
             refine pure_ (i := 21) (N := some 63) (v := ?_) (a' := ?_) #[true, true, true, true, true, true, true, true, true, true, true, true, true, true, true, true, true, true, true, true, true, true, false, false, false, false] rfl rfl (any_of HT_.out (by kernel_rfl)) (fun _ _ _ h => h) (Or.inl ⟨by rfl, ?_⟩) ?_ ?_
             rotate_left
             ·
              intro w'
              go_simp
              with_reducible rfl
             rotate_left
             ·
              simp only [Act.put, List.setIfInBounds_toArray, List.set_cons_zero, List.set_cons_succ, i64_w, i32_w]
              rfl
             refine pure_ (i := 22) (N := some 64) (v := ?_) (a' := ?_) #[true, true, true, true, true, true, true, true, true, true, true, true, true, true, true, true, true, true, true, true, true, true, true, false, false, false] rfl rfl (any_of HT_.out (by kernel_rfl)) (fun _ _ _ h => h) (Or.inl ⟨by rfl, ?_⟩) ?_ ?_
             rotate_left
             ·
              intro w'
              go_simp
              with_reducible rfl
             rotate_left
             ·
              simp only [Act.put, List.setIfInBounds_toArray, List.set_cons_zero, List.set_cons_succ, i64_w, i32_w]
              rfl
             refine take_ (i := 23) (N := some 65) (v := ?_) (a' := ?_) #[true, true, true, true, true, true, true, true, true, true, true, true, true, true, true, true, true, true, true, true, true, true, true, true, false, false] rfl rfl (take_ofW HT_.out HW_.out (by kernel_rfl)) (fun _ _ _ h => h) (Or.inl ⟨by rfl, ?_⟩) hHeld ?_ ?_
             rotate_left
             ·
              rintro w' ⟨s0, s1, s2, s3⟩
              go_simp
              with_reducible rfl
             rotate_left
             ·
              simp only [Act.put, List.setIfInBounds_toArray, List.set_cons_zero, List.set_cons_succ, i64_w, i32_w]
              rfl
             refine one_ (i := 24) (N := some 66) #[true, true, true, true, true, true, true, true, true, true, true, true, true, true, true, true, true, true, true, true, true, true, true, true, true, false] rfl rfl (one_of HT_.out (by kernel_rfl)) (by decide) (fun K hK => ?_)
             refine goes_ Try.func36 (by kernel_rfl) rfl #[.slice (some ad529) y532.length co28, .int .i64 (rd t517 x6_2)] (by rfl) rfl rfl (by (try simp only [List.map_toArray, List.map_cons, List.map_nil]); first | done | rfl | (simp only [List.length_drop, List.length_take]; rfl)) ?_
             with_reducible refine (headgatekit_Has.calls k2 _ _ y532 (rd t517 x6_2) false _ ?side1 ?side2 A26.out).mono ?_
             (case side1 => repeat (first | exact (by repeat (first | (with_reducible exact HR535.out) | (with_reducible refine Kd.C_alloc ?_ _) | (with_reducible refine Kd.C_drewN ?_ _) | (with_reducible refine Kd.C_drew ?_) | exact HR535.out)) | (with_reducible refine Kd.C_alloc ?_ _) | (with_reducible refine Kd.C_drewN ?_ _) | (with_reducible refine Kd.C_drew ?_)))
             (case side2 => exact HC535.out)
             rintro e w' ⟨rfl, ⟨nd, rfl⟩⟩
             refine ⟨_, rfl, ?_⟩
             refine hK.out _ _ ⟨(blk_cell BK516.out 0).trans rfl, (blk_cell BK516.out 1).trans rfl, (blk_cell BK516.out 2).trans rfl, hHeld.2.2.2⟩ (fun hHeld => ?_)
             clear hK K
             refine norm_ (a' := ?_) ?_ ?_
             rotate_left
             ·
              show Act.put _ (some 66) _ = _
              simp only [Act.put, List.setIfInBounds_toArray, List.set_cons_zero, List.set_cons_succ, i64_w, i32_w]
              rfl
             refine pure_ (i := 25) (N := some 67) (v := ?_) (a' := ?_) #[true, true, true, true, true, true, true, true, true, true, true, true, true, true, true, true, true, true, true, true, true, true, true, true, true, true] rfl rfl (any_of HT_.out (by kernel_rfl)) (fun _ _ _ h => h) (Or.inl ⟨by rfl, ?_⟩) ?_ ?_
             rotate_left
             ·
              intro w'
              go_simp
              with_reducible rfl
             rotate_left
             ·
              simp only [Act.put, List.setIfInBounds_toArray, List.set_cons_zero, List.set_cons_succ, i64_w, i32_w]
              rfl
             refine done_ (done_of HT_.out (by kernel_rfl)) ?_
             try go_wp2
             go_roundg k2
             case measure => have := HJ3.out; have := HK2.out; omega
             case rel => exact ⟨(wrap64 (x6_2 + 1)), (by first | rfl | (simp; done) | (simp [*]; done)), H', ⟨by have := HJ3.out; have := HK2.out; omega⟩, ⟨by (with_reducible repeat (first | apply Kd.R_alloc | apply Kd.R_drewN | apply Kd.R_drew)); exact HO_4.out⟩, ⟨by (with_reducible repeat (first | apply Kd.R_alloc | apply Kd.R_drewN | apply Kd.R_drew)); exact HO_517000.out⟩, ⟨by (with_reducible repeat (first | apply Kd.R_alloc | apply Kd.R_drewN | apply Kd.R_drew)); exact HO_517001.out⟩, ⟨by (with_reducible repeat (first | apply Kd.R_alloc | apply Kd.R_drewN | apply Kd.R_drew)); exact HO_517002.out⟩, ⟨by (with_reducible repeat (first | refine blk_drewN ?_ _ | refine blk_drew ?_ | refine blk_alloc ?_ _)); exact BK516.out⟩, ⟨by repeat (first | (with_reducible first | exact HB.out | apply below_alloc | apply pw_below_drewN | apply below_drew1 | refine below_set ?_ GE516.out) | exact HB.out)⟩⟩
           ·
            rw [if_neg c25] at H
            exact absurd H (by simp)
        ·
         rw [if_neg c21] at H
         have c21b0 : (t531 == 0) = false := beq_eq_false_iff_ne.mpr c21
         have c21b1 : (t531 != 0) = true := bne_iff_ne.mpr c21
         exact absurd H (by rw [HT.out]; simp)
       ·
        rw [if_neg c19] at H
        exact absurd H (by simp)
      ·
       rw [if_neg c18] at H
       have c18b0 : decide (x6_2 < (t517.length : Int)) = false := decide_eq_false c18
       clear c18
       replace H := Option.bind_eq_some_iff.mp H
       obtain ⟨⟨t522, t523⟩, A330, H⟩ := H
       replace H : (if (t517.length : Int) = 0 then (if t523 = 6 then ((headgatelaw07_awake.f).bind fun t524 => (some t524)) else (if (t517.length : Int) > 0 then (if t523 = 0 then (if 0 < (t517.length : Int) then (if t522 = (rd t517 0) then ((headgatelaw07_awake.f).bind fun t526 => (some t526)) else (some false)) else (none)) else (some false)) else (some false))) else (if (t517.length : Int) > 0 then (if t523 = 0 then (if 0 < (t517.length : Int) then (if t522 = (rd t517 0) then ((headgatelaw07_awake.f).bind fun t528 => (some t528)) else (some false)) else (none)) else (some false)) else (some false))) = some r := H
       have A33 := Aside0.mk A330
       clear A330
       by_cases c34 : (t517.length : Int) = 0
       ·
        rw [if_pos c34] at H
        have c34b0 : ((t517.length : Int) == 0) = true := beq_iff_eq.mpr c34
        have c34b1 : ((t517.length : Int) != 0) = false := bne_eq_false_iff_eq.mpr c34
        clear c34
        by_cases c35 : t523 = 6
        ·
         rw [if_pos c35] at H
         have c35b0 : (t523 == 6) = true := beq_iff_eq.mpr c35
         have c35b1 : (t523 != 6) = false := bne_eq_false_iff_eq.mpr c35
         clear c35
         replace H := Option.bind_eq_some_iff.mp H
         obtain ⟨t524, A360, H⟩ := H
         replace H : (some t524) = some r := H
         have A36 := Aside0.mk A360
         clear A360
         obtain rfl := Option.some.inj H
         obtain ⟨Ao37, co37, eo37⟩ := Kd.R_slice HO_4.out
         subst eo37
         have hcz38_0 : wr.cell? ⟨gb516, 0, none⟩ = some (.slice Ao7 t507.length co7) := (blk_cell BK516.out 0).trans rfl
         have hcz38_1 : wr.cell? ⟨gb516, 1, none⟩ = some (.slice Ao9 t510.length co9) := (blk_cell BK516.out 1).trans rfl
         have hcz38_2 : wr.cell? ⟨gb516, 2, none⟩ = some (.slice Ao10 t513.length co10) := (blk_cell BK516.out 2).trans rfl
         have hfz38_0 := blk_frozen BK516.out 0
         have hfz38_1 := blk_frozen BK516.out 1
         have hfz38_2 := blk_frozen BK516.out 2
         go_wp2_with (first | ((with_reducible refine gate_callee (f := 37) rfl ?_); refine goesL_ (some 70) rfl rfl Try.func37 (by kernel_rfl) rfl #[.agg #[.slice Ao7 t507.length co7, .slice Ao9 t510.length co9, .slice Ao10 t513.length co10]] rfl (by (try simp only [List.map_toArray, List.map_cons, List.map_nil]); first | done | rfl | (simp only [List.length_drop, List.length_take]; rfl)) ?_; (with_reducible refine (lru_Last.calls (fun k_ => some k_ = (.slice Ao7 t507.length co7 : Value).ownBlock) _ _ t507 (fun k_ => some k_ = (.slice Ao9 t510.length co9 : Value).ownBlock) _ _ t510 _ _ t513 t522 t523 _ ?side1 ?side2 ?side3 ?side4 A33.out).mono ?_); (case side1 => exact Kd.R_V (Kd.R_tight rfl (Kd.R_types (Kd.R_apart' (HO_517000.out) (Kd.R_typed HO_517002.out) (by decide)) BK516.out (by decide)))); (case side2 => exact Kd.R_V (Kd.R_tight rfl (Kd.R_types (Kd.R_apart' (HO_517001.out) (Kd.R_typed HO_517002.out) (by decide)) BK516.out (by decide)))); (case side3 => repeat (first | exact (Kd.R_reads' HO_517002.out).2.2 | (with_reducible refine Kd.C_alloc ?_ _) | (with_reducible refine Kd.C_drewN ?_ _) | (with_reducible refine Kd.C_drew ?_))); (case side4 => exact (Kd.R_reads' HO_517002.out).2.1); rintro e w39 ⟨rfl, hb⟩; refine ⟨_, rfl, ?_⟩; have n0_ := Aside0.mk (Kd.R_below (by (with_reducible repeat (first | apply Kd.R_alloc | apply Kd.R_drewN | apply Kd.R_drew)); exact HO_4.out) hb); have n1_ := Aside0.mk (Kd.R_below (by (with_reducible repeat (first | apply Kd.R_alloc | apply Kd.R_drewN | apply Kd.R_drew)); exact HO_517000.out) hb); have n2_ := Aside0.mk (Kd.R_below (by (with_reducible repeat (first | apply Kd.R_alloc | apply Kd.R_drewN | apply Kd.R_drew)); exact HO_517001.out) hb); have n3_ := Aside0.mk (Kd.R_below (by (with_reducible repeat (first | apply Kd.R_alloc | apply Kd.R_drewN | apply Kd.R_drew)); exact HO_517002.out) hb); have n4_ := Aside0.mk (blk_below (g := gb516) (o := .cells #[.slice Ao7 t507.length co7, .slice Ao9 t510.length co9, .slice Ao10 t513.length co10] 25 (0, 0)) (by (with_reducible repeat (first | refine blk_drewN ?_ _ | refine blk_drew ?_ | refine blk_alloc ?_ _)); exact BK516.out) hb); have n5_ := Aside0.mk (below_step (by repeat (first | (with_reducible first | exact HB.out | apply below_alloc | apply pw_below_drewN | apply below_drew1 | refine below_set ?_ GE516.out) | exact HB.out)) hb); clear HO_4; clear HO_517000; clear HO_517001; clear HO_517002; clear BK516; clear HB; have HO_4 := n0_; have HO_517000 := n1_; have HO_517001 := n2_; have HO_517002 := n3_; have BK516 := n4_; have HB := n5_; clear n0_ n1_ n2_ n3_ n4_ n5_; (try clear hb); (try clear hb2); (try clear hk); (try clear hi)) | (go_at_call 11; refine calls_of_args (args' := #[]) (by first | rfl) ?_; (with_reducible refine (headgatelaw07_awake.calls  t524 _ A36.out).mono ?_); rintro e w40 ⟨rfl, hb⟩; have n0_ := Aside0.mk (Kd.R_below (by (with_reducible repeat (first | apply Kd.R_alloc | apply Kd.R_drewN | apply Kd.R_drew)); exact HO_4.out) hb); have n1_ := Aside0.mk (Kd.R_below (by (with_reducible repeat (first | apply Kd.R_alloc | apply Kd.R_drewN | apply Kd.R_drew)); exact HO_517000.out) hb); have n2_ := Aside0.mk (Kd.R_below (by (with_reducible repeat (first | apply Kd.R_alloc | apply Kd.R_drewN | apply Kd.R_drew)); exact HO_517001.out) hb); have n3_ := Aside0.mk (Kd.R_below (by (with_reducible repeat (first | apply Kd.R_alloc | apply Kd.R_drewN | apply Kd.R_drew)); exact HO_517002.out) hb); have n4_ := Aside0.mk (blk_below (g := gb516) (o := .cells #[.slice Ao7 t507.length co7, .slice Ao9 t510.length co9, .slice Ao10 t513.length co10] 25 (0, 0)) (by (with_reducible repeat (first | refine blk_drewN ?_ _ | refine blk_drew ?_ | refine blk_alloc ?_ _)); exact BK516.out) hb); have n5_ := Aside0.mk (below_step (by repeat (first | (with_reducible first | exact HB.out | apply below_alloc | apply pw_below_drewN | apply below_drew1 | refine below_set ?_ GE516.out) | exact HB.out)) hb); clear HO_4; clear HO_517000; clear HO_517001; clear HO_517002; clear BK516; clear HB; have HO_4 := n0_; have HO_517000 := n1_; have HO_517001 := n2_; have HO_517002 := n3_; have BK516 := n4_; have HB := n5_; clear n0_ n1_ n2_ n3_ n4_ n5_; (try clear hb); (try clear hb2); (try clear hk); (try clear hi)))
         go_ret
         exact ⟨by first | rfl | (simp [errW_none, errW_some] <;> rfl) | (simp [*, errW_none, errW_some] <;> rfl), by repeat (first | (with_reducible first | exact HB.out | apply below_alloc | apply pw_below_drewN | apply below_drew1 | refine below_set ?_ GE516.out) | exact HB.out)⟩
        ·
         rw [if_neg c35] at H
         have c35b0 : (t523 == 6) = false := beq_eq_false_iff_ne.mpr c35
         have c35b1 : (t523 != 6) = true := bne_iff_ne.mpr c35
         by_cases c41 : (t517.length : Int) > 0
         ·
          rw [if_pos c41] at H
          have c41b0 : decide (0 < (t517.length : Int)) = true := decide_eq_true c41
          have c41b1 : decide (0 < t517.length) = true := decide_eq_true (by omega)
          clear c41
          by_cases c42 : t523 = 0
          ·
           rw [if_pos c42] at H
           have c42b0 : (t523 == 0) = true := beq_iff_eq.mpr c42
           have c42b1 : (t523 != 0) = false := bne_eq_false_iff_eq.mpr c42
           clear c42
           by_cases c43 : 0 < (t517.length : Int)
           ·
            rw [if_pos c43] at H
            have c43b0 : decide (0 < (t517.length : Int)) = true := decide_eq_true c43
            have c43b1 : decide (0 < t517.length) = true := decide_eq_true (by omega)
            clear c43
            by_cases c44 : t522 = (rd t517 0)
            ·
             rw [if_pos c44] at H
             have c44b0 : (t522 == (rd t517 0)) = true := beq_iff_eq.mpr c44
             have c44b1 : (t522 != (rd t517 0)) = false := bne_eq_false_iff_eq.mpr c44
             clear c44
             replace H := Option.bind_eq_some_iff.mp H
             obtain ⟨t526, A450, H⟩ := H
             replace H : (some t526) = some r := H
             have A45 := Aside0.mk A450
             clear A450
             obtain rfl := Option.some.inj H
             obtain ⟨Ao46, co46, eo46⟩ := Kd.R_slice HO_4.out
             subst eo46
             have hcz47_0 : wr.cell? ⟨gb516, 0, none⟩ = some (.slice Ao7 t507.length co7) := (blk_cell BK516.out 0).trans rfl
             have hcz47_1 : wr.cell? ⟨gb516, 1, none⟩ = some (.slice Ao9 t510.length co9) := (blk_cell BK516.out 1).trans rfl
             have hcz47_2 : wr.cell? ⟨gb516, 2, none⟩ = some (.slice Ao10 t513.length co10) := (blk_cell BK516.out 2).trans rfl
             have hfz47_0 := blk_frozen BK516.out 0
             have hfz47_1 := blk_frozen BK516.out 1
             have hfz47_2 := blk_frozen BK516.out 2
             go_wp2_with (first | ((with_reducible refine gate_callee (f := 37) rfl ?_); refine goesL_ (some 70) rfl rfl Try.func37 (by kernel_rfl) rfl #[.agg #[.slice Ao7 t507.length co7, .slice Ao9 t510.length co9, .slice Ao10 t513.length co10]] rfl (by (try simp only [List.map_toArray, List.map_cons, List.map_nil]); first | done | rfl | (simp only [List.length_drop, List.length_take]; rfl)) ?_; (with_reducible refine (lru_Last.calls (fun k_ => some k_ = (.slice Ao7 t507.length co7 : Value).ownBlock) _ _ t507 (fun k_ => some k_ = (.slice Ao9 t510.length co9 : Value).ownBlock) _ _ t510 _ _ t513 t522 t523 _ ?side1 ?side2 ?side3 ?side4 A33.out).mono ?_); (case side1 => exact Kd.R_V (Kd.R_tight rfl (Kd.R_types (Kd.R_apart' (HO_517000.out) (Kd.R_typed HO_517002.out) (by decide)) BK516.out (by decide)))); (case side2 => exact Kd.R_V (Kd.R_tight rfl (Kd.R_types (Kd.R_apart' (HO_517001.out) (Kd.R_typed HO_517002.out) (by decide)) BK516.out (by decide)))); (case side3 => repeat (first | exact (Kd.R_reads' HO_517002.out).2.2 | (with_reducible refine Kd.C_alloc ?_ _) | (with_reducible refine Kd.C_drewN ?_ _) | (with_reducible refine Kd.C_drew ?_))); (case side4 => exact (Kd.R_reads' HO_517002.out).2.1); rintro e w48 ⟨rfl, hb⟩; refine ⟨_, rfl, ?_⟩; have n0_ := Aside0.mk (Kd.R_below (by (with_reducible repeat (first | apply Kd.R_alloc | apply Kd.R_drewN | apply Kd.R_drew)); exact HO_4.out) hb); have n1_ := Aside0.mk (Kd.R_below (by (with_reducible repeat (first | apply Kd.R_alloc | apply Kd.R_drewN | apply Kd.R_drew)); exact HO_517000.out) hb); have n2_ := Aside0.mk (Kd.R_below (by (with_reducible repeat (first | apply Kd.R_alloc | apply Kd.R_drewN | apply Kd.R_drew)); exact HO_517001.out) hb); have n3_ := Aside0.mk (Kd.R_below (by (with_reducible repeat (first | apply Kd.R_alloc | apply Kd.R_drewN | apply Kd.R_drew)); exact HO_517002.out) hb); have n4_ := Aside0.mk (blk_below (g := gb516) (o := .cells #[.slice Ao7 t507.length co7, .slice Ao9 t510.length co9, .slice Ao10 t513.length co10] 25 (0, 0)) (by (with_reducible repeat (first | refine blk_drewN ?_ _ | refine blk_drew ?_ | refine blk_alloc ?_ _)); exact BK516.out) hb); have n5_ := Aside0.mk (below_step (by repeat (first | (with_reducible first | exact HB.out | apply below_alloc | apply pw_below_drewN | apply below_drew1 | refine below_set ?_ GE516.out) | exact HB.out)) hb); clear HO_4; clear HO_517000; clear HO_517001; clear HO_517002; clear BK516; clear HB; have HO_4 := n0_; have HO_517000 := n1_; have HO_517001 := n2_; have HO_517002 := n3_; have BK516 := n4_; have HB := n5_; clear n0_ n1_ n2_ n3_ n4_ n5_; (try clear hb); (try clear hb2); (try clear hk); (try clear hi); have p525 : 0 ≤ (0 : Int) := (by omega); have q525 : 0 < (t517.length : Int) := of_decide_eq_true (by first | (with_reducible assumption) | assumption); obtain ⟨ad525, e525, hx525_0⟩ := Kd.at_int (Kd.R_reads' HO_4.out).2.2 0 p525 q525; cases e525; have qi525 : (0 < t517.length) = True := eq_true (by omega); (try rw [show ((0 : Int)).toNat = 0 from rfl] at hx525_0); (try rw [Addr.add_zero'] at hx525_0); replace p525 := eq_true p525; replace q525 := eq_true q525) | (go_at_call 11; refine calls_of_args (args' := #[]) (by first | rfl) ?_; (with_reducible refine (headgatelaw07_awake.calls  t526 _ A45.out).mono ?_); rintro e w49 ⟨rfl, hb⟩; have n0_ := Aside0.mk (Kd.R_below (by (with_reducible repeat (first | apply Kd.R_alloc | apply Kd.R_drewN | apply Kd.R_drew)); exact HO_4.out) hb); have n1_ := Aside0.mk (Kd.R_below (by (with_reducible repeat (first | apply Kd.R_alloc | apply Kd.R_drewN | apply Kd.R_drew)); exact HO_517000.out) hb); have n2_ := Aside0.mk (Kd.R_below (by (with_reducible repeat (first | apply Kd.R_alloc | apply Kd.R_drewN | apply Kd.R_drew)); exact HO_517001.out) hb); have n3_ := Aside0.mk (Kd.R_below (by (with_reducible repeat (first | apply Kd.R_alloc | apply Kd.R_drewN | apply Kd.R_drew)); exact HO_517002.out) hb); have n4_ := Aside0.mk (blk_below (g := gb516) (o := .cells #[.slice Ao7 t507.length co7, .slice Ao9 t510.length co9, .slice Ao10 t513.length co10] 25 (0, 0)) (by (with_reducible repeat (first | refine blk_drewN ?_ _ | refine blk_drew ?_ | refine blk_alloc ?_ _)); exact BK516.out) hb); have n5_ := Aside0.mk (below_step (by repeat (first | (with_reducible first | exact HB.out | apply below_alloc | apply pw_below_drewN | apply below_drew1 | refine below_set ?_ GE516.out) | exact HB.out)) hb); clear HO_4; clear HO_517000; clear HO_517001; clear HO_517002; clear BK516; clear HB; have HO_4 := n0_; have HO_517000 := n1_; have HO_517001 := n2_; have HO_517002 := n3_; have BK516 := n4_; have HB := n5_; clear n0_ n1_ n2_ n3_ n4_ n5_; (try clear hb); (try clear hb2); (try clear hk); (try clear hi)))
             go_ret
             exact ⟨by first | rfl | (simp [errW_none, errW_some] <;> rfl) | (simp [*, errW_none, errW_some] <;> rfl), by repeat (first | (with_reducible first | exact HB.out | apply below_alloc | apply pw_below_drewN | apply below_drew1 | refine below_set ?_ GE516.out) | exact HB.out)⟩
            ·
             rw [if_neg c44] at H
             have c44b0 : (t522 == (rd t517 0)) = false := beq_eq_false_iff_ne.mpr c44
             have c44b1 : (t522 != (rd t517 0)) = true := bne_iff_ne.mpr c44
             exact absurd H (by rw [HT.out]; simp)
           ·
            rw [if_neg c43] at H
            exact absurd H (by simp)
          ·
           rw [if_neg c42] at H
           have c42b0 : (t523 == 0) = false := beq_eq_false_iff_ne.mpr c42
           have c42b1 : (t523 != 0) = true := bne_iff_ne.mpr c42
           exact absurd H (by rw [HT.out]; simp)
         ·
          rw [if_neg c41] at H
          have c41b0 : decide (0 < (t517.length : Int)) = false := decide_eq_false c41
          have c41b1 : decide (0 < t517.length) = false := decide_eq_false (by omega)
          clear c41
          exact absurd H (by rw [HT.out]; simp)
       ·
        rw [if_neg c34] at H
        have c34b0 : ((t517.length : Int) == 0) = false := beq_eq_false_iff_ne.mpr c34
        have c34b1 : ((t517.length : Int) != 0) = true := bne_iff_ne.mpr c34
        have c34b2 : ¬ (t517 = []) := fun h_ => c34 (by rw [h_]; rfl)
        by_cases c50 : (t517.length : Int) > 0
        ·
         rw [if_pos c50] at H
         have c50b0 : decide (0 < (t517.length : Int)) = true := decide_eq_true c50
         have c50b1 : decide (0 < t517.length) = true := decide_eq_true (by omega)
         clear c50
         by_cases c51 : t523 = 0
         ·
          rw [if_pos c51] at H
          have c51b0 : (t523 == 0) = true := beq_iff_eq.mpr c51
          have c51b1 : (t523 != 0) = false := bne_eq_false_iff_eq.mpr c51
          clear c51
          by_cases c52 : 0 < (t517.length : Int)
          ·
           rw [if_pos c52] at H
           have c52b0 : decide (0 < (t517.length : Int)) = true := decide_eq_true c52
           have c52b1 : decide (0 < t517.length) = true := decide_eq_true (by omega)
           clear c52
           by_cases c53 : t522 = (rd t517 0)
           ·
            rw [if_pos c53] at H
            have c53b0 : (t522 == (rd t517 0)) = true := beq_iff_eq.mpr c53
            have c53b1 : (t522 != (rd t517 0)) = false := bne_eq_false_iff_eq.mpr c53
            clear c53
            replace H := Option.bind_eq_some_iff.mp H
            obtain ⟨t528, A540, H⟩ := H
            replace H : (some t528) = some r := H
            have A54 := Aside0.mk A540
            clear A540
            obtain rfl := Option.some.inj H
            obtain ⟨Ao55, co55, eo55⟩ := Kd.R_slice HO_4.out
            subst eo55
            have hcz56_0 : wr.cell? ⟨gb516, 0, none⟩ = some (.slice Ao7 t507.length co7) := (blk_cell BK516.out 0).trans rfl
            have hcz56_1 : wr.cell? ⟨gb516, 1, none⟩ = some (.slice Ao9 t510.length co9) := (blk_cell BK516.out 1).trans rfl
            have hcz56_2 : wr.cell? ⟨gb516, 2, none⟩ = some (.slice Ao10 t513.length co10) := (blk_cell BK516.out 2).trans rfl
            have hfz56_0 := blk_frozen BK516.out 0
            have hfz56_1 := blk_frozen BK516.out 1
            have hfz56_2 := blk_frozen BK516.out 2
            go_wp2_with (first | ((with_reducible refine gate_callee (f := 37) rfl ?_); refine goesL_ (some 70) rfl rfl Try.func37 (by kernel_rfl) rfl #[.agg #[.slice Ao7 t507.length co7, .slice Ao9 t510.length co9, .slice Ao10 t513.length co10]] rfl (by (try simp only [List.map_toArray, List.map_cons, List.map_nil]); first | done | rfl | (simp only [List.length_drop, List.length_take]; rfl)) ?_; (with_reducible refine (lru_Last.calls (fun k_ => some k_ = (.slice Ao7 t507.length co7 : Value).ownBlock) _ _ t507 (fun k_ => some k_ = (.slice Ao9 t510.length co9 : Value).ownBlock) _ _ t510 _ _ t513 t522 t523 _ ?side1 ?side2 ?side3 ?side4 A33.out).mono ?_); (case side1 => exact Kd.R_V (Kd.R_tight rfl (Kd.R_types (Kd.R_apart' (HO_517000.out) (Kd.R_typed HO_517002.out) (by decide)) BK516.out (by decide)))); (case side2 => exact Kd.R_V (Kd.R_tight rfl (Kd.R_types (Kd.R_apart' (HO_517001.out) (Kd.R_typed HO_517002.out) (by decide)) BK516.out (by decide)))); (case side3 => repeat (first | exact (Kd.R_reads' HO_517002.out).2.2 | (with_reducible refine Kd.C_alloc ?_ _) | (with_reducible refine Kd.C_drewN ?_ _) | (with_reducible refine Kd.C_drew ?_))); (case side4 => exact (Kd.R_reads' HO_517002.out).2.1); rintro e w57 ⟨rfl, hb⟩; refine ⟨_, rfl, ?_⟩; have n0_ := Aside0.mk (Kd.R_below (by (with_reducible repeat (first | apply Kd.R_alloc | apply Kd.R_drewN | apply Kd.R_drew)); exact HO_4.out) hb); have n1_ := Aside0.mk (Kd.R_below (by (with_reducible repeat (first | apply Kd.R_alloc | apply Kd.R_drewN | apply Kd.R_drew)); exact HO_517000.out) hb); have n2_ := Aside0.mk (Kd.R_below (by (with_reducible repeat (first | apply Kd.R_alloc | apply Kd.R_drewN | apply Kd.R_drew)); exact HO_517001.out) hb); have n3_ := Aside0.mk (Kd.R_below (by (with_reducible repeat (first | apply Kd.R_alloc | apply Kd.R_drewN | apply Kd.R_drew)); exact HO_517002.out) hb); have n4_ := Aside0.mk (blk_below (g := gb516) (o := .cells #[.slice Ao7 t507.length co7, .slice Ao9 t510.length co9, .slice Ao10 t513.length co10] 25 (0, 0)) (by (with_reducible repeat (first | refine blk_drewN ?_ _ | refine blk_drew ?_ | refine blk_alloc ?_ _)); exact BK516.out) hb); have n5_ := Aside0.mk (below_step (by repeat (first | (with_reducible first | exact HB.out | apply below_alloc | apply pw_below_drewN | apply below_drew1 | refine below_set ?_ GE516.out) | exact HB.out)) hb); clear HO_4; clear HO_517000; clear HO_517001; clear HO_517002; clear BK516; clear HB; have HO_4 := n0_; have HO_517000 := n1_; have HO_517001 := n2_; have HO_517002 := n3_; have BK516 := n4_; have HB := n5_; clear n0_ n1_ n2_ n3_ n4_ n5_; (try clear hb); (try clear hb2); (try clear hk); (try clear hi); have p527 : 0 ≤ (0 : Int) := (by omega); have q527 : 0 < (t517.length : Int) := of_decide_eq_true (by first | (with_reducible assumption) | assumption); obtain ⟨ad527, e527, hx527_0⟩ := Kd.at_int (Kd.R_reads' HO_4.out).2.2 0 p527 q527; cases e527; have qi527 : (0 < t517.length) = True := eq_true (by omega); (try rw [show ((0 : Int)).toNat = 0 from rfl] at hx527_0); (try rw [Addr.add_zero'] at hx527_0); replace p527 := eq_true p527; replace q527 := eq_true q527) | (go_at_call 11; refine calls_of_args (args' := #[]) (by first | rfl) ?_; (with_reducible refine (headgatelaw07_awake.calls  t528 _ A54.out).mono ?_); rintro e w58 ⟨rfl, hb⟩; have n0_ := Aside0.mk (Kd.R_below (by (with_reducible repeat (first | apply Kd.R_alloc | apply Kd.R_drewN | apply Kd.R_drew)); exact HO_4.out) hb); have n1_ := Aside0.mk (Kd.R_below (by (with_reducible repeat (first | apply Kd.R_alloc | apply Kd.R_drewN | apply Kd.R_drew)); exact HO_517000.out) hb); have n2_ := Aside0.mk (Kd.R_below (by (with_reducible repeat (first | apply Kd.R_alloc | apply Kd.R_drewN | apply Kd.R_drew)); exact HO_517001.out) hb); have n3_ := Aside0.mk (Kd.R_below (by (with_reducible repeat (first | apply Kd.R_alloc | apply Kd.R_drewN | apply Kd.R_drew)); exact HO_517002.out) hb); have n4_ := Aside0.mk (blk_below (g := gb516) (o := .cells #[.slice Ao7 t507.length co7, .slice Ao9 t510.length co9, .slice Ao10 t513.length co10] 25 (0, 0)) (by (with_reducible repeat (first | refine blk_drewN ?_ _ | refine blk_drew ?_ | refine blk_alloc ?_ _)); exact BK516.out) hb); have n5_ := Aside0.mk (below_step (by repeat (first | (with_reducible first | exact HB.out | apply below_alloc | apply pw_below_drewN | apply below_drew1 | refine below_set ?_ GE516.out) | exact HB.out)) hb); clear HO_4; clear HO_517000; clear HO_517001; clear HO_517002; clear BK516; clear HB; have HO_4 := n0_; have HO_517000 := n1_; have HO_517001 := n2_; have HO_517002 := n3_; have BK516 := n4_; have HB := n5_; clear n0_ n1_ n2_ n3_ n4_ n5_; (try clear hb); (try clear hb2); (try clear hk); (try clear hi)))
            go_ret
            exact ⟨by first | rfl | (simp [errW_none, errW_some] <;> rfl) | (simp [*, errW_none, errW_some] <;> rfl), by repeat (first | (with_reducible first | exact HB.out | apply below_alloc | apply pw_below_drewN | apply below_drew1 | refine below_set ?_ GE516.out) | exact HB.out)⟩
           ·
            rw [if_neg c53] at H
            have c53b0 : (t522 == (rd t517 0)) = false := beq_eq_false_iff_ne.mpr c53
            have c53b1 : (t522 != (rd t517 0)) = true := bne_iff_ne.mpr c53
            exact absurd H (by rw [HT.out]; simp)
          ·
           rw [if_neg c52] at H
           exact absurd H (by simp)
         ·
          rw [if_neg c51] at H
          have c51b0 : (t523 == 0) = false := beq_eq_false_iff_ne.mpr c51
          have c51b1 : (t523 != 0) = true := bne_iff_ne.mpr c51
          exact absurd H (by rw [HT.out]; simp)
        ·
         rw [if_neg c50] at H
         have c50b0 : decide (0 < (t517.length : Int)) = false := decide_eq_false c50
         have c50b1 : decide (0 < t517.length) = false := decide_eq_false (by omega)
         clear c50
         exact absurd H (by rw [HT.out]; simp)

/-- THE ONE PURE STATEMENT of headgatelaw07_LruOrder: yours. -/
def headgatelaw07_LruOrder.Pure : Prop := ∀ (l0 : List Int), l0.length ≤ maxLen → l0.length * 8 ≤ 140737488351232 → (∀ x ∈ l0, (Lit.int .i64 x).wf = true) → ∃ k, headgatelaw07_LruOrder.f k l0 = some true
theorem headgatelaw07_LruOrder.walk (P : headgatelaw07_LruOrder.Pure) (a0 : Option Addr) (len0 cap0 : Nat) (z0 : List Int) (w : World) (w0 : (a0 = none ∧ len0 = 0 ∧ cap0 = 0 ∧ z0 = []) ∨ ∃ x, a0 = some x ∧ len0 ≤ cap0 ∧ cap0 ≤ maxLen ∧ z0.length = cap0 ∧ (∀ i, i < z0.length → w.cell? (x.add i) = some (.int .i64 (z0.getD i 0))) ∧ ∀ n ∈ z0, (Lit.int .i64 n).wf = true) (y0 : len0 * 8 ≤ 140737488351232) :
  Calls Try.prog 6 #[.slice a0 len0 cap0] w fun e w' => e = .returned (.bool true) ∧ Below w.heap.size w w' := by
 obtain ⟨l0, rfl, hr0, hm0, hw0, hc0⟩ := ReadsInt.ofRowC w0
 obtain ⟨k, h⟩ := P l0 hm0 y0 hw0
 refine (headgatelaw07_LruOrder.calls k _ _ l0 true w (Kd.C_of_reads (d := (0 : Int)) (h1 := fun _ => rfl) hr0) hc0 ⟨rfl⟩ h).mono ?_
 rintro e w' ⟨rfl, hd⟩
 exact ⟨rfl, hd⟩

end Go.Proofs.Ytaofihdmgdpenaa.X
