/- What Go functions of this seat compute, told as Lean functions, and that each call of the Go code comes to that answer; for a law: its row, for every input. Written by a program of the session. -/
import Derived.Test.YtofonnfkffbjkaaX29D
import Derived.Test.YtofonnfkffbjkaaX0
import Derived.Test.YtofonnfkffbjkaaX1
import Derived.Test.YtofonnfkffbjkaaX15
import Derived.Test.YtofonnfkffbjkaaX23
import Derived.Test.YtofonnfkffbjkaaX26
import Derived.Test.YtofonnfkffbjkaaX27
import Derived.Test.YtofonnfkffbjkaaX28
namespace Go.Proofs.Ytofonnfkffbjkaa.X
open Go.RowKit Go.Proofs.YtofonnfkffbjkaaW.PrintWords Go.Proofs.YtofonnfkffbjkaaW.PrintLast Go.Proofs.YtofonnfkffbjkaaW.PrintMore
attribute [local go_sem] max2_int min2_int max_two min_two max_three min_three max_four min_four   -- for this text's walks alone
set_option linter.unusedVariables false
set_option linter.unusedSimpArgs false


set_option maxHeartbeats 2000000 in
set_option maxRecDepth 100000 in
theorem headgatelaw18_SlotsFree.calls (k : Nat) (a0 : Int) (A1 : Option Addr) (c1 : Nat) (l1 : List Int) (r : Bool) (w : World) (hr1 : Kd.C (Kd.int .i64) w A1 l1.length l1) (hc1 : l1.length ≤ c1) (HT : Aside0 (r = true)) (h : headgatelaw18_SlotsFree.f k a0 l1 = some r) :
  Calls Try.prog 6 #[.int .i64 a0, .slice A1 l1.length c1] w fun e w' => e = .returned (.bool r) ∧ Below w.heap.size w w' := by
 have hu43 := Try.underlying43
 have HR1 := Aside0.mk hr1
 have HC1 := Aside0.mk hc1
 clear hr1 hc1
 have HB := Aside0.mk (Below.refl w.heap.size w)
 have H : ((headgatelaw18_SlotsKnown.f).bind fun t283 => ((headgatekit_Mod.f a0 8).bind fun t284 => ((slots_New.f (wrap64 (1 + t284))).bind fun bt285 => (if bt285.2.2 = 0 then (headgatelaw18_SlotsFree.j0 k (wrap64 (1 + t284)) l1 t283 ((bt285.1.length : Int) != (wrap64 (1 + t284))) bt285.1 bt285.2.1) else (headgatelaw18_SlotsFree.j0 k (wrap64 (1 + t284)) l1 t283 true bt285.1 bt285.2.1))))) = some r := h
 clear h
 replace H := Option.bind_eq_some_iff.mp H
 obtain ⟨t283, A30, H⟩ := H
 replace H : ((headgatekit_Mod.f a0 8).bind fun t284 => ((slots_New.f (wrap64 (1 + t284))).bind fun bt285 => (if bt285.2.2 = 0 then (headgatelaw18_SlotsFree.j0 k (wrap64 (1 + t284)) l1 t283 ((bt285.1.length : Int) != (wrap64 (1 + t284))) bt285.1 bt285.2.1) else (headgatelaw18_SlotsFree.j0 k (wrap64 (1 + t284)) l1 t283 true bt285.1 bt285.2.1)))) = some r := H
 have A3 := Aside0.mk A30
 clear A30
 replace H := Option.bind_eq_some_iff.mp H
 obtain ⟨t284, A40, H⟩ := H
 replace H : ((slots_New.f (wrap64 (1 + t284))).bind fun bt285 => (if bt285.2.2 = 0 then (headgatelaw18_SlotsFree.j0 k (wrap64 (1 + t284)) l1 t283 ((bt285.1.length : Int) != (wrap64 (1 + t284))) bt285.1 bt285.2.1) else (headgatelaw18_SlotsFree.j0 k (wrap64 (1 + t284)) l1 t283 true bt285.1 bt285.2.1))) = some r := H
 have A4 := Aside0.mk A40
 clear A40
 replace H := Option.bind_eq_some_iff.mp H
 obtain ⟨⟨t285, t288, t291⟩, A50, H⟩ := H
 replace H : (if t291 = 0 then (headgatelaw18_SlotsFree.j0 k (wrap64 (1 + t284)) l1 t283 ((t285.length : Int) != (wrap64 (1 + t284))) t285 t288) else (headgatelaw18_SlotsFree.j0 k (wrap64 (1 + t284)) l1 t283 true t285 t288)) = some r := H
 have A5 := Aside0.mk A50
 clear A50
 have HC6 := Aside0.mk H
 clear H
 go_enter Try.func6, Try.ntmps6
 go_upto_region 4 with (first | ((with_reducible refine gate_callee (f := 5) rfl ?_); refine goesL_ (some 21) rfl rfl Try.func5 (by kernel_rfl) rfl #[] rfl (by (try simp only [List.map_toArray, List.map_cons, List.map_nil]); first | done | rfl | (simp only [List.length_drop, List.length_take]; rfl)) ?_; (with_reducible refine (headgatelaw18_SlotsKnown.calls  t283 _ A3.out).mono ?_); rintro e w7 ⟨rfl, hb⟩; refine ⟨_, rfl, ?_⟩; have n0_ := Aside0.mk (below_step (by repeat (first | (with_reducible first | exact HB.out | apply below_alloc | apply pw_below_drewN | apply below_drew1) | exact HB.out)) hb); clear HB; have HB := n0_; clear n0_; (try clear hb); (try clear hb2); (try clear hk); (try clear hi)) | ((with_reducible refine gate_callee (f := 19) rfl ?_); refine goesL_ (some 23) rfl rfl Try.func19 (by kernel_rfl) rfl #[.int .i64 a0, .int .i64 8] rfl (by (try simp only [List.map_toArray, List.map_cons, List.map_nil]); first | done | rfl | (simp only [List.length_drop, List.length_take]; rfl)) ?_; (with_reducible refine (headgatekit_Mod.calls a0 8 t284 _ A4.out).mono ?_); rintro e w' ⟨rfl, ⟨nd, rfl⟩⟩; refine ⟨_, rfl, ?_⟩; (try (rw [drewN_self w7]; generalize hq_ : World.drewN w7 _ = w7; have n0_ : Aside0 (Below w.heap.size w w7) := ⟨by rw [← hq_]; exact (by repeat (first | (with_reducible first | exact HB.out | apply below_alloc | apply pw_below_drewN | apply below_drew1) | exact HB.out))⟩; clear HB hq_; have HB := n0_; clear n0_))) | ((with_reducible refine gate_callee (f := 29) rfl ?_); refine goesL_ (some 27) rfl rfl Try.func29 (by kernel_rfl) rfl #[.int .i64 (wrap64 (1 + t284))] rfl (by (try simp only [List.map_toArray, List.map_cons, List.map_nil]); first | done | rfl | (simp only [List.length_drop, List.length_take]; rfl)) ?_; (with_reducible refine (slots_New.calls (wrap64 (1 + t284)) t285 t288 t291 _ A5.out).mono ?_); rintro e w8 ⟨v286, v289, rfl, ho0, ho1, hb⟩; refine ⟨_, rfl, ?_⟩; have n0_ := Aside0.mk (Kd.R_lower ho0 (below_size (by repeat (first | (with_reducible first | exact HB.out | apply below_alloc | apply pw_below_drewN | apply below_drew1) | exact HB.out)))); have n1_ := Aside0.mk (Kd.R_lower ho1 (below_size (by repeat (first | (with_reducible first | exact HB.out | apply below_alloc | apply pw_below_drewN | apply below_drew1) | exact HB.out)))); have n2_ := Aside0.mk (below_step (by repeat (first | (with_reducible first | exact HB.out | apply below_alloc | apply pw_below_drewN | apply below_drew1) | exact HB.out)) hb); clear HB; have HO287 := n0_; have HO290 := n1_; have HB := n2_; clear n0_ n1_ n2_; (try clear hb); (try clear hb2); (try clear hk); (try clear hi); (try clear ho0); (try clear ho1)) | ((with_reducible refine gate_dst (N := 6) rfl ?_); (try (refine gate_guard (by rfl) ?_; dsimp only)); refine box_event ?hg (N := 6) ?hd (cs := #[.slice none 0 0, .slice none 0 0]) (t := 43) ?hr ?_; (case hd => rfl); (case hg => rfl); (case hr => first | (go_simp; done) | (go_simp; rfl)); intro gb292 hg w9 hbox hb; have n0_ := Aside0.mk (Kd.R_below (by (with_reducible repeat (first | apply Kd.R_alloc | apply Kd.R_drewN | apply Kd.R_drew)); exact HO287.out) hb); have n1_ := Aside0.mk (Kd.R_below (by (with_reducible repeat (first | apply Kd.R_alloc | apply Kd.R_drewN | apply Kd.R_drew)); exact HO290.out) hb); have n2_ := Aside0.mk (below_step (by repeat (first | (with_reducible first | exact HB.out | apply below_alloc | apply pw_below_drewN | apply below_drew1) | exact HB.out)) hb); have n3_ := Aside0.mk (hbox); have n4_ := Aside0.mk ((by rw [hg]; exact (below_size (by repeat (first | (with_reducible first | exact HB.out | apply below_alloc | apply pw_below_drewN | apply below_drew1) | exact HB.out))) : w.heap.size ≤ gb292)); have n5_ := Aside0.mk ((by rw [hg]; exact (below_size (by repeat (first | (with_reducible first | exact HB.out | apply below_alloc | apply pw_below_drewN | apply below_drew1) | exact HB.out))) : w.heap.size ≤ gb292)); clear HO287; clear HO290; clear HB; have HO287 := n0_; have HO290 := n1_; have HB := n2_; have BK292 := n3_; have GW292 := n4_; have GE292 := n5_; clear n0_ n1_ n2_ n3_ n4_ n5_; clear hb hbox hg; obtain ⟨Ao10, co10, eo10⟩ := Kd.R_slice HO287.out; subst eo10; have hcz11_0 : w9.cell? ⟨gb292, 0, none⟩ = some (.slice none 0 0) := (blk_cell BK292.out 0).trans rfl; have hcz11_1 : w9.cell? ⟨gb292, 1, none⟩ = some (.slice none 0 0) := (blk_cell BK292.out 1).trans rfl; have hfz11_0 := blk_frozen BK292.out 0; have hfz11_1 := blk_frozen BK292.out 1; obtain ⟨Ao12, co12, eo12⟩ := Kd.R_slice HO290.out; subst eo12))
 (try simp only [Act.put, List.setIfInBounds_toArray, List.set_cons_zero, List.set_cons_succ])
 go_cut [38] (fun v38 wc => ∃ (kq : Nat) (x38_5 : Bool), v38 = .bool x38_5 ∧ Aside0 (headgatelaw18_SlotsFree.j0 kq (wrap64 (1 + t284)) l1 t283 x38_5 t285 t288 = some r) ∧ Aside0 (kq ≤ k) ∧ Aside0 (Kd.R (Kd.int .i64) 3 wc w.heap.size (fun _ => True) (.slice Ao10 t285.length co10) t285) ∧ Aside0 (Kd.R Kd.bool 4 wc w.heap.size (fun _ => True) (.slice Ao12 t288.length co12) t288) ∧ Aside0 (wc.heap[gb292]? = some (.cells #[(.slice Ao10 t285.length co10), (.slice Ao12 t288.length co12)] 43 (0, 0))) ∧ Aside0 (Below w.heap.size w wc))
 case first =>
  have H := HC6.out
  clear HC6
  by_cases c13 : t291 = 0
  ·
   rw [if_pos c13] at H
   have c13b0 : (t291 == 0) = true := beq_iff_eq.mpr c13
   have c13b1 : (t291 != 0) = false := bne_eq_false_iff_eq.mpr c13
   clear c13
   (first | rw [c13b0] | (simp only [i64_w, i32_w]; rw [c13b0]) | skip)
   have H' := Aside0.mk H
   clear H
   have hcz14_0 : w9.cell? ⟨gb292, 0, none⟩ = some (.slice none 0 0) := (blk_cell BK292.out 0).trans rfl
   have hcz14_1 : w9.cell? ⟨gb292, 1, none⟩ = some (.slice none 0 0) := (blk_cell BK292.out 1).trans rfl
   have hfz14_0 := blk_frozen BK292.out 0
   have hfz14_1 := blk_frozen BK292.out 1
   go_wp2
   go_meet
   case rel => exact ⟨_, (((t285.length : Int) != (wrap64 (1 + t284)))), (by first | rfl | (simp; done) | (simp [*]; done)), H', ⟨by first | omega | exact Nat.le_refl _⟩, ⟨by (with_reducible repeat (first | apply Kd.R_alloc | apply Kd.R_drewN | apply Kd.R_drew)); exact Kd.R_mono (Kd.R_far (p := ⟨gb292, 1, none⟩) (Kd.R_far (p := ⟨gb292, 0, none⟩) (Kd.R_types HO287.out BK292.out (by decide)) (fun _ hk => hk.2) (.slice Ao10 t285.length co10)) (fun _ hk => hk.2) (.slice Ao12 t288.length co12)) (fun _ hk => trivial)⟩, ⟨by (with_reducible repeat (first | apply Kd.R_alloc | apply Kd.R_drewN | apply Kd.R_drew)); exact Kd.R_mono (Kd.R_far (p := ⟨gb292, 1, none⟩) (Kd.R_far (p := ⟨gb292, 0, none⟩) (Kd.R_types HO290.out BK292.out (by decide)) (fun _ hk => hk.2) (.slice Ao10 t285.length co10)) (fun _ hk => hk.2) (.slice Ao12 t288.length co12)) (fun _ hk => trivial)⟩, ⟨by (with_reducible repeat (first | refine blk_drewN ?_ _ | refine blk_drew ?_ | refine blk_alloc ?_ _)); refine blk_put (cs := #[.slice Ao10 t285.length co10, .slice none 0 0]) ?_ 1 _ rfl; (with_reducible repeat (first | refine blk_drewN ?_ _ | refine blk_drew ?_ | refine blk_alloc ?_ _)); refine blk_put (cs := #[.slice none 0 0, .slice none 0 0]) ?_ 0 _ rfl; (with_reducible repeat (first | refine blk_drewN ?_ _ | refine blk_drew ?_ | refine blk_alloc ?_ _)); exact BK292.out⟩, ⟨by repeat (first | (with_reducible first | exact HB.out | apply below_alloc | apply pw_below_drewN | apply below_drew1 | refine below_set ?_ GE292.out) | exact HB.out)⟩⟩
  ·
   rw [if_neg c13] at H
   have c13b0 : (t291 == 0) = false := beq_eq_false_iff_ne.mpr c13
   have c13b1 : (t291 != 0) = true := bne_iff_ne.mpr c13
   (first | rw [c13b0] | (simp only [i64_w, i32_w]; rw [c13b0]) | skip)
   have H' := Aside0.mk H
   clear H
   go_wp2
   go_meet
   case rel => exact ⟨_, (true), (by first | rfl | (simp; done) | (simp [*]; done)), H', ⟨by first | omega | exact Nat.le_refl _⟩, ⟨by (with_reducible repeat (first | apply Kd.R_alloc | apply Kd.R_drewN | apply Kd.R_drew)); exact Kd.R_mono (Kd.R_far (p := ⟨gb292, 1, none⟩) (Kd.R_far (p := ⟨gb292, 0, none⟩) (Kd.R_types HO287.out BK292.out (by decide)) (fun _ hk => hk.2) (.slice Ao10 t285.length co10)) (fun _ hk => hk.2) (.slice Ao12 t288.length co12)) (fun _ hk => trivial)⟩, ⟨by (with_reducible repeat (first | apply Kd.R_alloc | apply Kd.R_drewN | apply Kd.R_drew)); exact Kd.R_mono (Kd.R_far (p := ⟨gb292, 1, none⟩) (Kd.R_far (p := ⟨gb292, 0, none⟩) (Kd.R_types HO290.out BK292.out (by decide)) (fun _ hk => hk.2) (.slice Ao10 t285.length co10)) (fun _ hk => hk.2) (.slice Ao12 t288.length co12)) (fun _ hk => trivial)⟩, ⟨by (with_reducible repeat (first | refine blk_drewN ?_ _ | refine blk_drew ?_ | refine blk_alloc ?_ _)); refine blk_put (cs := #[.slice Ao10 t285.length co10, .slice none 0 0]) ?_ 1 _ rfl; (with_reducible repeat (first | refine blk_drewN ?_ _ | refine blk_drew ?_ | refine blk_alloc ?_ _)); refine blk_put (cs := #[.slice none 0 0, .slice none 0 0]) ?_ 0 _ rfl; (with_reducible repeat (first | refine blk_drewN ?_ _ | refine blk_drew ?_ | refine blk_alloc ?_ _)); exact BK292.out⟩, ⟨by repeat (first | (with_reducible first | exact HB.out | apply below_alloc | apply pw_below_drewN | apply below_drew1 | refine below_set ?_ GE292.out) | exact HB.out)⟩⟩
 case rest =>
  clear HC6
  try clear c1
  try clear c2
  try clear p2
  try clear c5
  try clear c6
  try clear p6
  try clear c13
  try clear c13b0
  try clear c13b1
  try clear hcz11_0
  try clear hcz11_1
  try clear hcz14_0
  try clear hcz14_1
  try clear hfz11_0
  try clear hfz11_1
  try clear hfz14_0
  try clear hfz14_1
  obtain ⟨kq, x38_5, rfl, HA, HJ5, HO_293000, HO_293001, BK292, HB⟩ := hcut
  cases kq with
  | zero => exact absurd HA.out (by simp [headgatelaw18_SlotsFree.j0])
  | succ kj5 =>
   have H := HA.out
   clear HA
   simp only [headgatelaw18_SlotsFree.j0] at H
   by_cases c15 : x38_5 = true
   ·
    subst c15
    have H1 : (some false) = some r := by rw [if_pos rfl] at H; exact H
    clear H
    have H := H1
    clear H1
    exact absurd H (by rw [HT.out]; simp)
   ·
    replace c15 := Bool.eq_false_iff.mpr c15
    subst c15
    have H1 : (headgatelaw18_SlotsFree.l0 kj5 (wrap64 (1 + t284)) l1 t283 0 t285 t288) = some r := by rw [if_neg (show ¬ (false = true) by decide)] at H; exact H
    clear H
    have H := H1
    clear H1
    have H' := Aside0.mk H
    clear H
    go_wp2
    go_loopg [8] kj5 (fun kq v8 w' => ∃ (x8_2 : Int) (x293000_2 : List Int) (x293001_2 : List Bool) (u293000 : Value) (u293001 : Value), v8 = .int .i64 x8_2 ∧ Aside0 (headgatelaw18_SlotsFree.l0 kq (wrap64 (1 + t284)) l1 t283 x8_2 x293000_2 x293001_2 = some r) ∧ Aside0 (kq ≤ kj5) ∧ Aside0 (Kd.R (Kd.int .i64) 3 w' w.heap.size (fun _ => True) u293000 x293000_2) ∧ Aside0 (Kd.R Kd.bool 4 w' w.heap.size (fun _ => True) u293001 x293001_2) ∧ Aside0 (w'.heap[gb292]? = some (.cells #[u293000, u293001] 43 (0, 0))) ∧ Aside0 (Below w.heap.size w w'))
    case atStart => exact ⟨(0), (t285), (t288), (.slice Ao10 t285.length co10), (.slice Ao12 t288.length co12), (by first | rfl | (simp; done) | (simp [*]; done)), H', ⟨Nat.le_refl _⟩, ⟨by (with_reducible repeat (first | apply Kd.R_alloc | apply Kd.R_drewN | apply Kd.R_drew)); exact HO_293000.out⟩, ⟨by (with_reducible repeat (first | apply Kd.R_alloc | apply Kd.R_drewN | apply Kd.R_drew)); exact HO_293001.out⟩, ⟨by (with_reducible repeat (first | refine blk_drewN ?_ _ | refine blk_drew ?_ | refine blk_alloc ?_ _)); exact BK292.out⟩, ⟨by repeat (first | (with_reducible first | exact HB.out | apply below_alloc | apply pw_below_drewN | apply below_drew1 | refine below_set ?_ GE292.out) | exact HB.out)⟩⟩
    case round =>
     clear H'
     try clear c1
     try clear c2
     try clear p2
     try clear c5
     try clear c6
     try clear p6
     try clear c13
     try clear c13b0
     try clear c13b1
     try clear c15
     try clear hcz11_0
     try clear hcz11_1
     try clear hcz14_0
     try clear hcz14_1
     try clear hfz11_0
     try clear hfz11_1
     try clear hfz14_0
     try clear hfz14_1
     try clear p2
     try clear p6
     obtain ⟨x8_2, x293000_2, x293001_2, u293000, u293001, rfl, HA, HK2, HO_293000, HO_293001, BK292, HB⟩ := hrel
     cases gk with
     | zero => exact absurd HA.out (by simp [headgatelaw18_SlotsFree.l0])
     | succ k2 =>
      have H := HA.out
      clear HA
      simp only [headgatelaw18_SlotsFree.l0] at H
      have HC16 := Aside0.mk H
      clear H
      go_upto_region 7 with (fail)
      go_cut [46] (fun v46 wc => ∃ (kq : Nat) (x46_15 : Bool), v46 = .bool x46_15 ∧ Aside0 (headgatelaw18_SlotsFree.j2 kq (wrap64 (1 + t284)) l1 t283 x8_2 x46_15 x293000_2 x293001_2 = some r) ∧ Aside0 (kq ≤ k2) ∧ Aside0 (Kd.R (Kd.int .i64) 3 wc w.heap.size (fun _ => True) u293000 x293000_2) ∧ Aside0 (Kd.R Kd.bool 4 wc w.heap.size (fun _ => True) u293001 x293001_2) ∧ Aside0 (wc.heap[gb292]? = some (.cells #[u293000, u293001] 43 (0, 0))) ∧ Aside0 (Below w.heap.size w wc))
      case first =>
       have H := HC16.out
       clear HC16
       by_cases c17 : x8_2 < (l1.length : Int)
       ·
        rw [if_pos c17] at H
        have c17b0 : decide (x8_2 < (l1.length : Int)) = true := decide_eq_true c17
        clear c17
        (first | rw [c17b0] | (simp only [i64_w, i32_w]; rw [c17b0]) | skip)
        have H' := Aside0.mk H
        clear H
        go_wp2
        go_meet
        case rel => exact ⟨_, (decide (x8_2 < 60)), (by first | rfl | (simp; done) | (simp [*]; done)), H', ⟨by have := HJ5.out; have := HK2.out; first | omega | exact Nat.le_refl _⟩, ⟨by (with_reducible repeat (first | apply Kd.R_alloc | apply Kd.R_drewN | apply Kd.R_drew)); exact HO_293000.out⟩, ⟨by (with_reducible repeat (first | apply Kd.R_alloc | apply Kd.R_drewN | apply Kd.R_drew)); exact HO_293001.out⟩, ⟨by (with_reducible repeat (first | refine blk_drewN ?_ _ | refine blk_drew ?_ | refine blk_alloc ?_ _)); exact BK292.out⟩, ⟨by repeat (first | (with_reducible first | exact HB.out | apply below_alloc | apply pw_below_drewN | apply below_drew1 | refine below_set ?_ GE292.out) | exact HB.out)⟩⟩
       ·
        rw [if_neg c17] at H
        have c17b0 : decide (x8_2 < (l1.length : Int)) = false := decide_eq_false c17
        clear c17
        (first | rw [c17b0] | (simp only [i64_w, i32_w]; rw [c17b0]) | skip)
        have H' := Aside0.mk H
        clear H
        go_wp2
        go_meet
        case rel => exact ⟨_, (false), (by first | rfl | (simp; done) | (simp [*]; done)), H', ⟨by have := HJ5.out; have := HK2.out; first | omega | exact Nat.le_refl _⟩, ⟨by (with_reducible repeat (first | apply Kd.R_alloc | apply Kd.R_drewN | apply Kd.R_drew)); exact HO_293000.out⟩, ⟨by (with_reducible repeat (first | apply Kd.R_alloc | apply Kd.R_drewN | apply Kd.R_drew)); exact HO_293001.out⟩, ⟨by (with_reducible repeat (first | refine blk_drewN ?_ _ | refine blk_drew ?_ | refine blk_alloc ?_ _)); exact BK292.out⟩, ⟨by repeat (first | (with_reducible first | exact HB.out | apply below_alloc | apply pw_below_drewN | apply below_drew1 | refine below_set ?_ GE292.out) | exact HB.out)⟩⟩
      case rest =>
       clear HC16
       try clear c1
       try clear c2
       try clear p2
       try clear c5
       try clear c6
       try clear p6
       try clear c13
       try clear c13b0
       try clear c13b1
       try clear c15
       try clear c17
       try clear c17b0
       try clear hcz11_0
       try clear hcz11_1
       try clear hcz14_0
       try clear hcz14_1
       try clear hfz11_0
       try clear hfz11_1
       try clear hfz14_0
       try clear hfz14_1
       try clear p2
       try clear p6
       obtain ⟨kq, x46_15, rfl, HA, HJ15, HO_293000, HO_293001, BK292, HB⟩ := hcut
       cases kq with
       | zero => exact absurd HA.out (by simp [headgatelaw18_SlotsFree.j2])
       | succ kj15 =>
        have H := HA.out
        clear HA
        simp only [headgatelaw18_SlotsFree.j2] at H
        by_cases c18 : x46_15 = true
        ·
         subst c18
         have H1 : (if 0 ≤ x8_2 then (if x8_2 < (l1.length : Int) then ((headgatelaw18_step.f kj15 x293000_2 x293001_2 (rd l1 x8_2)).bind fun bt294 => (if bt294.2.2.2 = 0 then ((slots_Check.f kj15 bt294.1 bt294.2.1).bind fun bt303 => ((slots_Count.f kj15 bt294.1 bt294.2.1).bind fun bt305 => (if bt303.1 = 0 then (if bt305.2.2.2 = 0 then (headgatelaw18_SlotsFree.j3 kj15 (wrap64 (1 + t284)) l1 t283 x8_2 bt294.2.2.1 bt305.1 bt305.2.1 bt305.2.2.1 ((bt294.1.length : Int) != (wrap64 (1 + t284))) x293000_2 x293001_2 bt294.1 bt294.2.1) else (headgatelaw18_SlotsFree.j3 kj15 (wrap64 (1 + t284)) l1 t283 x8_2 bt294.2.2.1 bt305.1 bt305.2.1 bt305.2.2.1 true x293000_2 x293001_2 bt294.1 bt294.2.1)) else (headgatelaw18_SlotsFree.j3 kj15 (wrap64 (1 + t284)) l1 t283 x8_2 bt294.2.2.1 bt305.1 bt305.2.1 bt305.2.2.1 true x293000_2 x293001_2 bt294.1 bt294.2.1)))) else (headgatelaw18_SlotsFree.l0 kj15 (wrap64 (1 + t284)) l1 t283 (wrap64 (x8_2 + 1)) x293000_2 x293001_2))) else (none)) else (none)) = some r := by rw [if_pos rfl] at H; exact H
         clear H
         have H := H1
         clear H1
         by_cases c19 : 0 ≤ x8_2
         ·
          rw [if_pos c19] at H
          have c19b0 : decide (0 ≤ x8_2) = true := decide_eq_true c19
          clear c19
          by_cases c20 : x8_2 < (l1.length : Int)
          ·
           rw [if_pos c20] at H
           have c20b0 : decide (x8_2 < (l1.length : Int)) = true := decide_eq_true c20
           clear c20
           replace H := Option.bind_eq_some_iff.mp H
           obtain ⟨⟨t294, t297, t300, t301⟩, A210, H⟩ := H
           replace H : (if t301 = 0 then ((slots_Check.f kj15 t294 t297).bind fun bt303 => ((slots_Count.f kj15 t294 t297).bind fun bt305 => (if bt303.1 = 0 then (if bt305.2.2.2 = 0 then (headgatelaw18_SlotsFree.j3 kj15 (wrap64 (1 + t284)) l1 t283 x8_2 t300 bt305.1 bt305.2.1 bt305.2.2.1 ((t294.length : Int) != (wrap64 (1 + t284))) x293000_2 x293001_2 t294 t297) else (headgatelaw18_SlotsFree.j3 kj15 (wrap64 (1 + t284)) l1 t283 x8_2 t300 bt305.1 bt305.2.1 bt305.2.2.1 true x293000_2 x293001_2 t294 t297)) else (headgatelaw18_SlotsFree.j3 kj15 (wrap64 (1 + t284)) l1 t283 x8_2 t300 bt305.1 bt305.2.1 bt305.2.2.1 true x293000_2 x293001_2 t294 t297)))) else (headgatelaw18_SlotsFree.l0 kj15 (wrap64 (1 + t284)) l1 t283 (wrap64 (x8_2 + 1)) x293000_2 x293001_2)) = some r := H
           have A21 := Aside0.mk A210
           clear A210
           by_cases c22 : t301 = 0
           ·
            rw [if_pos c22] at H
            have c22b0 : (t301 == 0) = true := beq_iff_eq.mpr c22
            have c22b1 : (t301 != 0) = false := bne_eq_false_iff_eq.mpr c22
            clear c22
            replace H := Option.bind_eq_some_iff.mp H
            obtain ⟨⟨t303, t304⟩, A230, H⟩ := H
            replace H : ((slots_Count.f kj15 t294 t297).bind fun bt305 => (if t303 = 0 then (if bt305.2.2.2 = 0 then (headgatelaw18_SlotsFree.j3 kj15 (wrap64 (1 + t284)) l1 t283 x8_2 t300 bt305.1 bt305.2.1 bt305.2.2.1 ((t294.length : Int) != (wrap64 (1 + t284))) x293000_2 x293001_2 t294 t297) else (headgatelaw18_SlotsFree.j3 kj15 (wrap64 (1 + t284)) l1 t283 x8_2 t300 bt305.1 bt305.2.1 bt305.2.2.1 true x293000_2 x293001_2 t294 t297)) else (headgatelaw18_SlotsFree.j3 kj15 (wrap64 (1 + t284)) l1 t283 x8_2 t300 bt305.1 bt305.2.1 bt305.2.2.1 true x293000_2 x293001_2 t294 t297))) = some r := H
            have A23 := Aside0.mk A230
            clear A230
            replace H := Option.bind_eq_some_iff.mp H
            obtain ⟨⟨t305, t306, t307, t308⟩, A240, H⟩ := H
            replace H : (if t303 = 0 then (if t308 = 0 then (headgatelaw18_SlotsFree.j3 kj15 (wrap64 (1 + t284)) l1 t283 x8_2 t300 t305 t306 t307 ((t294.length : Int) != (wrap64 (1 + t284))) x293000_2 x293001_2 t294 t297) else (headgatelaw18_SlotsFree.j3 kj15 (wrap64 (1 + t284)) l1 t283 x8_2 t300 t305 t306 t307 true x293000_2 x293001_2 t294 t297)) else (headgatelaw18_SlotsFree.j3 kj15 (wrap64 (1 + t284)) l1 t283 x8_2 t300 t305 t306 t307 true x293000_2 x293001_2 t294 t297)) = some r := H
            have A24 := Aside0.mk A240
            clear A240
            have HC25 := Aside0.mk H
            clear H
            obtain ⟨Ao26, co26, eo26⟩ := Kd.R_slice HO_293000.out
            subst eo26
            obtain ⟨Ao27, co27, eo27⟩ := Kd.R_slice HO_293001.out
            subst eo27
            try go_wp2
            have n0_ := Aside0.mk (Kd.R_drew HO_293000.out)
            have n1_ := Aside0.mk (Kd.R_drew HO_293001.out)
            have n2_ := Aside0.mk (blk_drew BK292.out)
            have n3_ := Aside0.mk (below_drew1 HB.out)
            clear HO_293000
            clear HO_293001
            clear BK292
            clear HB
            have HO_293000 := n0_
            have HO_293001 := n1_
            have BK292 := n2_
            have HB := n3_
            clear n0_ n1_ n2_ n3_
            have p293 : 0 ≤ (x8_2 : Int) := of_decide_eq_true (by first | (with_reducible assumption) | assumption)
            have q293 : x8_2 < (l1.length : Int) := of_decide_eq_true (by first | (with_reducible assumption) | assumption)
            obtain ⟨ad293, e293, hx293_0⟩ := Kd.at_int HR1.out x8_2 p293 q293
            have hw293_0 := hx293_0
            cases e293
            replace hx293_0 := (HB.out.cell (World.block_lt_of_cell? w _ hx293_0)).trans hx293_0
            replace p293 := eq_true p293
            replace q293 := eq_true q293
            refine start_ (n := 14) (S := fun w' => w'.cell? ⟨gb292, 0, none⟩ = some (.slice Ao26 x293000_2.length co26) ∧ w'.cell? ⟨gb292, 1, none⟩ = some (.slice Ao27 x293001_2.length co27) ∧ w'.cell? (ad293.add (x8_2).toNat) = some (.int .i64 (rd l1 x8_2))) (ds := []) #[false, false, false, false, false, false, false, false, false, false, false, false, false, false] (by kernel_rfl) rfl rfl ⟨(blk_cell BK292.out 0).trans rfl, (blk_cell BK292.out 1).trans rfl, ((HB.out.cell (World.block_lt_of_cell? w _ hw293_0)).trans hw293_0)⟩ (fun hHeld => ?_); refine with_tabW headgatelaw18_SlotsFree.tab9 headgatelaw18_SlotsFree.bits9 (fun HT_ HW_ => ?_)
            generalize wc.drew = w28 at HO_293000 HO_293001 BK292 HB hx293_0 hHeld ⊢
            refine pure_ (i := 1) (N := some 51) (v := ?_) (a' := ?_) #[false, true, false, false, false, false, false, false, false, false, false, false, false, false] rfl rfl (any_of HT_.out (by kernel_rfl)) (fun _ _ _ h => h) (Or.inl ⟨by rfl, ?_⟩) ?_ ?_
            rotate_left
            ·
             intro w'
             go_simp
             with_reducible rfl
            rotate_left
            ·
             simp only [Act.put, List.setIfInBounds_toArray, List.set_cons_zero, List.set_cons_succ, i64_w, i32_w]
             rfl
            refine pure_ (i := 2) (N := some 52) (v := ?_) (a' := ?_) #[false, true, true, false, false, false, false, false, false, false, false, false, false, false] rfl rfl (any_of HT_.out (by kernel_rfl)) (fun _ _ _ h => h) (Or.inl ⟨by rfl, ?_⟩) ?_ ?_
            rotate_left
            ·
             intro w'
             go_simp
             with_reducible rfl
            rotate_left
            ·
             simp only [Act.put, List.setIfInBounds_toArray, List.set_cons_zero, List.set_cons_succ, i64_w, i32_w]
             rfl
            refine pure_ (i := 3) (N := some 53) (v := ?_) (a' := ?_) #[false, true, true, true, false, false, false, false, false, false, false, false, false, false] rfl rfl (any_of HT_.out (by kernel_rfl)) (fun _ _ _ h => h) (Or.inl ⟨by rfl, ?_⟩) ?_ ?_
            rotate_left
            ·
             intro w'
             go_simp
             with_reducible rfl
            rotate_left
            ·
             simp only [Act.put, List.setIfInBounds_toArray, List.set_cons_zero, List.set_cons_succ, i64_w, i32_w]
             rfl
            refine take_ (i := 0) (N := some 50) (v := ?_) (a' := ?_) #[true, true, true, true, false, false, false, false, false, false, false, false, false, false] rfl rfl (take_ofW HT_.out HW_.out (by kernel_rfl)) (fun _ _ _ h => h) (Or.inl ⟨by rfl, ?_⟩) hHeld ?_ ?_
            rotate_left
            ·
             rintro w' ⟨s0, s1, s2⟩
             go_simp
             with_reducible rfl
            rotate_left
            ·
             simp only [Act.put, List.setIfInBounds_toArray, List.set_cons_zero, List.set_cons_succ, i64_w, i32_w]
             rfl
            refine take_ (i := 4) (N := some 54) (v := ?_) (a' := ?_) #[true, true, true, true, true, false, false, false, false, false, false, false, false, false] rfl rfl (take_ofW HT_.out HW_.out (by kernel_rfl)) (fun _ _ _ h => h) (Or.inl ⟨by rfl, ?_⟩) hHeld ?_ ?_
            rotate_left
            ·
             rintro w' ⟨s0, s1, s2⟩
             go_simp
             with_reducible rfl
            rotate_left
            ·
             simp only [Act.put, List.setIfInBounds_toArray, List.set_cons_zero, List.set_cons_succ, i64_w, i32_w]
             rfl
            refine join_ (σ := Value × Value × Nat) 3 #[true, true, true, true, true, true, true, true, true, true, true, false, false, false] (fun s_ => [(55, .tuple #[.agg #[s_.1, s_.2.1], .int .i64 t300, .int .i64 t301]), (9, .pointer (some ⟨s_.2.2, 0, none⟩)), (49, .tuple #[.agg #[s_.1, s_.2.1], .int .i64 t300, .int .i64 t301]), (56, .agg #[s_.1, s_.2.1]), (57, .int .i64 t300), (58, .int .i64 t301)]) (fun s_ w' => (w'.cell? ⟨gb292, 0, none⟩ = some (.slice Ao26 x293000_2.length co26) ∧ w'.cell? ⟨gb292, 1, none⟩ = some (.slice Ao27 x293001_2.length co27) ∧ w'.cell? (ad293.add (x8_2).toNat) = some (.int .i64 (rd l1 x8_2))) ∧ (Kd.R (Kd.int .i64) 3 w' w.heap.size (fun k_ => some k_ ≠ (.slice Ao26 x293000_2.length co26 : Value).ownBlock) s_.1 t294) ∧ (Kd.R Kd.bool 4 w' w.heap.size (fun k_ => some k_ ≠ (.slice Ao27 x293001_2.length co27 : Value).ownBlock) s_.2.1 t297) ∧ (Kd.R (Kd.int .i64) 3 w' w.heap.size (fun k_ => some k_ ≠ (s_.1 : Value).ownBlock) (.slice Ao26 x293000_2.length co26) x293000_2) ∧ (Kd.R Kd.bool 4 w' w.heap.size (fun k_ => some k_ ≠ (s_.2.1 : Value).ownBlock) (.slice Ao27 x293001_2.length co27) x293001_2) ∧ (w'.heap[gb292]? = some (.cells #[.slice Ao26 x293000_2.length co26, .slice Ao27 x293001_2.length co27] 43 (0, 0))) ∧ (w'.heap[s_.2.2]? = some (.cells #[.slice none 0 0, .slice none 0 0] 43 (0, 0))) ∧ (w.heap.size ≤ s_.2.2) ∧ (w.heap.size ≤ s_.2.2) ∧ (gb292 ≠ s_.2.2) ∧ (s_.2.2 ≠ gb292) ∧ (Below w.heap.size w w')) ?_ ?_
            rotate_left
            ·
             intro hCont
             refine two_ (i := 5) (j := 10) (Ni := some 55) (Nj := some 9) #[true, true, true, true, true, true, false, false, false, false, false, false, false, false] #[true, true, true, true, true, false, false, false, false, false, true, false, false, false] rfl rfl rfl rfl (two_of HT_.out (by kernel_rfl)) (by decide) (by decide) (fun K hK => ?_) (fun K hK => ?_)
             ·
              skip
              refine goes_ Try.func36 (by kernel_rfl) rfl #[.agg #[.slice Ao26 x293000_2.length co26, .slice Ao27 x293001_2.length co27], .int .i64 (rd l1 x8_2)] (by rfl) rfl rfl (by (try simp only [List.map_toArray, List.map_cons, List.map_nil]); first | done | rfl | (simp only [List.length_drop, List.length_take]; rfl)) ?_
              with_reducible refine (headgatelaw18_step.calls kj15 _ _ x293000_2 _ _ x293001_2 (rd l1 x8_2) t294 t297 t300 t301 _ ?side1 ?side2 ?side3 ?side4 A21.out).mono ?_
              (case side1 => repeat (first | exact (Kd.R_reads' HO_293000.out).2.2 | (with_reducible refine Kd.C_alloc ?_ _) | (with_reducible refine Kd.C_drewN ?_ _) | (with_reducible refine Kd.C_drew ?_)))
              (case side2 => exact (Kd.R_reads' HO_293000.out).2.1)
              (case side3 => repeat (first | exact (Kd.R_reads' HO_293001.out).2.2 | (with_reducible refine Kd.C_alloc ?_ _) | (with_reducible refine Kd.C_drewN ?_ _) | (with_reducible refine Kd.C_drew ?_)))
              (case side4 => exact (Kd.R_reads' HO_293001.out).2.1)
              rintro e w29 ⟨v295, v298, rfl, ho0, ho1, hb⟩
              refine ⟨_, rfl, ?_⟩
              have n0_ := Aside0.mk (Kd.R_elder' (by (with_reducible repeat (first | apply Kd.R_alloc | apply Kd.R_drewN | apply Kd.R_drew)); exact HO_293000.out) (Kd.R_base ho0) hb)
              have n1_ := Aside0.mk (Kd.R_elder' (by (with_reducible repeat (first | apply Kd.R_alloc | apply Kd.R_drewN | apply Kd.R_drew)); exact HO_293001.out) (Kd.R_base ho1) hb)
              have n2_ := Aside0.mk (Kd.R_lower (Kd.R_new' ho0 (Kd.R_lt (by (with_reducible repeat (first | apply Kd.R_alloc | apply Kd.R_drewN | apply Kd.R_drew)); exact HO_293000.out))) (below_size (by repeat (first | (with_reducible first | exact HB.out | apply below_alloc | apply pw_below_drewN | apply below_drew1 | refine below_set ?_ GE292.out) | exact HB.out))))
              have n3_ := Aside0.mk (Kd.R_lower (Kd.R_new' ho1 (Kd.R_lt (by (with_reducible repeat (first | apply Kd.R_alloc | apply Kd.R_drewN | apply Kd.R_drew)); exact HO_293001.out))) (below_size (by repeat (first | (with_reducible first | exact HB.out | apply below_alloc | apply pw_below_drewN | apply below_drew1 | refine below_set ?_ GE292.out) | exact HB.out))))
              have n4_ := Aside0.mk (blk_below (g := gb292) (o := .cells #[.slice Ao26 x293000_2.length co26, .slice Ao27 x293001_2.length co27] 43 (0, 0)) (by (with_reducible repeat (first | refine blk_drewN ?_ _ | refine blk_drew ?_ | refine blk_alloc ?_ _)); exact BK292.out) hb)
              have n5_ := Aside0.mk (below_step (by repeat (first | (with_reducible first | exact HB.out | apply below_alloc | apply pw_below_drewN | apply below_drew1 | refine below_set ?_ GE292.out) | exact HB.out)) hb)
              clear HO_293000
              clear HO_293001
              clear BK292
              clear HB
              have HO_293000 := n0_
              have HO_293001 := n1_
              have HO296 := n2_
              have HO299 := n3_
              have BK292 := n4_
              have HB := n5_
              clear n0_ n1_ n2_ n3_ n4_ n5_
              (try clear hb)
              (try clear hb2)
              (try clear hk)
              (try clear hi)
              (try clear ho0)
              (try clear ho1)
              refine hK.out _ _ ⟨(blk_cell BK292.out 0).trans rfl, (blk_cell BK292.out 1).trans rfl, ((HB.out.cell (World.block_lt_of_cell? w _ hw293_0)).trans hw293_0)⟩ (fun hHeld => ?_)
              clear hK K
              refine norm_ (a' := ?_) ?_ ?_
              rotate_left
              ·
               show Act.put _ (some 55) _ = _
               simp only [Act.put, List.setIfInBounds_toArray, List.set_cons_zero, List.set_cons_succ, i64_w, i32_w]
               rfl
              refine pure_ (i := 6) (N := some 49) (v := ?_) (a' := ?_) #[true, true, true, true, true, true, true, false, false, false, false, false, false, false] rfl rfl (any_of HT_.out (by kernel_rfl)) (fun _ _ _ h => h) (Or.inl ⟨by rfl, ?_⟩) ?_ ?_
              rotate_left
              ·
               intro w'
               go_simp
               with_reducible rfl
              rotate_left
              ·
               simp only [Act.put, List.setIfInBounds_toArray, List.set_cons_zero, List.set_cons_succ, i64_w, i32_w]
               rfl
              refine pure_ (i := 7) (N := some 56) (v := ?_) (a' := ?_) #[true, true, true, true, true, true, true, true, false, false, false, false, false, false] rfl rfl (any_of HT_.out (by kernel_rfl)) (fun _ _ _ h => h) (Or.inl ⟨by rfl, ?_⟩) ?_ ?_
              rotate_left
              ·
               intro w'
               go_simp
               with_reducible rfl
              rotate_left
              ·
               simp only [Act.put, List.setIfInBounds_toArray, List.set_cons_zero, List.set_cons_succ, i64_w, i32_w]
               rfl
              refine pure_ (i := 8) (N := some 57) (v := ?_) (a' := ?_) #[true, true, true, true, true, true, true, true, true, false, false, false, false, false] rfl rfl (any_of HT_.out (by kernel_rfl)) (fun _ _ _ h => h) (Or.inl ⟨by rfl, ?_⟩) ?_ ?_
              rotate_left
              ·
               intro w'
               go_simp
               with_reducible rfl
              rotate_left
              ·
               simp only [Act.put, List.setIfInBounds_toArray, List.set_cons_zero, List.set_cons_succ, i64_w, i32_w]
               rfl
              refine pure_ (i := 9) (N := some 58) (v := ?_) (a' := ?_) #[true, true, true, true, true, true, true, true, true, true, false, false, false, false] rfl rfl (any_of HT_.out (by kernel_rfl)) (fun _ _ _ h => h) (Or.inl ⟨by rfl, ?_⟩) ?_ ?_
              rotate_left
              ·
               intro w'
               go_simp
               with_reducible rfl
              rotate_left
              ·
               simp only [Act.put, List.setIfInBounds_toArray, List.set_cons_zero, List.set_cons_succ, i64_w, i32_w]
               rfl
              refine one_ (i := 10) (N := some 9) #[true, true, true, true, true, true, true, true, true, true, true, false, false, false] rfl rfl (one_of HT_.out (by kernel_rfl)) (by decide) (fun K hK => ?_)
              refine box_step ?hg (N := 9) ?hd (cs := #[.slice none 0 0, .slice none 0 0]) (t := 43) ?hr ?_; (case hd => rfl); (case hg => rfl); (case hr => first | (go_simp; done) | (go_simp; rfl))
              intro gb302 hg w30 hbox hb
              have n0_ := Aside0.mk (Kd.R_below (by (with_reducible repeat (first | apply Kd.R_alloc | apply Kd.R_drewN | apply Kd.R_drew)); exact HO_293000.out) hb)
              have n1_ := Aside0.mk (Kd.R_below (by (with_reducible repeat (first | apply Kd.R_alloc | apply Kd.R_drewN | apply Kd.R_drew)); exact HO_293001.out) hb)
              have n2_ := Aside0.mk (Kd.R_below (by (with_reducible repeat (first | apply Kd.R_alloc | apply Kd.R_drewN | apply Kd.R_drew)); exact HO296.out) hb)
              have n3_ := Aside0.mk (Kd.R_below (by (with_reducible repeat (first | apply Kd.R_alloc | apply Kd.R_drewN | apply Kd.R_drew)); exact HO299.out) hb)
              have n4_ := Aside0.mk (blk_below (g := gb292) (o := .cells #[.slice Ao26 x293000_2.length co26, .slice Ao27 x293001_2.length co27] 43 (0, 0)) (by (with_reducible repeat (first | refine blk_drewN ?_ _ | refine blk_drew ?_ | refine blk_alloc ?_ _)); exact BK292.out) hb)
              have n5_ := Aside0.mk (below_step (by repeat (first | (with_reducible first | exact HB.out | apply below_alloc | apply pw_below_drewN | apply below_drew1 | refine below_set ?_ GE292.out) | exact HB.out)) hb)
              have n6_ := Aside0.mk (hbox)
              have n7_ := Aside0.mk ((by rw [hg]; exact (below_size (by repeat (first | (with_reducible first | exact HB.out | apply below_alloc | apply pw_below_drewN | apply below_drew1 | refine below_set ?_ GE292.out) | exact HB.out))) : w.heap.size ≤ gb302))
              have n8_ := Aside0.mk ((by rw [hg]; exact (below_size (by repeat (first | (with_reducible first | exact HB.out | apply below_alloc | apply pw_below_drewN | apply below_drew1 | refine below_set ?_ GE292.out) | exact HB.out))) : w.heap.size ≤ gb302))
              have n9_ := Aside0.mk ((by rw [hg]; exact Nat.ne_of_lt (blk_lt (g := gb292) (o := .cells #[.slice Ao26 x293000_2.length co26, .slice Ao27 x293001_2.length co27] 43 (0, 0)) (by (with_reducible repeat (first | refine blk_drewN ?_ _ | refine blk_drew ?_ | refine blk_alloc ?_ _)); exact BK292.out)) : gb292 ≠ gb302))
              have n10_ := Aside0.mk ((by rw [hg]; exact Nat.ne_of_gt (blk_lt (g := gb292) (o := .cells #[.slice Ao26 x293000_2.length co26, .slice Ao27 x293001_2.length co27] 43 (0, 0)) (by (with_reducible repeat (first | refine blk_drewN ?_ _ | refine blk_drew ?_ | refine blk_alloc ?_ _)); exact BK292.out)) : gb302 ≠ gb292))
              clear HO_293000
              clear HO_293001
              clear HO296
              clear HO299
              clear BK292
              clear HB
              have HO_293000 := n0_
              have HO_293001 := n1_
              have HO296 := n2_
              have HO299 := n3_
              have BK292 := n4_
              have HB := n5_
              have BK302 := n6_
              have GW302 := n7_
              have GE302 := n8_
              have NB292_302 := n9_
              have NB302_292 := n10_
              clear n0_ n1_ n2_ n3_ n4_ n5_ n6_ n7_ n8_ n9_ n10_
              clear hb hbox hg
              refine hK.out _ _ ⟨(blk_cell BK292.out 0).trans rfl, (blk_cell BK292.out 1).trans rfl, ((HB.out.cell (World.block_lt_of_cell? w _ hw293_0)).trans hw293_0)⟩ (fun hHeld => ?_)
              clear hK K
              refine norm_ (a' := ?_) ?_ ?_
              rotate_left
              ·
               show Act.put _ (some 9) _ = _
               simp only [Act.put, List.setIfInBounds_toArray, List.set_cons_zero, List.set_cons_succ, i64_w, i32_w]
               rfl
              exact norm_ (by simp only [putAll, Act.put, List.setIfInBounds_toArray, List.set_cons_zero, List.set_cons_succ]) (hCont (v295, v298, gb302) _ ⟨hHeld, (by (with_reducible repeat (first | apply Kd.R_alloc | apply Kd.R_drewN | apply Kd.R_drew)); exact Kd.R_mono HO296.out (fun _ hk => hk.2)), (by (with_reducible repeat (first | apply Kd.R_alloc | apply Kd.R_drewN | apply Kd.R_drew)); exact Kd.R_mono HO299.out (fun _ hk => hk.2)), (by (with_reducible repeat (first | apply Kd.R_alloc | apply Kd.R_drewN | apply Kd.R_drew)); exact Kd.R_mono HO_293000.out (fun _ hk => hk.2)), (by (with_reducible repeat (first | apply Kd.R_alloc | apply Kd.R_drewN | apply Kd.R_drew)); exact Kd.R_mono HO_293001.out (fun _ hk => hk.2)), (by (with_reducible repeat (first | refine blk_drewN ?_ _ | refine blk_drew ?_ | refine blk_alloc ?_ _)); exact BK292.out), (by (with_reducible repeat (first | refine blk_drewN ?_ _ | refine blk_drew ?_ | refine blk_alloc ?_ _)); exact BK302.out), GW302.out, GE302.out, NB292_302.out, NB302_292.out, (by repeat (first | (with_reducible first | exact HB.out | apply below_alloc | apply pw_below_drewN | apply below_drew1 | refine below_set ?_ GE292.out | refine below_set ?_ GE302.out) | exact HB.out))⟩)
             ·
              skip
              refine box_step ?hg (N := 9) ?hd (cs := #[.slice none 0 0, .slice none 0 0]) (t := 43) ?hr ?_; (case hd => rfl); (case hg => rfl); (case hr => first | (go_simp; done) | (go_simp; rfl))
              intro gb302 hg w29 hbox hb
              have n0_ := Aside0.mk (Kd.R_below (by (with_reducible repeat (first | apply Kd.R_alloc | apply Kd.R_drewN | apply Kd.R_drew)); exact HO_293000.out) hb)
              have n1_ := Aside0.mk (Kd.R_below (by (with_reducible repeat (first | apply Kd.R_alloc | apply Kd.R_drewN | apply Kd.R_drew)); exact HO_293001.out) hb)
              have n2_ := Aside0.mk (blk_below (g := gb292) (o := .cells #[.slice Ao26 x293000_2.length co26, .slice Ao27 x293001_2.length co27] 43 (0, 0)) (by (with_reducible repeat (first | refine blk_drewN ?_ _ | refine blk_drew ?_ | refine blk_alloc ?_ _)); exact BK292.out) hb)
              have n3_ := Aside0.mk (below_step (by repeat (first | (with_reducible first | exact HB.out | apply below_alloc | apply pw_below_drewN | apply below_drew1 | refine below_set ?_ GE292.out) | exact HB.out)) hb)
              have n4_ := Aside0.mk (hbox)
              have n5_ := Aside0.mk ((by rw [hg]; exact (below_size (by repeat (first | (with_reducible first | exact HB.out | apply below_alloc | apply pw_below_drewN | apply below_drew1 | refine below_set ?_ GE292.out) | exact HB.out))) : w.heap.size ≤ gb302))
              have n6_ := Aside0.mk ((by rw [hg]; exact (below_size (by repeat (first | (with_reducible first | exact HB.out | apply below_alloc | apply pw_below_drewN | apply below_drew1 | refine below_set ?_ GE292.out) | exact HB.out))) : w.heap.size ≤ gb302))
              have n7_ := Aside0.mk ((by rw [hg]; exact Nat.ne_of_lt (blk_lt (g := gb292) (o := .cells #[.slice Ao26 x293000_2.length co26, .slice Ao27 x293001_2.length co27] 43 (0, 0)) (by (with_reducible repeat (first | refine blk_drewN ?_ _ | refine blk_drew ?_ | refine blk_alloc ?_ _)); exact BK292.out)) : gb292 ≠ gb302))
              have n8_ := Aside0.mk ((by rw [hg]; exact Nat.ne_of_gt (blk_lt (g := gb292) (o := .cells #[.slice Ao26 x293000_2.length co26, .slice Ao27 x293001_2.length co27] 43 (0, 0)) (by (with_reducible repeat (first | refine blk_drewN ?_ _ | refine blk_drew ?_ | refine blk_alloc ?_ _)); exact BK292.out)) : gb302 ≠ gb292))
              clear HO_293000
              clear HO_293001
              clear BK292
              clear HB
              have HO_293000 := n0_
              have HO_293001 := n1_
              have BK292 := n2_
              have HB := n3_
              have BK302 := n4_
              have GW302 := n5_
              have GE302 := n6_
              have NB292_302 := n7_
              have NB302_292 := n8_
              clear n0_ n1_ n2_ n3_ n4_ n5_ n6_ n7_ n8_
              clear hb hbox hg
              refine hK.out _ _ ⟨(blk_cell BK292.out 0).trans rfl, (blk_cell BK292.out 1).trans rfl, ((HB.out.cell (World.block_lt_of_cell? w _ hw293_0)).trans hw293_0)⟩ (fun hHeld => ?_)
              clear hK K
              refine norm_ (a' := ?_) ?_ ?_
              rotate_left
              ·
               show Act.put _ (some 9) _ = _
               simp only [Act.put, List.setIfInBounds_toArray, List.set_cons_zero, List.set_cons_succ, i64_w, i32_w]
               rfl
              refine one_ (i := 5) (N := some 55) #[true, true, true, true, true, true, false, false, false, false, true, false, false, false] rfl rfl (one_of HT_.out (by kernel_rfl)) (by decide) (fun K hK => ?_)
              refine goes_ Try.func36 (by kernel_rfl) rfl #[.agg #[.slice Ao26 x293000_2.length co26, .slice Ao27 x293001_2.length co27], .int .i64 (rd l1 x8_2)] (by rfl) rfl rfl (by (try simp only [List.map_toArray, List.map_cons, List.map_nil]); first | done | rfl | (simp only [List.length_drop, List.length_take]; rfl)) ?_
              with_reducible refine (headgatelaw18_step.calls kj15 _ _ x293000_2 _ _ x293001_2 (rd l1 x8_2) t294 t297 t300 t301 _ ?side1 ?side2 ?side3 ?side4 A21.out).mono ?_
              (case side1 => repeat (first | exact (Kd.R_reads' HO_293000.out).2.2 | (with_reducible refine Kd.C_alloc ?_ _) | (with_reducible refine Kd.C_drewN ?_ _) | (with_reducible refine Kd.C_drew ?_)))
              (case side2 => exact (Kd.R_reads' HO_293000.out).2.1)
              (case side3 => repeat (first | exact (Kd.R_reads' HO_293001.out).2.2 | (with_reducible refine Kd.C_alloc ?_ _) | (with_reducible refine Kd.C_drewN ?_ _) | (with_reducible refine Kd.C_drew ?_)))
              (case side4 => exact (Kd.R_reads' HO_293001.out).2.1)
              rintro e w30 ⟨v295, v298, rfl, ho0, ho1, hb⟩
              refine ⟨_, rfl, ?_⟩
              have n0_ := Aside0.mk (Kd.R_elder' (by (with_reducible repeat (first | apply Kd.R_alloc | apply Kd.R_drewN | apply Kd.R_drew)); exact HO_293000.out) (Kd.R_base ho0) hb)
              have n1_ := Aside0.mk (Kd.R_elder' (by (with_reducible repeat (first | apply Kd.R_alloc | apply Kd.R_drewN | apply Kd.R_drew)); exact HO_293001.out) (Kd.R_base ho1) hb)
              have n2_ := Aside0.mk (Kd.R_lower (Kd.R_new' ho0 (Kd.R_lt (by (with_reducible repeat (first | apply Kd.R_alloc | apply Kd.R_drewN | apply Kd.R_drew)); exact HO_293000.out))) (below_size (by repeat (first | (with_reducible first | exact HB.out | apply below_alloc | apply pw_below_drewN | apply below_drew1 | refine below_set ?_ GE292.out | refine below_set ?_ GE302.out) | exact HB.out))))
              have n3_ := Aside0.mk (Kd.R_lower (Kd.R_new' ho1 (Kd.R_lt (by (with_reducible repeat (first | apply Kd.R_alloc | apply Kd.R_drewN | apply Kd.R_drew)); exact HO_293001.out))) (below_size (by repeat (first | (with_reducible first | exact HB.out | apply below_alloc | apply pw_below_drewN | apply below_drew1 | refine below_set ?_ GE292.out | refine below_set ?_ GE302.out) | exact HB.out))))
              have n4_ := Aside0.mk (blk_below (g := gb292) (o := .cells #[.slice Ao26 x293000_2.length co26, .slice Ao27 x293001_2.length co27] 43 (0, 0)) (by (with_reducible repeat (first | refine blk_drewN ?_ _ | refine blk_drew ?_ | refine blk_alloc ?_ _)); exact BK292.out) hb)
              have n5_ := Aside0.mk (blk_below (g := gb302) (o := .cells #[.slice none 0 0, .slice none 0 0] 43 (0, 0)) (by (with_reducible repeat (first | refine blk_drewN ?_ _ | refine blk_drew ?_ | refine blk_alloc ?_ _)); exact BK302.out) hb)
              have n6_ := Aside0.mk (below_step (by repeat (first | (with_reducible first | exact HB.out | apply below_alloc | apply pw_below_drewN | apply below_drew1 | refine below_set ?_ GE292.out | refine below_set ?_ GE302.out) | exact HB.out)) hb)
              clear HO_293000
              clear HO_293001
              clear BK292
              clear BK302
              clear HB
              have HO_293000 := n0_
              have HO_293001 := n1_
              have HO296 := n2_
              have HO299 := n3_
              have BK292 := n4_
              have BK302 := n5_
              have HB := n6_
              clear n0_ n1_ n2_ n3_ n4_ n5_ n6_
              (try clear hb)
              (try clear hb2)
              (try clear hk)
              (try clear hi)
              (try clear ho0)
              (try clear ho1)
              refine hK.out _ _ ⟨(blk_cell BK292.out 0).trans rfl, (blk_cell BK292.out 1).trans rfl, ((HB.out.cell (World.block_lt_of_cell? w _ hw293_0)).trans hw293_0)⟩ (fun hHeld => ?_)
              clear hK K
              refine norm_ (a' := ?_) ?_ ?_
              rotate_left
              ·
               show Act.put _ (some 55) _ = _
               simp only [Act.put, List.setIfInBounds_toArray, List.set_cons_zero, List.set_cons_succ, i64_w, i32_w]
               rfl
              refine pure_ (i := 6) (N := some 49) (v := ?_) (a' := ?_) #[true, true, true, true, true, true, true, false, false, false, true, false, false, false] rfl rfl (any_of HT_.out (by kernel_rfl)) (fun _ _ _ h => h) (Or.inl ⟨by rfl, ?_⟩) ?_ ?_
              rotate_left
              ·
               intro w'
               go_simp
               with_reducible rfl
              rotate_left
              ·
               simp only [Act.put, List.setIfInBounds_toArray, List.set_cons_zero, List.set_cons_succ, i64_w, i32_w]
               rfl
              refine pure_ (i := 7) (N := some 56) (v := ?_) (a' := ?_) #[true, true, true, true, true, true, true, true, false, false, true, false, false, false] rfl rfl (any_of HT_.out (by kernel_rfl)) (fun _ _ _ h => h) (Or.inl ⟨by rfl, ?_⟩) ?_ ?_
              rotate_left
              ·
               intro w'
               go_simp
               with_reducible rfl
              rotate_left
              ·
               simp only [Act.put, List.setIfInBounds_toArray, List.set_cons_zero, List.set_cons_succ, i64_w, i32_w]
               rfl
              refine pure_ (i := 8) (N := some 57) (v := ?_) (a' := ?_) #[true, true, true, true, true, true, true, true, true, false, true, false, false, false] rfl rfl (any_of HT_.out (by kernel_rfl)) (fun _ _ _ h => h) (Or.inl ⟨by rfl, ?_⟩) ?_ ?_
              rotate_left
              ·
               intro w'
               go_simp
               with_reducible rfl
              rotate_left
              ·
               simp only [Act.put, List.setIfInBounds_toArray, List.set_cons_zero, List.set_cons_succ, i64_w, i32_w]
               rfl
              refine pure_ (i := 9) (N := some 58) (v := ?_) (a' := ?_) #[true, true, true, true, true, true, true, true, true, true, true, false, false, false] rfl rfl (any_of HT_.out (by kernel_rfl)) (fun _ _ _ h => h) (Or.inl ⟨by rfl, ?_⟩) ?_ ?_
              rotate_left
              ·
               intro w'
               go_simp
               with_reducible rfl
              rotate_left
              ·
               simp only [Act.put, List.setIfInBounds_toArray, List.set_cons_zero, List.set_cons_succ, i64_w, i32_w]
               rfl
              exact norm_ (by simp only [putAll, Act.put, List.setIfInBounds_toArray, List.set_cons_zero, List.set_cons_succ]) (hCont (v295, v298, gb302) _ ⟨hHeld, (by (with_reducible repeat (first | apply Kd.R_alloc | apply Kd.R_drewN | apply Kd.R_drew)); exact Kd.R_mono HO296.out (fun _ hk => hk.2)), (by (with_reducible repeat (first | apply Kd.R_alloc | apply Kd.R_drewN | apply Kd.R_drew)); exact Kd.R_mono HO299.out (fun _ hk => hk.2)), (by (with_reducible repeat (first | apply Kd.R_alloc | apply Kd.R_drewN | apply Kd.R_drew)); exact Kd.R_mono HO_293000.out (fun _ hk => hk.2)), (by (with_reducible repeat (first | apply Kd.R_alloc | apply Kd.R_drewN | apply Kd.R_drew)); exact Kd.R_mono HO_293001.out (fun _ hk => hk.2)), (by (with_reducible repeat (first | refine blk_drewN ?_ _ | refine blk_drew ?_ | refine blk_alloc ?_ _)); exact BK292.out), (by (with_reducible repeat (first | refine blk_drewN ?_ _ | refine blk_drew ?_ | refine blk_alloc ?_ _)); exact BK302.out), GW302.out, GE302.out, NB292_302.out, NB302_292.out, (by repeat (first | (with_reducible first | exact HB.out | apply below_alloc | apply pw_below_drewN | apply below_drew1 | refine below_set ?_ GE292.out | refine below_set ?_ GE302.out) | exact HB.out))⟩)
            rintro ⟨v295, v298, gb302⟩ w31 ⟨hS_, h0_, h1_, h2_, h3_, h4_, h5_, h6_, h7_, h8_, h9_, h10_⟩
            have n0_ : Aside0 (Kd.R (Kd.int .i64) 3 w31 w.heap.size (fun k_ => some k_ ≠ (.slice Ao26 x293000_2.length co26 : Value).ownBlock) v295 t294) := ⟨h0_⟩
            have n1_ : Aside0 (Kd.R Kd.bool 4 w31 w.heap.size (fun k_ => some k_ ≠ (.slice Ao27 x293001_2.length co27 : Value).ownBlock) v298 t297) := ⟨h1_⟩
            have n2_ : Aside0 (Kd.R (Kd.int .i64) 3 w31 w.heap.size (fun k_ => some k_ ≠ (v295 : Value).ownBlock) (.slice Ao26 x293000_2.length co26) x293000_2) := ⟨h2_⟩
            have n3_ : Aside0 (Kd.R Kd.bool 4 w31 w.heap.size (fun k_ => some k_ ≠ (v298 : Value).ownBlock) (.slice Ao27 x293001_2.length co27) x293001_2) := ⟨h3_⟩
            have n4_ : Aside0 (w31.heap[gb292]? = some (.cells #[.slice Ao26 x293000_2.length co26, .slice Ao27 x293001_2.length co27] 43 (0, 0))) := ⟨h4_⟩
            have n5_ : Aside0 (w31.heap[gb302]? = some (.cells #[.slice none 0 0, .slice none 0 0] 43 (0, 0))) := ⟨h5_⟩
            have n6_ : Aside0 (w.heap.size ≤ gb302) := ⟨h6_⟩
            have n7_ : Aside0 (w.heap.size ≤ gb302) := ⟨h7_⟩
            have n8_ : Aside0 (gb292 ≠ gb302) := ⟨h8_⟩
            have n9_ : Aside0 (gb302 ≠ gb292) := ⟨h9_⟩
            have n10_ : Aside0 (Below w.heap.size w w31) := ⟨h10_⟩
            clear HO_293000
            clear HO_293001
            clear BK292
            clear HB
            clear h0_ h1_ h2_ h3_ h4_ h5_ h6_ h7_ h8_ h9_ h10_
            have HO296 := n0_
            have HO299 := n1_
            have HO_293000 := n2_
            have HO_293001 := n3_
            have BK292 := n4_
            have BK302 := n5_
            have GW302 := n6_
            have GE302 := n7_
            have NB292_302 := n8_
            have NB302_292 := n9_
            have HB := n10_
            clear n0_ n1_ n2_ n3_ n4_ n5_ n6_ n7_ n8_ n9_ n10_
            have hHeld : w31.cell? ⟨gb292, 0, none⟩ = some (.slice Ao26 x293000_2.length co26) ∧ w31.cell? ⟨gb292, 1, none⟩ = some (.slice Ao27 x293001_2.length co27) ∧ w31.cell? (ad293.add (x8_2).toNat) = some (.int .i64 (rd l1 x8_2)) := hS_
            obtain ⟨Ao32, co32, eo32⟩ := Kd.R_slice HO296.out
            (first | subst eo32 | (injection eo32 with f1_ f2_ f3_; have f4_ := f1_.symm; have f5_ := f3_.symm; clear f1_ f2_ f3_; subst f4_; subst f5_))
            obtain ⟨Ao34, co34, eo34⟩ := Kd.R_slice HO299.out
            (first | subst eo34 | (injection eo34 with f1_ f2_ f3_; have f4_ := f1_.symm; have f5_ := f3_.symm; clear f1_ f2_ f3_; subst f4_; subst f5_))
            refine norm_ (a' := ?_) ?_ ?_
            rotate_left
            ·
             simp only [putAll, Act.put, List.setIfInBounds_toArray, List.set_cons_zero, List.set_cons_succ]
             rfl
            refine one_ (i := 11) (N := none) #[true, true, true, true, true, true, true, true, true, true, true, true, false, false] rfl rfl (one_of HT_.out (by kernel_rfl)) (by decide) (fun K hK => ?_)
            have hs33 : w31.cell? ⟨gb302, 0, none⟩ = some (.slice none 0 0) := (blk_cell BK302.out 0).trans rfl
            have hfs33 := blk_frozen BK302.out 0
            have hns33_0 := NB292_302.out
            have hms33_0 := NB302_292.out
            have hs35 : w31.cell? ⟨gb302, 1, none⟩ = some (.slice none 0 0) := (blk_cell BK302.out 1).trans rfl
            have hfs35 := blk_frozen BK302.out 1
            have hns35_0 := NB292_302.out
            have hms35_0 := NB302_292.out
            refine skip_ (w1 := ?_) (by rfl) rfl ?_ ?_
            rotate_left
            ·
             go_simp
             rfl
            refine hK.out _ _ ⟨((cell_far (p := ⟨gb302, _, none⟩) NB292_302.out _).trans (((cell_far (p := ⟨gb302, _, none⟩) NB292_302.out _).trans (hHeld.1)))), ((cell_far (p := ⟨gb302, _, none⟩) NB292_302.out _).trans (((cell_far (p := ⟨gb302, _, none⟩) NB292_302.out _).trans (hHeld.2.1)))), ((cell_far (p := ⟨gb302, _, none⟩) (by first | exact Nat.ne_of_lt (Nat.lt_of_lt_of_le (by have := World.block_lt_of_cell? _ _ hw293_0; first | rwa [add_block] at this | exact this) GW302.out) | (rw [add_block]; exact Nat.ne_of_lt (Nat.lt_of_lt_of_le (by have := World.block_lt_of_cell? _ _ hw293_0; first | rwa [add_block] at this | exact this) GW302.out)) | (show (Addr.add _ _).block ≠ _; rw [add_block]; exact Nat.ne_of_lt (Nat.lt_of_lt_of_le (by have := World.block_lt_of_cell? _ _ hw293_0; first | rwa [add_block] at this | exact this) GW302.out)) | (dsimp only; exact Nat.ne_of_lt (Nat.lt_of_lt_of_le (by have := World.block_lt_of_cell? _ _ hw293_0; first | rwa [add_block] at this | exact this) GW302.out))) _).trans (((cell_far (p := ⟨gb302, _, none⟩) (by first | exact Nat.ne_of_lt (Nat.lt_of_lt_of_le (by have := World.block_lt_of_cell? _ _ hw293_0; first | rwa [add_block] at this | exact this) GW302.out) | (rw [add_block]; exact Nat.ne_of_lt (Nat.lt_of_lt_of_le (by have := World.block_lt_of_cell? _ _ hw293_0; first | rwa [add_block] at this | exact this) GW302.out)) | (show (Addr.add _ _).block ≠ _; rw [add_block]; exact Nat.ne_of_lt (Nat.lt_of_lt_of_le (by have := World.block_lt_of_cell? _ _ hw293_0; first | rwa [add_block] at this | exact this) GW302.out)) | (dsimp only; exact Nat.ne_of_lt (Nat.lt_of_lt_of_le (by have := World.block_lt_of_cell? _ _ hw293_0; first | rwa [add_block] at this | exact this) GW302.out))) _).trans (hHeld.2.2))))⟩ (fun hHeld => ?_)
            clear hK K
            refine pure_ (i := 12) (N := some 10) (v := ?_) (a' := ?_) #[true, true, true, true, true, true, true, true, true, true, true, true, true, false] rfl rfl (any_of HT_.out (by kernel_rfl)) (fun _ _ _ h => h) (Or.inl ⟨by rfl, ?_⟩) ?_ ?_
            rotate_left
            ·
             intro w'
             go_simp
             with_reducible rfl
            rotate_left
            ·
             simp only [Act.put, List.setIfInBounds_toArray, List.set_cons_zero, List.set_cons_succ, i64_w, i32_w]
             rfl
            refine pure_ (i := 13) (N := some 11) (v := ?_) (a' := ?_) #[true, true, true, true, true, true, true, true, true, true, true, true, true, true] rfl rfl (any_of HT_.out (by kernel_rfl)) (fun _ _ _ h => h) (Or.inl ⟨by rfl, ?_⟩) ?_ ?_
            rotate_left
            ·
             intro w'
             go_simp
             with_reducible rfl
            rotate_left
            ·
             simp only [Act.put, List.setIfInBounds_toArray, List.set_cons_zero, List.set_cons_succ, i64_w, i32_w]
             rfl
            refine done_ (done_of HT_.out (by kernel_rfl)) ?_
            have hnb36 := NB302_292.out
            have hnc36 := NB292_302.out
            have hcz37_0 : w31.cell? ⟨gb302, 0, none⟩ = some (.slice none 0 0) := (blk_cell BK302.out 0).trans rfl
            have hcz37_1 : w31.cell? ⟨gb302, 1, none⟩ = some (.slice none 0 0) := (blk_cell BK302.out 1).trans rfl
            have hfz37_0 := blk_frozen BK302.out 0
            have hfz37_1 := blk_frozen BK302.out 1
            go_upto_region 13 with (first | ((with_reducible refine gate_callee (f := 30) rfl ?_); refine goesL_ (some 63) rfl rfl Try.func30 (by kernel_rfl) rfl #[.agg #[.slice Ao32 t294.length co32, .slice Ao34 t297.length co34]] rfl (by (try simp only [List.map_toArray, List.map_cons, List.map_nil]); first | done | rfl | (simp only [List.length_drop, List.length_take]; rfl)) ?_; (with_reducible refine (slots_Check.calls kj15 _ _ t294 _ _ t297 t303 t304 _ ?side1 ?side2 ?side3 ?side4 A23.out).mono ?_); (case side1 => refine (Kd.R_reads' (e := 3) (base := w.heap.size) (ok := fun k_ => some k_ ≠ (.slice Ao26 x293000_2.length co26 : Value).ownBlock) (n := t294.length) (c := co32) ?_).2.2; exact (by (with_reducible repeat (first | apply Kd.R_alloc | apply Kd.R_drewN | apply Kd.R_drew)); exact (Kd.R_mono (Kd.R_far (p := ⟨gb302, 1, none⟩) (Kd.R_far (p := ⟨gb302, 0, none⟩) (Kd.R_types HO296.out BK302.out (by decide)) (fun _ hk => hk.2) (.slice Ao32 t294.length co32)) (fun _ hk => hk.2) (.slice Ao34 t297.length co34)) (fun _ h_ => h_.1)))); (case side2 => exact (Kd.R_reads' HO296.out).2.1); (case side3 => refine (Kd.R_reads' (e := 4) (base := w.heap.size) (ok := fun k_ => some k_ ≠ (.slice Ao27 x293001_2.length co27 : Value).ownBlock) (n := t297.length) (c := co34) ?_).2.2; exact (by (with_reducible repeat (first | apply Kd.R_alloc | apply Kd.R_drewN | apply Kd.R_drew)); exact (Kd.R_mono (Kd.R_far (p := ⟨gb302, 1, none⟩) (Kd.R_far (p := ⟨gb302, 0, none⟩) (Kd.R_types HO299.out BK302.out (by decide)) (fun _ hk => hk.2) (.slice Ao32 t294.length co32)) (fun _ hk => hk.2) (.slice Ao34 t297.length co34)) (fun _ h_ => h_.1)))); (case side4 => exact (Kd.R_reads' HO299.out).2.1); rintro e w38 ⟨rfl, hb⟩; refine ⟨_, rfl, ?_⟩; have n0_ := Aside0.mk (Kd.R_below (by (with_reducible repeat (first | apply Kd.R_alloc | apply Kd.R_drewN | apply Kd.R_drew)); exact (Kd.R_mono (Kd.R_far (p := ⟨gb302, 1, none⟩) (Kd.R_far (p := ⟨gb302, 0, none⟩) (Kd.R_types HO_293000.out BK302.out (by decide)) (fun _ hk => hk.2) (.slice Ao32 t294.length co32)) (fun _ hk => hk.2) (.slice Ao34 t297.length co34)) (fun _ h_ => h_.1))) hb); have n1_ := Aside0.mk (Kd.R_below (by (with_reducible repeat (first | apply Kd.R_alloc | apply Kd.R_drewN | apply Kd.R_drew)); exact (Kd.R_mono (Kd.R_far (p := ⟨gb302, 1, none⟩) (Kd.R_far (p := ⟨gb302, 0, none⟩) (Kd.R_types HO_293001.out BK302.out (by decide)) (fun _ hk => hk.2) (.slice Ao32 t294.length co32)) (fun _ hk => hk.2) (.slice Ao34 t297.length co34)) (fun _ h_ => h_.1))) hb); have n2_ := Aside0.mk (Kd.R_below (by (with_reducible repeat (first | apply Kd.R_alloc | apply Kd.R_drewN | apply Kd.R_drew)); exact (Kd.R_mono (Kd.R_far (p := ⟨gb302, 1, none⟩) (Kd.R_far (p := ⟨gb302, 0, none⟩) (Kd.R_types HO296.out BK302.out (by decide)) (fun _ hk => hk.2) (.slice Ao32 t294.length co32)) (fun _ hk => hk.2) (.slice Ao34 t297.length co34)) (fun _ h_ => h_.1))) hb); have n3_ := Aside0.mk (Kd.R_below (by (with_reducible repeat (first | apply Kd.R_alloc | apply Kd.R_drewN | apply Kd.R_drew)); exact (Kd.R_mono (Kd.R_far (p := ⟨gb302, 1, none⟩) (Kd.R_far (p := ⟨gb302, 0, none⟩) (Kd.R_types HO299.out BK302.out (by decide)) (fun _ hk => hk.2) (.slice Ao32 t294.length co32)) (fun _ hk => hk.2) (.slice Ao34 t297.length co34)) (fun _ h_ => h_.1))) hb); have n4_ := Aside0.mk (blk_below (g := gb292) (o := .cells #[.slice Ao26 x293000_2.length co26, .slice Ao27 x293001_2.length co27] 43 (0, 0)) (by (with_reducible repeat (first | refine blk_drewN ?_ _ | refine blk_drew ?_ | refine blk_alloc ?_ _)); refine blk_far ?_ NB292_302.out _; (with_reducible repeat (first | refine blk_drewN ?_ _ | refine blk_drew ?_ | refine blk_alloc ?_ _)); refine blk_far ?_ NB292_302.out _; (with_reducible repeat (first | refine blk_drewN ?_ _ | refine blk_drew ?_ | refine blk_alloc ?_ _)); exact BK292.out) hb); have n5_ := Aside0.mk (blk_below (g := gb302) (o := .cells #[.slice Ao32 t294.length co32, .slice Ao34 t297.length co34] 43 (0, 0)) (by (with_reducible repeat (first | refine blk_drewN ?_ _ | refine blk_drew ?_ | refine blk_alloc ?_ _)); refine blk_put (cs := #[.slice Ao32 t294.length co32, .slice none 0 0]) ?_ 1 _ rfl; (with_reducible repeat (first | refine blk_drewN ?_ _ | refine blk_drew ?_ | refine blk_alloc ?_ _)); refine blk_put (cs := #[.slice none 0 0, .slice none 0 0]) ?_ 0 _ rfl; (with_reducible repeat (first | refine blk_drewN ?_ _ | refine blk_drew ?_ | refine blk_alloc ?_ _)); exact BK302.out) hb); have n6_ := Aside0.mk (below_step (by repeat (first | (with_reducible first | exact HB.out | apply below_alloc | apply pw_below_drewN | apply below_drew1 | refine below_set ?_ GE292.out | refine below_set ?_ GE302.out) | exact HB.out)) hb); clear HO_293000; clear HO_293001; clear HO296; clear HO299; clear BK292; clear BK302; clear HB; have HO_293000 := n0_; have HO_293001 := n1_; have HO296 := n2_; have HO299 := n3_; have BK292 := n4_; have BK302 := n5_; have HB := n6_; clear n0_ n1_ n2_ n3_ n4_ n5_ n6_; (try clear hb); (try clear hb2); (try clear hk); (try clear hi); have hcz39_0 : w38.cell? ⟨gb302, 0, none⟩ = some (.slice Ao32 t294.length co32) := (blk_cell BK302.out 0).trans rfl; have hcz39_1 : w38.cell? ⟨gb302, 1, none⟩ = some (.slice Ao34 t297.length co34) := (blk_cell BK302.out 1).trans rfl; have hfz39_0 := blk_frozen BK302.out 0; have hfz39_1 := blk_frozen BK302.out 1) | ((with_reducible refine gate_callee (f := 37) rfl ?_); refine goesL_ (some 68) rfl rfl Try.func37 (by kernel_rfl) rfl #[.agg #[.slice Ao32 t294.length co32, .slice Ao34 t297.length co34]] rfl (by (try simp only [List.map_toArray, List.map_cons, List.map_nil]); first | done | rfl | (simp only [List.length_drop, List.length_take]; rfl)) ?_; (with_reducible refine (slots_Count.calls kj15 _ _ t294 _ _ t297 t305 t306 t307 t308 _ ?side1 ?side2 ?side3 ?side4 A24.out).mono ?_); (case side1 => repeat (first | exact (Kd.R_reads' HO296.out).2.2 | (with_reducible refine Kd.C_alloc ?_ _) | (with_reducible refine Kd.C_drewN ?_ _) | (with_reducible refine Kd.C_drew ?_))); (case side2 => exact (Kd.R_reads' HO296.out).2.1); (case side3 => repeat (first | exact (Kd.R_reads' HO299.out).2.2 | (with_reducible refine Kd.C_alloc ?_ _) | (with_reducible refine Kd.C_drewN ?_ _) | (with_reducible refine Kd.C_drew ?_))); (case side4 => exact (Kd.R_reads' HO299.out).2.1); rintro e w40 ⟨rfl, hb⟩; refine ⟨_, rfl, ?_⟩; have n0_ := Aside0.mk (Kd.R_below (by (with_reducible repeat (first | apply Kd.R_alloc | apply Kd.R_drewN | apply Kd.R_drew)); exact HO_293000.out) hb); have n1_ := Aside0.mk (Kd.R_below (by (with_reducible repeat (first | apply Kd.R_alloc | apply Kd.R_drewN | apply Kd.R_drew)); exact HO_293001.out) hb); have n2_ := Aside0.mk (Kd.R_below (by (with_reducible repeat (first | apply Kd.R_alloc | apply Kd.R_drewN | apply Kd.R_drew)); exact HO296.out) hb); have n3_ := Aside0.mk (Kd.R_below (by (with_reducible repeat (first | apply Kd.R_alloc | apply Kd.R_drewN | apply Kd.R_drew)); exact HO299.out) hb); have n4_ := Aside0.mk (blk_below (g := gb292) (o := .cells #[.slice Ao26 x293000_2.length co26, .slice Ao27 x293001_2.length co27] 43 (0, 0)) (by (with_reducible repeat (first | refine blk_drewN ?_ _ | refine blk_drew ?_ | refine blk_alloc ?_ _)); exact BK292.out) hb); have n5_ := Aside0.mk (blk_below (g := gb302) (o := .cells #[.slice Ao32 t294.length co32, .slice Ao34 t297.length co34] 43 (0, 0)) (by (with_reducible repeat (first | refine blk_drewN ?_ _ | refine blk_drew ?_ | refine blk_alloc ?_ _)); exact BK302.out) hb); have n6_ := Aside0.mk (below_step (by repeat (first | (with_reducible first | exact HB.out | apply below_alloc | apply pw_below_drewN | apply below_drew1 | refine below_set ?_ GE292.out | refine below_set ?_ GE302.out) | exact HB.out)) hb); clear HO_293000; clear HO_293001; clear HO296; clear HO299; clear BK292; clear BK302; clear HB; have HO_293000 := n0_; have HO_293001 := n1_; have HO296 := n2_; have HO299 := n3_; have BK292 := n4_; have BK302 := n5_; have HB := n6_; clear n0_ n1_ n2_ n3_ n4_ n5_ n6_; (try clear hb); (try clear hb2); (try clear hk); (try clear hi)))
            (try simp only [Act.put, List.setIfInBounds_toArray, List.set_cons_zero, List.set_cons_succ])
            go_cut [85] (fun v85 wc => ∃ (kq : Nat) (x85_24 : Bool), v85 = .bool x85_24 ∧ Aside0 (headgatelaw18_SlotsFree.j3 kq (wrap64 (1 + t284)) l1 t283 x8_2 t300 t305 t306 t307 x85_24 x293000_2 x293001_2 t294 t297 = some r) ∧ Aside0 (kq ≤ kj15) ∧ Aside0 (Kd.R (Kd.int .i64) 3 wc w.heap.size (fun k_ => some k_ ≠ ((.slice Ao32 t294.length co32) : Value).ownBlock) (.slice Ao26 x293000_2.length co26) x293000_2) ∧ Aside0 (Kd.R Kd.bool 4 wc w.heap.size (fun k_ => some k_ ≠ ((.slice Ao34 t297.length co34) : Value).ownBlock) (.slice Ao27 x293001_2.length co27) x293001_2) ∧ Aside0 (Kd.R (Kd.int .i64) 3 wc w.heap.size (fun k_ => some k_ ≠ ((.slice Ao26 x293000_2.length co26) : Value).ownBlock) (.slice Ao32 t294.length co32) t294) ∧ Aside0 (Kd.R Kd.bool 4 wc w.heap.size (fun k_ => some k_ ≠ ((.slice Ao27 x293001_2.length co27) : Value).ownBlock) (.slice Ao34 t297.length co34) t297) ∧ Aside0 (wc.heap[gb292]? = some (.cells #[(.slice Ao26 x293000_2.length co26), (.slice Ao27 x293001_2.length co27)] 43 (0, 0))) ∧ Aside0 (wc.heap[gb302]? = some (.cells #[(.slice Ao32 t294.length co32), (.slice Ao34 t297.length co34)] 43 (0, 0))) ∧ Aside0 (Below w.heap.size w wc))
            case first =>
             have H := HC25.out
             clear HC25
             by_cases c41 : t303 = 0
             ·
              rw [if_pos c41] at H
              have c41b0 : (t303 == 0) = true := beq_iff_eq.mpr c41
              have c41b1 : (t303 != 0) = false := bne_eq_false_iff_eq.mpr c41
              clear c41
              (first | rw [c41b0] | (simp only [i64_w, i32_w]; rw [c41b0]) | skip)
              by_cases c42 : t308 = 0
              ·
               rw [if_pos c42] at H
               have c42b0 : (t308 == 0) = true := beq_iff_eq.mpr c42
               have c42b1 : (t308 != 0) = false := bne_eq_false_iff_eq.mpr c42
               clear c42
               have H' := Aside0.mk H
               clear H
               have hnb43 := NB302_292.out
               have hnc43 := NB292_302.out
               have hcz44_0 : w40.cell? ⟨gb302, 0, none⟩ = some (.slice Ao32 t294.length co32) := (blk_cell BK302.out 0).trans rfl
               have hcz44_1 : w40.cell? ⟨gb302, 1, none⟩ = some (.slice Ao34 t297.length co34) := (blk_cell BK302.out 1).trans rfl
               have hfz44_0 := blk_frozen BK302.out 0
               have hfz44_1 := blk_frozen BK302.out 1
               go_wp2
               go_meet
               case rel => exact ⟨_, (((t294.length : Int) != (wrap64 (1 + t284)))), (by first | rfl | (simp; done) | (simp [*]; done)), H', ⟨by have := HJ5.out; have := HK2.out; have := HJ15.out; first | omega | exact Nat.le_refl _⟩, ⟨by (with_reducible repeat (first | apply Kd.R_alloc | apply Kd.R_drewN | apply Kd.R_drew)); exact HO_293000.out⟩, ⟨by (with_reducible repeat (first | apply Kd.R_alloc | apply Kd.R_drewN | apply Kd.R_drew)); exact HO_293001.out⟩, ⟨by (with_reducible repeat (first | apply Kd.R_alloc | apply Kd.R_drewN | apply Kd.R_drew)); exact HO296.out⟩, ⟨by (with_reducible repeat (first | apply Kd.R_alloc | apply Kd.R_drewN | apply Kd.R_drew)); exact HO299.out⟩, ⟨by (with_reducible repeat (first | refine blk_drewN ?_ _ | refine blk_drew ?_ | refine blk_alloc ?_ _)); exact BK292.out⟩, ⟨by (with_reducible repeat (first | refine blk_drewN ?_ _ | refine blk_drew ?_ | refine blk_alloc ?_ _)); exact BK302.out⟩, ⟨by repeat (first | (with_reducible first | exact HB.out | apply below_alloc | apply pw_below_drewN | apply below_drew1 | refine below_set ?_ GE292.out | refine below_set ?_ GE302.out) | exact HB.out)⟩⟩
              ·
               rw [if_neg c42] at H
               have c42b0 : (t308 == 0) = false := beq_eq_false_iff_ne.mpr c42
               have c42b1 : (t308 != 0) = true := bne_iff_ne.mpr c42
               have H' := Aside0.mk H
               clear H
               go_wp2
               go_meet
               case rel => exact ⟨_, (true), (by first | rfl | (simp; done) | (simp [*]; done)), H', ⟨by have := HJ5.out; have := HK2.out; have := HJ15.out; first | omega | exact Nat.le_refl _⟩, ⟨by (with_reducible repeat (first | apply Kd.R_alloc | apply Kd.R_drewN | apply Kd.R_drew)); exact HO_293000.out⟩, ⟨by (with_reducible repeat (first | apply Kd.R_alloc | apply Kd.R_drewN | apply Kd.R_drew)); exact HO_293001.out⟩, ⟨by (with_reducible repeat (first | apply Kd.R_alloc | apply Kd.R_drewN | apply Kd.R_drew)); exact HO296.out⟩, ⟨by (with_reducible repeat (first | apply Kd.R_alloc | apply Kd.R_drewN | apply Kd.R_drew)); exact HO299.out⟩, ⟨by (with_reducible repeat (first | refine blk_drewN ?_ _ | refine blk_drew ?_ | refine blk_alloc ?_ _)); exact BK292.out⟩, ⟨by (with_reducible repeat (first | refine blk_drewN ?_ _ | refine blk_drew ?_ | refine blk_alloc ?_ _)); exact BK302.out⟩, ⟨by repeat (first | (with_reducible first | exact HB.out | apply below_alloc | apply pw_below_drewN | apply below_drew1 | refine below_set ?_ GE292.out | refine below_set ?_ GE302.out) | exact HB.out)⟩⟩
             ·
              rw [if_neg c41] at H
              have c41b0 : (t303 == 0) = false := beq_eq_false_iff_ne.mpr c41
              have c41b1 : (t303 != 0) = true := bne_iff_ne.mpr c41
              (first | rw [c41b0] | (simp only [i64_w, i32_w]; rw [c41b0]) | skip)
              have H' := Aside0.mk H
              clear H
              go_wp2
              go_meet
              case rel => exact ⟨_, (true), (by first | rfl | (simp; done) | (simp [*]; done)), H', ⟨by have := HJ5.out; have := HK2.out; have := HJ15.out; first | omega | exact Nat.le_refl _⟩, ⟨by (with_reducible repeat (first | apply Kd.R_alloc | apply Kd.R_drewN | apply Kd.R_drew)); exact HO_293000.out⟩, ⟨by (with_reducible repeat (first | apply Kd.R_alloc | apply Kd.R_drewN | apply Kd.R_drew)); exact HO_293001.out⟩, ⟨by (with_reducible repeat (first | apply Kd.R_alloc | apply Kd.R_drewN | apply Kd.R_drew)); exact HO296.out⟩, ⟨by (with_reducible repeat (first | apply Kd.R_alloc | apply Kd.R_drewN | apply Kd.R_drew)); exact HO299.out⟩, ⟨by (with_reducible repeat (first | refine blk_drewN ?_ _ | refine blk_drew ?_ | refine blk_alloc ?_ _)); exact BK292.out⟩, ⟨by (with_reducible repeat (first | refine blk_drewN ?_ _ | refine blk_drew ?_ | refine blk_alloc ?_ _)); exact BK302.out⟩, ⟨by repeat (first | (with_reducible first | exact HB.out | apply below_alloc | apply pw_below_drewN | apply below_drew1 | refine below_set ?_ GE292.out | refine below_set ?_ GE302.out) | exact HB.out)⟩⟩
            case rest =>
             clear HC25
             try clear c1
             try clear c2
             try clear p2
             try clear q2
             try clear hx2
             try clear c3
             try clear c4
             try clear c5
             try clear c6
             try clear p6
             try clear c13
             try clear c13b0
             try clear c13b1
             try clear c15
             try clear c17
             try clear c17b0
             try clear c18
             try clear c19
             try clear c19b0
             try clear c20
             try clear c20b0
             try clear c22
             try clear c22b0
             try clear c22b1
             try clear p29
             try clear q29
             try clear hx29
             try clear c30
             try clear c36
             try clear c37
             try clear c41
             try clear c41b0
             try clear c41b1
             try clear c42
             try clear c42b0
             try clear c42b1
             try clear c43
             try clear hcz11_0
             try clear hcz11_1
             try clear hcz14_0
             try clear hcz14_1
             try clear hcz37_0
             try clear hcz37_1
             try clear hcz39_0
             try clear hcz39_1
             try clear hcz44_0
             try clear hcz44_1
             try clear hfz11_0
             try clear hfz11_1
             try clear hfz14_0
             try clear hfz14_1
             try clear hfz37_0
             try clear hfz37_1
             try clear hfz39_0
             try clear hfz39_1
             try clear hfz44_0
             try clear hfz44_1
             try clear hx293_0
             try clear p2
             try clear p293
             try clear p6
             try clear q293
             obtain ⟨kq, x85_24, rfl, HA, HJ24, HO_293000, HO_293001, HO_303000, HO_303001, BK292, BK302, HB⟩ := hcut
             cases kq with
             | zero => exact absurd HA.out (by simp [headgatelaw18_SlotsFree.j3])
             | succ kj24 =>
              have H := HA.out
              clear HA
              simp only [headgatelaw18_SlotsFree.j3] at H
              by_cases c45 : x85_24 = true
              ·
               subst c45
               have H1 : (some false) = some r := by rw [if_pos rfl] at H; exact H
               clear H
               have H := H1
               clear H1
               exact absurd H (by rw [HT.out]; simp)
              ·
               replace c45 := Bool.eq_false_iff.mpr c45
               subst c45
               have H1 : (headgatelaw18_SlotsFree.l1 kj24 (wrap64 (1 + t284)) l1 t283 x8_2 t300 t305 t306 t307 0 0 0 x293000_2 x293001_2 t294 t297) = some r := by rw [if_neg (show ¬ (false = true) by decide)] at H; exact H
               clear H
               have H := H1
               clear H1
               have H' := Aside0.mk H
               clear H
               go_wp2
               go_loopg [18, 19, 20] kj24 (fun kq v18 v19 v20 w' => ∃ (x18_5 : Int) (x19_5 : Int) (x20_5 : Int), v18 = .int .i64 x18_5 ∧ v19 = .int .i64 x19_5 ∧ v20 = .int .i64 x20_5 ∧ Aside0 (headgatelaw18_SlotsFree.l1 kq (wrap64 (1 + t284)) l1 t283 x8_2 t300 t305 t306 t307 x18_5 x19_5 x20_5 x293000_2 x293001_2 t294 t297 = some r) ∧ Aside0 (kq ≤ kj24) ∧ Aside0 (Kd.R (Kd.int .i64) 3 w' w.heap.size (fun k_ => some k_ ≠ ((.slice Ao32 t294.length co32) : Value).ownBlock) (.slice Ao26 x293000_2.length co26) x293000_2) ∧ Aside0 (Kd.R Kd.bool 4 w' w.heap.size (fun k_ => some k_ ≠ ((.slice Ao34 t297.length co34) : Value).ownBlock) (.slice Ao27 x293001_2.length co27) x293001_2) ∧ Aside0 (Kd.R (Kd.int .i64) 3 w' w.heap.size (fun k_ => some k_ ≠ ((.slice Ao26 x293000_2.length co26) : Value).ownBlock) (.slice Ao32 t294.length co32) t294) ∧ Aside0 (Kd.R Kd.bool 4 w' w.heap.size (fun k_ => some k_ ≠ ((.slice Ao27 x293001_2.length co27) : Value).ownBlock) (.slice Ao34 t297.length co34) t297) ∧ Aside0 (w'.heap[gb292]? = some (.cells #[(.slice Ao26 x293000_2.length co26), (.slice Ao27 x293001_2.length co27)] 43 (0, 0))) ∧ Aside0 (w'.heap[gb302]? = some (.cells #[(.slice Ao32 t294.length co32), (.slice Ao34 t297.length co34)] 43 (0, 0))) ∧ Aside0 (Below w.heap.size w w'))
               case atStart => exact ⟨(0), (0), (0), (by first | rfl | (simp; done) | (simp [*]; done)), (by first | rfl | (simp; done) | (simp [*]; done)), (by first | rfl | (simp; done) | (simp [*]; done)), H', ⟨Nat.le_refl _⟩, ⟨by (with_reducible repeat (first | apply Kd.R_alloc | apply Kd.R_drewN | apply Kd.R_drew)); exact HO_293000.out⟩, ⟨by (with_reducible repeat (first | apply Kd.R_alloc | apply Kd.R_drewN | apply Kd.R_drew)); exact HO_293001.out⟩, ⟨by (with_reducible repeat (first | apply Kd.R_alloc | apply Kd.R_drewN | apply Kd.R_drew)); exact HO_303000.out⟩, ⟨by (with_reducible repeat (first | apply Kd.R_alloc | apply Kd.R_drewN | apply Kd.R_drew)); exact HO_303001.out⟩, ⟨by (with_reducible repeat (first | refine blk_drewN ?_ _ | refine blk_drew ?_ | refine blk_alloc ?_ _)); exact BK292.out⟩, ⟨by (with_reducible repeat (first | refine blk_drewN ?_ _ | refine blk_drew ?_ | refine blk_alloc ?_ _)); exact BK302.out⟩, ⟨by repeat (first | (with_reducible first | exact HB.out | apply below_alloc | apply pw_below_drewN | apply below_drew1 | refine below_set ?_ GE292.out | refine below_set ?_ GE302.out) | exact HB.out)⟩⟩
               case round =>
                clear H'
                try clear c1
                try clear c2
                try clear p2
                try clear q2
                try clear hx2
                try clear c3
                try clear c4
                try clear c5
                try clear c6
                try clear p6
                try clear c13
                try clear c13b0
                try clear c13b1
                try clear c15
                try clear c17
                try clear c17b0
                try clear c18
                try clear c19
                try clear c19b0
                try clear c20
                try clear c20b0
                try clear c22
                try clear c22b0
                try clear c22b1
                try clear p29
                try clear q29
                try clear hx29
                try clear c30
                try clear c36
                try clear c37
                try clear c41
                try clear c41b0
                try clear c41b1
                try clear c42
                try clear c42b0
                try clear c42b1
                try clear c43
                try clear c45
                try clear hcz11_0
                try clear hcz11_1
                try clear hcz14_0
                try clear hcz14_1
                try clear hcz37_0
                try clear hcz37_1
                try clear hcz39_0
                try clear hcz39_1
                try clear hcz44_0
                try clear hcz44_1
                try clear hfz11_0
                try clear hfz11_1
                try clear hfz14_0
                try clear hfz14_1
                try clear hfz37_0
                try clear hfz37_1
                try clear hfz39_0
                try clear hfz39_1
                try clear hfz44_0
                try clear hfz44_1
                try clear hx293_0
                try clear p2
                try clear p29
                try clear p293
                try clear p6
                try clear q2
                try clear q29
                try clear q293
                obtain ⟨x18_5, x19_5, x20_5, rfl, rfl, rfl, HA, HK5, HO_293000, HO_293001, HO_303000, HO_303001, BK292, BK302, HB⟩ := hrel
                cases gk with
                | zero => exact absurd HA.out (by simp [headgatelaw18_SlotsFree.l1])
                | succ k5 =>
                 have H := HA.out
                 clear HA
                 simp only [headgatelaw18_SlotsFree.l1] at H
                 by_cases c46 : x20_5 < (wrap64 (1 + t284))
                 ·
                  rw [if_pos c46] at H
                  have c46b0 : decide (x20_5 < (wrap64 (1 + t284))) = true := decide_eq_true c46
                  clear c46
                  by_cases c47 : 0 ≤ x20_5
                  ·
                   rw [if_pos c47] at H
                   have c47b0 : decide (0 ≤ x20_5) = true := decide_eq_true c47
                   clear c47
                   by_cases c48 : x20_5 < (t294.length : Int)
                   ·
                    rw [if_pos c48] at H
                    have c48b0 : decide (x20_5 < (t294.length : Int)) = true := decide_eq_true c48
                    clear c48
                    have HC49 := Aside0.mk H
                    clear H
                    have hnb50 := NB302_292.out
                    have hnc50 := NB292_302.out
                    have hcz51_0 : wr.cell? ⟨gb302, 0, none⟩ = some (.slice Ao32 t294.length co32) := (blk_cell BK302.out 0).trans rfl
                    have hcz51_1 : wr.cell? ⟨gb302, 1, none⟩ = some (.slice Ao34 t297.length co34) := (blk_cell BK302.out 1).trans rfl
                    have hfz51_0 := blk_frozen BK302.out 0
                    have hfz51_1 := blk_frozen BK302.out 1
                    have p312 : 0 ≤ (x20_5 : Int) := of_decide_eq_true (by first | (with_reducible assumption) | assumption)
                    have q312 : x20_5 < (t294.length : Int) := of_decide_eq_true (by first | (with_reducible assumption) | assumption)
                    obtain ⟨ad312, e312, hx312_0⟩ := Kd.at_int (Kd.R_reads' HO_303000.out).2.2 x20_5 p312 q312
                    cases e312
                    replace p312 := eq_true p312
                    replace q312 := eq_true q312
                    go_upto_region 20 with (fail)
                    go_cut [111] (fun v111 wc => ∃ (kq : Nat) (x111_48 : Bool), v111 = .bool x111_48 ∧ Aside0 (headgatelaw18_SlotsFree.j5 kq (wrap64 (1 + t284)) l1 t283 x8_2 t300 t305 t306 t307 x18_5 (wrap64 (x19_5 + (rd t294 x20_5))) x20_5 x111_48 x293000_2 x293001_2 t294 t297 = some r) ∧ Aside0 (kq ≤ k5) ∧ Aside0 (Kd.R (Kd.int .i64) 3 wc w.heap.size (fun k_ => some k_ ≠ ((.slice (some ad312) t294.length co32) : Value).ownBlock) (.slice Ao26 x293000_2.length co26) x293000_2) ∧ Aside0 (Kd.R Kd.bool 4 wc w.heap.size (fun k_ => some k_ ≠ ((.slice Ao34 t297.length co34) : Value).ownBlock) (.slice Ao27 x293001_2.length co27) x293001_2) ∧ Aside0 (Kd.R (Kd.int .i64) 3 wc w.heap.size (fun k_ => some k_ ≠ ((.slice Ao26 x293000_2.length co26) : Value).ownBlock) (.slice (some ad312) t294.length co32) t294) ∧ Aside0 (Kd.R Kd.bool 4 wc w.heap.size (fun k_ => some k_ ≠ ((.slice Ao27 x293001_2.length co27) : Value).ownBlock) (.slice Ao34 t297.length co34) t297) ∧ Aside0 (wc.heap[gb292]? = some (.cells #[(.slice Ao26 x293000_2.length co26), (.slice Ao27 x293001_2.length co27)] 43 (0, 0))) ∧ Aside0 (wc.heap[gb302]? = some (.cells #[(.slice (some ad312) t294.length co32), (.slice Ao34 t297.length co34)] 43 (0, 0))) ∧ Aside0 (Below w.heap.size w wc))
                    case first =>
                     have H := HC49.out
                     clear HC49
                     by_cases c52 : (rd t294 x20_5) > 0
                     ·
                      rw [if_pos c52] at H
                      have c52b0 : decide (0 < (rd t294 x20_5)) = true := decide_eq_true c52
                      clear c52
                      (first | rw [c52b0] | (simp only [i64_w, i32_w]; rw [c52b0]) | skip)
                      by_cases c53 : x20_5 < (t297.length : Int)
                      ·
                       rw [if_pos c53] at H
                       have c53b0 : decide (x20_5 < (t297.length : Int)) = true := decide_eq_true c53
                       clear c53
                       have H' := Aside0.mk H
                       clear H
                       have hnb54 := NB302_292.out
                       have hnc54 := NB292_302.out
                       have hcz55_0 : wr.cell? ⟨gb302, 0, none⟩ = some (.slice (some ad312) t294.length co32) := (blk_cell BK302.out 0).trans rfl
                       have hcz55_1 : wr.cell? ⟨gb302, 1, none⟩ = some (.slice Ao34 t297.length co34) := (blk_cell BK302.out 1).trans rfl
                       have hfz55_0 := blk_frozen BK302.out 0
                       have hfz55_1 := blk_frozen BK302.out 1
                       have p313 : 0 ≤ (x20_5 : Int) := of_decide_eq_true (by first | (with_reducible assumption) | assumption)
                       have q313 : x20_5 < (t294.length : Int) := of_decide_eq_true (by first | (with_reducible assumption) | assumption)
                       obtain ⟨ad313, e313, hx313_0⟩ := Kd.at_int (Kd.R_reads' HO_303000.out).2.2 x20_5 p313 q313
                       obtain rfl : ad312 = ad313 := (by injection e313)
                       replace p313 := eq_true p313
                       replace q313 := eq_true q313
                       have p314 : 0 ≤ (x20_5 : Int) := of_decide_eq_true (by first | (with_reducible assumption) | assumption)
                       have q314 : x20_5 < (t297.length : Int) := of_decide_eq_true (by first | (with_reducible assumption) | assumption)
                       obtain ⟨ad314, e314, hx314_0⟩ := Kd.at_bool (Kd.R_reads' HO_303001.out).2.2 x20_5 p314 q314
                       cases e314
                       replace p314 := eq_true p314
                       replace q314 := eq_true q314
                       go_wp2
                       go_meet
                       case rel => exact ⟨_, (!(rdOf false t297 x20_5)), (by first | rfl | (simp; done) | (simp [*]; done)), H', ⟨by have := HJ5.out; have := HK2.out; have := HJ15.out; have := HJ24.out; have := HK5.out; first | omega | exact Nat.le_refl _⟩, ⟨by (with_reducible repeat (first | apply Kd.R_alloc | apply Kd.R_drewN | apply Kd.R_drew)); exact HO_293000.out⟩, ⟨by (with_reducible repeat (first | apply Kd.R_alloc | apply Kd.R_drewN | apply Kd.R_drew)); exact HO_293001.out⟩, ⟨by (with_reducible repeat (first | apply Kd.R_alloc | apply Kd.R_drewN | apply Kd.R_drew)); exact HO_303000.out⟩, ⟨by (with_reducible repeat (first | apply Kd.R_alloc | apply Kd.R_drewN | apply Kd.R_drew)); exact HO_303001.out⟩, ⟨by (with_reducible repeat (first | refine blk_drewN ?_ _ | refine blk_drew ?_ | refine blk_alloc ?_ _)); exact BK292.out⟩, ⟨by (with_reducible repeat (first | refine blk_drewN ?_ _ | refine blk_drew ?_ | refine blk_alloc ?_ _)); exact BK302.out⟩, ⟨by repeat (first | (with_reducible first | exact HB.out | apply below_alloc | apply pw_below_drewN | apply below_drew1 | refine below_set ?_ GE292.out | refine below_set ?_ GE302.out) | exact HB.out)⟩⟩
                      ·
                       rw [if_neg c53] at H
                       exact absurd H (by simp)
                     ·
                      rw [if_neg c52] at H
                      have c52b0 : decide (0 < (rd t294 x20_5)) = false := decide_eq_false c52
                      clear c52
                      (first | rw [c52b0] | (simp only [i64_w, i32_w]; rw [c52b0]) | skip)
                      have H' := Aside0.mk H
                      clear H
                      have hnb56 := NB302_292.out
                      have hnc56 := NB292_302.out
                      have hcz57_0 : wr.cell? ⟨gb302, 0, none⟩ = some (.slice (some ad312) t294.length co32) := (blk_cell BK302.out 0).trans rfl
                      have hcz57_1 : wr.cell? ⟨gb302, 1, none⟩ = some (.slice Ao34 t297.length co34) := (blk_cell BK302.out 1).trans rfl
                      have hfz57_0 := blk_frozen BK302.out 0
                      have hfz57_1 := blk_frozen BK302.out 1
                      have p313 : 0 ≤ (x20_5 : Int) := of_decide_eq_true (by first | (with_reducible assumption) | assumption)
                      have q313 : x20_5 < (t294.length : Int) := of_decide_eq_true (by first | (with_reducible assumption) | assumption)
                      obtain ⟨ad313, e313, hx313_0⟩ := Kd.at_int (Kd.R_reads' HO_303000.out).2.2 x20_5 p313 q313
                      obtain rfl : ad312 = ad313 := (by injection e313)
                      replace p313 := eq_true p313
                      replace q313 := eq_true q313
                      go_wp2
                      go_meet
                      case rel => exact ⟨_, (false), (by first | rfl | (simp; done) | (simp [*]; done)), H', ⟨by have := HJ5.out; have := HK2.out; have := HJ15.out; have := HJ24.out; have := HK5.out; first | omega | exact Nat.le_refl _⟩, ⟨by (with_reducible repeat (first | apply Kd.R_alloc | apply Kd.R_drewN | apply Kd.R_drew)); exact HO_293000.out⟩, ⟨by (with_reducible repeat (first | apply Kd.R_alloc | apply Kd.R_drewN | apply Kd.R_drew)); exact HO_293001.out⟩, ⟨by (with_reducible repeat (first | apply Kd.R_alloc | apply Kd.R_drewN | apply Kd.R_drew)); exact HO_303000.out⟩, ⟨by (with_reducible repeat (first | apply Kd.R_alloc | apply Kd.R_drewN | apply Kd.R_drew)); exact HO_303001.out⟩, ⟨by (with_reducible repeat (first | refine blk_drewN ?_ _ | refine blk_drew ?_ | refine blk_alloc ?_ _)); exact BK292.out⟩, ⟨by (with_reducible repeat (first | refine blk_drewN ?_ _ | refine blk_drew ?_ | refine blk_alloc ?_ _)); exact BK302.out⟩, ⟨by repeat (first | (with_reducible first | exact HB.out | apply below_alloc | apply pw_below_drewN | apply below_drew1 | refine below_set ?_ GE292.out | refine below_set ?_ GE302.out) | exact HB.out)⟩⟩
                    case rest =>
                     clear HC49
                     try clear c1
                     try clear c2
                     try clear p2
                     try clear q2
                     try clear hx2
                     try clear c3
                     try clear p3
                     try clear q3
                     try clear hx3
                     try clear c4
                     try clear c5
                     try clear c6
                     try clear p6
                     try clear c13
                     try clear c13b0
                     try clear c13b1
                     try clear c15
                     try clear c17
                     try clear c17b0
                     try clear c18
                     try clear c19
                     try clear c19b0
                     try clear c20
                     try clear c20b0
                     try clear c22
                     try clear c22b0
                     try clear c22b1
                     try clear p29
                     try clear q29
                     try clear hx29
                     try clear c30
                     try clear p31
                     try clear q31
                     try clear hx31
                     try clear c36
                     try clear c37
                     try clear c41
                     try clear c41b0
                     try clear c41b1
                     try clear c42
                     try clear c42b0
                     try clear c42b1
                     try clear c43
                     try clear c45
                     try clear c46
                     try clear c46b0
                     try clear c47
                     try clear c47b0
                     try clear c48
                     try clear c48b0
                     try clear c50
                     try clear c52
                     try clear c52b0
                     try clear c53
                     try clear c53b0
                     try clear c54
                     try clear c56
                     try clear hcz11_0
                     try clear hcz11_1
                     try clear hcz14_0
                     try clear hcz14_1
                     try clear hcz37_0
                     try clear hcz37_1
                     try clear hcz39_0
                     try clear hcz39_1
                     try clear hcz44_0
                     try clear hcz44_1
                     try clear hcz51_0
                     try clear hcz51_1
                     try clear hcz55_0
                     try clear hcz55_1
                     try clear hcz57_0
                     try clear hcz57_1
                     try clear hfz11_0
                     try clear hfz11_1
                     try clear hfz14_0
                     try clear hfz14_1
                     try clear hfz37_0
                     try clear hfz37_1
                     try clear hfz39_0
                     try clear hfz39_1
                     try clear hfz44_0
                     try clear hfz44_1
                     try clear hfz51_0
                     try clear hfz51_1
                     try clear hfz55_0
                     try clear hfz55_1
                     try clear hfz57_0
                     try clear hfz57_1
                     try clear hx293_0
                     try clear hx312_0
                     try clear hx313_0
                     try clear hx314_0
                     try clear p2
                     try clear p29
                     try clear p293
                     try clear p312
                     try clear p313
                     try clear p314
                     try clear p6
                     try clear q2
                     try clear q29
                     try clear q293
                     try clear q312
                     try clear q313
                     try clear q314
                     obtain ⟨kq, x111_48, rfl, HA, HJ48, HO_293000, HO_293001, HO_303000, HO_303001, BK292, BK302, HB⟩ := hcut
                     cases kq with
                     | zero => exact absurd HA.out (by simp [headgatelaw18_SlotsFree.j5])
                     | succ kj48 =>
                      have H := HA.out
                      clear HA
                      simp only [headgatelaw18_SlotsFree.j5] at H
                      by_cases c58 : x111_48 = true
                      ·
                       subst c58
                       have H1 : (if t300 ≥ 0 then (if x20_5 < t300 then (if 0 ≤ x20_5 then (if x20_5 < (x293000_2.length : Int) then (if (rd x293000_2 x20_5) = 0 then (if x20_5 < (x293001_2.length : Int) then (if rdOf false x293001_2 x20_5 = true then (headgatelaw18_SlotsFree.l1 kj48 (wrap64 (1 + t284)) l1 t283 x8_2 t300 t305 t306 t307 (wrap64 (x18_5 + 1)) (wrap64 (x19_5 + (rd t294 x20_5))) (wrap64 (x20_5 + 1)) x293000_2 x293001_2 t294 t297) else (some false)) else (none)) else (headgatelaw18_SlotsFree.l1 kj48 (wrap64 (1 + t284)) l1 t283 x8_2 t300 t305 t306 t307 (wrap64 (x18_5 + 1)) (wrap64 (x19_5 + (rd t294 x20_5))) (wrap64 (x20_5 + 1)) x293000_2 x293001_2 t294 t297)) else (none)) else (none)) else (headgatelaw18_SlotsFree.l1 kj48 (wrap64 (1 + t284)) l1 t283 x8_2 t300 t305 t306 t307 (wrap64 (x18_5 + 1)) (wrap64 (x19_5 + (rd t294 x20_5))) (wrap64 (x20_5 + 1)) x293000_2 x293001_2 t294 t297)) else (headgatelaw18_SlotsFree.l1 kj48 (wrap64 (1 + t284)) l1 t283 x8_2 t300 t305 t306 t307 (wrap64 (x18_5 + 1)) (wrap64 (x19_5 + (rd t294 x20_5))) (wrap64 (x20_5 + 1)) x293000_2 x293001_2 t294 t297)) = some r := by rw [if_pos rfl] at H; exact H
                       clear H
                       have H := H1
                       clear H1
                       by_cases c59 : t300 ≥ 0
                       ·
                        rw [if_pos c59] at H
                        have c59b0 : decide (0 ≤ t300) = true := decide_eq_true c59
                        clear c59
                        by_cases c60 : x20_5 < t300
                        ·
                         rw [if_pos c60] at H
                         have c60b0 : decide (x20_5 < t300) = true := decide_eq_true c60
                         clear c60
                         by_cases c61 : 0 ≤ x20_5
                         ·
                          rw [if_pos c61] at H
                          have c61b0 : decide (0 ≤ x20_5) = true := decide_eq_true c61
                          clear c61
                          by_cases c62 : x20_5 < (x293000_2.length : Int)
                          ·
                           rw [if_pos c62] at H
                           have c62b0 : decide (x20_5 < (x293000_2.length : Int)) = true := decide_eq_true c62
                           clear c62
                           by_cases c63 : (rd x293000_2 x20_5) = 0
                           ·
                            rw [if_pos c63] at H
                            have c63b0 : ((rd x293000_2 x20_5) == 0) = true := beq_iff_eq.mpr c63
                            have c63b1 : ((rd x293000_2 x20_5) != 0) = false := bne_eq_false_iff_eq.mpr c63
                            clear c63
                            by_cases c64 : x20_5 < (x293001_2.length : Int)
                            ·
                             rw [if_pos c64] at H
                             have c64b0 : decide (x20_5 < (x293001_2.length : Int)) = true := decide_eq_true c64
                             clear c64
                             obtain ⟨bq65, hbq65⟩ : ∃ b_ : Bool, b_ = (rdOf false x293001_2 x20_5) := ⟨_, rfl⟩
                             replace H : (if bq65 = true then (headgatelaw18_SlotsFree.l1 kj48 (wrap64 (1 + t284)) l1 t283 x8_2 t300 t305 t306 t307 (wrap64 (x18_5 + 1)) (wrap64 (x19_5 + (rd t294 x20_5))) (wrap64 (x20_5 + 1)) x293000_2 x293001_2 t294 t297) else (some false)) = some r := by rw [← hbq65] at H; exact H
                             have Nbq65 := Aside0.mk hbq65
                             clear hbq65
                             by_cases c66 : bq65 = true
                             ·
                              subst c66
                              have H1 : (headgatelaw18_SlotsFree.l1 kj48 (wrap64 (1 + t284)) l1 t283 x8_2 t300 t305 t306 t307 (wrap64 (x18_5 + 1)) (wrap64 (x19_5 + (rd t294 x20_5))) (wrap64 (x20_5 + 1)) x293000_2 x293001_2 t294 t297) = some r := by rw [if_pos rfl] at H; exact H
                              clear H
                              have H := H1
                              clear H1
                              have H' := Aside0.mk H
                              clear H
                              have hnb67 := NB292_302.out
                              have hnc67 := NB302_292.out
                              have hcz68_0 : wc.cell? ⟨gb292, 0, none⟩ = some (.slice Ao26 x293000_2.length co26) := (blk_cell BK292.out 0).trans rfl
                              have hcz68_1 : wc.cell? ⟨gb292, 1, none⟩ = some (.slice Ao27 x293001_2.length co27) := (blk_cell BK292.out 1).trans rfl
                              have hfz68_0 := blk_frozen BK292.out 0
                              have hfz68_1 := blk_frozen BK292.out 1
                              have p315 : 0 ≤ (x20_5 : Int) := of_decide_eq_true (by first | (with_reducible assumption) | assumption)
                              have q315 : x20_5 < (x293000_2.length : Int) := of_decide_eq_true (by first | (with_reducible assumption) | assumption)
                              obtain ⟨ad315, e315, hx315_0⟩ := Kd.at_int (Kd.R_reads' HO_293000.out).2.2 x20_5 p315 q315
                              cases e315
                              replace p315 := eq_true p315
                              replace q315 := eq_true q315
                              have p316 : 0 ≤ (x20_5 : Int) := of_decide_eq_true (by first | (with_reducible assumption) | assumption)
                              have q316 : x20_5 < (x293001_2.length : Int) := of_decide_eq_true (by first | (with_reducible assumption) | assumption)
                              obtain ⟨ad316, e316, hx316_0⟩ := Kd.at_bool (Kd.R_reads' HO_293001.out).2.2 x20_5 p316 q316
                              (try rw [← Nbq65.out] at hx316_0)
                              cases e316
                              replace p316 := eq_true p316
                              replace q316 := eq_true q316
                              go_wp2
                              go_roundg kj48
                              case measure => have := HJ5.out; have := HK2.out; have := HJ15.out; have := HJ24.out; have := HK5.out; have := HJ48.out; omega
                              case rel => exact ⟨(wrap64 (x18_5 + 1)), ((wrap64 (x19_5 + (rd t294 x20_5)))), (wrap64 (x20_5 + 1)), (by first | rfl | (simp; done) | (simp [*]; done)), (by first | rfl | (simp; done) | (simp [*]; done)), (by first | rfl | (simp; done) | (simp [*]; done)), H', ⟨by have := HJ5.out; have := HK2.out; have := HJ15.out; have := HJ24.out; have := HK5.out; have := HJ48.out; omega⟩, ⟨by (with_reducible repeat (first | apply Kd.R_alloc | apply Kd.R_drewN | apply Kd.R_drew)); exact HO_293000.out⟩, ⟨by (with_reducible repeat (first | apply Kd.R_alloc | apply Kd.R_drewN | apply Kd.R_drew)); exact HO_293001.out⟩, ⟨by (with_reducible repeat (first | apply Kd.R_alloc | apply Kd.R_drewN | apply Kd.R_drew)); exact HO_303000.out⟩, ⟨by (with_reducible repeat (first | apply Kd.R_alloc | apply Kd.R_drewN | apply Kd.R_drew)); exact HO_303001.out⟩, ⟨by (with_reducible repeat (first | refine blk_drewN ?_ _ | refine blk_drew ?_ | refine blk_alloc ?_ _)); exact BK292.out⟩, ⟨by (with_reducible repeat (first | refine blk_drewN ?_ _ | refine blk_drew ?_ | refine blk_alloc ?_ _)); exact BK302.out⟩, ⟨by repeat (first | (with_reducible first | exact HB.out | apply below_alloc | apply pw_below_drewN | apply below_drew1 | refine below_set ?_ GE292.out | refine below_set ?_ GE302.out) | exact HB.out)⟩⟩
                             ·
                              replace c66 := Bool.eq_false_iff.mpr c66
                              subst c66
                              have H1 : (some false) = some r := by rw [if_neg (show ¬ (false = true) by decide)] at H; exact H
                              clear H
                              have H := H1
                              clear H1
                              exact absurd H (by rw [HT.out]; simp)
                            ·
                             rw [if_neg c64] at H
                             exact absurd H (by simp)
                           ·
                            rw [if_neg c63] at H
                            have c63b0 : ((rd x293000_2 x20_5) == 0) = false := beq_eq_false_iff_ne.mpr c63
                            have c63b1 : ((rd x293000_2 x20_5) != 0) = true := bne_iff_ne.mpr c63
                            have H' := Aside0.mk H
                            clear H
                            have hnb69 := NB292_302.out
                            have hnc69 := NB302_292.out
                            have hcz70_0 : wc.cell? ⟨gb292, 0, none⟩ = some (.slice Ao26 x293000_2.length co26) := (blk_cell BK292.out 0).trans rfl
                            have hcz70_1 : wc.cell? ⟨gb292, 1, none⟩ = some (.slice Ao27 x293001_2.length co27) := (blk_cell BK292.out 1).trans rfl
                            have hfz70_0 := blk_frozen BK292.out 0
                            have hfz70_1 := blk_frozen BK292.out 1
                            have p315 : 0 ≤ (x20_5 : Int) := of_decide_eq_true (by first | (with_reducible assumption) | assumption)
                            have q315 : x20_5 < (x293000_2.length : Int) := of_decide_eq_true (by first | (with_reducible assumption) | assumption)
                            obtain ⟨ad315, e315, hx315_0⟩ := Kd.at_int (Kd.R_reads' HO_293000.out).2.2 x20_5 p315 q315
                            cases e315
                            replace p315 := eq_true p315
                            replace q315 := eq_true q315
                            go_wp2
                            go_roundg kj48
                            case measure => have := HJ5.out; have := HK2.out; have := HJ15.out; have := HJ24.out; have := HK5.out; have := HJ48.out; omega
                            case rel => exact ⟨(wrap64 (x18_5 + 1)), ((wrap64 (x19_5 + (rd t294 x20_5)))), (wrap64 (x20_5 + 1)), (by first | rfl | (simp; done) | (simp [*]; done)), (by first | rfl | (simp; done) | (simp [*]; done)), (by first | rfl | (simp; done) | (simp [*]; done)), H', ⟨by have := HJ5.out; have := HK2.out; have := HJ15.out; have := HJ24.out; have := HK5.out; have := HJ48.out; omega⟩, ⟨by (with_reducible repeat (first | apply Kd.R_alloc | apply Kd.R_drewN | apply Kd.R_drew)); exact HO_293000.out⟩, ⟨by (with_reducible repeat (first | apply Kd.R_alloc | apply Kd.R_drewN | apply Kd.R_drew)); exact HO_293001.out⟩, ⟨by (with_reducible repeat (first | apply Kd.R_alloc | apply Kd.R_drewN | apply Kd.R_drew)); exact HO_303000.out⟩, ⟨by (with_reducible repeat (first | apply Kd.R_alloc | apply Kd.R_drewN | apply Kd.R_drew)); exact HO_303001.out⟩, ⟨by (with_reducible repeat (first | refine blk_drewN ?_ _ | refine blk_drew ?_ | refine blk_alloc ?_ _)); exact BK292.out⟩, ⟨by (with_reducible repeat (first | refine blk_drewN ?_ _ | refine blk_drew ?_ | refine blk_alloc ?_ _)); exact BK302.out⟩, ⟨by repeat (first | (with_reducible first | exact HB.out | apply below_alloc | apply pw_below_drewN | apply below_drew1 | refine below_set ?_ GE292.out | refine below_set ?_ GE302.out) | exact HB.out)⟩⟩
                          ·
                           rw [if_neg c62] at H
                           exact absurd H (by simp)
                         ·
                          rw [if_neg c61] at H
                          exact absurd H (by simp)
                        ·
                         rw [if_neg c60] at H
                         have c60b0 : decide (x20_5 < t300) = false := decide_eq_false c60
                         clear c60
                         have H' := Aside0.mk H
                         clear H
                         go_wp2
                         go_roundg kj48
                         case measure => have := HJ5.out; have := HK2.out; have := HJ15.out; have := HJ24.out; have := HK5.out; have := HJ48.out; omega
                         case rel => exact ⟨(wrap64 (x18_5 + 1)), ((wrap64 (x19_5 + (rd t294 x20_5)))), (wrap64 (x20_5 + 1)), (by first | rfl | (simp; done) | (simp [*]; done)), (by first | rfl | (simp; done) | (simp [*]; done)), (by first | rfl | (simp; done) | (simp [*]; done)), H', ⟨by have := HJ5.out; have := HK2.out; have := HJ15.out; have := HJ24.out; have := HK5.out; have := HJ48.out; omega⟩, ⟨by (with_reducible repeat (first | apply Kd.R_alloc | apply Kd.R_drewN | apply Kd.R_drew)); exact HO_293000.out⟩, ⟨by (with_reducible repeat (first | apply Kd.R_alloc | apply Kd.R_drewN | apply Kd.R_drew)); exact HO_293001.out⟩, ⟨by (with_reducible repeat (first | apply Kd.R_alloc | apply Kd.R_drewN | apply Kd.R_drew)); exact HO_303000.out⟩, ⟨by (with_reducible repeat (first | apply Kd.R_alloc | apply Kd.R_drewN | apply Kd.R_drew)); exact HO_303001.out⟩, ⟨by (with_reducible repeat (first | refine blk_drewN ?_ _ | refine blk_drew ?_ | refine blk_alloc ?_ _)); exact BK292.out⟩, ⟨by (with_reducible repeat (first | refine blk_drewN ?_ _ | refine blk_drew ?_ | refine blk_alloc ?_ _)); exact BK302.out⟩, ⟨by repeat (first | (with_reducible first | exact HB.out | apply below_alloc | apply pw_below_drewN | apply below_drew1 | refine below_set ?_ GE292.out | refine below_set ?_ GE302.out) | exact HB.out)⟩⟩
                       ·
                        rw [if_neg c59] at H
                        have c59b0 : decide (0 ≤ t300) = false := decide_eq_false c59
                        clear c59
                        have H' := Aside0.mk H
                        clear H
                        go_wp2
                        go_roundg kj48
                        case measure => have := HJ5.out; have := HK2.out; have := HJ15.out; have := HJ24.out; have := HK5.out; have := HJ48.out; omega
                        case rel => exact ⟨(wrap64 (x18_5 + 1)), ((wrap64 (x19_5 + (rd t294 x20_5)))), (wrap64 (x20_5 + 1)), (by first | rfl | (simp; done) | (simp [*]; done)), (by first | rfl | (simp; done) | (simp [*]; done)), (by first | rfl | (simp; done) | (simp [*]; done)), H', ⟨by have := HJ5.out; have := HK2.out; have := HJ15.out; have := HJ24.out; have := HK5.out; have := HJ48.out; omega⟩, ⟨by (with_reducible repeat (first | apply Kd.R_alloc | apply Kd.R_drewN | apply Kd.R_drew)); exact HO_293000.out⟩, ⟨by (with_reducible repeat (first | apply Kd.R_alloc | apply Kd.R_drewN | apply Kd.R_drew)); exact HO_293001.out⟩, ⟨by (with_reducible repeat (first | apply Kd.R_alloc | apply Kd.R_drewN | apply Kd.R_drew)); exact HO_303000.out⟩, ⟨by (with_reducible repeat (first | apply Kd.R_alloc | apply Kd.R_drewN | apply Kd.R_drew)); exact HO_303001.out⟩, ⟨by (with_reducible repeat (first | refine blk_drewN ?_ _ | refine blk_drew ?_ | refine blk_alloc ?_ _)); exact BK292.out⟩, ⟨by (with_reducible repeat (first | refine blk_drewN ?_ _ | refine blk_drew ?_ | refine blk_alloc ?_ _)); exact BK302.out⟩, ⟨by repeat (first | (with_reducible first | exact HB.out | apply below_alloc | apply pw_below_drewN | apply below_drew1 | refine below_set ?_ GE292.out | refine below_set ?_ GE302.out) | exact HB.out)⟩⟩
                      ·
                       replace c58 := Bool.eq_false_iff.mpr c58
                       subst c58
                       have H1 : (if t300 ≥ 0 then (if x20_5 < t300 then (if 0 ≤ x20_5 then (if x20_5 < (x293000_2.length : Int) then (if (rd x293000_2 x20_5) = 0 then (if x20_5 < (x293001_2.length : Int) then (if rdOf false x293001_2 x20_5 = true then (headgatelaw18_SlotsFree.l1 kj48 (wrap64 (1 + t284)) l1 t283 x8_2 t300 t305 t306 t307 x18_5 (wrap64 (x19_5 + (rd t294 x20_5))) (wrap64 (x20_5 + 1)) x293000_2 x293001_2 t294 t297) else (some false)) else (none)) else (headgatelaw18_SlotsFree.l1 kj48 (wrap64 (1 + t284)) l1 t283 x8_2 t300 t305 t306 t307 x18_5 (wrap64 (x19_5 + (rd t294 x20_5))) (wrap64 (x20_5 + 1)) x293000_2 x293001_2 t294 t297)) else (none)) else (none)) else (headgatelaw18_SlotsFree.l1 kj48 (wrap64 (1 + t284)) l1 t283 x8_2 t300 t305 t306 t307 x18_5 (wrap64 (x19_5 + (rd t294 x20_5))) (wrap64 (x20_5 + 1)) x293000_2 x293001_2 t294 t297)) else (headgatelaw18_SlotsFree.l1 kj48 (wrap64 (1 + t284)) l1 t283 x8_2 t300 t305 t306 t307 x18_5 (wrap64 (x19_5 + (rd t294 x20_5))) (wrap64 (x20_5 + 1)) x293000_2 x293001_2 t294 t297)) = some r := by rw [if_neg (show ¬ (false = true) by decide)] at H; exact H
                       clear H
                       have H := H1
                       clear H1
                       by_cases c71 : t300 ≥ 0
                       ·
                        rw [if_pos c71] at H
                        have c71b0 : decide (0 ≤ t300) = true := decide_eq_true c71
                        clear c71
                        by_cases c72 : x20_5 < t300
                        ·
                         rw [if_pos c72] at H
                         have c72b0 : decide (x20_5 < t300) = true := decide_eq_true c72
                         clear c72
                         by_cases c73 : 0 ≤ x20_5
                         ·
                          rw [if_pos c73] at H
                          have c73b0 : decide (0 ≤ x20_5) = true := decide_eq_true c73
                          clear c73
                          by_cases c74 : x20_5 < (x293000_2.length : Int)
                          ·
                           rw [if_pos c74] at H
                           have c74b0 : decide (x20_5 < (x293000_2.length : Int)) = true := decide_eq_true c74
                           clear c74
                           by_cases c75 : (rd x293000_2 x20_5) = 0
                           ·
                            rw [if_pos c75] at H
                            have c75b0 : ((rd x293000_2 x20_5) == 0) = true := beq_iff_eq.mpr c75
                            have c75b1 : ((rd x293000_2 x20_5) != 0) = false := bne_eq_false_iff_eq.mpr c75
                            clear c75
                            by_cases c76 : x20_5 < (x293001_2.length : Int)
                            ·
                             rw [if_pos c76] at H
                             have c76b0 : decide (x20_5 < (x293001_2.length : Int)) = true := decide_eq_true c76
                             clear c76
                             obtain ⟨bq77, hbq77⟩ : ∃ b_ : Bool, b_ = (rdOf false x293001_2 x20_5) := ⟨_, rfl⟩
                             replace H : (if bq77 = true then (headgatelaw18_SlotsFree.l1 kj48 (wrap64 (1 + t284)) l1 t283 x8_2 t300 t305 t306 t307 x18_5 (wrap64 (x19_5 + (rd t294 x20_5))) (wrap64 (x20_5 + 1)) x293000_2 x293001_2 t294 t297) else (some false)) = some r := by rw [← hbq77] at H; exact H
                             have Nbq77 := Aside0.mk hbq77
                             clear hbq77
                             by_cases c78 : bq77 = true
                             ·
                              subst c78
                              have H1 : (headgatelaw18_SlotsFree.l1 kj48 (wrap64 (1 + t284)) l1 t283 x8_2 t300 t305 t306 t307 x18_5 (wrap64 (x19_5 + (rd t294 x20_5))) (wrap64 (x20_5 + 1)) x293000_2 x293001_2 t294 t297) = some r := by rw [if_pos rfl] at H; exact H
                              clear H
                              have H := H1
                              clear H1
                              have H' := Aside0.mk H
                              clear H
                              have hnb79 := NB292_302.out
                              have hnc79 := NB302_292.out
                              have hcz80_0 : wc.cell? ⟨gb292, 0, none⟩ = some (.slice Ao26 x293000_2.length co26) := (blk_cell BK292.out 0).trans rfl
                              have hcz80_1 : wc.cell? ⟨gb292, 1, none⟩ = some (.slice Ao27 x293001_2.length co27) := (blk_cell BK292.out 1).trans rfl
                              have hfz80_0 := blk_frozen BK292.out 0
                              have hfz80_1 := blk_frozen BK292.out 1
                              have p317 : 0 ≤ (x20_5 : Int) := of_decide_eq_true (by first | (with_reducible assumption) | assumption)
                              have q317 : x20_5 < (x293000_2.length : Int) := of_decide_eq_true (by first | (with_reducible assumption) | assumption)
                              obtain ⟨ad317, e317, hx317_0⟩ := Kd.at_int (Kd.R_reads' HO_293000.out).2.2 x20_5 p317 q317
                              cases e317
                              replace p317 := eq_true p317
                              replace q317 := eq_true q317
                              have p318 : 0 ≤ (x20_5 : Int) := of_decide_eq_true (by first | (with_reducible assumption) | assumption)
                              have q318 : x20_5 < (x293001_2.length : Int) := of_decide_eq_true (by first | (with_reducible assumption) | assumption)
                              obtain ⟨ad318, e318, hx318_0⟩ := Kd.at_bool (Kd.R_reads' HO_293001.out).2.2 x20_5 p318 q318
                              (try rw [← Nbq77.out] at hx318_0)
                              cases e318
                              replace p318 := eq_true p318
                              replace q318 := eq_true q318
                              go_wp2
                              go_roundg kj48
                              case measure => have := HJ5.out; have := HK2.out; have := HJ15.out; have := HJ24.out; have := HK5.out; have := HJ48.out; omega
                              case rel => exact ⟨(x18_5), ((wrap64 (x19_5 + (rd t294 x20_5)))), (wrap64 (x20_5 + 1)), (by first | rfl | (simp; done) | (simp [*]; done)), (by first | rfl | (simp; done) | (simp [*]; done)), (by first | rfl | (simp; done) | (simp [*]; done)), H', ⟨by have := HJ5.out; have := HK2.out; have := HJ15.out; have := HJ24.out; have := HK5.out; have := HJ48.out; omega⟩, ⟨by (with_reducible repeat (first | apply Kd.R_alloc | apply Kd.R_drewN | apply Kd.R_drew)); exact HO_293000.out⟩, ⟨by (with_reducible repeat (first | apply Kd.R_alloc | apply Kd.R_drewN | apply Kd.R_drew)); exact HO_293001.out⟩, ⟨by (with_reducible repeat (first | apply Kd.R_alloc | apply Kd.R_drewN | apply Kd.R_drew)); exact HO_303000.out⟩, ⟨by (with_reducible repeat (first | apply Kd.R_alloc | apply Kd.R_drewN | apply Kd.R_drew)); exact HO_303001.out⟩, ⟨by (with_reducible repeat (first | refine blk_drewN ?_ _ | refine blk_drew ?_ | refine blk_alloc ?_ _)); exact BK292.out⟩, ⟨by (with_reducible repeat (first | refine blk_drewN ?_ _ | refine blk_drew ?_ | refine blk_alloc ?_ _)); exact BK302.out⟩, ⟨by repeat (first | (with_reducible first | exact HB.out | apply below_alloc | apply pw_below_drewN | apply below_drew1 | refine below_set ?_ GE292.out | refine below_set ?_ GE302.out) | exact HB.out)⟩⟩
                             ·
                              replace c78 := Bool.eq_false_iff.mpr c78
                              subst c78
                              have H1 : (some false) = some r := by rw [if_neg (show ¬ (false = true) by decide)] at H; exact H
                              clear H
                              have H := H1
                              clear H1
                              exact absurd H (by rw [HT.out]; simp)
                            ·
                             rw [if_neg c76] at H
                             exact absurd H (by simp)
                           ·
                            rw [if_neg c75] at H
                            have c75b0 : ((rd x293000_2 x20_5) == 0) = false := beq_eq_false_iff_ne.mpr c75
                            have c75b1 : ((rd x293000_2 x20_5) != 0) = true := bne_iff_ne.mpr c75
                            have H' := Aside0.mk H
                            clear H
                            have hnb81 := NB292_302.out
                            have hnc81 := NB302_292.out
                            have hcz82_0 : wc.cell? ⟨gb292, 0, none⟩ = some (.slice Ao26 x293000_2.length co26) := (blk_cell BK292.out 0).trans rfl
                            have hcz82_1 : wc.cell? ⟨gb292, 1, none⟩ = some (.slice Ao27 x293001_2.length co27) := (blk_cell BK292.out 1).trans rfl
                            have hfz82_0 := blk_frozen BK292.out 0
                            have hfz82_1 := blk_frozen BK292.out 1
                            have p317 : 0 ≤ (x20_5 : Int) := of_decide_eq_true (by first | (with_reducible assumption) | assumption)
                            have q317 : x20_5 < (x293000_2.length : Int) := of_decide_eq_true (by first | (with_reducible assumption) | assumption)
                            obtain ⟨ad317, e317, hx317_0⟩ := Kd.at_int (Kd.R_reads' HO_293000.out).2.2 x20_5 p317 q317
                            cases e317
                            replace p317 := eq_true p317
                            replace q317 := eq_true q317
                            go_wp2
                            go_roundg kj48
                            case measure => have := HJ5.out; have := HK2.out; have := HJ15.out; have := HJ24.out; have := HK5.out; have := HJ48.out; omega
                            case rel => exact ⟨(x18_5), ((wrap64 (x19_5 + (rd t294 x20_5)))), (wrap64 (x20_5 + 1)), (by first | rfl | (simp; done) | (simp [*]; done)), (by first | rfl | (simp; done) | (simp [*]; done)), (by first | rfl | (simp; done) | (simp [*]; done)), H', ⟨by have := HJ5.out; have := HK2.out; have := HJ15.out; have := HJ24.out; have := HK5.out; have := HJ48.out; omega⟩, ⟨by (with_reducible repeat (first | apply Kd.R_alloc | apply Kd.R_drewN | apply Kd.R_drew)); exact HO_293000.out⟩, ⟨by (with_reducible repeat (first | apply Kd.R_alloc | apply Kd.R_drewN | apply Kd.R_drew)); exact HO_293001.out⟩, ⟨by (with_reducible repeat (first | apply Kd.R_alloc | apply Kd.R_drewN | apply Kd.R_drew)); exact HO_303000.out⟩, ⟨by (with_reducible repeat (first | apply Kd.R_alloc | apply Kd.R_drewN | apply Kd.R_drew)); exact HO_303001.out⟩, ⟨by (with_reducible repeat (first | refine blk_drewN ?_ _ | refine blk_drew ?_ | refine blk_alloc ?_ _)); exact BK292.out⟩, ⟨by (with_reducible repeat (first | refine blk_drewN ?_ _ | refine blk_drew ?_ | refine blk_alloc ?_ _)); exact BK302.out⟩, ⟨by repeat (first | (with_reducible first | exact HB.out | apply below_alloc | apply pw_below_drewN | apply below_drew1 | refine below_set ?_ GE292.out | refine below_set ?_ GE302.out) | exact HB.out)⟩⟩
                          ·
                           rw [if_neg c74] at H
                           exact absurd H (by simp)
                         ·
                          rw [if_neg c73] at H
                          exact absurd H (by simp)
                        ·
                         rw [if_neg c72] at H
                         have c72b0 : decide (x20_5 < t300) = false := decide_eq_false c72
                         clear c72
                         have H' := Aside0.mk H
                         clear H
                         go_wp2
                         go_roundg kj48
                         case measure => have := HJ5.out; have := HK2.out; have := HJ15.out; have := HJ24.out; have := HK5.out; have := HJ48.out; omega
                         case rel => exact ⟨(x18_5), ((wrap64 (x19_5 + (rd t294 x20_5)))), (wrap64 (x20_5 + 1)), (by first | rfl | (simp; done) | (simp [*]; done)), (by first | rfl | (simp; done) | (simp [*]; done)), (by first | rfl | (simp; done) | (simp [*]; done)), H', ⟨by have := HJ5.out; have := HK2.out; have := HJ15.out; have := HJ24.out; have := HK5.out; have := HJ48.out; omega⟩, ⟨by (with_reducible repeat (first | apply Kd.R_alloc | apply Kd.R_drewN | apply Kd.R_drew)); exact HO_293000.out⟩, ⟨by (with_reducible repeat (first | apply Kd.R_alloc | apply Kd.R_drewN | apply Kd.R_drew)); exact HO_293001.out⟩, ⟨by (with_reducible repeat (first | apply Kd.R_alloc | apply Kd.R_drewN | apply Kd.R_drew)); exact HO_303000.out⟩, ⟨by (with_reducible repeat (first | apply Kd.R_alloc | apply Kd.R_drewN | apply Kd.R_drew)); exact HO_303001.out⟩, ⟨by (with_reducible repeat (first | refine blk_drewN ?_ _ | refine blk_drew ?_ | refine blk_alloc ?_ _)); exact BK292.out⟩, ⟨by (with_reducible repeat (first | refine blk_drewN ?_ _ | refine blk_drew ?_ | refine blk_alloc ?_ _)); exact BK302.out⟩, ⟨by repeat (first | (with_reducible first | exact HB.out | apply below_alloc | apply pw_below_drewN | apply below_drew1 | refine below_set ?_ GE292.out | refine below_set ?_ GE302.out) | exact HB.out)⟩⟩
                       ·
                        rw [if_neg c71] at H
                        have c71b0 : decide (0 ≤ t300) = false := decide_eq_false c71
                        clear c71
                        have H' := Aside0.mk H
                        clear H
                        go_wp2
                        go_roundg kj48
                        case measure => have := HJ5.out; have := HK2.out; have := HJ15.out; have := HJ24.out; have := HK5.out; have := HJ48.out; omega
                        case rel => exact ⟨(x18_5), ((wrap64 (x19_5 + (rd t294 x20_5)))), (wrap64 (x20_5 + 1)), (by first | rfl | (simp; done) | (simp [*]; done)), (by first | rfl | (simp; done) | (simp [*]; done)), (by first | rfl | (simp; done) | (simp [*]; done)), H', ⟨by have := HJ5.out; have := HK2.out; have := HJ15.out; have := HJ24.out; have := HK5.out; have := HJ48.out; omega⟩, ⟨by (with_reducible repeat (first | apply Kd.R_alloc | apply Kd.R_drewN | apply Kd.R_drew)); exact HO_293000.out⟩, ⟨by (with_reducible repeat (first | apply Kd.R_alloc | apply Kd.R_drewN | apply Kd.R_drew)); exact HO_293001.out⟩, ⟨by (with_reducible repeat (first | apply Kd.R_alloc | apply Kd.R_drewN | apply Kd.R_drew)); exact HO_303000.out⟩, ⟨by (with_reducible repeat (first | apply Kd.R_alloc | apply Kd.R_drewN | apply Kd.R_drew)); exact HO_303001.out⟩, ⟨by (with_reducible repeat (first | refine blk_drewN ?_ _ | refine blk_drew ?_ | refine blk_alloc ?_ _)); exact BK292.out⟩, ⟨by (with_reducible repeat (first | refine blk_drewN ?_ _ | refine blk_drew ?_ | refine blk_alloc ?_ _)); exact BK302.out⟩, ⟨by repeat (first | (with_reducible first | exact HB.out | apply below_alloc | apply pw_below_drewN | apply below_drew1 | refine below_set ?_ GE292.out | refine below_set ?_ GE302.out) | exact HB.out)⟩⟩
                   ·
                    rw [if_neg c48] at H
                    exact absurd H (by simp)
                  ·
                   rw [if_neg c47] at H
                   exact absurd H (by simp)
                 ·
                  rw [if_neg c46] at H
                  have c46b0 : decide (x20_5 < (wrap64 (1 + t284))) = false := decide_eq_false c46
                  clear c46
                  by_cases c83 : t300 ≥ (wrap64 (1 + t284))
                  ·
                   rw [if_pos c83] at H
                   have c83b0 : decide ((wrap64 (1 + t284)) ≤ t300) = true := decide_eq_true c83
                   clear c83
                   exact absurd H (by rw [HT.out]; simp)
                  ·
                   rw [if_neg c83] at H
                   have c83b0 : decide ((wrap64 (1 + t284)) ≤ t300) = false := decide_eq_false c83
                   clear c83
                   by_cases c84 : t300 ≥ 0
                   ·
                    rw [if_pos c84] at H
                    have c84b0 : decide (0 ≤ t300) = true := decide_eq_true c84
                    clear c84
                    by_cases c85 : 0 ≤ t300
                    ·
                     rw [if_pos c85] at H
                     have c85b0 : decide (0 ≤ t300) = true := decide_eq_true c85
                     clear c85
                     by_cases c86 : t300 < (x293000_2.length : Int)
                     ·
                      rw [if_pos c86] at H
                      have c86b0 : decide (t300 < (x293000_2.length : Int)) = true := decide_eq_true c86
                      clear c86
                      by_cases c87 : (rd x293000_2 t300) = 0
                      ·
                       rw [if_pos c87] at H
                       have c87b0 : ((rd x293000_2 t300) == 0) = true := beq_iff_eq.mpr c87
                       have c87b1 : ((rd x293000_2 t300) != 0) = false := bne_eq_false_iff_eq.mpr c87
                       clear c87
                       by_cases c88 : t300 < (x293001_2.length : Int)
                       ·
                        rw [if_pos c88] at H
                        have c88b0 : decide (t300 < (x293001_2.length : Int)) = true := decide_eq_true c88
                        clear c88
                        obtain ⟨bq89, hbq89⟩ : ∃ b_ : Bool, b_ = (rdOf false x293001_2 t300) := ⟨_, rfl⟩
                        replace H : (if bq89 = true then (some false) else (if t300 < (t297.length : Int) then (if rdOf false t297 t300 = true then (if (wrap64 ((wrap64 (t305 + t306)) + x18_5)) = (wrap64 (1 + t284)) then (if t307 = x19_5 then (headgatelaw18_SlotsFree.l0 k5 (wrap64 (1 + t284)) l1 t283 (wrap64 (x8_2 + 1)) t294 t297) else (some false)) else (some false)) else (some false)) else (none))) = some r := by rw [← hbq89] at H; exact H
                        have Nbq89 := Aside0.mk hbq89
                        clear hbq89
                        by_cases c90 : bq89 = true
                        ·
                         subst c90
                         have H1 : (some false) = some r := by rw [if_pos rfl] at H; exact H
                         clear H
                         have H := H1
                         clear H1
                         exact absurd H (by rw [HT.out]; simp)
                        ·
                         replace c90 := Bool.eq_false_iff.mpr c90
                         subst c90
                         have H1 : (if t300 < (t297.length : Int) then (if rdOf false t297 t300 = true then (if (wrap64 ((wrap64 (t305 + t306)) + x18_5)) = (wrap64 (1 + t284)) then (if t307 = x19_5 then (headgatelaw18_SlotsFree.l0 k5 (wrap64 (1 + t284)) l1 t283 (wrap64 (x8_2 + 1)) t294 t297) else (some false)) else (some false)) else (some false)) else (none)) = some r := by rw [if_neg (show ¬ (false = true) by decide)] at H; exact H
                         clear H
                         have H := H1
                         clear H1
                         by_cases c91 : t300 < (t297.length : Int)
                         ·
                          rw [if_pos c91] at H
                          have c91b0 : decide (t300 < (t297.length : Int)) = true := decide_eq_true c91
                          clear c91
                          obtain ⟨bq92, hbq92⟩ : ∃ b_ : Bool, b_ = (rdOf false t297 t300) := ⟨_, rfl⟩
                          replace H : (if bq92 = true then (if (wrap64 ((wrap64 (t305 + t306)) + x18_5)) = (wrap64 (1 + t284)) then (if t307 = x19_5 then (headgatelaw18_SlotsFree.l0 k5 (wrap64 (1 + t284)) l1 t283 (wrap64 (x8_2 + 1)) t294 t297) else (some false)) else (some false)) else (some false)) = some r := by rw [← hbq92] at H; exact H
                          have Nbq92 := Aside0.mk hbq92
                          clear hbq92
                          by_cases c93 : bq92 = true
                          ·
                           subst c93
                           have H1 : (if (wrap64 ((wrap64 (t305 + t306)) + x18_5)) = (wrap64 (1 + t284)) then (if t307 = x19_5 then (headgatelaw18_SlotsFree.l0 k5 (wrap64 (1 + t284)) l1 t283 (wrap64 (x8_2 + 1)) t294 t297) else (some false)) else (some false)) = some r := by rw [if_pos rfl] at H; exact H
                           clear H
                           have H := H1
                           clear H1
                           by_cases c94 : (wrap64 ((wrap64 (t305 + t306)) + x18_5)) = (wrap64 (1 + t284))
                           ·
                            rw [if_pos c94] at H
                            have c94b0 : ((wrap64 ((wrap64 (t305 + t306)) + x18_5)) == (wrap64 (1 + t284))) = true := beq_iff_eq.mpr c94
                            have c94b1 : ((wrap64 ((wrap64 (t305 + t306)) + x18_5)) != (wrap64 (1 + t284))) = false := bne_eq_false_iff_eq.mpr c94
                            clear c94
                            by_cases c95 : t307 = x19_5
                            ·
                             rw [if_pos c95] at H
                             have c95b0 : (t307 == x19_5) = true := beq_iff_eq.mpr c95
                             have c95b1 : (t307 != x19_5) = false := bne_eq_false_iff_eq.mpr c95
                             clear c95
                             have H' := Aside0.mk H
                             clear H
                             have hnb96 := NB292_302.out
                             have hnc96 := NB302_292.out
                             have hcz97_0 : wr.cell? ⟨gb292, 0, none⟩ = some (.slice Ao26 x293000_2.length co26) := (blk_cell BK292.out 0).trans rfl
                             have hcz97_1 : wr.cell? ⟨gb292, 1, none⟩ = some (.slice Ao27 x293001_2.length co27) := (blk_cell BK292.out 1).trans rfl
                             have hfz97_0 := blk_frozen BK292.out 0
                             have hfz97_1 := blk_frozen BK292.out 1
                             have p309 : 0 ≤ (t300 : Int) := of_decide_eq_true (by first | (with_reducible assumption) | assumption)
                             have q309 : t300 < (x293000_2.length : Int) := of_decide_eq_true (by first | (with_reducible assumption) | assumption)
                             obtain ⟨ad309, e309, hx309_0⟩ := Kd.at_int (Kd.R_reads' HO_293000.out).2.2 t300 p309 q309
                             cases e309
                             replace p309 := eq_true p309
                             replace q309 := eq_true q309
                             have p310 : 0 ≤ (t300 : Int) := of_decide_eq_true (by first | (with_reducible assumption) | assumption)
                             have q310 : t300 < (x293001_2.length : Int) := of_decide_eq_true (by first | (with_reducible assumption) | assumption)
                             obtain ⟨ad310, e310, hx310_0⟩ := Kd.at_bool (Kd.R_reads' HO_293001.out).2.2 t300 p310 q310
                             (try rw [← Nbq89.out] at hx310_0)
                             (try rw [← Nbq92.out] at hx310_0)
                             cases e310
                             replace p310 := eq_true p310
                             replace q310 := eq_true q310
                             have hcz98_0 : wr.cell? ⟨gb302, 0, none⟩ = some (.slice Ao32 t294.length co32) := (blk_cell BK302.out 0).trans rfl
                             have hcz98_1 : wr.cell? ⟨gb302, 1, none⟩ = some (.slice Ao34 t297.length co34) := (blk_cell BK302.out 1).trans rfl
                             have hfz98_0 := blk_frozen BK302.out 0
                             have hfz98_1 := blk_frozen BK302.out 1
                             have p311 : 0 ≤ (t300 : Int) := of_decide_eq_true (by first | (with_reducible assumption) | assumption)
                             have q311 : t300 < (t297.length : Int) := of_decide_eq_true (by first | (with_reducible assumption) | assumption)
                             obtain ⟨ad311, e311, hx311_0⟩ := Kd.at_bool (Kd.R_reads' HO_303001.out).2.2 t300 p311 q311
                             (try rw [← Nbq89.out] at hx311_0)
                             (try rw [← Nbq92.out] at hx311_0)
                             cases e311
                             replace p311 := eq_true p311
                             replace q311 := eq_true q311
                             go_wp2
                             go_roundg k5
                             case measure => have := HJ5.out; have := HK2.out; have := HJ15.out; have := HJ24.out; have := HK5.out; omega
                             case rel => exact ⟨(wrap64 (x8_2 + 1)), (t294), (t297), (.slice Ao32 t294.length co32), (.slice (some ad311) t297.length co34), (by first | rfl | (simp; done) | (simp [*]; done)), H', ⟨by have := HJ5.out; have := HK2.out; have := HJ15.out; have := HJ24.out; have := HK5.out; omega⟩, ⟨by (with_reducible repeat (first | apply Kd.R_alloc | apply Kd.R_drewN | apply Kd.R_drew)); exact Kd.R_mono (Kd.R_far (p := ⟨gb292, 1, none⟩) (Kd.R_far (p := ⟨gb292, 0, none⟩) (Kd.R_types HO_303000.out BK292.out (by decide)) (fun _ hk => hk.2) (.slice Ao32 t294.length co32)) (fun _ hk => hk.2) (.slice (some ad311) t297.length co34)) (fun _ hk => trivial)⟩, ⟨by (with_reducible repeat (first | apply Kd.R_alloc | apply Kd.R_drewN | apply Kd.R_drew)); exact Kd.R_mono (Kd.R_far (p := ⟨gb292, 1, none⟩) (Kd.R_far (p := ⟨gb292, 0, none⟩) (Kd.R_types HO_303001.out BK292.out (by decide)) (fun _ hk => hk.2) (.slice Ao32 t294.length co32)) (fun _ hk => hk.2) (.slice (some ad311) t297.length co34)) (fun _ hk => trivial)⟩, ⟨by (with_reducible repeat (first | refine blk_drewN ?_ _ | refine blk_drew ?_ | refine blk_alloc ?_ _)); refine blk_put (cs := #[.slice Ao32 t294.length co32, .slice (some ad310) x293001_2.length co27]) ?_ 1 _ rfl; (with_reducible repeat (first | refine blk_drewN ?_ _ | refine blk_drew ?_ | refine blk_alloc ?_ _)); refine blk_put (cs := #[.slice (some ad309) x293000_2.length co26, .slice (some ad310) x293001_2.length co27]) ?_ 0 _ rfl; (with_reducible repeat (first | refine blk_drewN ?_ _ | refine blk_drew ?_ | refine blk_alloc ?_ _)); exact BK292.out⟩, ⟨by repeat (first | (with_reducible first | exact HB.out | apply below_alloc | apply pw_below_drewN | apply below_drew1 | refine below_set ?_ GE292.out | refine below_set ?_ GE302.out) | exact HB.out)⟩⟩
                            ·
                             rw [if_neg c95] at H
                             have c95b0 : (t307 == x19_5) = false := beq_eq_false_iff_ne.mpr c95
                             have c95b1 : (t307 != x19_5) = true := bne_iff_ne.mpr c95
                             exact absurd H (by rw [HT.out]; simp)
                           ·
                            rw [if_neg c94] at H
                            have c94b0 : ((wrap64 ((wrap64 (t305 + t306)) + x18_5)) == (wrap64 (1 + t284))) = false := beq_eq_false_iff_ne.mpr c94
                            have c94b1 : ((wrap64 ((wrap64 (t305 + t306)) + x18_5)) != (wrap64 (1 + t284))) = true := bne_iff_ne.mpr c94
                            exact absurd H (by rw [HT.out]; simp)
                          ·
                           replace c93 := Bool.eq_false_iff.mpr c93
                           subst c93
                           have H1 : (some false) = some r := by rw [if_neg (show ¬ (false = true) by decide)] at H; exact H
                           clear H
                           have H := H1
                           clear H1
                           exact absurd H (by rw [HT.out]; simp)
                         ·
                          rw [if_neg c91] at H
                          exact absurd H (by simp)
                       ·
                        rw [if_neg c88] at H
                        exact absurd H (by simp)
                      ·
                       rw [if_neg c87] at H
                       have c87b0 : ((rd x293000_2 t300) == 0) = false := beq_eq_false_iff_ne.mpr c87
                       have c87b1 : ((rd x293000_2 t300) != 0) = true := bne_iff_ne.mpr c87
                       exact absurd H (by rw [HT.out]; simp)
                     ·
                      rw [if_neg c86] at H
                      exact absurd H (by simp)
                    ·
                     rw [if_neg c85] at H
                     exact absurd H (by simp)
                   ·
                    rw [if_neg c84] at H
                    have c84b0 : decide (0 ≤ t300) = false := decide_eq_false c84
                    clear c84
                    by_cases c99 : (wrap64 ((wrap64 (t305 + t306)) + x18_5)) = (wrap64 (1 + t284))
                    ·
                     rw [if_pos c99] at H
                     have c99b0 : ((wrap64 ((wrap64 (t305 + t306)) + x18_5)) == (wrap64 (1 + t284))) = true := beq_iff_eq.mpr c99
                     have c99b1 : ((wrap64 ((wrap64 (t305 + t306)) + x18_5)) != (wrap64 (1 + t284))) = false := bne_eq_false_iff_eq.mpr c99
                     clear c99
                     by_cases c100 : t307 = x19_5
                     ·
                      rw [if_pos c100] at H
                      have c100b0 : (t307 == x19_5) = true := beq_iff_eq.mpr c100
                      have c100b1 : (t307 != x19_5) = false := bne_eq_false_iff_eq.mpr c100
                      clear c100
                      have H' := Aside0.mk H
                      clear H
                      have hnb101 := NB302_292.out
                      have hnc101 := NB292_302.out
                      have hcz102_0 : wr.cell? ⟨gb302, 0, none⟩ = some (.slice Ao32 t294.length co32) := (blk_cell BK302.out 0).trans rfl
                      have hcz102_1 : wr.cell? ⟨gb302, 1, none⟩ = some (.slice Ao34 t297.length co34) := (blk_cell BK302.out 1).trans rfl
                      have hfz102_0 := blk_frozen BK302.out 0
                      have hfz102_1 := blk_frozen BK302.out 1
                      have hcz103_0 : wr.cell? ⟨gb292, 0, none⟩ = some (.slice Ao26 x293000_2.length co26) := (blk_cell BK292.out 0).trans rfl
                      have hcz103_1 : wr.cell? ⟨gb292, 1, none⟩ = some (.slice Ao27 x293001_2.length co27) := (blk_cell BK292.out 1).trans rfl
                      have hfz103_0 := blk_frozen BK292.out 0
                      have hfz103_1 := blk_frozen BK292.out 1
                      go_wp2
                      go_roundg k5
                      case measure => have := HJ5.out; have := HK2.out; have := HJ15.out; have := HJ24.out; have := HK5.out; omega
                      case rel => exact ⟨(wrap64 (x8_2 + 1)), (t294), (t297), (.slice Ao32 t294.length co32), (.slice Ao34 t297.length co34), (by first | rfl | (simp; done) | (simp [*]; done)), H', ⟨by have := HJ5.out; have := HK2.out; have := HJ15.out; have := HJ24.out; have := HK5.out; omega⟩, ⟨by (with_reducible repeat (first | apply Kd.R_alloc | apply Kd.R_drewN | apply Kd.R_drew)); exact Kd.R_mono (Kd.R_far (p := ⟨gb292, 1, none⟩) (Kd.R_far (p := ⟨gb292, 0, none⟩) (Kd.R_types HO_303000.out BK292.out (by decide)) (fun _ hk => hk.2) (.slice Ao32 t294.length co32)) (fun _ hk => hk.2) (.slice Ao34 t297.length co34)) (fun _ hk => trivial)⟩, ⟨by (with_reducible repeat (first | apply Kd.R_alloc | apply Kd.R_drewN | apply Kd.R_drew)); exact Kd.R_mono (Kd.R_far (p := ⟨gb292, 1, none⟩) (Kd.R_far (p := ⟨gb292, 0, none⟩) (Kd.R_types HO_303001.out BK292.out (by decide)) (fun _ hk => hk.2) (.slice Ao32 t294.length co32)) (fun _ hk => hk.2) (.slice Ao34 t297.length co34)) (fun _ hk => trivial)⟩, ⟨by (with_reducible repeat (first | refine blk_drewN ?_ _ | refine blk_drew ?_ | refine blk_alloc ?_ _)); refine blk_put (cs := #[.slice Ao32 t294.length co32, .slice Ao27 x293001_2.length co27]) ?_ 1 _ rfl; (with_reducible repeat (first | refine blk_drewN ?_ _ | refine blk_drew ?_ | refine blk_alloc ?_ _)); refine blk_put (cs := #[.slice Ao26 x293000_2.length co26, .slice Ao27 x293001_2.length co27]) ?_ 0 _ rfl; (with_reducible repeat (first | refine blk_drewN ?_ _ | refine blk_drew ?_ | refine blk_alloc ?_ _)); exact BK292.out⟩, ⟨by repeat (first | (with_reducible first | exact HB.out | apply below_alloc | apply pw_below_drewN | apply below_drew1 | refine below_set ?_ GE292.out | refine below_set ?_ GE302.out) | exact HB.out)⟩⟩
                     ·
                      rw [if_neg c100] at H
                      have c100b0 : (t307 == x19_5) = false := beq_eq_false_iff_ne.mpr c100
                      have c100b1 : (t307 != x19_5) = true := bne_iff_ne.mpr c100
                      exact absurd H (by rw [HT.out]; simp)
                    ·
                     rw [if_neg c99] at H
                     have c99b0 : ((wrap64 ((wrap64 (t305 + t306)) + x18_5)) == (wrap64 (1 + t284))) = false := beq_eq_false_iff_ne.mpr c99
                     have c99b1 : ((wrap64 ((wrap64 (t305 + t306)) + x18_5)) != (wrap64 (1 + t284))) = true := bne_iff_ne.mpr c99
                     exact absurd H (by rw [HT.out]; simp)
           ·
            rw [if_neg c22] at H
            have c22b0 : (t301 == 0) = false := beq_eq_false_iff_ne.mpr c22
            have c22b1 : (t301 != 0) = true := bne_iff_ne.mpr c22
            have H' := Aside0.mk H
            clear H
            obtain ⟨Ao104, co104, eo104⟩ := Kd.R_slice HO_293000.out
            subst eo104
            obtain ⟨Ao105, co105, eo105⟩ := Kd.R_slice HO_293001.out
            subst eo105
            try go_wp2
            have n0_ := Aside0.mk (Kd.R_drew HO_293000.out)
            have n1_ := Aside0.mk (Kd.R_drew HO_293001.out)
            have n2_ := Aside0.mk (blk_drew BK292.out)
            have n3_ := Aside0.mk (below_drew1 HB.out)
            clear HO_293000
            clear HO_293001
            clear BK292
            clear HB
            have HO_293000 := n0_
            have HO_293001 := n1_
            have BK292 := n2_
            have HB := n3_
            clear n0_ n1_ n2_ n3_
            have p293 : 0 ≤ (x8_2 : Int) := of_decide_eq_true (by first | (with_reducible assumption) | assumption)
            have q293 : x8_2 < (l1.length : Int) := of_decide_eq_true (by first | (with_reducible assumption) | assumption)
            obtain ⟨ad293, e293, hx293_0⟩ := Kd.at_int HR1.out x8_2 p293 q293
            have hw293_0 := hx293_0
            cases e293
            replace hx293_0 := (HB.out.cell (World.block_lt_of_cell? w _ hx293_0)).trans hx293_0
            replace p293 := eq_true p293
            replace q293 := eq_true q293
            refine start_ (n := 14) (S := fun w' => w'.cell? ⟨gb292, 0, none⟩ = some (.slice Ao104 x293000_2.length co104) ∧ w'.cell? ⟨gb292, 1, none⟩ = some (.slice Ao105 x293001_2.length co105) ∧ w'.cell? (ad293.add (x8_2).toNat) = some (.int .i64 (rd l1 x8_2))) (ds := []) #[false, false, false, false, false, false, false, false, false, false, false, false, false, false] (by kernel_rfl) rfl rfl ⟨(blk_cell BK292.out 0).trans rfl, (blk_cell BK292.out 1).trans rfl, ((HB.out.cell (World.block_lt_of_cell? w _ hw293_0)).trans hw293_0)⟩ (fun hHeld => ?_); refine with_tabW headgatelaw18_SlotsFree.tab9 headgatelaw18_SlotsFree.bits9 (fun HT_ HW_ => ?_)
            generalize wc.drew = w106 at HO_293000 HO_293001 BK292 HB hx293_0 hHeld ⊢
            refine pure_ (i := 1) (N := some 51) (v := ?_) (a' := ?_) #[false, true, false, false, false, false, false, false, false, false, false, false, false, false] rfl rfl (any_of HT_.out (by kernel_rfl)) (fun _ _ _ h => h) (Or.inl ⟨by rfl, ?_⟩) ?_ ?_
            rotate_left
            ·
             intro w'
             go_simp
             with_reducible rfl
            rotate_left
            ·
             simp only [Act.put, List.setIfInBounds_toArray, List.set_cons_zero, List.set_cons_succ, i64_w, i32_w]
             rfl
            refine pure_ (i := 2) (N := some 52) (v := ?_) (a' := ?_) #[false, true, true, false, false, false, false, false, false, false, false, false, false, false] rfl rfl (any_of HT_.out (by kernel_rfl)) (fun _ _ _ h => h) (Or.inl ⟨by rfl, ?_⟩) ?_ ?_
            rotate_left
            ·
             intro w'
             go_simp
             with_reducible rfl
            rotate_left
            ·
             simp only [Act.put, List.setIfInBounds_toArray, List.set_cons_zero, List.set_cons_succ, i64_w, i32_w]
             rfl
            refine pure_ (i := 3) (N := some 53) (v := ?_) (a' := ?_) #[false, true, true, true, false, false, false, false, false, false, false, false, false, false] rfl rfl (any_of HT_.out (by kernel_rfl)) (fun _ _ _ h => h) (Or.inl ⟨by rfl, ?_⟩) ?_ ?_
            rotate_left
            ·
             intro w'
             go_simp
             with_reducible rfl
            rotate_left
            ·
             simp only [Act.put, List.setIfInBounds_toArray, List.set_cons_zero, List.set_cons_succ, i64_w, i32_w]
             rfl
            refine take_ (i := 0) (N := some 50) (v := ?_) (a' := ?_) #[true, true, true, true, false, false, false, false, false, false, false, false, false, false] rfl rfl (take_ofW HT_.out HW_.out (by kernel_rfl)) (fun _ _ _ h => h) (Or.inl ⟨by rfl, ?_⟩) hHeld ?_ ?_
            rotate_left
            ·
             rintro w' ⟨s0, s1, s2⟩
             go_simp
             with_reducible rfl
            rotate_left
            ·
             simp only [Act.put, List.setIfInBounds_toArray, List.set_cons_zero, List.set_cons_succ, i64_w, i32_w]
             rfl
            refine take_ (i := 4) (N := some 54) (v := ?_) (a' := ?_) #[true, true, true, true, true, false, false, false, false, false, false, false, false, false] rfl rfl (take_ofW HT_.out HW_.out (by kernel_rfl)) (fun _ _ _ h => h) (Or.inl ⟨by rfl, ?_⟩) hHeld ?_ ?_
            rotate_left
            ·
             rintro w' ⟨s0, s1, s2⟩
             go_simp
             with_reducible rfl
            rotate_left
            ·
             simp only [Act.put, List.setIfInBounds_toArray, List.set_cons_zero, List.set_cons_succ, i64_w, i32_w]
             rfl
            refine join_ (σ := Value × Value × Nat) 3 #[true, true, true, true, true, true, true, true, true, true, true, false, false, false] (fun s_ => [(55, .tuple #[.agg #[s_.1, s_.2.1], .int .i64 t300, .int .i64 t301]), (9, .pointer (some ⟨s_.2.2, 0, none⟩)), (49, .tuple #[.agg #[s_.1, s_.2.1], .int .i64 t300, .int .i64 t301]), (56, .agg #[s_.1, s_.2.1]), (57, .int .i64 t300), (58, .int .i64 t301)]) (fun s_ w' => (w'.cell? ⟨gb292, 0, none⟩ = some (.slice Ao104 x293000_2.length co104) ∧ w'.cell? ⟨gb292, 1, none⟩ = some (.slice Ao105 x293001_2.length co105) ∧ w'.cell? (ad293.add (x8_2).toNat) = some (.int .i64 (rd l1 x8_2))) ∧ (Kd.R (Kd.int .i64) 3 w' w.heap.size (fun k_ => some k_ ≠ (.slice Ao104 x293000_2.length co104 : Value).ownBlock) s_.1 t294) ∧ (Kd.R Kd.bool 4 w' w.heap.size (fun k_ => some k_ ≠ (.slice Ao105 x293001_2.length co105 : Value).ownBlock) s_.2.1 t297) ∧ (Kd.R (Kd.int .i64) 3 w' w.heap.size (fun k_ => some k_ ≠ (s_.1 : Value).ownBlock) (.slice Ao104 x293000_2.length co104) x293000_2) ∧ (Kd.R Kd.bool 4 w' w.heap.size (fun k_ => some k_ ≠ (s_.2.1 : Value).ownBlock) (.slice Ao105 x293001_2.length co105) x293001_2) ∧ (w'.heap[gb292]? = some (.cells #[.slice Ao104 x293000_2.length co104, .slice Ao105 x293001_2.length co105] 43 (0, 0))) ∧ (w'.heap[s_.2.2]? = some (.cells #[.slice none 0 0, .slice none 0 0] 43 (0, 0))) ∧ (w.heap.size ≤ s_.2.2) ∧ (w.heap.size ≤ s_.2.2) ∧ (gb292 ≠ s_.2.2) ∧ (s_.2.2 ≠ gb292) ∧ (Below w.heap.size w w')) ?_ ?_
            rotate_left
            ·
             intro hCont
             refine two_ (i := 5) (j := 10) (Ni := some 55) (Nj := some 9) #[true, true, true, true, true, true, false, false, false, false, false, false, false, false] #[true, true, true, true, true, false, false, false, false, false, true, false, false, false] rfl rfl rfl rfl (two_of HT_.out (by kernel_rfl)) (by decide) (by decide) (fun K hK => ?_) (fun K hK => ?_)
             ·
              skip
              refine goes_ Try.func36 (by kernel_rfl) rfl #[.agg #[.slice Ao104 x293000_2.length co104, .slice Ao105 x293001_2.length co105], .int .i64 (rd l1 x8_2)] (by rfl) rfl rfl (by (try simp only [List.map_toArray, List.map_cons, List.map_nil]); first | done | rfl | (simp only [List.length_drop, List.length_take]; rfl)) ?_
              with_reducible refine (headgatelaw18_step.calls kj15 _ _ x293000_2 _ _ x293001_2 (rd l1 x8_2) t294 t297 t300 t301 _ ?side1 ?side2 ?side3 ?side4 A21.out).mono ?_
              (case side1 => repeat (first | exact (Kd.R_reads' HO_293000.out).2.2 | (with_reducible refine Kd.C_alloc ?_ _) | (with_reducible refine Kd.C_drewN ?_ _) | (with_reducible refine Kd.C_drew ?_)))
              (case side2 => exact (Kd.R_reads' HO_293000.out).2.1)
              (case side3 => repeat (first | exact (Kd.R_reads' HO_293001.out).2.2 | (with_reducible refine Kd.C_alloc ?_ _) | (with_reducible refine Kd.C_drewN ?_ _) | (with_reducible refine Kd.C_drew ?_)))
              (case side4 => exact (Kd.R_reads' HO_293001.out).2.1)
              rintro e w107 ⟨v295, v298, rfl, ho0, ho1, hb⟩
              refine ⟨_, rfl, ?_⟩
              have n0_ := Aside0.mk (Kd.R_elder' (by (with_reducible repeat (first | apply Kd.R_alloc | apply Kd.R_drewN | apply Kd.R_drew)); exact HO_293000.out) (Kd.R_base ho0) hb)
              have n1_ := Aside0.mk (Kd.R_elder' (by (with_reducible repeat (first | apply Kd.R_alloc | apply Kd.R_drewN | apply Kd.R_drew)); exact HO_293001.out) (Kd.R_base ho1) hb)
              have n2_ := Aside0.mk (Kd.R_lower (Kd.R_new' ho0 (Kd.R_lt (by (with_reducible repeat (first | apply Kd.R_alloc | apply Kd.R_drewN | apply Kd.R_drew)); exact HO_293000.out))) (below_size (by repeat (first | (with_reducible first | exact HB.out | apply below_alloc | apply pw_below_drewN | apply below_drew1 | refine below_set ?_ GE292.out) | exact HB.out))))
              have n3_ := Aside0.mk (Kd.R_lower (Kd.R_new' ho1 (Kd.R_lt (by (with_reducible repeat (first | apply Kd.R_alloc | apply Kd.R_drewN | apply Kd.R_drew)); exact HO_293001.out))) (below_size (by repeat (first | (with_reducible first | exact HB.out | apply below_alloc | apply pw_below_drewN | apply below_drew1 | refine below_set ?_ GE292.out) | exact HB.out))))
              have n4_ := Aside0.mk (blk_below (g := gb292) (o := .cells #[.slice Ao104 x293000_2.length co104, .slice Ao105 x293001_2.length co105] 43 (0, 0)) (by (with_reducible repeat (first | refine blk_drewN ?_ _ | refine blk_drew ?_ | refine blk_alloc ?_ _)); exact BK292.out) hb)
              have n5_ := Aside0.mk (below_step (by repeat (first | (with_reducible first | exact HB.out | apply below_alloc | apply pw_below_drewN | apply below_drew1 | refine below_set ?_ GE292.out) | exact HB.out)) hb)
              clear HO_293000
              clear HO_293001
              clear BK292
              clear HB
              have HO_293000 := n0_
              have HO_293001 := n1_
              have HO296 := n2_
              have HO299 := n3_
              have BK292 := n4_
              have HB := n5_
              clear n0_ n1_ n2_ n3_ n4_ n5_
              (try clear hb)
              (try clear hb2)
              (try clear hk)
              (try clear hi)
              (try clear ho0)
              (try clear ho1)
              refine hK.out _ _ ⟨(blk_cell BK292.out 0).trans rfl, (blk_cell BK292.out 1).trans rfl, ((HB.out.cell (World.block_lt_of_cell? w _ hw293_0)).trans hw293_0)⟩ (fun hHeld => ?_)
              clear hK K
              refine norm_ (a' := ?_) ?_ ?_
              rotate_left
              ·
               show Act.put _ (some 55) _ = _
               simp only [Act.put, List.setIfInBounds_toArray, List.set_cons_zero, List.set_cons_succ, i64_w, i32_w]
               rfl
              refine pure_ (i := 6) (N := some 49) (v := ?_) (a' := ?_) #[true, true, true, true, true, true, true, false, false, false, false, false, false, false] rfl rfl (any_of HT_.out (by kernel_rfl)) (fun _ _ _ h => h) (Or.inl ⟨by rfl, ?_⟩) ?_ ?_
              rotate_left
              ·
               intro w'
               go_simp
               with_reducible rfl
              rotate_left
              ·
               simp only [Act.put, List.setIfInBounds_toArray, List.set_cons_zero, List.set_cons_succ, i64_w, i32_w]
               rfl
              refine pure_ (i := 7) (N := some 56) (v := ?_) (a' := ?_) #[true, true, true, true, true, true, true, true, false, false, false, false, false, false] rfl rfl (any_of HT_.out (by kernel_rfl)) (fun _ _ _ h => h) (Or.inl ⟨by rfl, ?_⟩) ?_ ?_
              rotate_left
              ·
               intro w'
               go_simp
               with_reducible rfl
              rotate_left
              ·
               simp only [Act.put, List.setIfInBounds_toArray, List.set_cons_zero, List.set_cons_succ, i64_w, i32_w]
               rfl
              refine pure_ (i := 8) (N := some 57) (v := ?_) (a' := ?_) #[true, true, true, true, true, true, true, true, true, false, false, false, false, false] rfl rfl (any_of HT_.out (by kernel_rfl)) (fun _ _ _ h => h) (Or.inl ⟨by rfl, ?_⟩) ?_ ?_
              rotate_left
              ·
               intro w'
               go_simp
               with_reducible rfl
              rotate_left
              ·
               simp only [Act.put, List.setIfInBounds_toArray, List.set_cons_zero, List.set_cons_succ, i64_w, i32_w]
               rfl
              refine pure_ (i := 9) (N := some 58) (v := ?_) (a' := ?_) #[true, true, true, true, true, true, true, true, true, true, false, false, false, false] rfl rfl (any_of HT_.out (by kernel_rfl)) (fun _ _ _ h => h) (Or.inl ⟨by rfl, ?_⟩) ?_ ?_
              rotate_left
              ·
               intro w'
               go_simp
               with_reducible rfl
              rotate_left
              ·
               simp only [Act.put, List.setIfInBounds_toArray, List.set_cons_zero, List.set_cons_succ, i64_w, i32_w]
               rfl
              refine one_ (i := 10) (N := some 9) #[true, true, true, true, true, true, true, true, true, true, true, false, false, false] rfl rfl (one_of HT_.out (by kernel_rfl)) (by decide) (fun K hK => ?_)
              refine box_step ?hg (N := 9) ?hd (cs := #[.slice none 0 0, .slice none 0 0]) (t := 43) ?hr ?_; (case hd => rfl); (case hg => rfl); (case hr => first | (go_simp; done) | (go_simp; rfl))
              intro gb302 hg w108 hbox hb
              have n0_ := Aside0.mk (Kd.R_below (by (with_reducible repeat (first | apply Kd.R_alloc | apply Kd.R_drewN | apply Kd.R_drew)); exact HO_293000.out) hb)
              have n1_ := Aside0.mk (Kd.R_below (by (with_reducible repeat (first | apply Kd.R_alloc | apply Kd.R_drewN | apply Kd.R_drew)); exact HO_293001.out) hb)
              have n2_ := Aside0.mk (Kd.R_below (by (with_reducible repeat (first | apply Kd.R_alloc | apply Kd.R_drewN | apply Kd.R_drew)); exact HO296.out) hb)
              have n3_ := Aside0.mk (Kd.R_below (by (with_reducible repeat (first | apply Kd.R_alloc | apply Kd.R_drewN | apply Kd.R_drew)); exact HO299.out) hb)
              have n4_ := Aside0.mk (blk_below (g := gb292) (o := .cells #[.slice Ao104 x293000_2.length co104, .slice Ao105 x293001_2.length co105] 43 (0, 0)) (by (with_reducible repeat (first | refine blk_drewN ?_ _ | refine blk_drew ?_ | refine blk_alloc ?_ _)); exact BK292.out) hb)
              have n5_ := Aside0.mk (below_step (by repeat (first | (with_reducible first | exact HB.out | apply below_alloc | apply pw_below_drewN | apply below_drew1 | refine below_set ?_ GE292.out) | exact HB.out)) hb)
              have n6_ := Aside0.mk (hbox)
              have n7_ := Aside0.mk ((by rw [hg]; exact (below_size (by repeat (first | (with_reducible first | exact HB.out | apply below_alloc | apply pw_below_drewN | apply below_drew1 | refine below_set ?_ GE292.out) | exact HB.out))) : w.heap.size ≤ gb302))
              have n8_ := Aside0.mk ((by rw [hg]; exact (below_size (by repeat (first | (with_reducible first | exact HB.out | apply below_alloc | apply pw_below_drewN | apply below_drew1 | refine below_set ?_ GE292.out) | exact HB.out))) : w.heap.size ≤ gb302))
              have n9_ := Aside0.mk ((by rw [hg]; exact Nat.ne_of_lt (blk_lt (g := gb292) (o := .cells #[.slice Ao104 x293000_2.length co104, .slice Ao105 x293001_2.length co105] 43 (0, 0)) (by (with_reducible repeat (first | refine blk_drewN ?_ _ | refine blk_drew ?_ | refine blk_alloc ?_ _)); exact BK292.out)) : gb292 ≠ gb302))
              have n10_ := Aside0.mk ((by rw [hg]; exact Nat.ne_of_gt (blk_lt (g := gb292) (o := .cells #[.slice Ao104 x293000_2.length co104, .slice Ao105 x293001_2.length co105] 43 (0, 0)) (by (with_reducible repeat (first | refine blk_drewN ?_ _ | refine blk_drew ?_ | refine blk_alloc ?_ _)); exact BK292.out)) : gb302 ≠ gb292))
              clear HO_293000
              clear HO_293001
              clear HO296
              clear HO299
              clear BK292
              clear HB
              have HO_293000 := n0_
              have HO_293001 := n1_
              have HO296 := n2_
              have HO299 := n3_
              have BK292 := n4_
              have HB := n5_
              have BK302 := n6_
              have GW302 := n7_
              have GE302 := n8_
              have NB292_302 := n9_
              have NB302_292 := n10_
              clear n0_ n1_ n2_ n3_ n4_ n5_ n6_ n7_ n8_ n9_ n10_
              clear hb hbox hg
              refine hK.out _ _ ⟨(blk_cell BK292.out 0).trans rfl, (blk_cell BK292.out 1).trans rfl, ((HB.out.cell (World.block_lt_of_cell? w _ hw293_0)).trans hw293_0)⟩ (fun hHeld => ?_)
              clear hK K
              refine norm_ (a' := ?_) ?_ ?_
              rotate_left
              ·
               show Act.put _ (some 9) _ = _
               simp only [Act.put, List.setIfInBounds_toArray, List.set_cons_zero, List.set_cons_succ, i64_w, i32_w]
               rfl
              exact norm_ (by simp only [putAll, Act.put, List.setIfInBounds_toArray, List.set_cons_zero, List.set_cons_succ]) (hCont (v295, v298, gb302) _ ⟨hHeld, (by (with_reducible repeat (first | apply Kd.R_alloc | apply Kd.R_drewN | apply Kd.R_drew)); exact Kd.R_mono HO296.out (fun _ hk => hk.2)), (by (with_reducible repeat (first | apply Kd.R_alloc | apply Kd.R_drewN | apply Kd.R_drew)); exact Kd.R_mono HO299.out (fun _ hk => hk.2)), (by (with_reducible repeat (first | apply Kd.R_alloc | apply Kd.R_drewN | apply Kd.R_drew)); exact Kd.R_mono HO_293000.out (fun _ hk => hk.2)), (by (with_reducible repeat (first | apply Kd.R_alloc | apply Kd.R_drewN | apply Kd.R_drew)); exact Kd.R_mono HO_293001.out (fun _ hk => hk.2)), (by (with_reducible repeat (first | refine blk_drewN ?_ _ | refine blk_drew ?_ | refine blk_alloc ?_ _)); exact BK292.out), (by (with_reducible repeat (first | refine blk_drewN ?_ _ | refine blk_drew ?_ | refine blk_alloc ?_ _)); exact BK302.out), GW302.out, GE302.out, NB292_302.out, NB302_292.out, (by repeat (first | (with_reducible first | exact HB.out | apply below_alloc | apply pw_below_drewN | apply below_drew1 | refine below_set ?_ GE292.out | refine below_set ?_ GE302.out) | exact HB.out))⟩)
             ·
              skip
              refine box_step ?hg (N := 9) ?hd (cs := #[.slice none 0 0, .slice none 0 0]) (t := 43) ?hr ?_; (case hd => rfl); (case hg => rfl); (case hr => first | (go_simp; done) | (go_simp; rfl))
              intro gb302 hg w107 hbox hb
              have n0_ := Aside0.mk (Kd.R_below (by (with_reducible repeat (first | apply Kd.R_alloc | apply Kd.R_drewN | apply Kd.R_drew)); exact HO_293000.out) hb)
              have n1_ := Aside0.mk (Kd.R_below (by (with_reducible repeat (first | apply Kd.R_alloc | apply Kd.R_drewN | apply Kd.R_drew)); exact HO_293001.out) hb)
              have n2_ := Aside0.mk (blk_below (g := gb292) (o := .cells #[.slice Ao104 x293000_2.length co104, .slice Ao105 x293001_2.length co105] 43 (0, 0)) (by (with_reducible repeat (first | refine blk_drewN ?_ _ | refine blk_drew ?_ | refine blk_alloc ?_ _)); exact BK292.out) hb)
              have n3_ := Aside0.mk (below_step (by repeat (first | (with_reducible first | exact HB.out | apply below_alloc | apply pw_below_drewN | apply below_drew1 | refine below_set ?_ GE292.out) | exact HB.out)) hb)
              have n4_ := Aside0.mk (hbox)
              have n5_ := Aside0.mk ((by rw [hg]; exact (below_size (by repeat (first | (with_reducible first | exact HB.out | apply below_alloc | apply pw_below_drewN | apply below_drew1 | refine below_set ?_ GE292.out) | exact HB.out))) : w.heap.size ≤ gb302))
              have n6_ := Aside0.mk ((by rw [hg]; exact (below_size (by repeat (first | (with_reducible first | exact HB.out | apply below_alloc | apply pw_below_drewN | apply below_drew1 | refine below_set ?_ GE292.out) | exact HB.out))) : w.heap.size ≤ gb302))
              have n7_ := Aside0.mk ((by rw [hg]; exact Nat.ne_of_lt (blk_lt (g := gb292) (o := .cells #[.slice Ao104 x293000_2.length co104, .slice Ao105 x293001_2.length co105] 43 (0, 0)) (by (with_reducible repeat (first | refine blk_drewN ?_ _ | refine blk_drew ?_ | refine blk_alloc ?_ _)); exact BK292.out)) : gb292 ≠ gb302))
              have n8_ := Aside0.mk ((by rw [hg]; exact Nat.ne_of_gt (blk_lt (g := gb292) (o := .cells #[.slice Ao104 x293000_2.length co104, .slice Ao105 x293001_2.length co105] 43 (0, 0)) (by (with_reducible repeat (first | refine blk_drewN ?_ _ | refine blk_drew ?_ | refine blk_alloc ?_ _)); exact BK292.out)) : gb302 ≠ gb292))
              clear HO_293000
              clear HO_293001
              clear BK292
              clear HB
              have HO_293000 := n0_
              have HO_293001 := n1_
              have BK292 := n2_
              have HB := n3_
              have BK302 := n4_
              have GW302 := n5_
              have GE302 := n6_
              have NB292_302 := n7_
              have NB302_292 := n8_
              clear n0_ n1_ n2_ n3_ n4_ n5_ n6_ n7_ n8_
              clear hb hbox hg
              refine hK.out _ _ ⟨(blk_cell BK292.out 0).trans rfl, (blk_cell BK292.out 1).trans rfl, ((HB.out.cell (World.block_lt_of_cell? w _ hw293_0)).trans hw293_0)⟩ (fun hHeld => ?_)
              clear hK K
              refine norm_ (a' := ?_) ?_ ?_
              rotate_left
              ·
               show Act.put _ (some 9) _ = _
               simp only [Act.put, List.setIfInBounds_toArray, List.set_cons_zero, List.set_cons_succ, i64_w, i32_w]
               rfl
              refine one_ (i := 5) (N := some 55) #[true, true, true, true, true, true, false, false, false, false, true, false, false, false] rfl rfl (one_of HT_.out (by kernel_rfl)) (by decide) (fun K hK => ?_)
              refine goes_ Try.func36 (by kernel_rfl) rfl #[.agg #[.slice Ao104 x293000_2.length co104, .slice Ao105 x293001_2.length co105], .int .i64 (rd l1 x8_2)] (by rfl) rfl rfl (by (try simp only [List.map_toArray, List.map_cons, List.map_nil]); first | done | rfl | (simp only [List.length_drop, List.length_take]; rfl)) ?_
              with_reducible refine (headgatelaw18_step.calls kj15 _ _ x293000_2 _ _ x293001_2 (rd l1 x8_2) t294 t297 t300 t301 _ ?side1 ?side2 ?side3 ?side4 A21.out).mono ?_
              (case side1 => repeat (first | exact (Kd.R_reads' HO_293000.out).2.2 | (with_reducible refine Kd.C_alloc ?_ _) | (with_reducible refine Kd.C_drewN ?_ _) | (with_reducible refine Kd.C_drew ?_)))
              (case side2 => exact (Kd.R_reads' HO_293000.out).2.1)
              (case side3 => repeat (first | exact (Kd.R_reads' HO_293001.out).2.2 | (with_reducible refine Kd.C_alloc ?_ _) | (with_reducible refine Kd.C_drewN ?_ _) | (with_reducible refine Kd.C_drew ?_)))
              (case side4 => exact (Kd.R_reads' HO_293001.out).2.1)
              rintro e w108 ⟨v295, v298, rfl, ho0, ho1, hb⟩
              refine ⟨_, rfl, ?_⟩
              have n0_ := Aside0.mk (Kd.R_elder' (by (with_reducible repeat (first | apply Kd.R_alloc | apply Kd.R_drewN | apply Kd.R_drew)); exact HO_293000.out) (Kd.R_base ho0) hb)
              have n1_ := Aside0.mk (Kd.R_elder' (by (with_reducible repeat (first | apply Kd.R_alloc | apply Kd.R_drewN | apply Kd.R_drew)); exact HO_293001.out) (Kd.R_base ho1) hb)
              have n2_ := Aside0.mk (Kd.R_lower (Kd.R_new' ho0 (Kd.R_lt (by (with_reducible repeat (first | apply Kd.R_alloc | apply Kd.R_drewN | apply Kd.R_drew)); exact HO_293000.out))) (below_size (by repeat (first | (with_reducible first | exact HB.out | apply below_alloc | apply pw_below_drewN | apply below_drew1 | refine below_set ?_ GE292.out | refine below_set ?_ GE302.out) | exact HB.out))))
              have n3_ := Aside0.mk (Kd.R_lower (Kd.R_new' ho1 (Kd.R_lt (by (with_reducible repeat (first | apply Kd.R_alloc | apply Kd.R_drewN | apply Kd.R_drew)); exact HO_293001.out))) (below_size (by repeat (first | (with_reducible first | exact HB.out | apply below_alloc | apply pw_below_drewN | apply below_drew1 | refine below_set ?_ GE292.out | refine below_set ?_ GE302.out) | exact HB.out))))
              have n4_ := Aside0.mk (blk_below (g := gb292) (o := .cells #[.slice Ao104 x293000_2.length co104, .slice Ao105 x293001_2.length co105] 43 (0, 0)) (by (with_reducible repeat (first | refine blk_drewN ?_ _ | refine blk_drew ?_ | refine blk_alloc ?_ _)); exact BK292.out) hb)
              have n5_ := Aside0.mk (blk_below (g := gb302) (o := .cells #[.slice none 0 0, .slice none 0 0] 43 (0, 0)) (by (with_reducible repeat (first | refine blk_drewN ?_ _ | refine blk_drew ?_ | refine blk_alloc ?_ _)); exact BK302.out) hb)
              have n6_ := Aside0.mk (below_step (by repeat (first | (with_reducible first | exact HB.out | apply below_alloc | apply pw_below_drewN | apply below_drew1 | refine below_set ?_ GE292.out | refine below_set ?_ GE302.out) | exact HB.out)) hb)
              clear HO_293000
              clear HO_293001
              clear BK292
              clear BK302
              clear HB
              have HO_293000 := n0_
              have HO_293001 := n1_
              have HO296 := n2_
              have HO299 := n3_
              have BK292 := n4_
              have BK302 := n5_
              have HB := n6_
              clear n0_ n1_ n2_ n3_ n4_ n5_ n6_
              (try clear hb)
              (try clear hb2)
              (try clear hk)
              (try clear hi)
              (try clear ho0)
              (try clear ho1)
              refine hK.out _ _ ⟨(blk_cell BK292.out 0).trans rfl, (blk_cell BK292.out 1).trans rfl, ((HB.out.cell (World.block_lt_of_cell? w _ hw293_0)).trans hw293_0)⟩ (fun hHeld => ?_)
              clear hK K
              refine norm_ (a' := ?_) ?_ ?_
              rotate_left
              ·
               show Act.put _ (some 55) _ = _
               simp only [Act.put, List.setIfInBounds_toArray, List.set_cons_zero, List.set_cons_succ, i64_w, i32_w]
               rfl
              refine pure_ (i := 6) (N := some 49) (v := ?_) (a' := ?_) #[true, true, true, true, true, true, true, false, false, false, true, false, false, false] rfl rfl (any_of HT_.out (by kernel_rfl)) (fun _ _ _ h => h) (Or.inl ⟨by rfl, ?_⟩) ?_ ?_
              rotate_left
              ·
               intro w'
               go_simp
               with_reducible rfl
              rotate_left
              ·
               simp only [Act.put, List.setIfInBounds_toArray, List.set_cons_zero, List.set_cons_succ, i64_w, i32_w]
               rfl
              refine pure_ (i := 7) (N := some 56) (v := ?_) (a' := ?_) #[true, true, true, true, true, true, true, true, false, false, true, false, false, false] rfl rfl (any_of HT_.out (by kernel_rfl)) (fun _ _ _ h => h) (Or.inl ⟨by rfl, ?_⟩) ?_ ?_
              rotate_left
              ·
               intro w'
               go_simp
               with_reducible rfl
              rotate_left
              ·
               simp only [Act.put, List.setIfInBounds_toArray, List.set_cons_zero, List.set_cons_succ, i64_w, i32_w]
               rfl
              refine pure_ (i := 8) (N := some 57) (v := ?_) (a' := ?_) #[true, true, true, true, true, true, true, true, true, false, true, false, false, false] rfl rfl (any_of HT_.out (by kernel_rfl)) (fun _ _ _ h => h) (Or.inl ⟨by rfl, ?_⟩) ?_ ?_
              rotate_left
              ·
               intro w'
               go_simp
               with_reducible rfl
              rotate_left
              ·
               simp only [Act.put, List.setIfInBounds_toArray, List.set_cons_zero, List.set_cons_succ, i64_w, i32_w]
               rfl
              refine pure_ (i := 9) (N := some 58) (v := ?_) (a' := ?_) #[true, true, true, true, true, true, true, true, true, true, true, false, false, false] rfl rfl (any_of HT_.out (by kernel_rfl)) (fun _ _ _ h => h) (Or.inl ⟨by rfl, ?_⟩) ?_ ?_
              rotate_left
              ·
               intro w'
               go_simp
               with_reducible rfl
              rotate_left
              ·
               simp only [Act.put, List.setIfInBounds_toArray, List.set_cons_zero, List.set_cons_succ, i64_w, i32_w]
               rfl
              exact norm_ (by simp only [putAll, Act.put, List.setIfInBounds_toArray, List.set_cons_zero, List.set_cons_succ]) (hCont (v295, v298, gb302) _ ⟨hHeld, (by (with_reducible repeat (first | apply Kd.R_alloc | apply Kd.R_drewN | apply Kd.R_drew)); exact Kd.R_mono HO296.out (fun _ hk => hk.2)), (by (with_reducible repeat (first | apply Kd.R_alloc | apply Kd.R_drewN | apply Kd.R_drew)); exact Kd.R_mono HO299.out (fun _ hk => hk.2)), (by (with_reducible repeat (first | apply Kd.R_alloc | apply Kd.R_drewN | apply Kd.R_drew)); exact Kd.R_mono HO_293000.out (fun _ hk => hk.2)), (by (with_reducible repeat (first | apply Kd.R_alloc | apply Kd.R_drewN | apply Kd.R_drew)); exact Kd.R_mono HO_293001.out (fun _ hk => hk.2)), (by (with_reducible repeat (first | refine blk_drewN ?_ _ | refine blk_drew ?_ | refine blk_alloc ?_ _)); exact BK292.out), (by (with_reducible repeat (first | refine blk_drewN ?_ _ | refine blk_drew ?_ | refine blk_alloc ?_ _)); exact BK302.out), GW302.out, GE302.out, NB292_302.out, NB302_292.out, (by repeat (first | (with_reducible first | exact HB.out | apply below_alloc | apply pw_below_drewN | apply below_drew1 | refine below_set ?_ GE292.out | refine below_set ?_ GE302.out) | exact HB.out))⟩)
            rintro ⟨v295, v298, gb302⟩ w109 ⟨hS_, h0_, h1_, h2_, h3_, h4_, h5_, h6_, h7_, h8_, h9_, h10_⟩
            have n0_ : Aside0 (Kd.R (Kd.int .i64) 3 w109 w.heap.size (fun k_ => some k_ ≠ (.slice Ao104 x293000_2.length co104 : Value).ownBlock) v295 t294) := ⟨h0_⟩
            have n1_ : Aside0 (Kd.R Kd.bool 4 w109 w.heap.size (fun k_ => some k_ ≠ (.slice Ao105 x293001_2.length co105 : Value).ownBlock) v298 t297) := ⟨h1_⟩
            have n2_ : Aside0 (Kd.R (Kd.int .i64) 3 w109 w.heap.size (fun k_ => some k_ ≠ (v295 : Value).ownBlock) (.slice Ao104 x293000_2.length co104) x293000_2) := ⟨h2_⟩
            have n3_ : Aside0 (Kd.R Kd.bool 4 w109 w.heap.size (fun k_ => some k_ ≠ (v298 : Value).ownBlock) (.slice Ao105 x293001_2.length co105) x293001_2) := ⟨h3_⟩
            have n4_ : Aside0 (w109.heap[gb292]? = some (.cells #[.slice Ao104 x293000_2.length co104, .slice Ao105 x293001_2.length co105] 43 (0, 0))) := ⟨h4_⟩
            have n5_ : Aside0 (w109.heap[gb302]? = some (.cells #[.slice none 0 0, .slice none 0 0] 43 (0, 0))) := ⟨h5_⟩
            have n6_ : Aside0 (w.heap.size ≤ gb302) := ⟨h6_⟩
            have n7_ : Aside0 (w.heap.size ≤ gb302) := ⟨h7_⟩
            have n8_ : Aside0 (gb292 ≠ gb302) := ⟨h8_⟩
            have n9_ : Aside0 (gb302 ≠ gb292) := ⟨h9_⟩
            have n10_ : Aside0 (Below w.heap.size w w109) := ⟨h10_⟩
            clear HO_293000
            clear HO_293001
            clear BK292
            clear HB
            clear h0_ h1_ h2_ h3_ h4_ h5_ h6_ h7_ h8_ h9_ h10_
            have HO296 := n0_
            have HO299 := n1_
            have HO_293000 := n2_
            have HO_293001 := n3_
            have BK292 := n4_
            have BK302 := n5_
            have GW302 := n6_
            have GE302 := n7_
            have NB292_302 := n8_
            have NB302_292 := n9_
            have HB := n10_
            clear n0_ n1_ n2_ n3_ n4_ n5_ n6_ n7_ n8_ n9_ n10_
            have hHeld : w109.cell? ⟨gb292, 0, none⟩ = some (.slice Ao104 x293000_2.length co104) ∧ w109.cell? ⟨gb292, 1, none⟩ = some (.slice Ao105 x293001_2.length co105) ∧ w109.cell? (ad293.add (x8_2).toNat) = some (.int .i64 (rd l1 x8_2)) := hS_
            obtain ⟨Ao110, co110, eo110⟩ := Kd.R_slice HO296.out
            (first | subst eo110 | (injection eo110 with f1_ f2_ f3_; have f4_ := f1_.symm; have f5_ := f3_.symm; clear f1_ f2_ f3_; subst f4_; subst f5_))
            obtain ⟨Ao112, co112, eo112⟩ := Kd.R_slice HO299.out
            (first | subst eo112 | (injection eo112 with f1_ f2_ f3_; have f4_ := f1_.symm; have f5_ := f3_.symm; clear f1_ f2_ f3_; subst f4_; subst f5_))
            refine norm_ (a' := ?_) ?_ ?_
            rotate_left
            ·
             simp only [putAll, Act.put, List.setIfInBounds_toArray, List.set_cons_zero, List.set_cons_succ]
             rfl
            refine one_ (i := 11) (N := none) #[true, true, true, true, true, true, true, true, true, true, true, true, false, false] rfl rfl (one_of HT_.out (by kernel_rfl)) (by decide) (fun K hK => ?_)
            have hs111 : w109.cell? ⟨gb302, 0, none⟩ = some (.slice none 0 0) := (blk_cell BK302.out 0).trans rfl
            have hfs111 := blk_frozen BK302.out 0
            have hns111_0 := NB292_302.out
            have hms111_0 := NB302_292.out
            have hs113 : w109.cell? ⟨gb302, 1, none⟩ = some (.slice none 0 0) := (blk_cell BK302.out 1).trans rfl
            have hfs113 := blk_frozen BK302.out 1
            have hns113_0 := NB292_302.out
            have hms113_0 := NB302_292.out
            refine skip_ (w1 := ?_) (by rfl) rfl ?_ ?_
            rotate_left
            ·
             go_simp
             rfl
            refine hK.out _ _ ⟨((cell_far (p := ⟨gb302, _, none⟩) NB292_302.out _).trans (((cell_far (p := ⟨gb302, _, none⟩) NB292_302.out _).trans (hHeld.1)))), ((cell_far (p := ⟨gb302, _, none⟩) NB292_302.out _).trans (((cell_far (p := ⟨gb302, _, none⟩) NB292_302.out _).trans (hHeld.2.1)))), ((cell_far (p := ⟨gb302, _, none⟩) (by first | exact Nat.ne_of_lt (Nat.lt_of_lt_of_le (by have := World.block_lt_of_cell? _ _ hw293_0; first | rwa [add_block] at this | exact this) GW302.out) | (rw [add_block]; exact Nat.ne_of_lt (Nat.lt_of_lt_of_le (by have := World.block_lt_of_cell? _ _ hw293_0; first | rwa [add_block] at this | exact this) GW302.out)) | (show (Addr.add _ _).block ≠ _; rw [add_block]; exact Nat.ne_of_lt (Nat.lt_of_lt_of_le (by have := World.block_lt_of_cell? _ _ hw293_0; first | rwa [add_block] at this | exact this) GW302.out)) | (dsimp only; exact Nat.ne_of_lt (Nat.lt_of_lt_of_le (by have := World.block_lt_of_cell? _ _ hw293_0; first | rwa [add_block] at this | exact this) GW302.out))) _).trans (((cell_far (p := ⟨gb302, _, none⟩) (by first | exact Nat.ne_of_lt (Nat.lt_of_lt_of_le (by have := World.block_lt_of_cell? _ _ hw293_0; first | rwa [add_block] at this | exact this) GW302.out) | (rw [add_block]; exact Nat.ne_of_lt (Nat.lt_of_lt_of_le (by have := World.block_lt_of_cell? _ _ hw293_0; first | rwa [add_block] at this | exact this) GW302.out)) | (show (Addr.add _ _).block ≠ _; rw [add_block]; exact Nat.ne_of_lt (Nat.lt_of_lt_of_le (by have := World.block_lt_of_cell? _ _ hw293_0; first | rwa [add_block] at this | exact this) GW302.out)) | (dsimp only; exact Nat.ne_of_lt (Nat.lt_of_lt_of_le (by have := World.block_lt_of_cell? _ _ hw293_0; first | rwa [add_block] at this | exact this) GW302.out))) _).trans (hHeld.2.2))))⟩ (fun hHeld => ?_)
            clear hK K
            refine pure_ (i := 12) (N := some 10) (v := ?_) (a' := ?_) #[true, true, true, true, true, true, true, true, true, true, true, true, true, false] rfl rfl (any_of HT_.out (by kernel_rfl)) (fun _ _ _ h => h) (Or.inl ⟨by rfl, ?_⟩) ?_ ?_
            rotate_left
            ·
             intro w'
             go_simp
             with_reducible rfl
            rotate_left
            ·
             simp only [Act.put, List.setIfInBounds_toArray, List.set_cons_zero, List.set_cons_succ, i64_w, i32_w]
             rfl
            refine pure_ (i := 13) (N := some 11) (v := ?_) (a' := ?_) #[true, true, true, true, true, true, true, true, true, true, true, true, true, true] rfl rfl (any_of HT_.out (by kernel_rfl)) (fun _ _ _ h => h) (Or.inl ⟨by rfl, ?_⟩) ?_ ?_
            rotate_left
            ·
             intro w'
             go_simp
             with_reducible rfl
            rotate_left
            ·
             simp only [Act.put, List.setIfInBounds_toArray, List.set_cons_zero, List.set_cons_succ, i64_w, i32_w]
             rfl
            refine done_ (done_of HT_.out (by kernel_rfl)) ?_
            try go_wp2
            go_roundg kj15
            case measure => have := HJ5.out; have := HK2.out; have := HJ15.out; omega
            case rel => exact ⟨(wrap64 (x8_2 + 1)), (x293000_2), (x293001_2), (.slice Ao104 x293000_2.length co104), (.slice Ao105 x293001_2.length co105), (by first | rfl | (simp; done) | (simp [*]; done)), H', ⟨by have := HJ5.out; have := HK2.out; have := HJ15.out; omega⟩, ⟨by (with_reducible repeat (first | apply Kd.R_alloc | apply Kd.R_drewN | apply Kd.R_drew)); exact Kd.R_mono (Kd.R_far (p := ⟨gb302, 1, none⟩) (Kd.R_far (p := ⟨gb302, 0, none⟩) (Kd.R_types HO_293000.out BK302.out (by decide)) (fun _ hk => hk.2) (.slice Ao110 t294.length co110)) (fun _ hk => hk.2) (.slice Ao112 t297.length co112)) (fun _ hk => trivial)⟩, ⟨by (with_reducible repeat (first | apply Kd.R_alloc | apply Kd.R_drewN | apply Kd.R_drew)); exact Kd.R_mono (Kd.R_far (p := ⟨gb302, 1, none⟩) (Kd.R_far (p := ⟨gb302, 0, none⟩) (Kd.R_types HO_293001.out BK302.out (by decide)) (fun _ hk => hk.2) (.slice Ao110 t294.length co110)) (fun _ hk => hk.2) (.slice Ao112 t297.length co112)) (fun _ hk => trivial)⟩, ⟨by (with_reducible repeat (first | refine blk_drewN ?_ _ | refine blk_drew ?_ | refine blk_alloc ?_ _)); refine blk_far ?_ NB292_302.out _; (with_reducible repeat (first | refine blk_drewN ?_ _ | refine blk_drew ?_ | refine blk_alloc ?_ _)); refine blk_far ?_ NB292_302.out _; (with_reducible repeat (first | refine blk_drewN ?_ _ | refine blk_drew ?_ | refine blk_alloc ?_ _)); exact BK292.out⟩, ⟨by repeat (first | (with_reducible first | exact HB.out | apply below_alloc | apply pw_below_drewN | apply below_drew1 | refine below_set ?_ GE292.out | refine below_set ?_ GE302.out) | exact HB.out)⟩⟩
          ·
           rw [if_neg c20] at H
           exact absurd H (by simp)
         ·
          rw [if_neg c19] at H
          exact absurd H (by simp)
        ·
         replace c18 := Bool.eq_false_iff.mpr c18
         subst c18
         have H1 : (some t283) = some r := by rw [if_neg (show ¬ (false = true) by decide)] at H; exact H
         clear H
         have H := H1
         clear H1
         obtain rfl := Option.some.inj H
         go_wp2
         go_ret
         exact ⟨by first | rfl | (simp [errW_none, errW_some] <;> rfl) | (simp [*, errW_none, errW_some] <;> rfl), by repeat (first | (with_reducible first | exact HB.out | apply below_alloc | apply pw_below_drewN | apply below_drew1 | refine below_set ?_ GE292.out) | exact HB.out)⟩

/-- THE ONE PURE STATEMENT of headgatelaw18_SlotsFree: yours. -/
def headgatelaw18_SlotsFree.Pure : Prop := ∀ (a0 : Int) (l1 : List Int), (Lit.int .i64 a0).wf = true → l1.length ≤ maxLen → l1.length * 8 ≤ 140737488351232 → (∀ x ∈ l1, (Lit.int .i64 x).wf = true) → ∃ k, headgatelaw18_SlotsFree.f k a0 l1 = some true
theorem headgatelaw18_SlotsFree.walk (P : headgatelaw18_SlotsFree.Pure) (a0 : Int) (a1 : Option Addr) (len1 cap1 : Nat) (z1 : List Int) (w : World) (w0 : (Lit.int .i64 a0).wf = true) (w1 : (a1 = none ∧ len1 = 0 ∧ cap1 = 0 ∧ z1 = []) ∨ ∃ x, a1 = some x ∧ len1 ≤ cap1 ∧ cap1 ≤ maxLen ∧ z1.length = cap1 ∧ (∀ i, i < z1.length → w.cell? (x.add i) = some (.int .i64 (z1.getD i 0))) ∧ ∀ n ∈ z1, (Lit.int .i64 n).wf = true) (y1 : len1 * 8 ≤ 140737488351232) :
  Calls Try.prog 6 #[.int .i64 a0, .slice a1 len1 cap1] w fun e w' => e = .returned (.bool true) ∧ Below w.heap.size w w' := by
 obtain ⟨l1, rfl, hr1, hm1, hw1, hc1⟩ := ReadsInt.ofRowC w1
 obtain ⟨k, h⟩ := P a0 l1 w0 hm1 y1 hw1
 refine (headgatelaw18_SlotsFree.calls k a0 _ _ l1 true w (Kd.C_of_reads (d := (0 : Int)) (h1 := fun _ => rfl) hr1) hc1 ⟨rfl⟩ h).mono ?_
 rintro e w' ⟨rfl, hd⟩
 exact ⟨rfl, hd⟩

end Go.Proofs.Ytofonnfkffbjkaa.X
