/- What Go functions of this seat compute, told as Lean functions, and that each call of the Go code comes to that answer; for a law: its row, for every input. Written by a program of the session. -/
import Derived.Test.YtaofihdmgdpenaaX65D
import Derived.Test.YtaofihdmgdpenaaX0
import Derived.Test.YtaofihdmgdpenaaX2
import Derived.Test.YtaofihdmgdpenaaX17
import Derived.Test.YtaofihdmgdpenaaX25
import Derived.Test.YtaofihdmgdpenaaX35
import Derived.Test.YtaofihdmgdpenaaX40
import Derived.Test.YtaofihdmgdpenaaX43
import Derived.Test.YtaofihdmgdpenaaX45
import Derived.Test.YtaofihdmgdpenaaX47
import Derived.Test.YtaofihdmgdpenaaX61
namespace Go.Proofs.Ytaofihdmgdpenaa.X
open Go.RowKit Go.Proofs.YtaofihdmgdpenaaW.PrintWords Go.Proofs.YtaofihdmgdpenaaW.PrintLast Go.Proofs.YtaofihdmgdpenaaW.PrintMore
attribute [local go_sem] max2_int min2_int max_two min_two max_three min_three max_four min_four   -- for this text's walks alone
set_option linter.unusedVariables false
set_option linter.unusedSimpArgs false


set_option maxHeartbeats 2000000 in
set_option maxRecDepth 100000 in
theorem headgatelaw07_LruSteps.calls (k : Nat) (A0 : Option Addr) (c0 : Nat) (l0 : List Int) (A1 : Option Addr) (c1 : Nat) (l1 : List Int) (r : Bool) (w : World) (hr0 : Kd.C (Kd.int .i64) w A0 l0.length l0) (hc0 : l0.length ≤ c0) (hr1 : Kd.C (Kd.int .i64) w A1 l1.length l1) (hc1 : l1.length ≤ c1) (HT : Aside0 (r = true)) (h : headgatelaw07_LruSteps.f k l0 l1 = some r) :
  Calls Try.prog 7 #[.slice A0 l0.length c0, .slice A1 l1.length c1] w fun e w' => e = .returned (.bool r) ∧ Below w.heap.size w w' := by
 have hu25 := Try.underlying25
 have HR0 := Aside0.mk hr0
 have HC0 := Aside0.mk hc0
 clear hr0 hc0
 have HR1 := Aside0.mk hr1
 have HC1 := Aside0.mk hc1
 clear hr1 hc1
 have HB := Aside0.mk (Below.refl w.heap.size w)
 have H : ((headgatelaw07_made.f k l0).bind fun bt610 => (headgatelaw07_LruSteps.l0 k l1 0 bt610.1 bt610.2.1 bt610.2.2)) = some r := h
 clear h
 replace H := Option.bind_eq_some_iff.mp H
 obtain ⟨⟨t610, t613, t616⟩, A30, H⟩ := H
 replace H : (headgatelaw07_LruSteps.l0 k l1 0 t610 t613 t616) = some r := H
 have A3 := Aside0.mk A30
 clear A30
 have H' := Aside0.mk H
 clear H
 go_enter Try.func7, Try.ntmps7
 go_wp2_with (first | ((with_reducible refine gate_callee (f := 26) rfl ?_); refine goesL_ (some 15) rfl rfl Try.func26 (by kernel_rfl) rfl #[.slice A0 l0.length c0] rfl (by (try simp only [List.map_toArray, List.map_cons, List.map_nil]); first | done | rfl | (simp only [List.length_drop, List.length_take]; rfl)) ?_; (with_reducible refine (headgatelaw07_made.calls k _ _ l0 t610 t613 t616 _ ?side1 ?side2 A3.out).mono ?_); (case side1 => repeat (first | exact HR0.out | (with_reducible refine Kd.C_alloc ?_ _) | (with_reducible refine Kd.C_drewN ?_ _) | (with_reducible refine Kd.C_drew ?_))); (case side2 => exact HC0.out); rintro e w4 ⟨v611, v614, v617, rfl, ho0, ho1, ho2, hb⟩; refine ⟨_, rfl, ?_⟩; have n0_ := Aside0.mk (Kd.R_lower ho0 (below_size (by repeat (first | (with_reducible first | exact HB.out | apply below_alloc | apply pw_below_drewN | apply below_drew1) | exact HB.out)))); have n1_ := Aside0.mk (Kd.R_lower ho1 (below_size (by repeat (first | (with_reducible first | exact HB.out | apply below_alloc | apply pw_below_drewN | apply below_drew1) | exact HB.out)))); have n2_ := Aside0.mk (Kd.R_lower ho2 (below_size (by repeat (first | (with_reducible first | exact HB.out | apply below_alloc | apply pw_below_drewN | apply below_drew1) | exact HB.out)))); have n3_ := Aside0.mk (below_step (by repeat (first | (with_reducible first | exact HB.out | apply below_alloc | apply pw_below_drewN | apply below_drew1) | exact HB.out)) hb); clear HB; have HO612 := n0_; have HO615 := n1_; have HO618 := n2_; have HB := n3_; clear n0_ n1_ n2_ n3_; (try clear hb); (try clear hb2); (try clear hk); (try clear hi); (try clear ho0); (try clear ho1); (try clear ho2)) | ((with_reducible refine gate_dst (N := 5) rfl ?_); (try (refine gate_guard (by rfl) ?_; dsimp only)); refine box_event ?hg (N := 5) ?hd (cs := #[.slice none 0 0, .slice none 0 0, .slice none 0 0]) (t := 25) ?hr ?_; (case hd => rfl); (case hg => rfl); (case hr => first | (go_simp; done) | (go_simp; rfl)); intro gb619 hg w5 hbox hb; have n0_ := Aside0.mk (Kd.R_below (by (with_reducible repeat (first | apply Kd.R_alloc | apply Kd.R_drewN | apply Kd.R_drew)); exact HO612.out) hb); have n1_ := Aside0.mk (Kd.R_below (by (with_reducible repeat (first | apply Kd.R_alloc | apply Kd.R_drewN | apply Kd.R_drew)); exact HO615.out) hb); have n2_ := Aside0.mk (Kd.R_below (by (with_reducible repeat (first | apply Kd.R_alloc | apply Kd.R_drewN | apply Kd.R_drew)); exact HO618.out) hb); have n3_ := Aside0.mk (below_step (by repeat (first | (with_reducible first | exact HB.out | apply below_alloc | apply pw_below_drewN | apply below_drew1) | exact HB.out)) hb); have n4_ := Aside0.mk (hbox); have n5_ := Aside0.mk ((by rw [hg]; exact (below_size (by repeat (first | (with_reducible first | exact HB.out | apply below_alloc | apply pw_below_drewN | apply below_drew1) | exact HB.out))) : w.heap.size ≤ gb619)); have n6_ := Aside0.mk ((by rw [hg]; exact (below_size (by repeat (first | (with_reducible first | exact HB.out | apply below_alloc | apply pw_below_drewN | apply below_drew1) | exact HB.out))) : w.heap.size ≤ gb619)); clear HO612; clear HO615; clear HO618; clear HB; have HO612 := n0_; have HO615 := n1_; have HO618 := n2_; have HB := n3_; have BK619 := n4_; have GW619 := n5_; have GE619 := n6_; clear n0_ n1_ n2_ n3_ n4_ n5_ n6_; clear hb hbox hg; obtain ⟨Ao6, co6, eo6⟩ := Kd.R_slice HO612.out; subst eo6; have hcz7_0 : w5.cell? ⟨gb619, 0, none⟩ = some (.slice none 0 0) := (blk_cell BK619.out 0).trans rfl; have hcz7_1 : w5.cell? ⟨gb619, 1, none⟩ = some (.slice none 0 0) := (blk_cell BK619.out 1).trans rfl; have hcz7_2 : w5.cell? ⟨gb619, 2, none⟩ = some (.slice none 0 0) := (blk_cell BK619.out 2).trans rfl; have hfz7_0 := blk_frozen BK619.out 0; have hfz7_1 := blk_frozen BK619.out 1; have hfz7_2 := blk_frozen BK619.out 2; obtain ⟨Ao8, co8, eo8⟩ := Kd.R_slice HO615.out; subst eo8; obtain ⟨Ao9, co9, eo9⟩ := Kd.R_slice HO618.out; subst eo9))
 go_loopg [6] k (fun kq v6 w' => ∃ (x6_1 : Int) (x620000_1 : List Int) (x620001_1 : List Int) (x620002_1 : List Bool) (u620000 : Value) (u620001 : Value) (u620002 : Value), v6 = .int .i64 x6_1 ∧ Aside0 (headgatelaw07_LruSteps.l0 kq l1 x6_1 x620000_1 x620001_1 x620002_1 = some r) ∧ Aside0 (kq ≤ k) ∧ Aside0 (Kd.R (Kd.int .i64) 3 w' w.heap.size (fun k_ => some k_ ≠ (u620001 : Value).ownBlock) u620000 x620000_1) ∧ Aside0 (Kd.R (Kd.int .i64) 3 w' w.heap.size (fun k_ => some k_ ≠ (u620000 : Value).ownBlock) u620001 x620001_1) ∧ Aside0 (Kd.R Kd.bool 4 w' w.heap.size (fun _ => True) u620002 x620002_1) ∧ Aside0 (w'.heap[gb619]? = some (.cells #[u620000, u620001, u620002] 25 (0, 0))) ∧ Aside0 (Below w.heap.size w w'))
 case atStart => exact ⟨(0), (t610), (t613), (t616), (.slice Ao6 t610.length co6), (.slice Ao8 t613.length co8), (.slice Ao9 t616.length co9), (by first | rfl | (simp; done) | (simp [*]; done)), H', ⟨Nat.le_refl _⟩, ⟨by (with_reducible repeat (first | apply Kd.R_alloc | apply Kd.R_drewN | apply Kd.R_drew)); exact Kd.R_mono (Kd.R_far (p := ⟨gb619, 2, none⟩) (Kd.R_far (p := ⟨gb619, 1, none⟩) (Kd.R_far (p := ⟨gb619, 0, none⟩) (Kd.R_types HO612.out BK619.out (by decide)) (fun _ hk => hk.2) (.slice Ao6 t610.length co6)) (fun _ hk => hk.2) (.slice Ao8 t613.length co8)) (fun _ hk => hk.2) (.slice Ao9 t616.length co9)) (fun _ hk => hk.1)⟩, ⟨by (with_reducible repeat (first | apply Kd.R_alloc | apply Kd.R_drewN | apply Kd.R_drew)); exact Kd.R_mono (Kd.R_far (p := ⟨gb619, 2, none⟩) (Kd.R_far (p := ⟨gb619, 1, none⟩) (Kd.R_far (p := ⟨gb619, 0, none⟩) (Kd.R_types HO615.out BK619.out (by decide)) (fun _ hk => hk.2) (.slice Ao6 t610.length co6)) (fun _ hk => hk.2) (.slice Ao8 t613.length co8)) (fun _ hk => hk.2) (.slice Ao9 t616.length co9)) (fun _ hk => hk.1)⟩, ⟨by (with_reducible repeat (first | apply Kd.R_alloc | apply Kd.R_drewN | apply Kd.R_drew)); exact Kd.R_mono (Kd.R_far (p := ⟨gb619, 2, none⟩) (Kd.R_far (p := ⟨gb619, 1, none⟩) (Kd.R_far (p := ⟨gb619, 0, none⟩) (Kd.R_types HO618.out BK619.out (by decide)) (fun _ hk => hk.2) (.slice Ao6 t610.length co6)) (fun _ hk => hk.2) (.slice Ao8 t613.length co8)) (fun _ hk => hk.2) (.slice Ao9 t616.length co9)) (fun _ hk => trivial)⟩, ⟨by (with_reducible repeat (first | refine blk_drewN ?_ _ | refine blk_drew ?_ | refine blk_alloc ?_ _)); refine blk_put (cs := #[.slice Ao6 t610.length co6, .slice Ao8 t613.length co8, .slice none 0 0]) ?_ 2 _ rfl; (with_reducible repeat (first | refine blk_drewN ?_ _ | refine blk_drew ?_ | refine blk_alloc ?_ _)); refine blk_put (cs := #[.slice Ao6 t610.length co6, .slice none 0 0, .slice none 0 0]) ?_ 1 _ rfl; (with_reducible repeat (first | refine blk_drewN ?_ _ | refine blk_drew ?_ | refine blk_alloc ?_ _)); refine blk_put (cs := #[.slice none 0 0, .slice none 0 0, .slice none 0 0]) ?_ 0 _ rfl; (with_reducible repeat (first | refine blk_drewN ?_ _ | refine blk_drew ?_ | refine blk_alloc ?_ _)); exact BK619.out⟩, ⟨by repeat (first | (with_reducible first | exact HB.out | apply below_alloc | apply pw_below_drewN | apply below_drew1 | refine below_set ?_ GE619.out) | exact HB.out)⟩⟩
 case round =>
  clear H'
  try clear c1
  try clear c2
  try clear p2
  try clear c7
  try clear hcz7_0
  try clear hcz7_1
  try clear hcz7_2
  try clear hfz7_0
  try clear hfz7_1
  try clear hfz7_2
  obtain ⟨x6_1, x620000_1, x620001_1, x620002_1, u620000, u620001, u620002, rfl, HA, HK1, HO_620000, HO_620001, HO_620002, BK619, HB⟩ := hrel
  cases gk with
  | zero => exact absurd HA.out (by simp [headgatelaw07_LruSteps.l0])
  | succ k1 => as_aux_lemma =>
   have H := HA.out
   clear HA
   simp only [headgatelaw07_LruSteps.l0] at H
   have HC10 := Aside0.mk H
   clear H
   go_upto_region 3 with (fail)
   go_cut [23] (fun v23 wc => ∃ (kq : Nat) (x23_9 : Bool), v23 = .bool x23_9 ∧ Aside0 (headgatelaw07_LruSteps.j1 kq l1 x6_1 x23_9 x620000_1 x620001_1 x620002_1 = some r) ∧ Aside0 (kq ≤ k1) ∧ Aside0 (Kd.R (Kd.int .i64) 3 wc w.heap.size (fun k_ => some k_ ≠ (u620001 : Value).ownBlock) u620000 x620000_1) ∧ Aside0 (Kd.R (Kd.int .i64) 3 wc w.heap.size (fun k_ => some k_ ≠ (u620000 : Value).ownBlock) u620001 x620001_1) ∧ Aside0 (Kd.R Kd.bool 4 wc w.heap.size (fun _ => True) u620002 x620002_1) ∧ Aside0 (wc.heap[gb619]? = some (.cells #[u620000, u620001, u620002] 25 (0, 0))) ∧ Aside0 (Below w.heap.size w wc))
   case first =>
    have H := HC10.out
    clear HC10
    by_cases c11 : x6_1 < (l1.length : Int)
    ·
     rw [if_pos c11] at H
     have c11b0 : decide (x6_1 < (l1.length : Int)) = true := decide_eq_true c11
     clear c11
     (first | rw [c11b0] | (simp only [i64_w, i32_w]; rw [c11b0]) | skip)
     have H' := Aside0.mk H
     clear H
     go_wp2
     go_meet
     case rel => exact ⟨_, (decide (x6_1 < 30)), (by first | rfl | (simp; done) | (simp [*]; done)), H', ⟨by have := HK1.out; first | omega | exact Nat.le_refl _⟩, ⟨by (with_reducible repeat (first | apply Kd.R_alloc | apply Kd.R_drewN | apply Kd.R_drew)); exact HO_620000.out⟩, ⟨by (with_reducible repeat (first | apply Kd.R_alloc | apply Kd.R_drewN | apply Kd.R_drew)); exact HO_620001.out⟩, ⟨by (with_reducible repeat (first | apply Kd.R_alloc | apply Kd.R_drewN | apply Kd.R_drew)); exact HO_620002.out⟩, ⟨by (with_reducible repeat (first | refine blk_drewN ?_ _ | refine blk_drew ?_ | refine blk_alloc ?_ _)); exact BK619.out⟩, ⟨by repeat (first | (with_reducible first | exact HB.out | apply below_alloc | apply pw_below_drewN | apply below_drew1 | refine below_set ?_ GE619.out) | exact HB.out)⟩⟩
    ·
     rw [if_neg c11] at H
     have c11b0 : decide (x6_1 < (l1.length : Int)) = false := decide_eq_false c11
     clear c11
     (first | rw [c11b0] | (simp only [i64_w, i32_w]; rw [c11b0]) | skip)
     have H' := Aside0.mk H
     clear H
     go_wp2
     go_meet
     case rel => exact ⟨_, (false), (by first | rfl | (simp; done) | (simp [*]; done)), H', ⟨by have := HK1.out; first | omega | exact Nat.le_refl _⟩, ⟨by (with_reducible repeat (first | apply Kd.R_alloc | apply Kd.R_drewN | apply Kd.R_drew)); exact HO_620000.out⟩, ⟨by (with_reducible repeat (first | apply Kd.R_alloc | apply Kd.R_drewN | apply Kd.R_drew)); exact HO_620001.out⟩, ⟨by (with_reducible repeat (first | apply Kd.R_alloc | apply Kd.R_drewN | apply Kd.R_drew)); exact HO_620002.out⟩, ⟨by (with_reducible repeat (first | refine blk_drewN ?_ _ | refine blk_drew ?_ | refine blk_alloc ?_ _)); exact BK619.out⟩, ⟨by repeat (first | (with_reducible first | exact HB.out | apply below_alloc | apply pw_below_drewN | apply below_drew1 | refine below_set ?_ GE619.out) | exact HB.out)⟩⟩
   case rest =>
    clear HC10
    try clear c1
    try clear c2
    try clear p2
    try clear c7
    try clear c11
    try clear c11b0
    try clear hcz7_0
    try clear hcz7_1
    try clear hcz7_2
    try clear hfz7_0
    try clear hfz7_1
    try clear hfz7_2
    try clear p2
    obtain ⟨kq, x23_9, rfl, HA, HJ9, HO_620000, HO_620001, HO_620002, BK619, HB⟩ := hcut
    cases kq with
    | zero => exact absurd HA.out (by simp [headgatelaw07_LruSteps.j1])
    | succ kj9 =>
     have H := HA.out
     clear HA
     simp only [headgatelaw07_LruSteps.j1] at H
     by_cases c12 : x23_9 = true
     ·
      subst c12
      have H1 : (if 0 ≤ x6_1 then (if x6_1 < (l1.length : Int) then ((headgatekit_Mod.f (rd l1 x6_1) 80).bind fun t622 => ((headgatelaw07_size.f x620000_1 x620001_1 x620002_1).bind fun t623 => ((lru_Where.f kj9 x620000_1 x620001_1 x620002_1 (wrap64 (Int.tdiv t622 5))).bind fun bt624 => (if bt624.2 = 0 then (if (Int.tmod t622 5) = 0 then ((lru_Add.f kj9 x620000_1 x620001_1 x620002_1 (wrap64 (Int.tdiv t622 5))).bind fun bt627 => (headgatelaw07_LruSteps.j2 kj9 l1 x6_1 t622 bt624.1 bt627.2.2.2 (wrap64 (t623 + 1)) x620000_1 x620001_1 x620002_1 bt627.1 bt627.2.1 bt627.2.2.1)) else (if (Int.tmod t622 5) = 1 then ((lru_Remove.f kj9 x620000_1 x620001_1 x620002_1 (wrap64 (Int.tdiv t622 5))).bind fun bt637 => (headgatelaw07_LruSteps.j2 kj9 l1 x6_1 t622 bt624.1 bt637.2.2.2 (wrap64 (t623 - 1)) x620000_1 x620001_1 x620002_1 bt637.1 bt637.2.1 bt637.2.2.1)) else (if (Int.tmod t622 5) = 2 then ((lru_Touch.f kj9 x620000_1 x620001_1 x620002_1 (wrap64 (Int.tdiv t622 5))).bind fun bt647 => (headgatelaw07_LruSteps.j2 kj9 l1 x6_1 t622 bt624.1 bt647.2.2.2 t623 x620000_1 x620001_1 x620002_1 bt647.1 bt647.2.1 bt647.2.2.1)) else (if (Int.tmod t622 5) = 3 then ((lru_Demote.f x620000_1 x620001_1 x620002_1).bind fun bt657 => (headgatelaw07_LruSteps.j2 kj9 l1 x6_1 t622 bt624.1 bt657.2.2.2.2 t623 x620000_1 x620001_1 x620002_1 bt657.1 bt657.2.1 bt657.2.2.1)) else (if (Int.tmod t622 5) = 4 then ((lru_Promote.f x620000_1 x620001_1 x620002_1).bind fun bt668 => (headgatelaw07_LruSteps.j2 kj9 l1 x6_1 t622 bt624.1 bt668.2.2.2.2 t623 x620000_1 x620001_1 x620002_1 bt668.1 bt668.2.1 bt668.2.2.1)) else (headgatelaw07_LruSteps.j2 kj9 l1 x6_1 t622 bt624.1 bt624.2 t623 x620000_1 x620001_1 x620002_1 ([] : List Int) ([] : List Int) ([] : List Bool))))))) else (some false))))) else (none)) else (none)) = some r := by rw [if_pos rfl] at H; exact H
      clear H
      have H := H1
      clear H1
      by_cases c13 : 0 ≤ x6_1
      ·
       rw [if_pos c13] at H
       have c13b0 : decide (0 ≤ x6_1) = true := decide_eq_true c13
       clear c13
       by_cases c14 : x6_1 < (l1.length : Int)
       ·
        rw [if_pos c14] at H
        have c14b0 : decide (x6_1 < (l1.length : Int)) = true := decide_eq_true c14
        clear c14
        replace H := Option.bind_eq_some_iff.mp H
        obtain ⟨t622, A150, H⟩ := H
        replace H : ((headgatelaw07_size.f x620000_1 x620001_1 x620002_1).bind fun t623 => ((lru_Where.f kj9 x620000_1 x620001_1 x620002_1 (wrap64 (Int.tdiv t622 5))).bind fun bt624 => (if bt624.2 = 0 then (if (Int.tmod t622 5) = 0 then ((lru_Add.f kj9 x620000_1 x620001_1 x620002_1 (wrap64 (Int.tdiv t622 5))).bind fun bt627 => (headgatelaw07_LruSteps.j2 kj9 l1 x6_1 t622 bt624.1 bt627.2.2.2 (wrap64 (t623 + 1)) x620000_1 x620001_1 x620002_1 bt627.1 bt627.2.1 bt627.2.2.1)) else (if (Int.tmod t622 5) = 1 then ((lru_Remove.f kj9 x620000_1 x620001_1 x620002_1 (wrap64 (Int.tdiv t622 5))).bind fun bt637 => (headgatelaw07_LruSteps.j2 kj9 l1 x6_1 t622 bt624.1 bt637.2.2.2 (wrap64 (t623 - 1)) x620000_1 x620001_1 x620002_1 bt637.1 bt637.2.1 bt637.2.2.1)) else (if (Int.tmod t622 5) = 2 then ((lru_Touch.f kj9 x620000_1 x620001_1 x620002_1 (wrap64 (Int.tdiv t622 5))).bind fun bt647 => (headgatelaw07_LruSteps.j2 kj9 l1 x6_1 t622 bt624.1 bt647.2.2.2 t623 x620000_1 x620001_1 x620002_1 bt647.1 bt647.2.1 bt647.2.2.1)) else (if (Int.tmod t622 5) = 3 then ((lru_Demote.f x620000_1 x620001_1 x620002_1).bind fun bt657 => (headgatelaw07_LruSteps.j2 kj9 l1 x6_1 t622 bt624.1 bt657.2.2.2.2 t623 x620000_1 x620001_1 x620002_1 bt657.1 bt657.2.1 bt657.2.2.1)) else (if (Int.tmod t622 5) = 4 then ((lru_Promote.f x620000_1 x620001_1 x620002_1).bind fun bt668 => (headgatelaw07_LruSteps.j2 kj9 l1 x6_1 t622 bt624.1 bt668.2.2.2.2 t623 x620000_1 x620001_1 x620002_1 bt668.1 bt668.2.1 bt668.2.2.1)) else (headgatelaw07_LruSteps.j2 kj9 l1 x6_1 t622 bt624.1 bt624.2 t623 x620000_1 x620001_1 x620002_1 ([] : List Int) ([] : List Int) ([] : List Bool))))))) else (some false)))) = some r := H
        have A15 := Aside0.mk A150
        clear A150
        replace H := Option.bind_eq_some_iff.mp H
        obtain ⟨t623, A160, H⟩ := H
        replace H : ((lru_Where.f kj9 x620000_1 x620001_1 x620002_1 (wrap64 (Int.tdiv t622 5))).bind fun bt624 => (if bt624.2 = 0 then (if (Int.tmod t622 5) = 0 then ((lru_Add.f kj9 x620000_1 x620001_1 x620002_1 (wrap64 (Int.tdiv t622 5))).bind fun bt627 => (headgatelaw07_LruSteps.j2 kj9 l1 x6_1 t622 bt624.1 bt627.2.2.2 (wrap64 (t623 + 1)) x620000_1 x620001_1 x620002_1 bt627.1 bt627.2.1 bt627.2.2.1)) else (if (Int.tmod t622 5) = 1 then ((lru_Remove.f kj9 x620000_1 x620001_1 x620002_1 (wrap64 (Int.tdiv t622 5))).bind fun bt637 => (headgatelaw07_LruSteps.j2 kj9 l1 x6_1 t622 bt624.1 bt637.2.2.2 (wrap64 (t623 - 1)) x620000_1 x620001_1 x620002_1 bt637.1 bt637.2.1 bt637.2.2.1)) else (if (Int.tmod t622 5) = 2 then ((lru_Touch.f kj9 x620000_1 x620001_1 x620002_1 (wrap64 (Int.tdiv t622 5))).bind fun bt647 => (headgatelaw07_LruSteps.j2 kj9 l1 x6_1 t622 bt624.1 bt647.2.2.2 t623 x620000_1 x620001_1 x620002_1 bt647.1 bt647.2.1 bt647.2.2.1)) else (if (Int.tmod t622 5) = 3 then ((lru_Demote.f x620000_1 x620001_1 x620002_1).bind fun bt657 => (headgatelaw07_LruSteps.j2 kj9 l1 x6_1 t622 bt624.1 bt657.2.2.2.2 t623 x620000_1 x620001_1 x620002_1 bt657.1 bt657.2.1 bt657.2.2.1)) else (if (Int.tmod t622 5) = 4 then ((lru_Promote.f x620000_1 x620001_1 x620002_1).bind fun bt668 => (headgatelaw07_LruSteps.j2 kj9 l1 x6_1 t622 bt624.1 bt668.2.2.2.2 t623 x620000_1 x620001_1 x620002_1 bt668.1 bt668.2.1 bt668.2.2.1)) else (headgatelaw07_LruSteps.j2 kj9 l1 x6_1 t622 bt624.1 bt624.2 t623 x620000_1 x620001_1 x620002_1 ([] : List Int) ([] : List Int) ([] : List Bool))))))) else (some false))) = some r := H
        have A16 := Aside0.mk A160
        clear A160
        replace H := Option.bind_eq_some_iff.mp H
        obtain ⟨⟨t624, t625⟩, A170, H⟩ := H
        replace H : (if t625 = 0 then (if (Int.tmod t622 5) = 0 then ((lru_Add.f kj9 x620000_1 x620001_1 x620002_1 (wrap64 (Int.tdiv t622 5))).bind fun bt627 => (headgatelaw07_LruSteps.j2 kj9 l1 x6_1 t622 t624 bt627.2.2.2 (wrap64 (t623 + 1)) x620000_1 x620001_1 x620002_1 bt627.1 bt627.2.1 bt627.2.2.1)) else (if (Int.tmod t622 5) = 1 then ((lru_Remove.f kj9 x620000_1 x620001_1 x620002_1 (wrap64 (Int.tdiv t622 5))).bind fun bt637 => (headgatelaw07_LruSteps.j2 kj9 l1 x6_1 t622 t624 bt637.2.2.2 (wrap64 (t623 - 1)) x620000_1 x620001_1 x620002_1 bt637.1 bt637.2.1 bt637.2.2.1)) else (if (Int.tmod t622 5) = 2 then ((lru_Touch.f kj9 x620000_1 x620001_1 x620002_1 (wrap64 (Int.tdiv t622 5))).bind fun bt647 => (headgatelaw07_LruSteps.j2 kj9 l1 x6_1 t622 t624 bt647.2.2.2 t623 x620000_1 x620001_1 x620002_1 bt647.1 bt647.2.1 bt647.2.2.1)) else (if (Int.tmod t622 5) = 3 then ((lru_Demote.f x620000_1 x620001_1 x620002_1).bind fun bt657 => (headgatelaw07_LruSteps.j2 kj9 l1 x6_1 t622 t624 bt657.2.2.2.2 t623 x620000_1 x620001_1 x620002_1 bt657.1 bt657.2.1 bt657.2.2.1)) else (if (Int.tmod t622 5) = 4 then ((lru_Promote.f x620000_1 x620001_1 x620002_1).bind fun bt668 => (headgatelaw07_LruSteps.j2 kj9 l1 x6_1 t622 t624 bt668.2.2.2.2 t623 x620000_1 x620001_1 x620002_1 bt668.1 bt668.2.1 bt668.2.2.1)) else (headgatelaw07_LruSteps.j2 kj9 l1 x6_1 t622 t624 t625 t623 x620000_1 x620001_1 x620002_1 ([] : List Int) ([] : List Int) ([] : List Bool))))))) else (some false)) = some r := H
        have A17 := Aside0.mk A170
        clear A170
        by_cases c18 : t625 = 0
        · as_aux_lemma =>
         rw [if_pos c18] at H
         have c18b0 : (t625 == 0) = true := beq_iff_eq.mpr c18
         have c18b1 : (t625 != 0) = false := bne_eq_false_iff_eq.mpr c18
         clear c18
         have HC19 := Aside0.mk H
         clear H
         have p621 : 0 ≤ (x6_1 : Int) := of_decide_eq_true (by first | (with_reducible assumption) | assumption)
         have q621 : x6_1 < (l1.length : Int) := of_decide_eq_true (by first | (with_reducible assumption) | assumption)
         obtain ⟨ad621, e621, hx621_0⟩ := Kd.at_int HR1.out x6_1 p621 q621
         cases e621
         replace hx621_0 := (HB.out.cell (World.block_lt_of_cell? w _ hx621_0)).trans hx621_0
         replace p621 := eq_true p621
         replace q621 := eq_true q621
         go_upto_block 2 with (first | ((with_reducible refine gate_callee (f := 27) rfl ?_); refine goesL_ (some 30) rfl rfl Try.func27 (by kernel_rfl) rfl #[.int .i64 (rd l1 x6_1), .int .i64 80] rfl (by (try simp only [List.map_toArray, List.map_cons, List.map_nil]); first | done | rfl | (simp only [List.length_drop, List.length_take]; rfl)) ?_; (with_reducible refine (headgatekit_Mod.calls (rd l1 x6_1) 80 t622 _ A15.out).mono ?_); rintro e w' ⟨rfl, ⟨nd, rfl⟩⟩; refine ⟨_, rfl, ?_⟩; have hcz20_0 : wc.cell? ⟨gb619, 0, none⟩ = some (u620000) := (blk_cell BK619.out 0).trans rfl; have hcz20_1 : wc.cell? ⟨gb619, 1, none⟩ = some (u620001) := (blk_cell BK619.out 1).trans rfl; have hcz20_2 : wc.cell? ⟨gb619, 2, none⟩ = some (u620002) := (blk_cell BK619.out 2).trans rfl; have hfz20_0 := blk_frozen BK619.out 0; have hfz20_1 := blk_frozen BK619.out 1; have hfz20_2 := blk_frozen BK619.out 2; obtain ⟨Ao21, co21, eo21⟩ := Kd.R_slice HO_620000.out; subst eo21; obtain ⟨Ao22, co22, eo22⟩ := Kd.R_slice HO_620001.out; subst eo22; obtain ⟨Ao23, co23, eo23⟩ := Kd.R_slice HO_620002.out; subst eo23) | ((with_reducible refine gate_callee (f := 35) rfl ?_); refine goesL_ (some 34) rfl rfl Try.func35 (by kernel_rfl) rfl #[.agg #[.slice Ao21 x620000_1.length co21, .slice Ao22 x620001_1.length co22, .slice Ao23 x620002_1.length co23]] rfl (by (try simp only [List.map_toArray, List.map_cons, List.map_nil]); first | done | rfl | (simp only [List.length_drop, List.length_take]; rfl)) ?_; (with_reducible refine (headgatelaw07_size.calls _ _ x620000_1 _ _ x620001_1 _ _ x620002_1 t623 _ ?side1 ?side2 ?side3 ?side4 ?side5 ?side6 A16.out).mono ?_); (case side1 => repeat (first | exact (Kd.R_reads' HO_620000.out).2.2 | (with_reducible refine Kd.C_alloc ?_ _) | (with_reducible refine Kd.C_drewN ?_ _) | (with_reducible refine Kd.C_drew ?_))); (case side2 => exact (Kd.R_reads' HO_620000.out).2.1); (case side3 => repeat (first | exact (Kd.R_reads' HO_620001.out).2.2 | (with_reducible refine Kd.C_alloc ?_ _) | (with_reducible refine Kd.C_drewN ?_ _) | (with_reducible refine Kd.C_drew ?_))); (case side4 => exact (Kd.R_reads' HO_620001.out).2.1); (case side5 => repeat (first | exact (Kd.R_reads' HO_620002.out).2.2 | (with_reducible refine Kd.C_alloc ?_ _) | (with_reducible refine Kd.C_drewN ?_ _) | (with_reducible refine Kd.C_drew ?_))); (case side6 => exact (Kd.R_reads' HO_620002.out).2.1); rintro e w24 ⟨rfl, hb⟩; refine ⟨_, rfl, ?_⟩; have n0_ := Aside0.mk (Kd.R_below (by (with_reducible repeat (first | apply Kd.R_alloc | apply Kd.R_drewN | apply Kd.R_drew)); exact HO_620000.out) hb); have n1_ := Aside0.mk (Kd.R_below (by (with_reducible repeat (first | apply Kd.R_alloc | apply Kd.R_drewN | apply Kd.R_drew)); exact HO_620001.out) hb); have n2_ := Aside0.mk (Kd.R_below (by (with_reducible repeat (first | apply Kd.R_alloc | apply Kd.R_drewN | apply Kd.R_drew)); exact HO_620002.out) hb); have n3_ := Aside0.mk (blk_below (g := gb619) (o := .cells #[.slice Ao21 x620000_1.length co21, .slice Ao22 x620001_1.length co22, .slice Ao23 x620002_1.length co23] 25 (0, 0)) (by (with_reducible repeat (first | refine blk_drewN ?_ _ | refine blk_drew ?_ | refine blk_alloc ?_ _)); exact BK619.out) hb); have n4_ := Aside0.mk (below_step (by repeat (first | (with_reducible first | exact HB.out | apply below_alloc | apply pw_below_drewN | apply below_drew1 | refine below_set ?_ GE619.out) | exact HB.out)) hb); clear HO_620000; clear HO_620001; clear HO_620002; clear BK619; clear HB; have HO_620000 := n0_; have HO_620001 := n1_; have HO_620002 := n2_; have BK619 := n3_; have HB := n4_; clear n0_ n1_ n2_ n3_ n4_; (try clear hb); (try clear hb2); (try clear hk); (try clear hi); have hcz25_0 : w24.cell? ⟨gb619, 0, none⟩ = some (.slice Ao21 x620000_1.length co21) := (blk_cell BK619.out 0).trans rfl; have hcz25_1 : w24.cell? ⟨gb619, 1, none⟩ = some (.slice Ao22 x620001_1.length co22) := (blk_cell BK619.out 1).trans rfl; have hcz25_2 : w24.cell? ⟨gb619, 2, none⟩ = some (.slice Ao23 x620002_1.length co23) := (blk_cell BK619.out 2).trans rfl; have hfz25_0 := blk_frozen BK619.out 0; have hfz25_1 := blk_frozen BK619.out 1; have hfz25_2 := blk_frozen BK619.out 2) | ((with_reducible refine gate_callee (f := 24) rfl ?_); refine goesL_ (some 38) rfl rfl Try.func24 (by kernel_rfl) rfl #[.agg #[.slice Ao21 x620000_1.length co21, .slice Ao22 x620001_1.length co22, .slice Ao23 x620002_1.length co23], .int .i64 (wrap64 (Int.tdiv t622 5))] rfl (by (try simp only [List.map_toArray, List.map_cons, List.map_nil]); first | done | rfl | (simp only [List.length_drop, List.length_take]; rfl)) ?_; (with_reducible refine (lru_Where.calls kj9 _ _ x620000_1 _ _ x620001_1 _ _ x620002_1 (wrap64 (Int.tdiv t622 5)) t624 t625 _ ?side1 ?side2 ?side3 ?side4 ?side5 ?side6 A17.out).mono ?_); (case side1 => repeat (first | exact (Kd.R_reads' HO_620000.out).2.2 | (with_reducible refine Kd.C_alloc ?_ _) | (with_reducible refine Kd.C_drewN ?_ _) | (with_reducible refine Kd.C_drew ?_))); (case side2 => exact (Kd.R_reads' HO_620000.out).2.1); (case side3 => repeat (first | exact (Kd.R_reads' HO_620001.out).2.2 | (with_reducible refine Kd.C_alloc ?_ _) | (with_reducible refine Kd.C_drewN ?_ _) | (with_reducible refine Kd.C_drew ?_))); (case side4 => exact (Kd.R_reads' HO_620001.out).2.1); (case side5 => repeat (first | exact (Kd.R_reads' HO_620002.out).2.2 | (with_reducible refine Kd.C_alloc ?_ _) | (with_reducible refine Kd.C_drewN ?_ _) | (with_reducible refine Kd.C_drew ?_))); (case side6 => exact (Kd.R_reads' HO_620002.out).2.1); rintro e w26 ⟨rfl, hb⟩; refine ⟨_, rfl, ?_⟩; have n0_ := Aside0.mk (Kd.R_below (by (with_reducible repeat (first | apply Kd.R_alloc | apply Kd.R_drewN | apply Kd.R_drew)); exact HO_620000.out) hb); have n1_ := Aside0.mk (Kd.R_below (by (with_reducible repeat (first | apply Kd.R_alloc | apply Kd.R_drewN | apply Kd.R_drew)); exact HO_620001.out) hb); have n2_ := Aside0.mk (Kd.R_below (by (with_reducible repeat (first | apply Kd.R_alloc | apply Kd.R_drewN | apply Kd.R_drew)); exact HO_620002.out) hb); have n3_ := Aside0.mk (blk_below (g := gb619) (o := .cells #[.slice Ao21 x620000_1.length co21, .slice Ao22 x620001_1.length co22, .slice Ao23 x620002_1.length co23] 25 (0, 0)) (by (with_reducible repeat (first | refine blk_drewN ?_ _ | refine blk_drew ?_ | refine blk_alloc ?_ _)); exact BK619.out) hb); have n4_ := Aside0.mk (below_step (by repeat (first | (with_reducible first | exact HB.out | apply below_alloc | apply pw_below_drewN | apply below_drew1 | refine below_set ?_ GE619.out) | exact HB.out)) hb); clear HO_620000; clear HO_620001; clear HO_620002; clear BK619; clear HB; have HO_620000 := n0_; have HO_620001 := n1_; have HO_620002 := n2_; have BK619 := n3_; have HB := n4_; clear n0_ n1_ n2_ n3_ n4_; (try clear hb); (try clear hb2); (try clear hk); (try clear hi)) | ((with_reducible refine gate_dst (N := 12) rfl ?_); (try (refine gate_guard (by rfl) ?_; dsimp only)); refine box_event ?hg (N := 12) ?hd (cs := #[.slice none 0 0, .slice none 0 0, .slice none 0 0]) (t := 25) ?hr ?_; (case hd => rfl); (case hg => rfl); (case hr => first | (go_simp; done) | (go_simp; rfl)); intro gb626 hg w27 hbox hb; have n0_ := Aside0.mk (Kd.R_below (by (with_reducible repeat (first | apply Kd.R_alloc | apply Kd.R_drewN | apply Kd.R_drew)); exact HO_620000.out) hb); have n1_ := Aside0.mk (Kd.R_below (by (with_reducible repeat (first | apply Kd.R_alloc | apply Kd.R_drewN | apply Kd.R_drew)); exact HO_620001.out) hb); have n2_ := Aside0.mk (Kd.R_below (by (with_reducible repeat (first | apply Kd.R_alloc | apply Kd.R_drewN | apply Kd.R_drew)); exact HO_620002.out) hb); have n3_ := Aside0.mk (blk_below (g := gb619) (o := .cells #[.slice Ao21 x620000_1.length co21, .slice Ao22 x620001_1.length co22, .slice Ao23 x620002_1.length co23] 25 (0, 0)) (by (with_reducible repeat (first | refine blk_drewN ?_ _ | refine blk_drew ?_ | refine blk_alloc ?_ _)); exact BK619.out) hb); have n4_ := Aside0.mk (below_step (by repeat (first | (with_reducible first | exact HB.out | apply below_alloc | apply pw_below_drewN | apply below_drew1 | refine below_set ?_ GE619.out) | exact HB.out)) hb); have n5_ := Aside0.mk (hbox); have n6_ := Aside0.mk ((by rw [hg]; exact (below_size (by repeat (first | (with_reducible first | exact HB.out | apply below_alloc | apply pw_below_drewN | apply below_drew1 | refine below_set ?_ GE619.out) | exact HB.out))) : w.heap.size ≤ gb626)); have n7_ := Aside0.mk ((by rw [hg]; exact (below_size (by repeat (first | (with_reducible first | exact HB.out | apply below_alloc | apply pw_below_drewN | apply below_drew1 | refine below_set ?_ GE619.out) | exact HB.out))) : w.heap.size ≤ gb626)); have n8_ := Aside0.mk ((by rw [hg]; exact Nat.ne_of_lt (blk_lt (g := gb619) (o := .cells #[.slice Ao21 x620000_1.length co21, .slice Ao22 x620001_1.length co22, .slice Ao23 x620002_1.length co23] 25 (0, 0)) (by (with_reducible repeat (first | refine blk_drewN ?_ _ | refine blk_drew ?_ | refine blk_alloc ?_ _)); exact BK619.out)) : gb619 ≠ gb626)); have n9_ := Aside0.mk ((by rw [hg]; exact Nat.ne_of_gt (blk_lt (g := gb619) (o := .cells #[.slice Ao21 x620000_1.length co21, .slice Ao22 x620001_1.length co22, .slice Ao23 x620002_1.length co23] 25 (0, 0)) (by (with_reducible repeat (first | refine blk_drewN ?_ _ | refine blk_drew ?_ | refine blk_alloc ?_ _)); exact BK619.out)) : gb626 ≠ gb619)); clear HO_620000; clear HO_620001; clear HO_620002; clear BK619; clear HB; have HO_620000 := n0_; have HO_620001 := n1_; have HO_620002 := n2_; have BK619 := n3_; have HB := n4_; have BK626 := n5_; have GW626 := n6_; have GE626 := n7_; have NB619_626 := n8_; have NB626_619 := n9_; clear n0_ n1_ n2_ n3_ n4_ n5_ n6_ n7_ n8_ n9_; clear hb hbox hg))
         (try simp only [Act.put, List.setIfInBounds_toArray, List.set_cons_zero, List.set_cons_succ])
         go_cut [11, 13] (fun v11 v13 wc => ∃ (kq : Nat) (x11_18 : Int) (x13_18 : Int) (x627000_18 : List Int) (x627001_18 : List Int) (x627002_18 : List Bool) (u627000 : Value) (u627001 : Value) (u627002 : Value), v11 = .int .i64 x11_18 ∧ v13 = .int .i64 x13_18 ∧ Aside0 (headgatelaw07_LruSteps.j2 kq l1 x6_1 t622 t624 x11_18 x13_18 x620000_1 x620001_1 x620002_1 x627000_18 x627001_18 x627002_18 = some r) ∧ Aside0 (kq ≤ kj9) ∧ Aside0 (Kd.R (Kd.int .i64) 3 wc w.heap.size (fun k_ => some k_ ≠ ((.slice Ao22 x620001_1.length co22) : Value).ownBlock ∧ some k_ ≠ (u627000 : Value).ownBlock ∧ some k_ ≠ (u627001 : Value).ownBlock) (.slice Ao21 x620000_1.length co21) x620000_1) ∧ Aside0 (Kd.R (Kd.int .i64) 3 wc w.heap.size (fun k_ => some k_ ≠ ((.slice Ao21 x620000_1.length co21) : Value).ownBlock ∧ some k_ ≠ (u627000 : Value).ownBlock ∧ some k_ ≠ (u627001 : Value).ownBlock) (.slice Ao22 x620001_1.length co22) x620001_1) ∧ Aside0 (Kd.R Kd.bool 4 wc w.heap.size (fun k_ => some k_ ≠ (u627002 : Value).ownBlock) (.slice Ao23 x620002_1.length co23) x620002_1) ∧ Aside0 (Kd.R (Kd.int .i64) 3 wc w.heap.size (fun k_ => some k_ ≠ ((.slice Ao21 x620000_1.length co21) : Value).ownBlock ∧ some k_ ≠ ((.slice Ao22 x620001_1.length co22) : Value).ownBlock ∧ some k_ ≠ (u627001 : Value).ownBlock) u627000 x627000_18) ∧ Aside0 (Kd.R (Kd.int .i64) 3 wc w.heap.size (fun k_ => some k_ ≠ ((.slice Ao21 x620000_1.length co21) : Value).ownBlock ∧ some k_ ≠ ((.slice Ao22 x620001_1.length co22) : Value).ownBlock ∧ some k_ ≠ (u627000 : Value).ownBlock) u627001 x627001_18) ∧ Aside0 (Kd.R Kd.bool 4 wc w.heap.size (fun k_ => some k_ ≠ ((.slice Ao23 x620002_1.length co23) : Value).ownBlock) u627002 x627002_18) ∧ Aside0 (wc.heap[gb619]? = some (.cells #[(.slice Ao21 x620000_1.length co21), (.slice Ao22 x620001_1.length co22), (.slice Ao23 x620002_1.length co23)] 25 (0, 0))) ∧ Aside0 (wc.heap[gb626]? = some (.cells #[u627000, u627001, u627002] 25 (0, 0))) ∧ Aside0 (Below w.heap.size w wc))
         case first => as_aux_lemma =>
          have H := HC19.out
          clear HC19
          by_cases c28 : (Int.tmod t622 5) = 0
          ·
           rw [if_pos c28] at H
           have c28b0 : ((Int.tmod t622 5) == 0) = true := beq_iff_eq.mpr c28
           have c28b1 : ((Int.tmod t622 5) != 0) = false := bne_eq_false_iff_eq.mpr c28
           clear c28
           (first | rw [c28b0] | (simp only [i64_w, i32_w]; rw [c28b0]) | skip)
           replace H := Option.bind_eq_some_iff.mp H
           obtain ⟨⟨t627, t630, t633, t636⟩, A290, H⟩ := H
           replace H : (headgatelaw07_LruSteps.j2 kj9 l1 x6_1 t622 t624 t636 (wrap64 (t623 + 1)) x620000_1 x620001_1 x620002_1 t627 t630 t633) = some r := H
           have A29 := Aside0.mk A290
           clear A290
           have H' := Aside0.mk H
           clear H
           have hnb30 := NB619_626.out
           have hnc30 := NB626_619.out
           have hcz31_0 : w27.cell? ⟨gb619, 0, none⟩ = some (.slice Ao21 x620000_1.length co21) := (blk_cell BK619.out 0).trans rfl
           have hcz31_1 : w27.cell? ⟨gb619, 1, none⟩ = some (.slice Ao22 x620001_1.length co22) := (blk_cell BK619.out 1).trans rfl
           have hcz31_2 : w27.cell? ⟨gb619, 2, none⟩ = some (.slice Ao23 x620002_1.length co23) := (blk_cell BK619.out 2).trans rfl
           have hfz31_0 := blk_frozen BK619.out 0
           have hfz31_1 := blk_frozen BK619.out 1
           have hfz31_2 := blk_frozen BK619.out 2
           go_wp2_with (first | ((with_reducible refine gate_callee (f := 18) rfl ?_); refine goesL_ (some 51) rfl rfl Try.func18 (by kernel_rfl) rfl #[.agg #[.slice Ao21 x620000_1.length co21, .slice Ao22 x620001_1.length co22, .slice Ao23 x620002_1.length co23], .int .i64 (wrap64 (Int.tdiv t622 5))] rfl (by (try simp only [List.map_toArray, List.map_cons, List.map_nil]); first | done | rfl | (simp only [List.length_drop, List.length_take]; rfl)) ?_; (with_reducible refine (lru_Add.calls kj9 _ _ x620000_1 _ _ x620001_1 _ _ x620002_1 (wrap64 (Int.tdiv t622 5)) t627 t630 t633 t636 _ ?side1 ?side2 ?side3 ?side4 ?side5 ?side6 A29.out).mono ?_); (case side1 => repeat (first | exact (Kd.R_reads' HO_620000.out).2.2 | (with_reducible refine Kd.C_alloc ?_ _) | (with_reducible refine Kd.C_drewN ?_ _) | (with_reducible refine Kd.C_drew ?_))); (case side2 => exact (Kd.R_reads' HO_620000.out).2.1); (case side3 => repeat (first | exact (Kd.R_reads' HO_620001.out).2.2 | (with_reducible refine Kd.C_alloc ?_ _) | (with_reducible refine Kd.C_drewN ?_ _) | (with_reducible refine Kd.C_drew ?_))); (case side4 => exact (Kd.R_reads' HO_620001.out).2.1); (case side5 => repeat (first | exact (Kd.R_reads' HO_620002.out).2.2 | (with_reducible refine Kd.C_alloc ?_ _) | (with_reducible refine Kd.C_drewN ?_ _) | (with_reducible refine Kd.C_drew ?_))); (case side6 => exact (Kd.R_reads' HO_620002.out).2.1); rintro e w32 ⟨v628, v631, v634, rfl, ho0, ho1, ho2, hb⟩; refine ⟨_, rfl, ?_⟩; have n0_ := Aside0.mk (Kd.R_mono (Kd.R_told (Kd.R_told (Kd.R_old (by (with_reducible repeat (first | apply Kd.R_alloc | apply Kd.R_drewN | apply Kd.R_drew)); exact HO_620000.out) hb) (Kd.R_base ho0)) (Kd.R_base ho1)) (fun _ h_ => h_.1)); have n1_ := Aside0.mk (Kd.R_mono (Kd.R_told (Kd.R_told (Kd.R_old (by (with_reducible repeat (first | apply Kd.R_alloc | apply Kd.R_drewN | apply Kd.R_drew)); exact HO_620001.out) hb) (Kd.R_base ho0)) (Kd.R_base ho1)) (fun _ h_ => h_.1)); have n2_ := Aside0.mk (Kd.R_elder' (by (with_reducible repeat (first | apply Kd.R_alloc | apply Kd.R_drewN | apply Kd.R_drew)); exact HO_620002.out) (Kd.R_base ho2) hb); have n3_ := Aside0.mk (Kd.R_lower (Kd.R_new' (Kd.R_new' ho0 (Kd.R_lt (by (with_reducible repeat (first | apply Kd.R_alloc | apply Kd.R_drewN | apply Kd.R_drew)); exact HO_620000.out))) (Kd.R_lt (by (with_reducible repeat (first | apply Kd.R_alloc | apply Kd.R_drewN | apply Kd.R_drew)); exact HO_620001.out))) (below_size (by repeat (first | (with_reducible first | exact HB.out | apply below_alloc | apply pw_below_drewN | apply below_drew1 | refine below_set ?_ GE619.out | refine below_set ?_ GE626.out) | exact HB.out)))); have n4_ := Aside0.mk (Kd.R_lower (Kd.R_new' (Kd.R_new' ho1 (Kd.R_lt (by (with_reducible repeat (first | apply Kd.R_alloc | apply Kd.R_drewN | apply Kd.R_drew)); exact HO_620000.out))) (Kd.R_lt (by (with_reducible repeat (first | apply Kd.R_alloc | apply Kd.R_drewN | apply Kd.R_drew)); exact HO_620001.out))) (below_size (by repeat (first | (with_reducible first | exact HB.out | apply below_alloc | apply pw_below_drewN | apply below_drew1 | refine below_set ?_ GE619.out | refine below_set ?_ GE626.out) | exact HB.out)))); have n5_ := Aside0.mk (Kd.R_lower (Kd.R_new' ho2 (Kd.R_lt (by (with_reducible repeat (first | apply Kd.R_alloc | apply Kd.R_drewN | apply Kd.R_drew)); exact HO_620002.out))) (below_size (by repeat (first | (with_reducible first | exact HB.out | apply below_alloc | apply pw_below_drewN | apply below_drew1 | refine below_set ?_ GE619.out | refine below_set ?_ GE626.out) | exact HB.out)))); have n6_ := Aside0.mk (blk_below (g := gb619) (o := .cells #[.slice Ao21 x620000_1.length co21, .slice Ao22 x620001_1.length co22, .slice Ao23 x620002_1.length co23] 25 (0, 0)) (by (with_reducible repeat (first | refine blk_drewN ?_ _ | refine blk_drew ?_ | refine blk_alloc ?_ _)); exact BK619.out) hb); have n7_ := Aside0.mk (blk_below (g := gb626) (o := .cells #[.slice none 0 0, .slice none 0 0, .slice none 0 0] 25 (0, 0)) (by (with_reducible repeat (first | refine blk_drewN ?_ _ | refine blk_drew ?_ | refine blk_alloc ?_ _)); exact BK626.out) hb); have n8_ := Aside0.mk (below_step (by repeat (first | (with_reducible first | exact HB.out | apply below_alloc | apply pw_below_drewN | apply below_drew1 | refine below_set ?_ GE619.out | refine below_set ?_ GE626.out) | exact HB.out)) hb); clear HO_620000; clear HO_620001; clear HO_620002; clear BK619; clear BK626; clear HB; have HO_620000 := n0_; have HO_620001 := n1_; have HO_620002 := n2_; have HO629 := n3_; have HO632 := n4_; have HO635 := n5_; have BK619 := n6_; have BK626 := n7_; have HB := n8_; clear n0_ n1_ n2_ n3_ n4_ n5_ n6_ n7_ n8_; (try clear hb); (try clear hb2); (try clear hk); (try clear hi); (try clear ho0); (try clear ho1); (try clear ho2); obtain ⟨Ao33, co33, eo33⟩ := Kd.R_slice HO629.out; subst eo33; have hcz34_0 : w32.cell? ⟨gb626, 0, none⟩ = some (.slice none 0 0) := (blk_cell BK626.out 0).trans rfl; have hcz34_1 : w32.cell? ⟨gb626, 1, none⟩ = some (.slice none 0 0) := (blk_cell BK626.out 1).trans rfl; have hcz34_2 : w32.cell? ⟨gb626, 2, none⟩ = some (.slice none 0 0) := (blk_cell BK626.out 2).trans rfl; have hfz34_0 := blk_frozen BK626.out 0; have hfz34_1 := blk_frozen BK626.out 1; have hfz34_2 := blk_frozen BK626.out 2; obtain ⟨Ao35, co35, eo35⟩ := Kd.R_slice HO632.out; subst eo35; obtain ⟨Ao36, co36, eo36⟩ := Kd.R_slice HO635.out; subst eo36))
           go_meet
           case rel => exact ⟨_, (t636), (wrap64 (t623 + 1)), (t627), (t630), (t633), (.slice Ao33 t627.length co33), (.slice Ao35 t630.length co35), (.slice Ao36 t633.length co36), (by first | rfl | (simp; done) | (simp [*]; done)), (by first | rfl | (simp; done) | (simp [*]; done)), H', ⟨by have := HK1.out; have := HJ9.out; first | omega | exact Nat.le_refl _⟩, ⟨by (with_reducible repeat (first | apply Kd.R_alloc | apply Kd.R_drewN | apply Kd.R_drew)); exact Kd.R_mono (Kd.R_far (p := ⟨gb626, 2, none⟩) (Kd.R_far (p := ⟨gb626, 1, none⟩) (Kd.R_far (p := ⟨gb626, 0, none⟩) (Kd.R_types HO_620000.out BK626.out (by decide)) (fun _ hk => hk.2) (.slice Ao33 t627.length co33)) (fun _ hk => hk.2) (.slice Ao35 t630.length co35)) (fun _ hk => hk.2) (.slice Ao36 t633.length co36)) (fun _ hk => ⟨hk.1.1.1, ⟨hk.1.1.2, hk.1.2⟩⟩)⟩, ⟨by (with_reducible repeat (first | apply Kd.R_alloc | apply Kd.R_drewN | apply Kd.R_drew)); exact Kd.R_mono (Kd.R_far (p := ⟨gb626, 2, none⟩) (Kd.R_far (p := ⟨gb626, 1, none⟩) (Kd.R_far (p := ⟨gb626, 0, none⟩) (Kd.R_types HO_620001.out BK626.out (by decide)) (fun _ hk => hk.2) (.slice Ao33 t627.length co33)) (fun _ hk => hk.2) (.slice Ao35 t630.length co35)) (fun _ hk => hk.2) (.slice Ao36 t633.length co36)) (fun _ hk => ⟨hk.1.1.1, ⟨hk.1.1.2, hk.1.2⟩⟩)⟩, ⟨by (with_reducible repeat (first | apply Kd.R_alloc | apply Kd.R_drewN | apply Kd.R_drew)); exact Kd.R_mono (Kd.R_far (p := ⟨gb626, 2, none⟩) (Kd.R_far (p := ⟨gb626, 1, none⟩) (Kd.R_far (p := ⟨gb626, 0, none⟩) (Kd.R_types HO_620002.out BK626.out (by decide)) (fun _ hk => hk.2) (.slice Ao33 t627.length co33)) (fun _ hk => hk.2) (.slice Ao35 t630.length co35)) (fun _ hk => hk.2) (.slice Ao36 t633.length co36)) (fun _ hk => hk.1.2)⟩, ⟨by (with_reducible repeat (first | apply Kd.R_alloc | apply Kd.R_drewN | apply Kd.R_drew)); exact Kd.R_mono (Kd.R_far (p := ⟨gb626, 2, none⟩) (Kd.R_far (p := ⟨gb626, 1, none⟩) (Kd.R_far (p := ⟨gb626, 0, none⟩) (Kd.R_types HO629.out BK626.out (by decide)) (fun _ hk => hk.2) (.slice Ao33 t627.length co33)) (fun _ hk => hk.2) (.slice Ao35 t630.length co35)) (fun _ hk => hk.2) (.slice Ao36 t633.length co36)) (fun _ hk => ⟨hk.1.1.2, ⟨hk.1.2, hk.1.1.1⟩⟩)⟩, ⟨by (with_reducible repeat (first | apply Kd.R_alloc | apply Kd.R_drewN | apply Kd.R_drew)); exact Kd.R_mono (Kd.R_far (p := ⟨gb626, 2, none⟩) (Kd.R_far (p := ⟨gb626, 1, none⟩) (Kd.R_far (p := ⟨gb626, 0, none⟩) (Kd.R_types HO632.out BK626.out (by decide)) (fun _ hk => hk.2) (.slice Ao33 t627.length co33)) (fun _ hk => hk.2) (.slice Ao35 t630.length co35)) (fun _ hk => hk.2) (.slice Ao36 t633.length co36)) (fun _ hk => ⟨hk.1.1.2, ⟨hk.1.2, hk.1.1.1⟩⟩)⟩, ⟨by (with_reducible repeat (first | apply Kd.R_alloc | apply Kd.R_drewN | apply Kd.R_drew)); exact Kd.R_mono (Kd.R_far (p := ⟨gb626, 2, none⟩) (Kd.R_far (p := ⟨gb626, 1, none⟩) (Kd.R_far (p := ⟨gb626, 0, none⟩) (Kd.R_types HO635.out BK626.out (by decide)) (fun _ hk => hk.2) (.slice Ao33 t627.length co33)) (fun _ hk => hk.2) (.slice Ao35 t630.length co35)) (fun _ hk => hk.2) (.slice Ao36 t633.length co36)) (fun _ hk => hk.1.2)⟩, ⟨by (with_reducible repeat (first | refine blk_drewN ?_ _ | refine blk_drew ?_ | refine blk_alloc ?_ _)); refine blk_far ?_ NB619_626.out _; (with_reducible repeat (first | refine blk_drewN ?_ _ | refine blk_drew ?_ | refine blk_alloc ?_ _)); refine blk_far ?_ NB619_626.out _; (with_reducible repeat (first | refine blk_drewN ?_ _ | refine blk_drew ?_ | refine blk_alloc ?_ _)); refine blk_far ?_ NB619_626.out _; (with_reducible repeat (first | refine blk_drewN ?_ _ | refine blk_drew ?_ | refine blk_alloc ?_ _)); exact BK619.out⟩, ⟨by (with_reducible repeat (first | refine blk_drewN ?_ _ | refine blk_drew ?_ | refine blk_alloc ?_ _)); refine blk_put (cs := #[.slice Ao33 t627.length co33, .slice Ao35 t630.length co35, .slice none 0 0]) ?_ 2 _ rfl; (with_reducible repeat (first | refine blk_drewN ?_ _ | refine blk_drew ?_ | refine blk_alloc ?_ _)); refine blk_put (cs := #[.slice Ao33 t627.length co33, .slice none 0 0, .slice none 0 0]) ?_ 1 _ rfl; (with_reducible repeat (first | refine blk_drewN ?_ _ | refine blk_drew ?_ | refine blk_alloc ?_ _)); refine blk_put (cs := #[.slice none 0 0, .slice none 0 0, .slice none 0 0]) ?_ 0 _ rfl; (with_reducible repeat (first | refine blk_drewN ?_ _ | refine blk_drew ?_ | refine blk_alloc ?_ _)); exact BK626.out⟩, ⟨by repeat (first | (with_reducible first | exact HB.out | apply below_alloc | apply pw_below_drewN | apply below_drew1 | refine below_set ?_ GE619.out | refine below_set ?_ GE626.out) | exact HB.out)⟩⟩
          ·
           rw [if_neg c28] at H
           have c28b0 : ((Int.tmod t622 5) == 0) = false := beq_eq_false_iff_ne.mpr c28
           have c28b1 : ((Int.tmod t622 5) != 0) = true := bne_iff_ne.mpr c28
           (first | rw [c28b0] | (simp only [i64_w, i32_w]; rw [c28b0]) | skip)
           by_cases c37 : (Int.tmod t622 5) = 1
           ·
            rw [if_pos c37] at H
            have c37b0 : ((Int.tmod t622 5) == 1) = true := beq_iff_eq.mpr c37
            have c37b1 : ((Int.tmod t622 5) != 1) = false := bne_eq_false_iff_eq.mpr c37
            clear c37
            replace H := Option.bind_eq_some_iff.mp H
            obtain ⟨⟨t637, t640, t643, t646⟩, A380, H⟩ := H
            replace H : (headgatelaw07_LruSteps.j2 kj9 l1 x6_1 t622 t624 t646 (wrap64 (t623 - 1)) x620000_1 x620001_1 x620002_1 t637 t640 t643) = some r := H
            have A38 := Aside0.mk A380
            clear A380
            have H' := Aside0.mk H
            clear H
            have hnb39 := NB619_626.out
            have hnc39 := NB626_619.out
            have hcz40_0 : w27.cell? ⟨gb619, 0, none⟩ = some (.slice Ao21 x620000_1.length co21) := (blk_cell BK619.out 0).trans rfl
            have hcz40_1 : w27.cell? ⟨gb619, 1, none⟩ = some (.slice Ao22 x620001_1.length co22) := (blk_cell BK619.out 1).trans rfl
            have hcz40_2 : w27.cell? ⟨gb619, 2, none⟩ = some (.slice Ao23 x620002_1.length co23) := (blk_cell BK619.out 2).trans rfl
            have hfz40_0 := blk_frozen BK619.out 0
            have hfz40_1 := blk_frozen BK619.out 1
            have hfz40_2 := blk_frozen BK619.out 2
            go_wp2_with (first | ((with_reducible refine gate_callee (f := 20) rfl ?_); refine goesL_ (some 61) rfl rfl Try.func20 (by kernel_rfl) rfl #[.agg #[.slice Ao21 x620000_1.length co21, .slice Ao22 x620001_1.length co22, .slice Ao23 x620002_1.length co23], .int .i64 (wrap64 (Int.tdiv t622 5))] rfl (by (try simp only [List.map_toArray, List.map_cons, List.map_nil]); first | done | rfl | (simp only [List.length_drop, List.length_take]; rfl)) ?_; (with_reducible refine (lru_Remove.calls kj9 _ _ x620000_1 _ _ x620001_1 _ _ x620002_1 (wrap64 (Int.tdiv t622 5)) t637 t640 t643 t646 _ ?side1 ?side2 ?side3 ?side4 ?side5 ?side6 A38.out).mono ?_); (case side1 => repeat (first | exact (Kd.R_reads' HO_620000.out).2.2 | (with_reducible refine Kd.C_alloc ?_ _) | (with_reducible refine Kd.C_drewN ?_ _) | (with_reducible refine Kd.C_drew ?_))); (case side2 => exact (Kd.R_reads' HO_620000.out).2.1); (case side3 => repeat (first | exact (Kd.R_reads' HO_620001.out).2.2 | (with_reducible refine Kd.C_alloc ?_ _) | (with_reducible refine Kd.C_drewN ?_ _) | (with_reducible refine Kd.C_drew ?_))); (case side4 => exact (Kd.R_reads' HO_620001.out).2.1); (case side5 => repeat (first | exact (Kd.R_reads' HO_620002.out).2.2 | (with_reducible refine Kd.C_alloc ?_ _) | (with_reducible refine Kd.C_drewN ?_ _) | (with_reducible refine Kd.C_drew ?_))); (case side6 => exact (Kd.R_reads' HO_620002.out).2.1); rintro e w41 ⟨v638, v641, v644, rfl, ho0, ho1, ho2, hb⟩; refine ⟨_, rfl, ?_⟩; have n0_ := Aside0.mk (Kd.R_mono (Kd.R_told (Kd.R_told (Kd.R_old (by (with_reducible repeat (first | apply Kd.R_alloc | apply Kd.R_drewN | apply Kd.R_drew)); exact HO_620000.out) hb) (Kd.R_base ho0)) (Kd.R_base ho1)) (fun _ h_ => h_.1)); have n1_ := Aside0.mk (Kd.R_mono (Kd.R_told (Kd.R_told (Kd.R_old (by (with_reducible repeat (first | apply Kd.R_alloc | apply Kd.R_drewN | apply Kd.R_drew)); exact HO_620001.out) hb) (Kd.R_base ho0)) (Kd.R_base ho1)) (fun _ h_ => h_.1)); have n2_ := Aside0.mk (Kd.R_elder' (by (with_reducible repeat (first | apply Kd.R_alloc | apply Kd.R_drewN | apply Kd.R_drew)); exact HO_620002.out) (Kd.R_base ho2) hb); have n3_ := Aside0.mk (Kd.R_lower (Kd.R_new' (Kd.R_new' ho0 (Kd.R_lt (by (with_reducible repeat (first | apply Kd.R_alloc | apply Kd.R_drewN | apply Kd.R_drew)); exact HO_620000.out))) (Kd.R_lt (by (with_reducible repeat (first | apply Kd.R_alloc | apply Kd.R_drewN | apply Kd.R_drew)); exact HO_620001.out))) (below_size (by repeat (first | (with_reducible first | exact HB.out | apply below_alloc | apply pw_below_drewN | apply below_drew1 | refine below_set ?_ GE619.out | refine below_set ?_ GE626.out) | exact HB.out)))); have n4_ := Aside0.mk (Kd.R_lower (Kd.R_new' (Kd.R_new' ho1 (Kd.R_lt (by (with_reducible repeat (first | apply Kd.R_alloc | apply Kd.R_drewN | apply Kd.R_drew)); exact HO_620000.out))) (Kd.R_lt (by (with_reducible repeat (first | apply Kd.R_alloc | apply Kd.R_drewN | apply Kd.R_drew)); exact HO_620001.out))) (below_size (by repeat (first | (with_reducible first | exact HB.out | apply below_alloc | apply pw_below_drewN | apply below_drew1 | refine below_set ?_ GE619.out | refine below_set ?_ GE626.out) | exact HB.out)))); have n5_ := Aside0.mk (Kd.R_lower (Kd.R_new' ho2 (Kd.R_lt (by (with_reducible repeat (first | apply Kd.R_alloc | apply Kd.R_drewN | apply Kd.R_drew)); exact HO_620002.out))) (below_size (by repeat (first | (with_reducible first | exact HB.out | apply below_alloc | apply pw_below_drewN | apply below_drew1 | refine below_set ?_ GE619.out | refine below_set ?_ GE626.out) | exact HB.out)))); have n6_ := Aside0.mk (blk_below (g := gb619) (o := .cells #[.slice Ao21 x620000_1.length co21, .slice Ao22 x620001_1.length co22, .slice Ao23 x620002_1.length co23] 25 (0, 0)) (by (with_reducible repeat (first | refine blk_drewN ?_ _ | refine blk_drew ?_ | refine blk_alloc ?_ _)); exact BK619.out) hb); have n7_ := Aside0.mk (blk_below (g := gb626) (o := .cells #[.slice none 0 0, .slice none 0 0, .slice none 0 0] 25 (0, 0)) (by (with_reducible repeat (first | refine blk_drewN ?_ _ | refine blk_drew ?_ | refine blk_alloc ?_ _)); exact BK626.out) hb); have n8_ := Aside0.mk (below_step (by repeat (first | (with_reducible first | exact HB.out | apply below_alloc | apply pw_below_drewN | apply below_drew1 | refine below_set ?_ GE619.out | refine below_set ?_ GE626.out) | exact HB.out)) hb); clear HO_620000; clear HO_620001; clear HO_620002; clear BK619; clear BK626; clear HB; have HO_620000 := n0_; have HO_620001 := n1_; have HO_620002 := n2_; have HO639 := n3_; have HO642 := n4_; have HO645 := n5_; have BK619 := n6_; have BK626 := n7_; have HB := n8_; clear n0_ n1_ n2_ n3_ n4_ n5_ n6_ n7_ n8_; (try clear hb); (try clear hb2); (try clear hk); (try clear hi); (try clear ho0); (try clear ho1); (try clear ho2); obtain ⟨Ao42, co42, eo42⟩ := Kd.R_slice HO639.out; subst eo42; have hcz43_0 : w41.cell? ⟨gb626, 0, none⟩ = some (.slice none 0 0) := (blk_cell BK626.out 0).trans rfl; have hcz43_1 : w41.cell? ⟨gb626, 1, none⟩ = some (.slice none 0 0) := (blk_cell BK626.out 1).trans rfl; have hcz43_2 : w41.cell? ⟨gb626, 2, none⟩ = some (.slice none 0 0) := (blk_cell BK626.out 2).trans rfl; have hfz43_0 := blk_frozen BK626.out 0; have hfz43_1 := blk_frozen BK626.out 1; have hfz43_2 := blk_frozen BK626.out 2; obtain ⟨Ao44, co44, eo44⟩ := Kd.R_slice HO642.out; subst eo44; obtain ⟨Ao45, co45, eo45⟩ := Kd.R_slice HO645.out; subst eo45))
            go_meet
            case rel => exact ⟨_, (t646), (wrap64 (t623 - 1)), (t637), (t640), (t643), (.slice Ao42 t637.length co42), (.slice Ao44 t640.length co44), (.slice Ao45 t643.length co45), (by first | rfl | (simp; done) | (simp [*]; done)), (by first | rfl | (simp; done) | (simp [*]; done)), H', ⟨by have := HK1.out; have := HJ9.out; first | omega | exact Nat.le_refl _⟩, ⟨by (with_reducible repeat (first | apply Kd.R_alloc | apply Kd.R_drewN | apply Kd.R_drew)); exact Kd.R_mono (Kd.R_far (p := ⟨gb626, 2, none⟩) (Kd.R_far (p := ⟨gb626, 1, none⟩) (Kd.R_far (p := ⟨gb626, 0, none⟩) (Kd.R_types HO_620000.out BK626.out (by decide)) (fun _ hk => hk.2) (.slice Ao42 t637.length co42)) (fun _ hk => hk.2) (.slice Ao44 t640.length co44)) (fun _ hk => hk.2) (.slice Ao45 t643.length co45)) (fun _ hk => ⟨hk.1.1.1, ⟨hk.1.1.2, hk.1.2⟩⟩)⟩, ⟨by (with_reducible repeat (first | apply Kd.R_alloc | apply Kd.R_drewN | apply Kd.R_drew)); exact Kd.R_mono (Kd.R_far (p := ⟨gb626, 2, none⟩) (Kd.R_far (p := ⟨gb626, 1, none⟩) (Kd.R_far (p := ⟨gb626, 0, none⟩) (Kd.R_types HO_620001.out BK626.out (by decide)) (fun _ hk => hk.2) (.slice Ao42 t637.length co42)) (fun _ hk => hk.2) (.slice Ao44 t640.length co44)) (fun _ hk => hk.2) (.slice Ao45 t643.length co45)) (fun _ hk => ⟨hk.1.1.1, ⟨hk.1.1.2, hk.1.2⟩⟩)⟩, ⟨by (with_reducible repeat (first | apply Kd.R_alloc | apply Kd.R_drewN | apply Kd.R_drew)); exact Kd.R_mono (Kd.R_far (p := ⟨gb626, 2, none⟩) (Kd.R_far (p := ⟨gb626, 1, none⟩) (Kd.R_far (p := ⟨gb626, 0, none⟩) (Kd.R_types HO_620002.out BK626.out (by decide)) (fun _ hk => hk.2) (.slice Ao42 t637.length co42)) (fun _ hk => hk.2) (.slice Ao44 t640.length co44)) (fun _ hk => hk.2) (.slice Ao45 t643.length co45)) (fun _ hk => hk.1.2)⟩, ⟨by (with_reducible repeat (first | apply Kd.R_alloc | apply Kd.R_drewN | apply Kd.R_drew)); exact Kd.R_mono (Kd.R_far (p := ⟨gb626, 2, none⟩) (Kd.R_far (p := ⟨gb626, 1, none⟩) (Kd.R_far (p := ⟨gb626, 0, none⟩) (Kd.R_types HO639.out BK626.out (by decide)) (fun _ hk => hk.2) (.slice Ao42 t637.length co42)) (fun _ hk => hk.2) (.slice Ao44 t640.length co44)) (fun _ hk => hk.2) (.slice Ao45 t643.length co45)) (fun _ hk => ⟨hk.1.1.2, ⟨hk.1.2, hk.1.1.1⟩⟩)⟩, ⟨by (with_reducible repeat (first | apply Kd.R_alloc | apply Kd.R_drewN | apply Kd.R_drew)); exact Kd.R_mono (Kd.R_far (p := ⟨gb626, 2, none⟩) (Kd.R_far (p := ⟨gb626, 1, none⟩) (Kd.R_far (p := ⟨gb626, 0, none⟩) (Kd.R_types HO642.out BK626.out (by decide)) (fun _ hk => hk.2) (.slice Ao42 t637.length co42)) (fun _ hk => hk.2) (.slice Ao44 t640.length co44)) (fun _ hk => hk.2) (.slice Ao45 t643.length co45)) (fun _ hk => ⟨hk.1.1.2, ⟨hk.1.2, hk.1.1.1⟩⟩)⟩, ⟨by (with_reducible repeat (first | apply Kd.R_alloc | apply Kd.R_drewN | apply Kd.R_drew)); exact Kd.R_mono (Kd.R_far (p := ⟨gb626, 2, none⟩) (Kd.R_far (p := ⟨gb626, 1, none⟩) (Kd.R_far (p := ⟨gb626, 0, none⟩) (Kd.R_types HO645.out BK626.out (by decide)) (fun _ hk => hk.2) (.slice Ao42 t637.length co42)) (fun _ hk => hk.2) (.slice Ao44 t640.length co44)) (fun _ hk => hk.2) (.slice Ao45 t643.length co45)) (fun _ hk => hk.1.2)⟩, ⟨by (with_reducible repeat (first | refine blk_drewN ?_ _ | refine blk_drew ?_ | refine blk_alloc ?_ _)); refine blk_far ?_ NB619_626.out _; (with_reducible repeat (first | refine blk_drewN ?_ _ | refine blk_drew ?_ | refine blk_alloc ?_ _)); refine blk_far ?_ NB619_626.out _; (with_reducible repeat (first | refine blk_drewN ?_ _ | refine blk_drew ?_ | refine blk_alloc ?_ _)); refine blk_far ?_ NB619_626.out _; (with_reducible repeat (first | refine blk_drewN ?_ _ | refine blk_drew ?_ | refine blk_alloc ?_ _)); exact BK619.out⟩, ⟨by (with_reducible repeat (first | refine blk_drewN ?_ _ | refine blk_drew ?_ | refine blk_alloc ?_ _)); refine blk_put (cs := #[.slice Ao42 t637.length co42, .slice Ao44 t640.length co44, .slice none 0 0]) ?_ 2 _ rfl; (with_reducible repeat (first | refine blk_drewN ?_ _ | refine blk_drew ?_ | refine blk_alloc ?_ _)); refine blk_put (cs := #[.slice Ao42 t637.length co42, .slice none 0 0, .slice none 0 0]) ?_ 1 _ rfl; (with_reducible repeat (first | refine blk_drewN ?_ _ | refine blk_drew ?_ | refine blk_alloc ?_ _)); refine blk_put (cs := #[.slice none 0 0, .slice none 0 0, .slice none 0 0]) ?_ 0 _ rfl; (with_reducible repeat (first | refine blk_drewN ?_ _ | refine blk_drew ?_ | refine blk_alloc ?_ _)); exact BK626.out⟩, ⟨by repeat (first | (with_reducible first | exact HB.out | apply below_alloc | apply pw_below_drewN | apply below_drew1 | refine below_set ?_ GE619.out | refine below_set ?_ GE626.out) | exact HB.out)⟩⟩
           · as_aux_lemma =>
            rw [if_neg c37] at H
            have c37b0 : ((Int.tmod t622 5) == 1) = false := beq_eq_false_iff_ne.mpr c37
            have c37b1 : ((Int.tmod t622 5) != 1) = true := bne_iff_ne.mpr c37
            by_cases c46 : (Int.tmod t622 5) = 2
            ·
             rw [if_pos c46] at H
             have c46b0 : ((Int.tmod t622 5) == 2) = true := beq_iff_eq.mpr c46
             have c46b1 : ((Int.tmod t622 5) != 2) = false := bne_eq_false_iff_eq.mpr c46
             clear c46
             replace H := Option.bind_eq_some_iff.mp H
             obtain ⟨⟨t647, t650, t653, t656⟩, A470, H⟩ := H
             replace H : (headgatelaw07_LruSteps.j2 kj9 l1 x6_1 t622 t624 t656 t623 x620000_1 x620001_1 x620002_1 t647 t650 t653) = some r := H
             have A47 := Aside0.mk A470
             clear A470
             have H' := Aside0.mk H
             clear H
             have hnb48 := NB619_626.out
             have hnc48 := NB626_619.out
             have hcz49_0 : w27.cell? ⟨gb619, 0, none⟩ = some (.slice Ao21 x620000_1.length co21) := (blk_cell BK619.out 0).trans rfl
             have hcz49_1 : w27.cell? ⟨gb619, 1, none⟩ = some (.slice Ao22 x620001_1.length co22) := (blk_cell BK619.out 1).trans rfl
             have hcz49_2 : w27.cell? ⟨gb619, 2, none⟩ = some (.slice Ao23 x620002_1.length co23) := (blk_cell BK619.out 2).trans rfl
             have hfz49_0 := blk_frozen BK619.out 0
             have hfz49_1 := blk_frozen BK619.out 1
             have hfz49_2 := blk_frozen BK619.out 2
             go_wp2_with (first | ((with_reducible refine gate_callee (f := 22) rfl ?_); refine goesL_ (some 71) rfl rfl Try.func22 (by kernel_rfl) rfl #[.agg #[.slice Ao21 x620000_1.length co21, .slice Ao22 x620001_1.length co22, .slice Ao23 x620002_1.length co23], .int .i64 (wrap64 (Int.tdiv t622 5))] rfl (by (try simp only [List.map_toArray, List.map_cons, List.map_nil]); first | done | rfl | (simp only [List.length_drop, List.length_take]; rfl)) ?_; (with_reducible refine (lru_Touch.calls kj9 _ _ x620000_1 _ _ x620001_1 _ _ x620002_1 (wrap64 (Int.tdiv t622 5)) t647 t650 t653 t656 _ ?side1 ?side2 ?side3 ?side4 ?side5 ?side6 A47.out).mono ?_); (case side1 => repeat (first | exact (Kd.R_reads' HO_620000.out).2.2 | (with_reducible refine Kd.C_alloc ?_ _) | (with_reducible refine Kd.C_drewN ?_ _) | (with_reducible refine Kd.C_drew ?_))); (case side2 => exact (Kd.R_reads' HO_620000.out).2.1); (case side3 => repeat (first | exact (Kd.R_reads' HO_620001.out).2.2 | (with_reducible refine Kd.C_alloc ?_ _) | (with_reducible refine Kd.C_drewN ?_ _) | (with_reducible refine Kd.C_drew ?_))); (case side4 => exact (Kd.R_reads' HO_620001.out).2.1); (case side5 => repeat (first | exact (Kd.R_reads' HO_620002.out).2.2 | (with_reducible refine Kd.C_alloc ?_ _) | (with_reducible refine Kd.C_drewN ?_ _) | (with_reducible refine Kd.C_drew ?_))); (case side6 => exact (Kd.R_reads' HO_620002.out).2.1); rintro e w50 ⟨v648, v651, v654, rfl, ho0, ho1, ho2, hb⟩; refine ⟨_, rfl, ?_⟩; have n0_ := Aside0.mk (Kd.R_mono (Kd.R_told (Kd.R_told (Kd.R_old (by (with_reducible repeat (first | apply Kd.R_alloc | apply Kd.R_drewN | apply Kd.R_drew)); exact HO_620000.out) hb) (Kd.R_base ho0)) (Kd.R_base ho1)) (fun _ h_ => h_.1)); have n1_ := Aside0.mk (Kd.R_mono (Kd.R_told (Kd.R_told (Kd.R_old (by (with_reducible repeat (first | apply Kd.R_alloc | apply Kd.R_drewN | apply Kd.R_drew)); exact HO_620001.out) hb) (Kd.R_base ho0)) (Kd.R_base ho1)) (fun _ h_ => h_.1)); have n2_ := Aside0.mk (Kd.R_elder' (by (with_reducible repeat (first | apply Kd.R_alloc | apply Kd.R_drewN | apply Kd.R_drew)); exact HO_620002.out) (Kd.R_base ho2) hb); have n3_ := Aside0.mk (Kd.R_lower (Kd.R_new' (Kd.R_new' ho0 (Kd.R_lt (by (with_reducible repeat (first | apply Kd.R_alloc | apply Kd.R_drewN | apply Kd.R_drew)); exact HO_620000.out))) (Kd.R_lt (by (with_reducible repeat (first | apply Kd.R_alloc | apply Kd.R_drewN | apply Kd.R_drew)); exact HO_620001.out))) (below_size (by repeat (first | (with_reducible first | exact HB.out | apply below_alloc | apply pw_below_drewN | apply below_drew1 | refine below_set ?_ GE619.out | refine below_set ?_ GE626.out) | exact HB.out)))); have n4_ := Aside0.mk (Kd.R_lower (Kd.R_new' (Kd.R_new' ho1 (Kd.R_lt (by (with_reducible repeat (first | apply Kd.R_alloc | apply Kd.R_drewN | apply Kd.R_drew)); exact HO_620000.out))) (Kd.R_lt (by (with_reducible repeat (first | apply Kd.R_alloc | apply Kd.R_drewN | apply Kd.R_drew)); exact HO_620001.out))) (below_size (by repeat (first | (with_reducible first | exact HB.out | apply below_alloc | apply pw_below_drewN | apply below_drew1 | refine below_set ?_ GE619.out | refine below_set ?_ GE626.out) | exact HB.out)))); have n5_ := Aside0.mk (Kd.R_lower (Kd.R_new' ho2 (Kd.R_lt (by (with_reducible repeat (first | apply Kd.R_alloc | apply Kd.R_drewN | apply Kd.R_drew)); exact HO_620002.out))) (below_size (by repeat (first | (with_reducible first | exact HB.out | apply below_alloc | apply pw_below_drewN | apply below_drew1 | refine below_set ?_ GE619.out | refine below_set ?_ GE626.out) | exact HB.out)))); have n6_ := Aside0.mk (blk_below (g := gb619) (o := .cells #[.slice Ao21 x620000_1.length co21, .slice Ao22 x620001_1.length co22, .slice Ao23 x620002_1.length co23] 25 (0, 0)) (by (with_reducible repeat (first | refine blk_drewN ?_ _ | refine blk_drew ?_ | refine blk_alloc ?_ _)); exact BK619.out) hb); have n7_ := Aside0.mk (blk_below (g := gb626) (o := .cells #[.slice none 0 0, .slice none 0 0, .slice none 0 0] 25 (0, 0)) (by (with_reducible repeat (first | refine blk_drewN ?_ _ | refine blk_drew ?_ | refine blk_alloc ?_ _)); exact BK626.out) hb); have n8_ := Aside0.mk (below_step (by repeat (first | (with_reducible first | exact HB.out | apply below_alloc | apply pw_below_drewN | apply below_drew1 | refine below_set ?_ GE619.out | refine below_set ?_ GE626.out) | exact HB.out)) hb); clear HO_620000; clear HO_620001; clear HO_620002; clear BK619; clear BK626; clear HB; have HO_620000 := n0_; have HO_620001 := n1_; have HO_620002 := n2_; have HO649 := n3_; have HO652 := n4_; have HO655 := n5_; have BK619 := n6_; have BK626 := n7_; have HB := n8_; clear n0_ n1_ n2_ n3_ n4_ n5_ n6_ n7_ n8_; (try clear hb); (try clear hb2); (try clear hk); (try clear hi); (try clear ho0); (try clear ho1); (try clear ho2); obtain ⟨Ao51, co51, eo51⟩ := Kd.R_slice HO649.out; subst eo51; have hcz52_0 : w50.cell? ⟨gb626, 0, none⟩ = some (.slice none 0 0) := (blk_cell BK626.out 0).trans rfl; have hcz52_1 : w50.cell? ⟨gb626, 1, none⟩ = some (.slice none 0 0) := (blk_cell BK626.out 1).trans rfl; have hcz52_2 : w50.cell? ⟨gb626, 2, none⟩ = some (.slice none 0 0) := (blk_cell BK626.out 2).trans rfl; have hfz52_0 := blk_frozen BK626.out 0; have hfz52_1 := blk_frozen BK626.out 1; have hfz52_2 := blk_frozen BK626.out 2; obtain ⟨Ao53, co53, eo53⟩ := Kd.R_slice HO652.out; subst eo53; obtain ⟨Ao54, co54, eo54⟩ := Kd.R_slice HO655.out; subst eo54))
             go_meet
             case rel => exact ⟨_, (t656), (t623), (t647), (t650), (t653), (.slice Ao51 t647.length co51), (.slice Ao53 t650.length co53), (.slice Ao54 t653.length co54), (by first | rfl | (simp; done) | (simp [*]; done)), (by first | rfl | (simp; done) | (simp [*]; done)), H', ⟨by have := HK1.out; have := HJ9.out; first | omega | exact Nat.le_refl _⟩, ⟨by (with_reducible repeat (first | apply Kd.R_alloc | apply Kd.R_drewN | apply Kd.R_drew)); exact Kd.R_mono (Kd.R_far (p := ⟨gb626, 2, none⟩) (Kd.R_far (p := ⟨gb626, 1, none⟩) (Kd.R_far (p := ⟨gb626, 0, none⟩) (Kd.R_types HO_620000.out BK626.out (by decide)) (fun _ hk => hk.2) (.slice Ao51 t647.length co51)) (fun _ hk => hk.2) (.slice Ao53 t650.length co53)) (fun _ hk => hk.2) (.slice Ao54 t653.length co54)) (fun _ hk => ⟨hk.1.1.1, ⟨hk.1.1.2, hk.1.2⟩⟩)⟩, ⟨by (with_reducible repeat (first | apply Kd.R_alloc | apply Kd.R_drewN | apply Kd.R_drew)); exact Kd.R_mono (Kd.R_far (p := ⟨gb626, 2, none⟩) (Kd.R_far (p := ⟨gb626, 1, none⟩) (Kd.R_far (p := ⟨gb626, 0, none⟩) (Kd.R_types HO_620001.out BK626.out (by decide)) (fun _ hk => hk.2) (.slice Ao51 t647.length co51)) (fun _ hk => hk.2) (.slice Ao53 t650.length co53)) (fun _ hk => hk.2) (.slice Ao54 t653.length co54)) (fun _ hk => ⟨hk.1.1.1, ⟨hk.1.1.2, hk.1.2⟩⟩)⟩, ⟨by (with_reducible repeat (first | apply Kd.R_alloc | apply Kd.R_drewN | apply Kd.R_drew)); exact Kd.R_mono (Kd.R_far (p := ⟨gb626, 2, none⟩) (Kd.R_far (p := ⟨gb626, 1, none⟩) (Kd.R_far (p := ⟨gb626, 0, none⟩) (Kd.R_types HO_620002.out BK626.out (by decide)) (fun _ hk => hk.2) (.slice Ao51 t647.length co51)) (fun _ hk => hk.2) (.slice Ao53 t650.length co53)) (fun _ hk => hk.2) (.slice Ao54 t653.length co54)) (fun _ hk => hk.1.2)⟩, ⟨by (with_reducible repeat (first | apply Kd.R_alloc | apply Kd.R_drewN | apply Kd.R_drew)); exact Kd.R_mono (Kd.R_far (p := ⟨gb626, 2, none⟩) (Kd.R_far (p := ⟨gb626, 1, none⟩) (Kd.R_far (p := ⟨gb626, 0, none⟩) (Kd.R_types HO649.out BK626.out (by decide)) (fun _ hk => hk.2) (.slice Ao51 t647.length co51)) (fun _ hk => hk.2) (.slice Ao53 t650.length co53)) (fun _ hk => hk.2) (.slice Ao54 t653.length co54)) (fun _ hk => ⟨hk.1.1.2, ⟨hk.1.2, hk.1.1.1⟩⟩)⟩, ⟨by (with_reducible repeat (first | apply Kd.R_alloc | apply Kd.R_drewN | apply Kd.R_drew)); exact Kd.R_mono (Kd.R_far (p := ⟨gb626, 2, none⟩) (Kd.R_far (p := ⟨gb626, 1, none⟩) (Kd.R_far (p := ⟨gb626, 0, none⟩) (Kd.R_types HO652.out BK626.out (by decide)) (fun _ hk => hk.2) (.slice Ao51 t647.length co51)) (fun _ hk => hk.2) (.slice Ao53 t650.length co53)) (fun _ hk => hk.2) (.slice Ao54 t653.length co54)) (fun _ hk => ⟨hk.1.1.2, ⟨hk.1.2, hk.1.1.1⟩⟩)⟩, ⟨by (with_reducible repeat (first | apply Kd.R_alloc | apply Kd.R_drewN | apply Kd.R_drew)); exact Kd.R_mono (Kd.R_far (p := ⟨gb626, 2, none⟩) (Kd.R_far (p := ⟨gb626, 1, none⟩) (Kd.R_far (p := ⟨gb626, 0, none⟩) (Kd.R_types HO655.out BK626.out (by decide)) (fun _ hk => hk.2) (.slice Ao51 t647.length co51)) (fun _ hk => hk.2) (.slice Ao53 t650.length co53)) (fun _ hk => hk.2) (.slice Ao54 t653.length co54)) (fun _ hk => hk.1.2)⟩, ⟨by (with_reducible repeat (first | refine blk_drewN ?_ _ | refine blk_drew ?_ | refine blk_alloc ?_ _)); refine blk_far ?_ NB619_626.out _; (with_reducible repeat (first | refine blk_drewN ?_ _ | refine blk_drew ?_ | refine blk_alloc ?_ _)); refine blk_far ?_ NB619_626.out _; (with_reducible repeat (first | refine blk_drewN ?_ _ | refine blk_drew ?_ | refine blk_alloc ?_ _)); refine blk_far ?_ NB619_626.out _; (with_reducible repeat (first | refine blk_drewN ?_ _ | refine blk_drew ?_ | refine blk_alloc ?_ _)); exact BK619.out⟩, ⟨by (with_reducible repeat (first | refine blk_drewN ?_ _ | refine blk_drew ?_ | refine blk_alloc ?_ _)); refine blk_put (cs := #[.slice Ao51 t647.length co51, .slice Ao53 t650.length co53, .slice none 0 0]) ?_ 2 _ rfl; (with_reducible repeat (first | refine blk_drewN ?_ _ | refine blk_drew ?_ | refine blk_alloc ?_ _)); refine blk_put (cs := #[.slice Ao51 t647.length co51, .slice none 0 0, .slice none 0 0]) ?_ 1 _ rfl; (with_reducible repeat (first | refine blk_drewN ?_ _ | refine blk_drew ?_ | refine blk_alloc ?_ _)); refine blk_put (cs := #[.slice none 0 0, .slice none 0 0, .slice none 0 0]) ?_ 0 _ rfl; (with_reducible repeat (first | refine blk_drewN ?_ _ | refine blk_drew ?_ | refine blk_alloc ?_ _)); exact BK626.out⟩, ⟨by repeat (first | (with_reducible first | exact HB.out | apply below_alloc | apply pw_below_drewN | apply below_drew1 | refine below_set ?_ GE619.out | refine below_set ?_ GE626.out) | exact HB.out)⟩⟩
            ·
             rw [if_neg c46] at H
             have c46b0 : ((Int.tmod t622 5) == 2) = false := beq_eq_false_iff_ne.mpr c46
             have c46b1 : ((Int.tmod t622 5) != 2) = true := bne_iff_ne.mpr c46
             by_cases c55 : (Int.tmod t622 5) = 3
             ·
              rw [if_pos c55] at H
              have c55b0 : ((Int.tmod t622 5) == 3) = true := beq_iff_eq.mpr c55
              have c55b1 : ((Int.tmod t622 5) != 3) = false := bne_eq_false_iff_eq.mpr c55
              clear c55
              replace H := Option.bind_eq_some_iff.mp H
              obtain ⟨⟨t657, t660, t663, t666, t667⟩, A560, H⟩ := H
              replace H : (headgatelaw07_LruSteps.j2 kj9 l1 x6_1 t622 t624 t667 t623 x620000_1 x620001_1 x620002_1 t657 t660 t663) = some r := H
              have A56 := Aside0.mk A560
              clear A560
              have H' := Aside0.mk H
              clear H
              have hnb57 := NB619_626.out
              have hnc57 := NB626_619.out
              have hcz58_0 : w27.cell? ⟨gb619, 0, none⟩ = some (.slice Ao21 x620000_1.length co21) := (blk_cell BK619.out 0).trans rfl
              have hcz58_1 : w27.cell? ⟨gb619, 1, none⟩ = some (.slice Ao22 x620001_1.length co22) := (blk_cell BK619.out 1).trans rfl
              have hcz58_2 : w27.cell? ⟨gb619, 2, none⟩ = some (.slice Ao23 x620002_1.length co23) := (blk_cell BK619.out 2).trans rfl
              have hfz58_0 := blk_frozen BK619.out 0
              have hfz58_1 := blk_frozen BK619.out 1
              have hfz58_2 := blk_frozen BK619.out 2
              go_wp2_with (first | ((with_reducible refine gate_callee (f := 29) rfl ?_); refine goesL_ (some 78) rfl rfl Try.func29 (by kernel_rfl) rfl #[.agg #[.slice Ao21 x620000_1.length co21, .slice Ao22 x620001_1.length co22, .slice Ao23 x620002_1.length co23]] rfl (by (try simp only [List.map_toArray, List.map_cons, List.map_nil]); first | done | rfl | (simp only [List.length_drop, List.length_take]; rfl)) ?_; (with_reducible refine (lru_Demote.calls _ _ x620000_1 _ _ x620001_1 _ _ x620002_1 t657 t660 t663 t666 t667 _ ?side1 ?side2 ?side3 ?side4 ?side5 ?side6 A56.out).mono ?_); (case side1 => repeat (first | exact (Kd.R_reads' HO_620000.out).2.2 | (with_reducible refine Kd.C_alloc ?_ _) | (with_reducible refine Kd.C_drewN ?_ _) | (with_reducible refine Kd.C_drew ?_))); (case side2 => exact (Kd.R_reads' HO_620000.out).2.1); (case side3 => repeat (first | exact (Kd.R_reads' HO_620001.out).2.2 | (with_reducible refine Kd.C_alloc ?_ _) | (with_reducible refine Kd.C_drewN ?_ _) | (with_reducible refine Kd.C_drew ?_))); (case side4 => exact (Kd.R_reads' HO_620001.out).2.1); (case side5 => repeat (first | exact (Kd.R_reads' HO_620002.out).2.2 | (with_reducible refine Kd.C_alloc ?_ _) | (with_reducible refine Kd.C_drewN ?_ _) | (with_reducible refine Kd.C_drew ?_))); (case side6 => exact (Kd.R_reads' HO_620002.out).2.1); rintro e w59 ⟨v658, v661, v664, rfl, ho0, ho1, ho2, hb⟩; refine ⟨_, rfl, ?_⟩; have n0_ := Aside0.mk (Kd.R_mono (Kd.R_told (Kd.R_told (Kd.R_old (by (with_reducible repeat (first | apply Kd.R_alloc | apply Kd.R_drewN | apply Kd.R_drew)); exact HO_620000.out) hb) (Kd.R_base ho0)) (Kd.R_base ho1)) (fun _ h_ => h_.1)); have n1_ := Aside0.mk (Kd.R_mono (Kd.R_told (Kd.R_told (Kd.R_old (by (with_reducible repeat (first | apply Kd.R_alloc | apply Kd.R_drewN | apply Kd.R_drew)); exact HO_620001.out) hb) (Kd.R_base ho0)) (Kd.R_base ho1)) (fun _ h_ => h_.1)); have n2_ := Aside0.mk (Kd.R_elder' (by (with_reducible repeat (first | apply Kd.R_alloc | apply Kd.R_drewN | apply Kd.R_drew)); exact HO_620002.out) (Kd.R_base ho2) hb); have n3_ := Aside0.mk (Kd.R_lower (Kd.R_new' (Kd.R_new' ho0 (Kd.R_lt (by (with_reducible repeat (first | apply Kd.R_alloc | apply Kd.R_drewN | apply Kd.R_drew)); exact HO_620000.out))) (Kd.R_lt (by (with_reducible repeat (first | apply Kd.R_alloc | apply Kd.R_drewN | apply Kd.R_drew)); exact HO_620001.out))) (below_size (by repeat (first | (with_reducible first | exact HB.out | apply below_alloc | apply pw_below_drewN | apply below_drew1 | refine below_set ?_ GE619.out | refine below_set ?_ GE626.out) | exact HB.out)))); have n4_ := Aside0.mk (Kd.R_lower (Kd.R_new' (Kd.R_new' ho1 (Kd.R_lt (by (with_reducible repeat (first | apply Kd.R_alloc | apply Kd.R_drewN | apply Kd.R_drew)); exact HO_620000.out))) (Kd.R_lt (by (with_reducible repeat (first | apply Kd.R_alloc | apply Kd.R_drewN | apply Kd.R_drew)); exact HO_620001.out))) (below_size (by repeat (first | (with_reducible first | exact HB.out | apply below_alloc | apply pw_below_drewN | apply below_drew1 | refine below_set ?_ GE619.out | refine below_set ?_ GE626.out) | exact HB.out)))); have n5_ := Aside0.mk (Kd.R_lower (Kd.R_new' ho2 (Kd.R_lt (by (with_reducible repeat (first | apply Kd.R_alloc | apply Kd.R_drewN | apply Kd.R_drew)); exact HO_620002.out))) (below_size (by repeat (first | (with_reducible first | exact HB.out | apply below_alloc | apply pw_below_drewN | apply below_drew1 | refine below_set ?_ GE619.out | refine below_set ?_ GE626.out) | exact HB.out)))); have n6_ := Aside0.mk (blk_below (g := gb619) (o := .cells #[.slice Ao21 x620000_1.length co21, .slice Ao22 x620001_1.length co22, .slice Ao23 x620002_1.length co23] 25 (0, 0)) (by (with_reducible repeat (first | refine blk_drewN ?_ _ | refine blk_drew ?_ | refine blk_alloc ?_ _)); exact BK619.out) hb); have n7_ := Aside0.mk (blk_below (g := gb626) (o := .cells #[.slice none 0 0, .slice none 0 0, .slice none 0 0] 25 (0, 0)) (by (with_reducible repeat (first | refine blk_drewN ?_ _ | refine blk_drew ?_ | refine blk_alloc ?_ _)); exact BK626.out) hb); have n8_ := Aside0.mk (below_step (by repeat (first | (with_reducible first | exact HB.out | apply below_alloc | apply pw_below_drewN | apply below_drew1 | refine below_set ?_ GE619.out | refine below_set ?_ GE626.out) | exact HB.out)) hb); clear HO_620000; clear HO_620001; clear HO_620002; clear BK619; clear BK626; clear HB; have HO_620000 := n0_; have HO_620001 := n1_; have HO_620002 := n2_; have HO659 := n3_; have HO662 := n4_; have HO665 := n5_; have BK619 := n6_; have BK626 := n7_; have HB := n8_; clear n0_ n1_ n2_ n3_ n4_ n5_ n6_ n7_ n8_; (try clear hb); (try clear hb2); (try clear hk); (try clear hi); (try clear ho0); (try clear ho1); (try clear ho2); obtain ⟨Ao60, co60, eo60⟩ := Kd.R_slice HO659.out; subst eo60; have hcz61_0 : w59.cell? ⟨gb626, 0, none⟩ = some (.slice none 0 0) := (blk_cell BK626.out 0).trans rfl; have hcz61_1 : w59.cell? ⟨gb626, 1, none⟩ = some (.slice none 0 0) := (blk_cell BK626.out 1).trans rfl; have hcz61_2 : w59.cell? ⟨gb626, 2, none⟩ = some (.slice none 0 0) := (blk_cell BK626.out 2).trans rfl; have hfz61_0 := blk_frozen BK626.out 0; have hfz61_1 := blk_frozen BK626.out 1; have hfz61_2 := blk_frozen BK626.out 2; obtain ⟨Ao62, co62, eo62⟩ := Kd.R_slice HO662.out; subst eo62; obtain ⟨Ao63, co63, eo63⟩ := Kd.R_slice HO665.out; subst eo63))
              go_meet
              case rel => exact ⟨_, (t667), (t623), (t657), (t660), (t663), (.slice Ao60 t657.length co60), (.slice Ao62 t660.length co62), (.slice Ao63 t663.length co63), (by first | rfl | (simp; done) | (simp [*]; done)), (by first | rfl | (simp; done) | (simp [*]; done)), H', ⟨by have := HK1.out; have := HJ9.out; first | omega | exact Nat.le_refl _⟩, ⟨by (with_reducible repeat (first | apply Kd.R_alloc | apply Kd.R_drewN | apply Kd.R_drew)); exact Kd.R_mono (Kd.R_far (p := ⟨gb626, 2, none⟩) (Kd.R_far (p := ⟨gb626, 1, none⟩) (Kd.R_far (p := ⟨gb626, 0, none⟩) (Kd.R_types HO_620000.out BK626.out (by decide)) (fun _ hk => hk.2) (.slice Ao60 t657.length co60)) (fun _ hk => hk.2) (.slice Ao62 t660.length co62)) (fun _ hk => hk.2) (.slice Ao63 t663.length co63)) (fun _ hk => ⟨hk.1.1.1, ⟨hk.1.1.2, hk.1.2⟩⟩)⟩, ⟨by (with_reducible repeat (first | apply Kd.R_alloc | apply Kd.R_drewN | apply Kd.R_drew)); exact Kd.R_mono (Kd.R_far (p := ⟨gb626, 2, none⟩) (Kd.R_far (p := ⟨gb626, 1, none⟩) (Kd.R_far (p := ⟨gb626, 0, none⟩) (Kd.R_types HO_620001.out BK626.out (by decide)) (fun _ hk => hk.2) (.slice Ao60 t657.length co60)) (fun _ hk => hk.2) (.slice Ao62 t660.length co62)) (fun _ hk => hk.2) (.slice Ao63 t663.length co63)) (fun _ hk => ⟨hk.1.1.1, ⟨hk.1.1.2, hk.1.2⟩⟩)⟩, ⟨by (with_reducible repeat (first | apply Kd.R_alloc | apply Kd.R_drewN | apply Kd.R_drew)); exact Kd.R_mono (Kd.R_far (p := ⟨gb626, 2, none⟩) (Kd.R_far (p := ⟨gb626, 1, none⟩) (Kd.R_far (p := ⟨gb626, 0, none⟩) (Kd.R_types HO_620002.out BK626.out (by decide)) (fun _ hk => hk.2) (.slice Ao60 t657.length co60)) (fun _ hk => hk.2) (.slice Ao62 t660.length co62)) (fun _ hk => hk.2) (.slice Ao63 t663.length co63)) (fun _ hk => hk.1.2)⟩, ⟨by (with_reducible repeat (first | apply Kd.R_alloc | apply Kd.R_drewN | apply Kd.R_drew)); exact Kd.R_mono (Kd.R_far (p := ⟨gb626, 2, none⟩) (Kd.R_far (p := ⟨gb626, 1, none⟩) (Kd.R_far (p := ⟨gb626, 0, none⟩) (Kd.R_types HO659.out BK626.out (by decide)) (fun _ hk => hk.2) (.slice Ao60 t657.length co60)) (fun _ hk => hk.2) (.slice Ao62 t660.length co62)) (fun _ hk => hk.2) (.slice Ao63 t663.length co63)) (fun _ hk => ⟨hk.1.1.2, ⟨hk.1.2, hk.1.1.1⟩⟩)⟩, ⟨by (with_reducible repeat (first | apply Kd.R_alloc | apply Kd.R_drewN | apply Kd.R_drew)); exact Kd.R_mono (Kd.R_far (p := ⟨gb626, 2, none⟩) (Kd.R_far (p := ⟨gb626, 1, none⟩) (Kd.R_far (p := ⟨gb626, 0, none⟩) (Kd.R_types HO662.out BK626.out (by decide)) (fun _ hk => hk.2) (.slice Ao60 t657.length co60)) (fun _ hk => hk.2) (.slice Ao62 t660.length co62)) (fun _ hk => hk.2) (.slice Ao63 t663.length co63)) (fun _ hk => ⟨hk.1.1.2, ⟨hk.1.2, hk.1.1.1⟩⟩)⟩, ⟨by (with_reducible repeat (first | apply Kd.R_alloc | apply Kd.R_drewN | apply Kd.R_drew)); exact Kd.R_mono (Kd.R_far (p := ⟨gb626, 2, none⟩) (Kd.R_far (p := ⟨gb626, 1, none⟩) (Kd.R_far (p := ⟨gb626, 0, none⟩) (Kd.R_types HO665.out BK626.out (by decide)) (fun _ hk => hk.2) (.slice Ao60 t657.length co60)) (fun _ hk => hk.2) (.slice Ao62 t660.length co62)) (fun _ hk => hk.2) (.slice Ao63 t663.length co63)) (fun _ hk => hk.1.2)⟩, ⟨by (with_reducible repeat (first | refine blk_drewN ?_ _ | refine blk_drew ?_ | refine blk_alloc ?_ _)); refine blk_far ?_ NB619_626.out _; (with_reducible repeat (first | refine blk_drewN ?_ _ | refine blk_drew ?_ | refine blk_alloc ?_ _)); refine blk_far ?_ NB619_626.out _; (with_reducible repeat (first | refine blk_drewN ?_ _ | refine blk_drew ?_ | refine blk_alloc ?_ _)); refine blk_far ?_ NB619_626.out _; (with_reducible repeat (first | refine blk_drewN ?_ _ | refine blk_drew ?_ | refine blk_alloc ?_ _)); exact BK619.out⟩, ⟨by (with_reducible repeat (first | refine blk_drewN ?_ _ | refine blk_drew ?_ | refine blk_alloc ?_ _)); refine blk_put (cs := #[.slice Ao60 t657.length co60, .slice Ao62 t660.length co62, .slice none 0 0]) ?_ 2 _ rfl; (with_reducible repeat (first | refine blk_drewN ?_ _ | refine blk_drew ?_ | refine blk_alloc ?_ _)); refine blk_put (cs := #[.slice Ao60 t657.length co60, .slice none 0 0, .slice none 0 0]) ?_ 1 _ rfl; (with_reducible repeat (first | refine blk_drewN ?_ _ | refine blk_drew ?_ | refine blk_alloc ?_ _)); refine blk_put (cs := #[.slice none 0 0, .slice none 0 0, .slice none 0 0]) ?_ 0 _ rfl; (with_reducible repeat (first | refine blk_drewN ?_ _ | refine blk_drew ?_ | refine blk_alloc ?_ _)); exact BK626.out⟩, ⟨by repeat (first | (with_reducible first | exact HB.out | apply below_alloc | apply pw_below_drewN | apply below_drew1 | refine below_set ?_ GE619.out | refine below_set ?_ GE626.out) | exact HB.out)⟩⟩
             · as_aux_lemma =>
              rw [if_neg c55] at H
              have c55b0 : ((Int.tmod t622 5) == 3) = false := beq_eq_false_iff_ne.mpr c55
              have c55b1 : ((Int.tmod t622 5) != 3) = true := bne_iff_ne.mpr c55
              by_cases c64 : (Int.tmod t622 5) = 4
              ·
               rw [if_pos c64] at H
               have c64b0 : ((Int.tmod t622 5) == 4) = true := beq_iff_eq.mpr c64
               have c64b1 : ((Int.tmod t622 5) != 4) = false := bne_eq_false_iff_eq.mpr c64
               clear c64
               replace H := Option.bind_eq_some_iff.mp H
               obtain ⟨⟨t668, t671, t674, t677, t678⟩, A650, H⟩ := H
               replace H : (headgatelaw07_LruSteps.j2 kj9 l1 x6_1 t622 t624 t678 t623 x620000_1 x620001_1 x620002_1 t668 t671 t674) = some r := H
               have A65 := Aside0.mk A650
               clear A650
               have H' := Aside0.mk H
               clear H
               have hnb66 := NB619_626.out
               have hnc66 := NB626_619.out
               have hcz67_0 : w27.cell? ⟨gb619, 0, none⟩ = some (.slice Ao21 x620000_1.length co21) := (blk_cell BK619.out 0).trans rfl
               have hcz67_1 : w27.cell? ⟨gb619, 1, none⟩ = some (.slice Ao22 x620001_1.length co22) := (blk_cell BK619.out 1).trans rfl
               have hcz67_2 : w27.cell? ⟨gb619, 2, none⟩ = some (.slice Ao23 x620002_1.length co23) := (blk_cell BK619.out 2).trans rfl
               have hfz67_0 := blk_frozen BK619.out 0
               have hfz67_1 := blk_frozen BK619.out 1
               have hfz67_2 := blk_frozen BK619.out 2
               go_wp2_with (first | ((with_reducible refine gate_callee (f := 33) rfl ?_); refine goesL_ (some 86) rfl rfl Try.func33 (by kernel_rfl) rfl #[.agg #[.slice Ao21 x620000_1.length co21, .slice Ao22 x620001_1.length co22, .slice Ao23 x620002_1.length co23]] rfl (by (try simp only [List.map_toArray, List.map_cons, List.map_nil]); first | done | rfl | (simp only [List.length_drop, List.length_take]; rfl)) ?_; (with_reducible refine (lru_Promote.calls _ _ x620000_1 _ _ x620001_1 _ _ x620002_1 t668 t671 t674 t677 t678 _ ?side1 ?side2 ?side3 ?side4 ?side5 ?side6 A65.out).mono ?_); (case side1 => repeat (first | exact (Kd.R_reads' HO_620000.out).2.2 | (with_reducible refine Kd.C_alloc ?_ _) | (with_reducible refine Kd.C_drewN ?_ _) | (with_reducible refine Kd.C_drew ?_))); (case side2 => exact (Kd.R_reads' HO_620000.out).2.1); (case side3 => repeat (first | exact (Kd.R_reads' HO_620001.out).2.2 | (with_reducible refine Kd.C_alloc ?_ _) | (with_reducible refine Kd.C_drewN ?_ _) | (with_reducible refine Kd.C_drew ?_))); (case side4 => exact (Kd.R_reads' HO_620001.out).2.1); (case side5 => repeat (first | exact (Kd.R_reads' HO_620002.out).2.2 | (with_reducible refine Kd.C_alloc ?_ _) | (with_reducible refine Kd.C_drewN ?_ _) | (with_reducible refine Kd.C_drew ?_))); (case side6 => exact (Kd.R_reads' HO_620002.out).2.1); rintro e w68 ⟨v669, v672, v675, rfl, ho0, ho1, ho2, hb⟩; refine ⟨_, rfl, ?_⟩; have n0_ := Aside0.mk (Kd.R_mono (Kd.R_told (Kd.R_told (Kd.R_old (by (with_reducible repeat (first | apply Kd.R_alloc | apply Kd.R_drewN | apply Kd.R_drew)); exact HO_620000.out) hb) (Kd.R_base ho0)) (Kd.R_base ho1)) (fun _ h_ => h_.1)); have n1_ := Aside0.mk (Kd.R_mono (Kd.R_told (Kd.R_told (Kd.R_old (by (with_reducible repeat (first | apply Kd.R_alloc | apply Kd.R_drewN | apply Kd.R_drew)); exact HO_620001.out) hb) (Kd.R_base ho0)) (Kd.R_base ho1)) (fun _ h_ => h_.1)); have n2_ := Aside0.mk (Kd.R_elder' (by (with_reducible repeat (first | apply Kd.R_alloc | apply Kd.R_drewN | apply Kd.R_drew)); exact HO_620002.out) (Kd.R_base ho2) hb); have n3_ := Aside0.mk (Kd.R_lower (Kd.R_new' (Kd.R_new' ho0 (Kd.R_lt (by (with_reducible repeat (first | apply Kd.R_alloc | apply Kd.R_drewN | apply Kd.R_drew)); exact HO_620000.out))) (Kd.R_lt (by (with_reducible repeat (first | apply Kd.R_alloc | apply Kd.R_drewN | apply Kd.R_drew)); exact HO_620001.out))) (below_size (by repeat (first | (with_reducible first | exact HB.out | apply below_alloc | apply pw_below_drewN | apply below_drew1 | refine below_set ?_ GE619.out | refine below_set ?_ GE626.out) | exact HB.out)))); have n4_ := Aside0.mk (Kd.R_lower (Kd.R_new' (Kd.R_new' ho1 (Kd.R_lt (by (with_reducible repeat (first | apply Kd.R_alloc | apply Kd.R_drewN | apply Kd.R_drew)); exact HO_620000.out))) (Kd.R_lt (by (with_reducible repeat (first | apply Kd.R_alloc | apply Kd.R_drewN | apply Kd.R_drew)); exact HO_620001.out))) (below_size (by repeat (first | (with_reducible first | exact HB.out | apply below_alloc | apply pw_below_drewN | apply below_drew1 | refine below_set ?_ GE619.out | refine below_set ?_ GE626.out) | exact HB.out)))); have n5_ := Aside0.mk (Kd.R_lower (Kd.R_new' ho2 (Kd.R_lt (by (with_reducible repeat (first | apply Kd.R_alloc | apply Kd.R_drewN | apply Kd.R_drew)); exact HO_620002.out))) (below_size (by repeat (first | (with_reducible first | exact HB.out | apply below_alloc | apply pw_below_drewN | apply below_drew1 | refine below_set ?_ GE619.out | refine below_set ?_ GE626.out) | exact HB.out)))); have n6_ := Aside0.mk (blk_below (g := gb619) (o := .cells #[.slice Ao21 x620000_1.length co21, .slice Ao22 x620001_1.length co22, .slice Ao23 x620002_1.length co23] 25 (0, 0)) (by (with_reducible repeat (first | refine blk_drewN ?_ _ | refine blk_drew ?_ | refine blk_alloc ?_ _)); exact BK619.out) hb); have n7_ := Aside0.mk (blk_below (g := gb626) (o := .cells #[.slice none 0 0, .slice none 0 0, .slice none 0 0] 25 (0, 0)) (by (with_reducible repeat (first | refine blk_drewN ?_ _ | refine blk_drew ?_ | refine blk_alloc ?_ _)); exact BK626.out) hb); have n8_ := Aside0.mk (below_step (by repeat (first | (with_reducible first | exact HB.out | apply below_alloc | apply pw_below_drewN | apply below_drew1 | refine below_set ?_ GE619.out | refine below_set ?_ GE626.out) | exact HB.out)) hb); clear HO_620000; clear HO_620001; clear HO_620002; clear BK619; clear BK626; clear HB; have HO_620000 := n0_; have HO_620001 := n1_; have HO_620002 := n2_; have HO670 := n3_; have HO673 := n4_; have HO676 := n5_; have BK619 := n6_; have BK626 := n7_; have HB := n8_; clear n0_ n1_ n2_ n3_ n4_ n5_ n6_ n7_ n8_; (try clear hb); (try clear hb2); (try clear hk); (try clear hi); (try clear ho0); (try clear ho1); (try clear ho2); obtain ⟨Ao69, co69, eo69⟩ := Kd.R_slice HO670.out; subst eo69; have hcz70_0 : w68.cell? ⟨gb626, 0, none⟩ = some (.slice none 0 0) := (blk_cell BK626.out 0).trans rfl; have hcz70_1 : w68.cell? ⟨gb626, 1, none⟩ = some (.slice none 0 0) := (blk_cell BK626.out 1).trans rfl; have hcz70_2 : w68.cell? ⟨gb626, 2, none⟩ = some (.slice none 0 0) := (blk_cell BK626.out 2).trans rfl; have hfz70_0 := blk_frozen BK626.out 0; have hfz70_1 := blk_frozen BK626.out 1; have hfz70_2 := blk_frozen BK626.out 2; obtain ⟨Ao71, co71, eo71⟩ := Kd.R_slice HO673.out; subst eo71; obtain ⟨Ao72, co72, eo72⟩ := Kd.R_slice HO676.out; subst eo72))
               go_meet
               case rel => exact ⟨_, (t678), (t623), (t668), (t671), (t674), (.slice Ao69 t668.length co69), (.slice Ao71 t671.length co71), (.slice Ao72 t674.length co72), (by first | rfl | (simp; done) | (simp [*]; done)), (by first | rfl | (simp; done) | (simp [*]; done)), H', ⟨by have := HK1.out; have := HJ9.out; first | omega | exact Nat.le_refl _⟩, ⟨by (with_reducible repeat (first | apply Kd.R_alloc | apply Kd.R_drewN | apply Kd.R_drew)); exact Kd.R_mono (Kd.R_far (p := ⟨gb626, 2, none⟩) (Kd.R_far (p := ⟨gb626, 1, none⟩) (Kd.R_far (p := ⟨gb626, 0, none⟩) (Kd.R_types HO_620000.out BK626.out (by decide)) (fun _ hk => hk.2) (.slice Ao69 t668.length co69)) (fun _ hk => hk.2) (.slice Ao71 t671.length co71)) (fun _ hk => hk.2) (.slice Ao72 t674.length co72)) (fun _ hk => ⟨hk.1.1.1, ⟨hk.1.1.2, hk.1.2⟩⟩)⟩, ⟨by (with_reducible repeat (first | apply Kd.R_alloc | apply Kd.R_drewN | apply Kd.R_drew)); exact Kd.R_mono (Kd.R_far (p := ⟨gb626, 2, none⟩) (Kd.R_far (p := ⟨gb626, 1, none⟩) (Kd.R_far (p := ⟨gb626, 0, none⟩) (Kd.R_types HO_620001.out BK626.out (by decide)) (fun _ hk => hk.2) (.slice Ao69 t668.length co69)) (fun _ hk => hk.2) (.slice Ao71 t671.length co71)) (fun _ hk => hk.2) (.slice Ao72 t674.length co72)) (fun _ hk => ⟨hk.1.1.1, ⟨hk.1.1.2, hk.1.2⟩⟩)⟩, ⟨by (with_reducible repeat (first | apply Kd.R_alloc | apply Kd.R_drewN | apply Kd.R_drew)); exact Kd.R_mono (Kd.R_far (p := ⟨gb626, 2, none⟩) (Kd.R_far (p := ⟨gb626, 1, none⟩) (Kd.R_far (p := ⟨gb626, 0, none⟩) (Kd.R_types HO_620002.out BK626.out (by decide)) (fun _ hk => hk.2) (.slice Ao69 t668.length co69)) (fun _ hk => hk.2) (.slice Ao71 t671.length co71)) (fun _ hk => hk.2) (.slice Ao72 t674.length co72)) (fun _ hk => hk.1.2)⟩, ⟨by (with_reducible repeat (first | apply Kd.R_alloc | apply Kd.R_drewN | apply Kd.R_drew)); exact Kd.R_mono (Kd.R_far (p := ⟨gb626, 2, none⟩) (Kd.R_far (p := ⟨gb626, 1, none⟩) (Kd.R_far (p := ⟨gb626, 0, none⟩) (Kd.R_types HO670.out BK626.out (by decide)) (fun _ hk => hk.2) (.slice Ao69 t668.length co69)) (fun _ hk => hk.2) (.slice Ao71 t671.length co71)) (fun _ hk => hk.2) (.slice Ao72 t674.length co72)) (fun _ hk => ⟨hk.1.1.2, ⟨hk.1.2, hk.1.1.1⟩⟩)⟩, ⟨by (with_reducible repeat (first | apply Kd.R_alloc | apply Kd.R_drewN | apply Kd.R_drew)); exact Kd.R_mono (Kd.R_far (p := ⟨gb626, 2, none⟩) (Kd.R_far (p := ⟨gb626, 1, none⟩) (Kd.R_far (p := ⟨gb626, 0, none⟩) (Kd.R_types HO673.out BK626.out (by decide)) (fun _ hk => hk.2) (.slice Ao69 t668.length co69)) (fun _ hk => hk.2) (.slice Ao71 t671.length co71)) (fun _ hk => hk.2) (.slice Ao72 t674.length co72)) (fun _ hk => ⟨hk.1.1.2, ⟨hk.1.2, hk.1.1.1⟩⟩)⟩, ⟨by (with_reducible repeat (first | apply Kd.R_alloc | apply Kd.R_drewN | apply Kd.R_drew)); exact Kd.R_mono (Kd.R_far (p := ⟨gb626, 2, none⟩) (Kd.R_far (p := ⟨gb626, 1, none⟩) (Kd.R_far (p := ⟨gb626, 0, none⟩) (Kd.R_types HO676.out BK626.out (by decide)) (fun _ hk => hk.2) (.slice Ao69 t668.length co69)) (fun _ hk => hk.2) (.slice Ao71 t671.length co71)) (fun _ hk => hk.2) (.slice Ao72 t674.length co72)) (fun _ hk => hk.1.2)⟩, ⟨by (with_reducible repeat (first | refine blk_drewN ?_ _ | refine blk_drew ?_ | refine blk_alloc ?_ _)); refine blk_far ?_ NB619_626.out _; (with_reducible repeat (first | refine blk_drewN ?_ _ | refine blk_drew ?_ | refine blk_alloc ?_ _)); refine blk_far ?_ NB619_626.out _; (with_reducible repeat (first | refine blk_drewN ?_ _ | refine blk_drew ?_ | refine blk_alloc ?_ _)); refine blk_far ?_ NB619_626.out _; (with_reducible repeat (first | refine blk_drewN ?_ _ | refine blk_drew ?_ | refine blk_alloc ?_ _)); exact BK619.out⟩, ⟨by (with_reducible repeat (first | refine blk_drewN ?_ _ | refine blk_drew ?_ | refine blk_alloc ?_ _)); refine blk_put (cs := #[.slice Ao69 t668.length co69, .slice Ao71 t671.length co71, .slice none 0 0]) ?_ 2 _ rfl; (with_reducible repeat (first | refine blk_drewN ?_ _ | refine blk_drew ?_ | refine blk_alloc ?_ _)); refine blk_put (cs := #[.slice Ao69 t668.length co69, .slice none 0 0, .slice none 0 0]) ?_ 1 _ rfl; (with_reducible repeat (first | refine blk_drewN ?_ _ | refine blk_drew ?_ | refine blk_alloc ?_ _)); refine blk_put (cs := #[.slice none 0 0, .slice none 0 0, .slice none 0 0]) ?_ 0 _ rfl; (with_reducible repeat (first | refine blk_drewN ?_ _ | refine blk_drew ?_ | refine blk_alloc ?_ _)); exact BK626.out⟩, ⟨by repeat (first | (with_reducible first | exact HB.out | apply below_alloc | apply pw_below_drewN | apply below_drew1 | refine below_set ?_ GE619.out | refine below_set ?_ GE626.out) | exact HB.out)⟩⟩
              ·
               rw [if_neg c64] at H
               have c64b0 : ((Int.tmod t622 5) == 4) = false := beq_eq_false_iff_ne.mpr c64
               have c64b1 : ((Int.tmod t622 5) != 4) = true := bne_iff_ne.mpr c64
               have H' := Aside0.mk H
               clear H
               go_wp2
               go_meet
               case rel => exact ⟨_, (t625), (t623), (([] : List Int)), (([] : List Int)), (([] : List Bool)), (.slice none 0 0), (.slice none 0 0), (.slice none 0 0), (by first | rfl | (simp; done) | (simp [*]; done)), (by first | rfl | (simp; done) | (simp [*]; done)), H', ⟨by have := HK1.out; have := HJ9.out; first | omega | exact Nat.le_refl _⟩, ⟨by (with_reducible repeat (first | apply Kd.R_alloc | apply Kd.R_drewN | apply Kd.R_drew)); exact Kd.R_mono HO_620000.out (fun _ hk => ⟨hk, ⟨(by simp [Value.ownBlock]), (by simp [Value.ownBlock])⟩⟩)⟩, ⟨by (with_reducible repeat (first | apply Kd.R_alloc | apply Kd.R_drewN | apply Kd.R_drew)); exact Kd.R_mono HO_620001.out (fun _ hk => ⟨hk, ⟨(by simp [Value.ownBlock]), (by simp [Value.ownBlock])⟩⟩)⟩, ⟨by (with_reducible repeat (first | apply Kd.R_alloc | apply Kd.R_drewN | apply Kd.R_drew)); exact Kd.R_mono HO_620002.out (fun _ hk => (by simp [Value.ownBlock]))⟩, ⟨by first | exact Kd.R_nil _ _ _ _ _ | exact Kd.N_nil _ _ _ _ _ | exact Kd.V_nil _ _ _ _ _ | exact Kd.Q_nil _ _ _ _ _ | exact Kd.S_nil _ _ _ _ _⟩, ⟨by first | exact Kd.R_nil _ _ _ _ _ | exact Kd.N_nil _ _ _ _ _ | exact Kd.V_nil _ _ _ _ _ | exact Kd.Q_nil _ _ _ _ _ | exact Kd.S_nil _ _ _ _ _⟩, ⟨by first | exact Kd.R_nil _ _ _ _ _ | exact Kd.N_nil _ _ _ _ _ | exact Kd.V_nil _ _ _ _ _ | exact Kd.Q_nil _ _ _ _ _ | exact Kd.S_nil _ _ _ _ _⟩, ⟨by (with_reducible repeat (first | refine blk_drewN ?_ _ | refine blk_drew ?_ | refine blk_alloc ?_ _)); exact BK619.out⟩, ⟨by (with_reducible repeat (first | refine blk_drewN ?_ _ | refine blk_drew ?_ | refine blk_alloc ?_ _)); exact BK626.out⟩, ⟨by repeat (first | (with_reducible first | exact HB.out | apply below_alloc | apply pw_below_drewN | apply below_drew1 | refine below_set ?_ GE619.out | refine below_set ?_ GE626.out) | exact HB.out)⟩⟩
         case rest =>
          clear HC19
          try clear c1
          try clear c2
          try clear p2
          try clear c3
          try clear c4
          try clear c5
          try clear c6
          try clear p6
          try clear q6
          try clear hx6
          try clear c7
          try clear c11
          try clear c11b0
          try clear c12
          try clear c13
          try clear c13b0
          try clear c14
          try clear c14b0
          try clear c18
          try clear c18b0
          try clear c18b1
          try clear c20
          try clear c22
          try clear c24
          try clear c26
          try clear c27
          try clear c28
          try clear c28b0
          try clear c28b1
          try clear c29
          try clear c30
          try clear c33
          try clear c35
          try clear c37
          try clear c37b0
          try clear c37b1
          try clear c39
          try clear c46
          try clear c46b0
          try clear c46b1
          try clear c48
          try clear c55
          try clear c55b0
          try clear c55b1
          try clear c57
          try clear p62
          try clear q62
          try clear hx62
          try clear c64
          try clear c64b0
          try clear c64b1
          try clear p64
          try clear c66
          try clear hcz20_0
          try clear hcz20_1
          try clear hcz20_2
          try clear hcz25_0
          try clear hcz25_1
          try clear hcz25_2
          try clear hcz31_0
          try clear hcz31_1
          try clear hcz31_2
          try clear hcz34_0
          try clear hcz34_1
          try clear hcz34_2
          try clear hcz40_0
          try clear hcz40_1
          try clear hcz40_2
          try clear hcz43_0
          try clear hcz43_1
          try clear hcz43_2
          try clear hcz49_0
          try clear hcz49_1
          try clear hcz49_2
          try clear hcz52_0
          try clear hcz52_1
          try clear hcz52_2
          try clear hcz58_0
          try clear hcz58_1
          try clear hcz58_2
          try clear hcz61_0
          try clear hcz61_1
          try clear hcz61_2
          try clear hcz67_0
          try clear hcz67_1
          try clear hcz67_2
          try clear hcz70_0
          try clear hcz70_1
          try clear hcz70_2
          try clear hcz7_0
          try clear hcz7_1
          try clear hcz7_2
          try clear hfz20_0
          try clear hfz20_1
          try clear hfz20_2
          try clear hfz25_0
          try clear hfz25_1
          try clear hfz25_2
          try clear hfz31_0
          try clear hfz31_1
          try clear hfz31_2
          try clear hfz34_0
          try clear hfz34_1
          try clear hfz34_2
          try clear hfz40_0
          try clear hfz40_1
          try clear hfz40_2
          try clear hfz43_0
          try clear hfz43_1
          try clear hfz43_2
          try clear hfz49_0
          try clear hfz49_1
          try clear hfz49_2
          try clear hfz52_0
          try clear hfz52_1
          try clear hfz52_2
          try clear hfz58_0
          try clear hfz58_1
          try clear hfz58_2
          try clear hfz61_0
          try clear hfz61_1
          try clear hfz61_2
          try clear hfz67_0
          try clear hfz67_1
          try clear hfz67_2
          try clear hfz70_0
          try clear hfz70_1
          try clear hfz70_2
          try clear hfz7_0
          try clear hfz7_1
          try clear hfz7_2
          try clear hx621_0
          try clear p2
          try clear p621
          try clear q621
          obtain ⟨kq, x11_18, x13_18, x627000_18, x627001_18, x627002_18, u627000, u627001, u627002, rfl, rfl, HA, HJ18, HO_620000, HO_620001, HO_620002, HO_627000, HO_627001, HO_627002, BK619, BK626, HB⟩ := hcut
          cases kq with
          | zero => exact absurd HA.out (by simp [headgatelaw07_LruSteps.j2])
          | succ kj18 =>
           have H := HA.out
           clear HA
           simp only [headgatelaw07_LruSteps.j2] at H
           by_cases c73 : x11_18 = 0
           ·
            rw [if_pos c73] at H
            have c73b0 : (x11_18 == 0) = true := beq_iff_eq.mpr c73
            have c73b1 : (x11_18 != 0) = false := bne_eq_false_iff_eq.mpr c73
            clear c73
            replace H := Option.bind_eq_some_iff.mp H
            obtain ⟨t679, A740, H⟩ := H
            replace H : (if t679 = 0 then ((headgatelaw07_size.f x627000_18 x627001_18 x627002_18).bind fun t680 => (if t680 = x13_18 then (headgatelaw07_LruSteps.l0 kj18 l1 (wrap64 (x6_1 + 1)) x627000_18 x627001_18 x627002_18) else (some false))) else (some false)) = some r := H
            have A74 := Aside0.mk A740
            clear A740
            by_cases c75 : t679 = 0
            ·
             rw [if_pos c75] at H
             have c75b0 : (t679 == 0) = true := beq_iff_eq.mpr c75
             have c75b1 : (t679 != 0) = false := bne_eq_false_iff_eq.mpr c75
             clear c75
             replace H := Option.bind_eq_some_iff.mp H
             obtain ⟨t680, A760, H⟩ := H
             replace H : (if t680 = x13_18 then (headgatelaw07_LruSteps.l0 kj18 l1 (wrap64 (x6_1 + 1)) x627000_18 x627001_18 x627002_18) else (some false)) = some r := H
             have A76 := Aside0.mk A760
             clear A760
             by_cases c77 : t680 = x13_18
             · as_aux_lemma =>
              rw [if_pos c77] at H
              have c77b0 : (t680 == x13_18) = true := beq_iff_eq.mpr c77
              have c77b1 : (t680 != x13_18) = false := bne_eq_false_iff_eq.mpr c77
              clear c77
              have H' := Aside0.mk H
              clear H
              have hnb78 := NB626_619.out
              have hnc78 := NB619_626.out
              have hcz79_0 : wc.cell? ⟨gb626, 0, none⟩ = some (u627000) := (blk_cell BK626.out 0).trans rfl
              have hcz79_1 : wc.cell? ⟨gb626, 1, none⟩ = some (u627001) := (blk_cell BK626.out 1).trans rfl
              have hcz79_2 : wc.cell? ⟨gb626, 2, none⟩ = some (u627002) := (blk_cell BK626.out 2).trans rfl
              have hfz79_0 := blk_frozen BK626.out 0
              have hfz79_1 := blk_frozen BK626.out 1
              have hfz79_2 := blk_frozen BK626.out 2
              obtain ⟨Ao80, co80, eo80⟩ := Kd.R_slice HO_627000.out
              subst eo80
              obtain ⟨Ao81, co81, eo81⟩ := Kd.R_slice HO_627001.out
              subst eo81
              obtain ⟨Ao82, co82, eo82⟩ := Kd.R_slice HO_627002.out
              subst eo82
              go_wp2_with (first | ((with_reducible refine gate_callee (f := 16) rfl ?_); refine goesL_ (some 140) rfl rfl Try.func16 (by kernel_rfl) rfl #[.agg #[.slice Ao80 x627000_18.length co80, .slice Ao81 x627001_18.length co81, .slice Ao82 x627002_18.length co82]] rfl (by (try simp only [List.map_toArray, List.map_cons, List.map_nil]); first | done | rfl | (simp only [List.length_drop, List.length_take]; rfl)) ?_; (with_reducible refine (lru_Check.calls _ _ x627000_18 _ _ x627001_18 _ _ x627002_18 t679 _ ?side1 ?side2 ?side3 ?side4 ?side5 ?side6 A74.out).mono ?_); (case side1 => repeat (first | exact (Kd.R_reads' HO_627000.out).2.2 | (with_reducible refine Kd.C_alloc ?_ _) | (with_reducible refine Kd.C_drewN ?_ _) | (with_reducible refine Kd.C_drew ?_))); (case side2 => exact (Kd.R_reads' HO_627000.out).2.1); (case side3 => repeat (first | exact (Kd.R_reads' HO_627001.out).2.2 | (with_reducible refine Kd.C_alloc ?_ _) | (with_reducible refine Kd.C_drewN ?_ _) | (with_reducible refine Kd.C_drew ?_))); (case side4 => exact (Kd.R_reads' HO_627001.out).2.1); (case side5 => repeat (first | exact (Kd.R_reads' HO_627002.out).2.2 | (with_reducible refine Kd.C_alloc ?_ _) | (with_reducible refine Kd.C_drewN ?_ _) | (with_reducible refine Kd.C_drew ?_))); (case side6 => exact (Kd.R_reads' HO_627002.out).2.1); rintro e w83 ⟨rfl, hb⟩; refine ⟨_, rfl, ?_⟩; have n0_ := Aside0.mk (Kd.R_below (by (with_reducible repeat (first | apply Kd.R_alloc | apply Kd.R_drewN | apply Kd.R_drew)); exact HO_620000.out) hb); have n1_ := Aside0.mk (Kd.R_below (by (with_reducible repeat (first | apply Kd.R_alloc | apply Kd.R_drewN | apply Kd.R_drew)); exact HO_620001.out) hb); have n2_ := Aside0.mk (Kd.R_below (by (with_reducible repeat (first | apply Kd.R_alloc | apply Kd.R_drewN | apply Kd.R_drew)); exact HO_620002.out) hb); have n3_ := Aside0.mk (Kd.R_below (by (with_reducible repeat (first | apply Kd.R_alloc | apply Kd.R_drewN | apply Kd.R_drew)); exact HO_627000.out) hb); have n4_ := Aside0.mk (Kd.R_below (by (with_reducible repeat (first | apply Kd.R_alloc | apply Kd.R_drewN | apply Kd.R_drew)); exact HO_627001.out) hb); have n5_ := Aside0.mk (Kd.R_below (by (with_reducible repeat (first | apply Kd.R_alloc | apply Kd.R_drewN | apply Kd.R_drew)); exact HO_627002.out) hb); have n6_ := Aside0.mk (blk_below (g := gb619) (o := .cells #[.slice Ao21 x620000_1.length co21, .slice Ao22 x620001_1.length co22, .slice Ao23 x620002_1.length co23] 25 (0, 0)) (by (with_reducible repeat (first | refine blk_drewN ?_ _ | refine blk_drew ?_ | refine blk_alloc ?_ _)); exact BK619.out) hb); have n7_ := Aside0.mk (blk_below (g := gb626) (o := .cells #[.slice Ao80 x627000_18.length co80, .slice Ao81 x627001_18.length co81, .slice Ao82 x627002_18.length co82] 25 (0, 0)) (by (with_reducible repeat (first | refine blk_drewN ?_ _ | refine blk_drew ?_ | refine blk_alloc ?_ _)); exact BK626.out) hb); have n8_ := Aside0.mk (below_step (by repeat (first | (with_reducible first | exact HB.out | apply below_alloc | apply pw_below_drewN | apply below_drew1 | refine below_set ?_ GE619.out | refine below_set ?_ GE626.out) | exact HB.out)) hb); clear HO_620000; clear HO_620001; clear HO_620002; clear HO_627000; clear HO_627001; clear HO_627002; clear BK619; clear BK626; clear HB; have HO_620000 := n0_; have HO_620001 := n1_; have HO_620002 := n2_; have HO_627000 := n3_; have HO_627001 := n4_; have HO_627002 := n5_; have BK619 := n6_; have BK626 := n7_; have HB := n8_; clear n0_ n1_ n2_ n3_ n4_ n5_ n6_ n7_ n8_; (try clear hb); (try clear hb2); (try clear hk); (try clear hi); have hcz84_0 : w83.cell? ⟨gb626, 0, none⟩ = some (.slice Ao80 x627000_18.length co80) := (blk_cell BK626.out 0).trans rfl; have hcz84_1 : w83.cell? ⟨gb626, 1, none⟩ = some (.slice Ao81 x627001_18.length co81) := (blk_cell BK626.out 1).trans rfl; have hcz84_2 : w83.cell? ⟨gb626, 2, none⟩ = some (.slice Ao82 x627002_18.length co82) := (blk_cell BK626.out 2).trans rfl; have hfz84_0 := blk_frozen BK626.out 0; have hfz84_1 := blk_frozen BK626.out 1; have hfz84_2 := blk_frozen BK626.out 2) | (go_at_call 35; refine calls_of_args (args' := #[.agg #[.slice Ao80 x627000_18.length co80, .slice Ao81 x627001_18.length co81, .slice Ao82 x627002_18.length co82]]) (by first | rfl) ?_; (with_reducible refine (headgatelaw07_size.calls _ _ x627000_18 _ _ x627001_18 _ _ x627002_18 t680 _ ?side1 ?side2 ?side3 ?side4 ?side5 ?side6 A76.out).mono ?_); (case side1 => repeat (first | exact (Kd.R_reads' HO_627000.out).2.2 | (with_reducible refine Kd.C_alloc ?_ _) | (with_reducible refine Kd.C_drewN ?_ _) | (with_reducible refine Kd.C_drew ?_))); (case side2 => exact (Kd.R_reads' HO_627000.out).2.1); (case side3 => repeat (first | exact (Kd.R_reads' HO_627001.out).2.2 | (with_reducible refine Kd.C_alloc ?_ _) | (with_reducible refine Kd.C_drewN ?_ _) | (with_reducible refine Kd.C_drew ?_))); (case side4 => exact (Kd.R_reads' HO_627001.out).2.1); (case side5 => repeat (first | exact (Kd.R_reads' HO_627002.out).2.2 | (with_reducible refine Kd.C_alloc ?_ _) | (with_reducible refine Kd.C_drewN ?_ _) | (with_reducible refine Kd.C_drew ?_))); (case side6 => exact (Kd.R_reads' HO_627002.out).2.1); rintro e w85 ⟨rfl, hb⟩; have n0_ := Aside0.mk (Kd.R_below (by (with_reducible repeat (first | apply Kd.R_alloc | apply Kd.R_drewN | apply Kd.R_drew)); exact HO_620000.out) hb); have n1_ := Aside0.mk (Kd.R_below (by (with_reducible repeat (first | apply Kd.R_alloc | apply Kd.R_drewN | apply Kd.R_drew)); exact HO_620001.out) hb); have n2_ := Aside0.mk (Kd.R_below (by (with_reducible repeat (first | apply Kd.R_alloc | apply Kd.R_drewN | apply Kd.R_drew)); exact HO_620002.out) hb); have n3_ := Aside0.mk (Kd.R_below (by (with_reducible repeat (first | apply Kd.R_alloc | apply Kd.R_drewN | apply Kd.R_drew)); exact HO_627000.out) hb); have n4_ := Aside0.mk (Kd.R_below (by (with_reducible repeat (first | apply Kd.R_alloc | apply Kd.R_drewN | apply Kd.R_drew)); exact HO_627001.out) hb); have n5_ := Aside0.mk (Kd.R_below (by (with_reducible repeat (first | apply Kd.R_alloc | apply Kd.R_drewN | apply Kd.R_drew)); exact HO_627002.out) hb); have n6_ := Aside0.mk (blk_below (g := gb619) (o := .cells #[.slice Ao21 x620000_1.length co21, .slice Ao22 x620001_1.length co22, .slice Ao23 x620002_1.length co23] 25 (0, 0)) (by (with_reducible repeat (first | refine blk_drewN ?_ _ | refine blk_drew ?_ | refine blk_alloc ?_ _)); exact BK619.out) hb); have n7_ := Aside0.mk (blk_below (g := gb626) (o := .cells #[.slice Ao80 x627000_18.length co80, .slice Ao81 x627001_18.length co81, .slice Ao82 x627002_18.length co82] 25 (0, 0)) (by (with_reducible repeat (first | refine blk_drewN ?_ _ | refine blk_drew ?_ | refine blk_alloc ?_ _)); exact BK626.out) hb); have n8_ := Aside0.mk (below_step (by repeat (first | (with_reducible first | exact HB.out | apply below_alloc | apply pw_below_drewN | apply below_drew1 | refine below_set ?_ GE619.out | refine below_set ?_ GE626.out) | exact HB.out)) hb); clear HO_620000; clear HO_620001; clear HO_620002; clear HO_627000; clear HO_627001; clear HO_627002; clear BK619; clear BK626; clear HB; have HO_620000 := n0_; have HO_620001 := n1_; have HO_620002 := n2_; have HO_627000 := n3_; have HO_627001 := n4_; have HO_627002 := n5_; have BK619 := n6_; have BK626 := n7_; have HB := n8_; clear n0_ n1_ n2_ n3_ n4_ n5_ n6_ n7_ n8_; (try clear hb); (try clear hb2); (try clear hk); (try clear hi); have hcz86_0 : w85.cell? ⟨gb626, 0, none⟩ = some (.slice Ao80 x627000_18.length co80) := (blk_cell BK626.out 0).trans rfl; have hcz86_1 : w85.cell? ⟨gb626, 1, none⟩ = some (.slice Ao81 x627001_18.length co81) := (blk_cell BK626.out 1).trans rfl; have hcz86_2 : w85.cell? ⟨gb626, 2, none⟩ = some (.slice Ao82 x627002_18.length co82) := (blk_cell BK626.out 2).trans rfl; have hfz86_0 := blk_frozen BK626.out 0; have hfz86_1 := blk_frozen BK626.out 1; have hfz86_2 := blk_frozen BK626.out 2; have hcz87_0 : w85.cell? ⟨gb619, 0, none⟩ = some (.slice Ao21 x620000_1.length co21) := (blk_cell BK619.out 0).trans rfl; have hcz87_1 : w85.cell? ⟨gb619, 1, none⟩ = some (.slice Ao22 x620001_1.length co22) := (blk_cell BK619.out 1).trans rfl; have hcz87_2 : w85.cell? ⟨gb619, 2, none⟩ = some (.slice Ao23 x620002_1.length co23) := (blk_cell BK619.out 2).trans rfl; have hfz87_0 := blk_frozen BK619.out 0; have hfz87_1 := blk_frozen BK619.out 1; have hfz87_2 := blk_frozen BK619.out 2))
              go_roundg kj18
              case measure => have := HK1.out; have := HJ9.out; have := HJ18.out; omega
              case rel => exact ⟨(wrap64 (x6_1 + 1)), (x627000_18), (x627001_18), (x627002_18), (.slice Ao80 x627000_18.length co80), (.slice Ao81 x627001_18.length co81), (.slice Ao82 x627002_18.length co82), (by first | rfl | (simp; done) | (simp [*]; done)), H', ⟨by have := HK1.out; have := HJ9.out; have := HJ18.out; omega⟩, ⟨by (with_reducible repeat (first | apply Kd.R_alloc | apply Kd.R_drewN | apply Kd.R_drew)); exact Kd.R_mono (Kd.R_far (p := ⟨gb619, 2, none⟩) (Kd.R_far (p := ⟨gb619, 1, none⟩) (Kd.R_far (p := ⟨gb619, 0, none⟩) (Kd.R_types HO_627000.out BK619.out (by decide)) (fun _ hk => hk.2) (.slice Ao80 x627000_18.length co80)) (fun _ hk => hk.2) (.slice Ao81 x627001_18.length co81)) (fun _ hk => hk.2) (.slice Ao82 x627002_18.length co82)) (fun _ hk => hk.1.2.2)⟩, ⟨by (with_reducible repeat (first | apply Kd.R_alloc | apply Kd.R_drewN | apply Kd.R_drew)); exact Kd.R_mono (Kd.R_far (p := ⟨gb619, 2, none⟩) (Kd.R_far (p := ⟨gb619, 1, none⟩) (Kd.R_far (p := ⟨gb619, 0, none⟩) (Kd.R_types HO_627001.out BK619.out (by decide)) (fun _ hk => hk.2) (.slice Ao80 x627000_18.length co80)) (fun _ hk => hk.2) (.slice Ao81 x627001_18.length co81)) (fun _ hk => hk.2) (.slice Ao82 x627002_18.length co82)) (fun _ hk => hk.1.2.2)⟩, ⟨by (with_reducible repeat (first | apply Kd.R_alloc | apply Kd.R_drewN | apply Kd.R_drew)); exact Kd.R_mono (Kd.R_far (p := ⟨gb619, 2, none⟩) (Kd.R_far (p := ⟨gb619, 1, none⟩) (Kd.R_far (p := ⟨gb619, 0, none⟩) (Kd.R_types HO_627002.out BK619.out (by decide)) (fun _ hk => hk.2) (.slice Ao80 x627000_18.length co80)) (fun _ hk => hk.2) (.slice Ao81 x627001_18.length co81)) (fun _ hk => hk.2) (.slice Ao82 x627002_18.length co82)) (fun _ hk => trivial)⟩, ⟨by (with_reducible repeat (first | refine blk_drewN ?_ _ | refine blk_drew ?_ | refine blk_alloc ?_ _)); refine blk_put (cs := #[.slice Ao80 x627000_18.length co80, .slice Ao81 x627001_18.length co81, .slice Ao23 x620002_1.length co23]) ?_ 2 _ rfl; (with_reducible repeat (first | refine blk_drewN ?_ _ | refine blk_drew ?_ | refine blk_alloc ?_ _)); refine blk_put (cs := #[.slice Ao80 x627000_18.length co80, .slice Ao22 x620001_1.length co22, .slice Ao23 x620002_1.length co23]) ?_ 1 _ rfl; (with_reducible repeat (first | refine blk_drewN ?_ _ | refine blk_drew ?_ | refine blk_alloc ?_ _)); refine blk_put (cs := #[.slice Ao21 x620000_1.length co21, .slice Ao22 x620001_1.length co22, .slice Ao23 x620002_1.length co23]) ?_ 0 _ rfl; (with_reducible repeat (first | refine blk_drewN ?_ _ | refine blk_drew ?_ | refine blk_alloc ?_ _)); exact BK619.out⟩, ⟨by repeat (first | (with_reducible first | exact HB.out | apply below_alloc | apply pw_below_drewN | apply below_drew1 | refine below_set ?_ GE619.out | refine below_set ?_ GE626.out) | exact HB.out)⟩⟩
             ·
              rw [if_neg c77] at H
              have c77b0 : (t680 == x13_18) = false := beq_eq_false_iff_ne.mpr c77
              have c77b1 : (t680 != x13_18) = true := bne_iff_ne.mpr c77
              exact absurd H (by rw [HT.out]; simp)
            ·
             rw [if_neg c75] at H
             have c75b0 : (t679 == 0) = false := beq_eq_false_iff_ne.mpr c75
             have c75b1 : (t679 != 0) = true := bne_iff_ne.mpr c75
             exact absurd H (by rw [HT.out]; simp)
           ·
            rw [if_neg c73] at H
            have c73b0 : (x11_18 == 0) = false := beq_eq_false_iff_ne.mpr c73
            have c73b1 : (x11_18 != 0) = true := bne_iff_ne.mpr c73
            by_cases c88 : (Int.tmod t622 5) = 0
            ·
             rw [if_pos c88] at H
             have c88b0 : ((Int.tmod t622 5) == 0) = true := beq_iff_eq.mpr c88
             have c88b1 : ((Int.tmod t622 5) != 0) = false := bne_eq_false_iff_eq.mpr c88
             clear c88
             by_cases c89 : t624 = 0
             ·
              rw [if_pos c89] at H
              have c89b0 : (t624 == 0) = true := beq_iff_eq.mpr c89
              have c89b1 : (t624 != 0) = false := bne_eq_false_iff_eq.mpr c89
              clear c89
              exact absurd H (by rw [HT.out]; simp)
             · as_aux_lemma =>
              rw [if_neg c89] at H
              have c89b0 : (t624 == 0) = false := beq_eq_false_iff_ne.mpr c89
              have c89b1 : (t624 != 0) = true := bne_iff_ne.mpr c89
              by_cases c90 : (Int.tmod t622 5) = 1
              ·
               rw [if_pos c90] at H
               have c90b0 : ((Int.tmod t622 5) == 1) = true := beq_iff_eq.mpr c90
               have c90b1 : ((Int.tmod t622 5) != 1) = false := bne_eq_false_iff_eq.mpr c90
               clear c90
               exact absurd H (by rw [HT.out]; simp)
              ·
               rw [if_neg c90] at H
               have c90b0 : ((Int.tmod t622 5) == 1) = false := beq_eq_false_iff_ne.mpr c90
               have c90b1 : ((Int.tmod t622 5) != 1) = true := bne_iff_ne.mpr c90
               by_cases c91 : (Int.tmod t622 5) = 2
               ·
                rw [if_pos c91] at H
                have c91b0 : ((Int.tmod t622 5) == 2) = true := beq_iff_eq.mpr c91
                have c91b1 : ((Int.tmod t622 5) != 2) = false := bne_eq_false_iff_eq.mpr c91
                clear c91
                exact absurd H (by rw [HT.out]; simp)
               ·
                rw [if_neg c91] at H
                have c91b0 : ((Int.tmod t622 5) == 2) = false := beq_eq_false_iff_ne.mpr c91
                have c91b1 : ((Int.tmod t622 5) != 2) = true := bne_iff_ne.mpr c91
                by_cases c92 : (Int.tmod t622 5) = 3
                ·
                 rw [if_pos c92] at H
                 have c92b0 : ((Int.tmod t622 5) == 3) = true := beq_iff_eq.mpr c92
                 have c92b1 : ((Int.tmod t622 5) != 3) = false := bne_eq_false_iff_eq.mpr c92
                 clear c92
                 by_cases c93 : (x620000_1.length : Int) > 0
                 ·
                  rw [if_pos c93] at H
                  have c93b0 : decide (0 < (x620000_1.length : Int)) = true := decide_eq_true c93
                  have c93b1 : decide (0 < x620000_1.length) = true := decide_eq_true (by omega)
                  clear c93
                  exact absurd H (by rw [HT.out]; simp)
                 ·
                  rw [if_neg c93] at H
                  have c93b0 : decide (0 < (x620000_1.length : Int)) = false := decide_eq_false c93
                  have c93b1 : decide (0 < x620000_1.length) = false := decide_eq_false (by omega)
                  clear c93
                  by_cases c94 : (Int.tmod t622 5) = 4
                  ·
                   rw [if_pos c94] at H
                   have c94b0 : ((Int.tmod t622 5) == 4) = true := beq_iff_eq.mpr c94
                   have c94b1 : ((Int.tmod t622 5) != 4) = false := bne_eq_false_iff_eq.mpr c94
                   clear c94
                   by_cases c95 : (x620001_1.length : Int) > 0
                   ·
                    rw [if_pos c95] at H
                    have c95b0 : decide (0 < (x620001_1.length : Int)) = true := decide_eq_true c95
                    have c95b1 : decide (0 < x620001_1.length) = true := decide_eq_true (by omega)
                    clear c95
                    exact absurd H (by rw [HT.out]; simp)
                   ·
                    rw [if_neg c95] at H
                    have c95b0 : decide (0 < (x620001_1.length : Int)) = false := decide_eq_false c95
                    have c95b1 : decide (0 < x620001_1.length) = false := decide_eq_false (by omega)
                    clear c95
                    have H' := Aside0.mk H
                    clear H
                    have hnb96 := NB619_626.out
                    have hnc96 := NB626_619.out
                    have hcz97_0 : wc.cell? ⟨gb619, 0, none⟩ = some (.slice Ao21 x620000_1.length co21) := (blk_cell BK619.out 0).trans rfl
                    have hcz97_1 : wc.cell? ⟨gb619, 1, none⟩ = some (.slice Ao22 x620001_1.length co22) := (blk_cell BK619.out 1).trans rfl
                    have hcz97_2 : wc.cell? ⟨gb619, 2, none⟩ = some (.slice Ao23 x620002_1.length co23) := (blk_cell BK619.out 2).trans rfl
                    have hfz97_0 := blk_frozen BK619.out 0
                    have hfz97_1 := blk_frozen BK619.out 1
                    have hfz97_2 := blk_frozen BK619.out 2
                    go_wp2
                    go_roundg kj18
                    case measure => have := HK1.out; have := HJ9.out; have := HJ18.out; omega
                    case rel => exact ⟨(wrap64 (x6_1 + 1)), (x620000_1), (x620001_1), (x620002_1), (.slice Ao21 x620000_1.length co21), (.slice Ao22 x620001_1.length co22), (.slice Ao23 x620002_1.length co23), (by first | rfl | (simp; done) | (simp [*]; done)), H', ⟨by have := HK1.out; have := HJ9.out; have := HJ18.out; omega⟩, ⟨by (with_reducible repeat (first | apply Kd.R_alloc | apply Kd.R_drewN | apply Kd.R_drew)); exact Kd.R_mono HO_620000.out (fun _ hk => hk.1)⟩, ⟨by (with_reducible repeat (first | apply Kd.R_alloc | apply Kd.R_drewN | apply Kd.R_drew)); exact Kd.R_mono HO_620001.out (fun _ hk => hk.1)⟩, ⟨by (with_reducible repeat (first | apply Kd.R_alloc | apply Kd.R_drewN | apply Kd.R_drew)); exact Kd.R_mono HO_620002.out (fun _ hk => trivial)⟩, ⟨by (with_reducible repeat (first | refine blk_drewN ?_ _ | refine blk_drew ?_ | refine blk_alloc ?_ _)); exact BK619.out⟩, ⟨by repeat (first | (with_reducible first | exact HB.out | apply below_alloc | apply pw_below_drewN | apply below_drew1 | refine below_set ?_ GE619.out | refine below_set ?_ GE626.out) | exact HB.out)⟩⟩
                  ·
                   rw [if_neg c94] at H
                   have c94b0 : ((Int.tmod t622 5) == 4) = false := beq_eq_false_iff_ne.mpr c94
                   have c94b1 : ((Int.tmod t622 5) != 4) = true := bne_iff_ne.mpr c94
                   have H' := Aside0.mk H
                   clear H
                   have hnb98 := NB619_626.out
                   have hnc98 := NB626_619.out
                   have hcz99_0 : wc.cell? ⟨gb619, 0, none⟩ = some (.slice Ao21 x620000_1.length co21) := (blk_cell BK619.out 0).trans rfl
                   have hcz99_1 : wc.cell? ⟨gb619, 1, none⟩ = some (.slice Ao22 x620001_1.length co22) := (blk_cell BK619.out 1).trans rfl
                   have hcz99_2 : wc.cell? ⟨gb619, 2, none⟩ = some (.slice Ao23 x620002_1.length co23) := (blk_cell BK619.out 2).trans rfl
                   have hfz99_0 := blk_frozen BK619.out 0
                   have hfz99_1 := blk_frozen BK619.out 1
                   have hfz99_2 := blk_frozen BK619.out 2
                   go_wp2
                   go_roundg kj18
                   case measure => have := HK1.out; have := HJ9.out; have := HJ18.out; omega
                   case rel => exact ⟨(wrap64 (x6_1 + 1)), (x620000_1), (x620001_1), (x620002_1), (.slice Ao21 x620000_1.length co21), (.slice Ao22 x620001_1.length co22), (.slice Ao23 x620002_1.length co23), (by first | rfl | (simp; done) | (simp [*]; done)), H', ⟨by have := HK1.out; have := HJ9.out; have := HJ18.out; omega⟩, ⟨by (with_reducible repeat (first | apply Kd.R_alloc | apply Kd.R_drewN | apply Kd.R_drew)); exact Kd.R_mono HO_620000.out (fun _ hk => hk.1)⟩, ⟨by (with_reducible repeat (first | apply Kd.R_alloc | apply Kd.R_drewN | apply Kd.R_drew)); exact Kd.R_mono HO_620001.out (fun _ hk => hk.1)⟩, ⟨by (with_reducible repeat (first | apply Kd.R_alloc | apply Kd.R_drewN | apply Kd.R_drew)); exact Kd.R_mono HO_620002.out (fun _ hk => trivial)⟩, ⟨by (with_reducible repeat (first | refine blk_drewN ?_ _ | refine blk_drew ?_ | refine blk_alloc ?_ _)); exact BK619.out⟩, ⟨by repeat (first | (with_reducible first | exact HB.out | apply below_alloc | apply pw_below_drewN | apply below_drew1 | refine below_set ?_ GE619.out | refine below_set ?_ GE626.out) | exact HB.out)⟩⟩
                ·
                 rw [if_neg c92] at H
                 have c92b0 : ((Int.tmod t622 5) == 3) = false := beq_eq_false_iff_ne.mpr c92
                 have c92b1 : ((Int.tmod t622 5) != 3) = true := bne_iff_ne.mpr c92
                 by_cases c100 : (Int.tmod t622 5) = 4
                 ·
                  rw [if_pos c100] at H
                  have c100b0 : ((Int.tmod t622 5) == 4) = true := beq_iff_eq.mpr c100
                  have c100b1 : ((Int.tmod t622 5) != 4) = false := bne_eq_false_iff_eq.mpr c100
                  clear c100
                  by_cases c101 : (x620001_1.length : Int) > 0
                  ·
                   rw [if_pos c101] at H
                   have c101b0 : decide (0 < (x620001_1.length : Int)) = true := decide_eq_true c101
                   have c101b1 : decide (0 < x620001_1.length) = true := decide_eq_true (by omega)
                   clear c101
                   exact absurd H (by rw [HT.out]; simp)
                  ·
                   rw [if_neg c101] at H
                   have c101b0 : decide (0 < (x620001_1.length : Int)) = false := decide_eq_false c101
                   have c101b1 : decide (0 < x620001_1.length) = false := decide_eq_false (by omega)
                   clear c101
                   have H' := Aside0.mk H
                   clear H
                   have hnb102 := NB619_626.out
                   have hnc102 := NB626_619.out
                   have hcz103_0 : wc.cell? ⟨gb619, 0, none⟩ = some (.slice Ao21 x620000_1.length co21) := (blk_cell BK619.out 0).trans rfl
                   have hcz103_1 : wc.cell? ⟨gb619, 1, none⟩ = some (.slice Ao22 x620001_1.length co22) := (blk_cell BK619.out 1).trans rfl
                   have hcz103_2 : wc.cell? ⟨gb619, 2, none⟩ = some (.slice Ao23 x620002_1.length co23) := (blk_cell BK619.out 2).trans rfl
                   have hfz103_0 := blk_frozen BK619.out 0
                   have hfz103_1 := blk_frozen BK619.out 1
                   have hfz103_2 := blk_frozen BK619.out 2
                   go_wp2
                   go_roundg kj18
                   case measure => have := HK1.out; have := HJ9.out; have := HJ18.out; omega
                   case rel => exact ⟨(wrap64 (x6_1 + 1)), (x620000_1), (x620001_1), (x620002_1), (.slice Ao21 x620000_1.length co21), (.slice Ao22 x620001_1.length co22), (.slice Ao23 x620002_1.length co23), (by first | rfl | (simp; done) | (simp [*]; done)), H', ⟨by have := HK1.out; have := HJ9.out; have := HJ18.out; omega⟩, ⟨by (with_reducible repeat (first | apply Kd.R_alloc | apply Kd.R_drewN | apply Kd.R_drew)); exact Kd.R_mono HO_620000.out (fun _ hk => hk.1)⟩, ⟨by (with_reducible repeat (first | apply Kd.R_alloc | apply Kd.R_drewN | apply Kd.R_drew)); exact Kd.R_mono HO_620001.out (fun _ hk => hk.1)⟩, ⟨by (with_reducible repeat (first | apply Kd.R_alloc | apply Kd.R_drewN | apply Kd.R_drew)); exact Kd.R_mono HO_620002.out (fun _ hk => trivial)⟩, ⟨by (with_reducible repeat (first | refine blk_drewN ?_ _ | refine blk_drew ?_ | refine blk_alloc ?_ _)); exact BK619.out⟩, ⟨by repeat (first | (with_reducible first | exact HB.out | apply below_alloc | apply pw_below_drewN | apply below_drew1 | refine below_set ?_ GE619.out | refine below_set ?_ GE626.out) | exact HB.out)⟩⟩
                 ·
                  rw [if_neg c100] at H
                  have c100b0 : ((Int.tmod t622 5) == 4) = false := beq_eq_false_iff_ne.mpr c100
                  have c100b1 : ((Int.tmod t622 5) != 4) = true := bne_iff_ne.mpr c100
                  have H' := Aside0.mk H
                  clear H
                  go_wp2
                  go_roundg kj18
                  case measure => have := HK1.out; have := HJ9.out; have := HJ18.out; omega
                  case rel => exact ⟨(wrap64 (x6_1 + 1)), (x620000_1), (x620001_1), (x620002_1), (.slice Ao21 x620000_1.length co21), (.slice Ao22 x620001_1.length co22), (.slice Ao23 x620002_1.length co23), (by first | rfl | (simp; done) | (simp [*]; done)), H', ⟨by have := HK1.out; have := HJ9.out; have := HJ18.out; omega⟩, ⟨by (with_reducible repeat (first | apply Kd.R_alloc | apply Kd.R_drewN | apply Kd.R_drew)); exact Kd.R_mono HO_620000.out (fun _ hk => hk.1)⟩, ⟨by (with_reducible repeat (first | apply Kd.R_alloc | apply Kd.R_drewN | apply Kd.R_drew)); exact Kd.R_mono HO_620001.out (fun _ hk => hk.1)⟩, ⟨by (with_reducible repeat (first | apply Kd.R_alloc | apply Kd.R_drewN | apply Kd.R_drew)); exact Kd.R_mono HO_620002.out (fun _ hk => trivial)⟩, ⟨by (with_reducible repeat (first | refine blk_drewN ?_ _ | refine blk_drew ?_ | refine blk_alloc ?_ _)); exact BK619.out⟩, ⟨by repeat (first | (with_reducible first | exact HB.out | apply below_alloc | apply pw_below_drewN | apply below_drew1 | refine below_set ?_ GE619.out | refine below_set ?_ GE626.out) | exact HB.out)⟩⟩
            ·
             rw [if_neg c88] at H
             have c88b0 : ((Int.tmod t622 5) == 0) = false := beq_eq_false_iff_ne.mpr c88
             have c88b1 : ((Int.tmod t622 5) != 0) = true := bne_iff_ne.mpr c88
             by_cases c104 : (Int.tmod t622 5) = 1
             ·
              rw [if_pos c104] at H
              have c104b0 : ((Int.tmod t622 5) == 1) = true := beq_iff_eq.mpr c104
              have c104b1 : ((Int.tmod t622 5) != 1) = false := bne_eq_false_iff_eq.mpr c104
              clear c104
              by_cases c105 : t624 = 0
              · as_aux_lemma =>
               rw [if_pos c105] at H
               have c105b0 : (t624 == 0) = true := beq_iff_eq.mpr c105
               have c105b1 : (t624 != 0) = false := bne_eq_false_iff_eq.mpr c105
               clear c105
               by_cases c106 : (Int.tmod t622 5) = 2
               ·
                rw [if_pos c106] at H
                have c106b0 : ((Int.tmod t622 5) == 2) = true := beq_iff_eq.mpr c106
                have c106b1 : ((Int.tmod t622 5) != 2) = false := bne_eq_false_iff_eq.mpr c106
                clear c106
                by_cases c107 : (Int.tmod t622 5) = 3
                ·
                 rw [if_pos c107] at H
                 have c107b0 : ((Int.tmod t622 5) == 3) = true := beq_iff_eq.mpr c107
                 have c107b1 : ((Int.tmod t622 5) != 3) = false := bne_eq_false_iff_eq.mpr c107
                 clear c107
                 by_cases c108 : (x620000_1.length : Int) > 0
                 ·
                  rw [if_pos c108] at H
                  have c108b0 : decide (0 < (x620000_1.length : Int)) = true := decide_eq_true c108
                  have c108b1 : decide (0 < x620000_1.length) = true := decide_eq_true (by omega)
                  clear c108
                  exact absurd H (by rw [HT.out]; simp)
                 ·
                  rw [if_neg c108] at H
                  have c108b0 : decide (0 < (x620000_1.length : Int)) = false := decide_eq_false c108
                  have c108b1 : decide (0 < x620000_1.length) = false := decide_eq_false (by omega)
                  clear c108
                  by_cases c109 : (Int.tmod t622 5) = 4
                  ·
                   rw [if_pos c109] at H
                   have c109b0 : ((Int.tmod t622 5) == 4) = true := beq_iff_eq.mpr c109
                   have c109b1 : ((Int.tmod t622 5) != 4) = false := bne_eq_false_iff_eq.mpr c109
                   clear c109
                   by_cases c110 : (x620001_1.length : Int) > 0
                   ·
                    rw [if_pos c110] at H
                    have c110b0 : decide (0 < (x620001_1.length : Int)) = true := decide_eq_true c110
                    have c110b1 : decide (0 < x620001_1.length) = true := decide_eq_true (by omega)
                    clear c110
                    exact absurd H (by rw [HT.out]; simp)
                   ·
                    rw [if_neg c110] at H
                    have c110b0 : decide (0 < (x620001_1.length : Int)) = false := decide_eq_false c110
                    have c110b1 : decide (0 < x620001_1.length) = false := decide_eq_false (by omega)
                    clear c110
                    have H' := Aside0.mk H
                    clear H
                    have hnb111 := NB619_626.out
                    have hnc111 := NB626_619.out
                    have hcz112_0 : wc.cell? ⟨gb619, 0, none⟩ = some (.slice Ao21 x620000_1.length co21) := (blk_cell BK619.out 0).trans rfl
                    have hcz112_1 : wc.cell? ⟨gb619, 1, none⟩ = some (.slice Ao22 x620001_1.length co22) := (blk_cell BK619.out 1).trans rfl
                    have hcz112_2 : wc.cell? ⟨gb619, 2, none⟩ = some (.slice Ao23 x620002_1.length co23) := (blk_cell BK619.out 2).trans rfl
                    have hfz112_0 := blk_frozen BK619.out 0
                    have hfz112_1 := blk_frozen BK619.out 1
                    have hfz112_2 := blk_frozen BK619.out 2
                    go_wp2
                    go_roundg kj18
                    case measure => have := HK1.out; have := HJ9.out; have := HJ18.out; omega
                    case rel => exact ⟨(wrap64 (x6_1 + 1)), (x620000_1), (x620001_1), (x620002_1), (.slice Ao21 x620000_1.length co21), (.slice Ao22 x620001_1.length co22), (.slice Ao23 x620002_1.length co23), (by first | rfl | (simp; done) | (simp [*]; done)), H', ⟨by have := HK1.out; have := HJ9.out; have := HJ18.out; omega⟩, ⟨by (with_reducible repeat (first | apply Kd.R_alloc | apply Kd.R_drewN | apply Kd.R_drew)); exact Kd.R_mono HO_620000.out (fun _ hk => hk.1)⟩, ⟨by (with_reducible repeat (first | apply Kd.R_alloc | apply Kd.R_drewN | apply Kd.R_drew)); exact Kd.R_mono HO_620001.out (fun _ hk => hk.1)⟩, ⟨by (with_reducible repeat (first | apply Kd.R_alloc | apply Kd.R_drewN | apply Kd.R_drew)); exact Kd.R_mono HO_620002.out (fun _ hk => trivial)⟩, ⟨by (with_reducible repeat (first | refine blk_drewN ?_ _ | refine blk_drew ?_ | refine blk_alloc ?_ _)); exact BK619.out⟩, ⟨by repeat (first | (with_reducible first | exact HB.out | apply below_alloc | apply pw_below_drewN | apply below_drew1 | refine below_set ?_ GE619.out | refine below_set ?_ GE626.out) | exact HB.out)⟩⟩
                  ·
                   rw [if_neg c109] at H
                   have c109b0 : ((Int.tmod t622 5) == 4) = false := beq_eq_false_iff_ne.mpr c109
                   have c109b1 : ((Int.tmod t622 5) != 4) = true := bne_iff_ne.mpr c109
                   have H' := Aside0.mk H
                   clear H
                   have hnb113 := NB619_626.out
                   have hnc113 := NB626_619.out
                   have hcz114_0 : wc.cell? ⟨gb619, 0, none⟩ = some (.slice Ao21 x620000_1.length co21) := (blk_cell BK619.out 0).trans rfl
                   have hcz114_1 : wc.cell? ⟨gb619, 1, none⟩ = some (.slice Ao22 x620001_1.length co22) := (blk_cell BK619.out 1).trans rfl
                   have hcz114_2 : wc.cell? ⟨gb619, 2, none⟩ = some (.slice Ao23 x620002_1.length co23) := (blk_cell BK619.out 2).trans rfl
                   have hfz114_0 := blk_frozen BK619.out 0
                   have hfz114_1 := blk_frozen BK619.out 1
                   have hfz114_2 := blk_frozen BK619.out 2
                   go_wp2
                   go_roundg kj18
                   case measure => have := HK1.out; have := HJ9.out; have := HJ18.out; omega
                   case rel => exact ⟨(wrap64 (x6_1 + 1)), (x620000_1), (x620001_1), (x620002_1), (.slice Ao21 x620000_1.length co21), (.slice Ao22 x620001_1.length co22), (.slice Ao23 x620002_1.length co23), (by first | rfl | (simp; done) | (simp [*]; done)), H', ⟨by have := HK1.out; have := HJ9.out; have := HJ18.out; omega⟩, ⟨by (with_reducible repeat (first | apply Kd.R_alloc | apply Kd.R_drewN | apply Kd.R_drew)); exact Kd.R_mono HO_620000.out (fun _ hk => hk.1)⟩, ⟨by (with_reducible repeat (first | apply Kd.R_alloc | apply Kd.R_drewN | apply Kd.R_drew)); exact Kd.R_mono HO_620001.out (fun _ hk => hk.1)⟩, ⟨by (with_reducible repeat (first | apply Kd.R_alloc | apply Kd.R_drewN | apply Kd.R_drew)); exact Kd.R_mono HO_620002.out (fun _ hk => trivial)⟩, ⟨by (with_reducible repeat (first | refine blk_drewN ?_ _ | refine blk_drew ?_ | refine blk_alloc ?_ _)); exact BK619.out⟩, ⟨by repeat (first | (with_reducible first | exact HB.out | apply below_alloc | apply pw_below_drewN | apply below_drew1 | refine below_set ?_ GE619.out | refine below_set ?_ GE626.out) | exact HB.out)⟩⟩
                ·
                 rw [if_neg c107] at H
                 have c107b0 : ((Int.tmod t622 5) == 3) = false := beq_eq_false_iff_ne.mpr c107
                 have c107b1 : ((Int.tmod t622 5) != 3) = true := bne_iff_ne.mpr c107
                 by_cases c115 : (Int.tmod t622 5) = 4
                 ·
                  rw [if_pos c115] at H
                  have c115b0 : ((Int.tmod t622 5) == 4) = true := beq_iff_eq.mpr c115
                  have c115b1 : ((Int.tmod t622 5) != 4) = false := bne_eq_false_iff_eq.mpr c115
                  clear c115
                  by_cases c116 : (x620001_1.length : Int) > 0
                  ·
                   rw [if_pos c116] at H
                   have c116b0 : decide (0 < (x620001_1.length : Int)) = true := decide_eq_true c116
                   have c116b1 : decide (0 < x620001_1.length) = true := decide_eq_true (by omega)
                   clear c116
                   exact absurd H (by rw [HT.out]; simp)
                  ·
                   rw [if_neg c116] at H
                   have c116b0 : decide (0 < (x620001_1.length : Int)) = false := decide_eq_false c116
                   have c116b1 : decide (0 < x620001_1.length) = false := decide_eq_false (by omega)
                   clear c116
                   have H' := Aside0.mk H
                   clear H
                   have hnb117 := NB619_626.out
                   have hnc117 := NB626_619.out
                   have hcz118_0 : wc.cell? ⟨gb619, 0, none⟩ = some (.slice Ao21 x620000_1.length co21) := (blk_cell BK619.out 0).trans rfl
                   have hcz118_1 : wc.cell? ⟨gb619, 1, none⟩ = some (.slice Ao22 x620001_1.length co22) := (blk_cell BK619.out 1).trans rfl
                   have hcz118_2 : wc.cell? ⟨gb619, 2, none⟩ = some (.slice Ao23 x620002_1.length co23) := (blk_cell BK619.out 2).trans rfl
                   have hfz118_0 := blk_frozen BK619.out 0
                   have hfz118_1 := blk_frozen BK619.out 1
                   have hfz118_2 := blk_frozen BK619.out 2
                   go_wp2
                   go_roundg kj18
                   case measure => have := HK1.out; have := HJ9.out; have := HJ18.out; omega
                   case rel => exact ⟨(wrap64 (x6_1 + 1)), (x620000_1), (x620001_1), (x620002_1), (.slice Ao21 x620000_1.length co21), (.slice Ao22 x620001_1.length co22), (.slice Ao23 x620002_1.length co23), (by first | rfl | (simp; done) | (simp [*]; done)), H', ⟨by have := HK1.out; have := HJ9.out; have := HJ18.out; omega⟩, ⟨by (with_reducible repeat (first | apply Kd.R_alloc | apply Kd.R_drewN | apply Kd.R_drew)); exact Kd.R_mono HO_620000.out (fun _ hk => hk.1)⟩, ⟨by (with_reducible repeat (first | apply Kd.R_alloc | apply Kd.R_drewN | apply Kd.R_drew)); exact Kd.R_mono HO_620001.out (fun _ hk => hk.1)⟩, ⟨by (with_reducible repeat (first | apply Kd.R_alloc | apply Kd.R_drewN | apply Kd.R_drew)); exact Kd.R_mono HO_620002.out (fun _ hk => trivial)⟩, ⟨by (with_reducible repeat (first | refine blk_drewN ?_ _ | refine blk_drew ?_ | refine blk_alloc ?_ _)); exact BK619.out⟩, ⟨by repeat (first | (with_reducible first | exact HB.out | apply below_alloc | apply pw_below_drewN | apply below_drew1 | refine below_set ?_ GE619.out | refine below_set ?_ GE626.out) | exact HB.out)⟩⟩
                 ·
                  rw [if_neg c115] at H
                  have c115b0 : ((Int.tmod t622 5) == 4) = false := beq_eq_false_iff_ne.mpr c115
                  have c115b1 : ((Int.tmod t622 5) != 4) = true := bne_iff_ne.mpr c115
                  have H' := Aside0.mk H
                  clear H
                  go_wp2
                  go_roundg kj18
                  case measure => have := HK1.out; have := HJ9.out; have := HJ18.out; omega
                  case rel => exact ⟨(wrap64 (x6_1 + 1)), (x620000_1), (x620001_1), (x620002_1), (.slice Ao21 x620000_1.length co21), (.slice Ao22 x620001_1.length co22), (.slice Ao23 x620002_1.length co23), (by first | rfl | (simp; done) | (simp [*]; done)), H', ⟨by have := HK1.out; have := HJ9.out; have := HJ18.out; omega⟩, ⟨by (with_reducible repeat (first | apply Kd.R_alloc | apply Kd.R_drewN | apply Kd.R_drew)); exact Kd.R_mono HO_620000.out (fun _ hk => hk.1)⟩, ⟨by (with_reducible repeat (first | apply Kd.R_alloc | apply Kd.R_drewN | apply Kd.R_drew)); exact Kd.R_mono HO_620001.out (fun _ hk => hk.1)⟩, ⟨by (with_reducible repeat (first | apply Kd.R_alloc | apply Kd.R_drewN | apply Kd.R_drew)); exact Kd.R_mono HO_620002.out (fun _ hk => trivial)⟩, ⟨by (with_reducible repeat (first | refine blk_drewN ?_ _ | refine blk_drew ?_ | refine blk_alloc ?_ _)); exact BK619.out⟩, ⟨by repeat (first | (with_reducible first | exact HB.out | apply below_alloc | apply pw_below_drewN | apply below_drew1 | refine below_set ?_ GE619.out | refine below_set ?_ GE626.out) | exact HB.out)⟩⟩
               ·
                rw [if_neg c106] at H
                have c106b0 : ((Int.tmod t622 5) == 2) = false := beq_eq_false_iff_ne.mpr c106
                have c106b1 : ((Int.tmod t622 5) != 2) = true := bne_iff_ne.mpr c106
                by_cases c119 : (Int.tmod t622 5) = 3
                ·
                 rw [if_pos c119] at H
                 have c119b0 : ((Int.tmod t622 5) == 3) = true := beq_iff_eq.mpr c119
                 have c119b1 : ((Int.tmod t622 5) != 3) = false := bne_eq_false_iff_eq.mpr c119
                 clear c119
                 by_cases c120 : (x620000_1.length : Int) > 0
                 ·
                  rw [if_pos c120] at H
                  have c120b0 : decide (0 < (x620000_1.length : Int)) = true := decide_eq_true c120
                  have c120b1 : decide (0 < x620000_1.length) = true := decide_eq_true (by omega)
                  clear c120
                  exact absurd H (by rw [HT.out]; simp)
                 ·
                  rw [if_neg c120] at H
                  have c120b0 : decide (0 < (x620000_1.length : Int)) = false := decide_eq_false c120
                  have c120b1 : decide (0 < x620000_1.length) = false := decide_eq_false (by omega)
                  clear c120
                  by_cases c121 : (Int.tmod t622 5) = 4
                  ·
                   rw [if_pos c121] at H
                   have c121b0 : ((Int.tmod t622 5) == 4) = true := beq_iff_eq.mpr c121
                   have c121b1 : ((Int.tmod t622 5) != 4) = false := bne_eq_false_iff_eq.mpr c121
                   clear c121
                   by_cases c122 : (x620001_1.length : Int) > 0
                   ·
                    rw [if_pos c122] at H
                    have c122b0 : decide (0 < (x620001_1.length : Int)) = true := decide_eq_true c122
                    have c122b1 : decide (0 < x620001_1.length) = true := decide_eq_true (by omega)
                    clear c122
                    exact absurd H (by rw [HT.out]; simp)
                   ·
                    rw [if_neg c122] at H
                    have c122b0 : decide (0 < (x620001_1.length : Int)) = false := decide_eq_false c122
                    have c122b1 : decide (0 < x620001_1.length) = false := decide_eq_false (by omega)
                    clear c122
                    have H' := Aside0.mk H
                    clear H
                    have hnb123 := NB619_626.out
                    have hnc123 := NB626_619.out
                    have hcz124_0 : wc.cell? ⟨gb619, 0, none⟩ = some (.slice Ao21 x620000_1.length co21) := (blk_cell BK619.out 0).trans rfl
                    have hcz124_1 : wc.cell? ⟨gb619, 1, none⟩ = some (.slice Ao22 x620001_1.length co22) := (blk_cell BK619.out 1).trans rfl
                    have hcz124_2 : wc.cell? ⟨gb619, 2, none⟩ = some (.slice Ao23 x620002_1.length co23) := (blk_cell BK619.out 2).trans rfl
                    have hfz124_0 := blk_frozen BK619.out 0
                    have hfz124_1 := blk_frozen BK619.out 1
                    have hfz124_2 := blk_frozen BK619.out 2
                    go_wp2
                    go_roundg kj18
                    case measure => have := HK1.out; have := HJ9.out; have := HJ18.out; omega
                    case rel => exact ⟨(wrap64 (x6_1 + 1)), (x620000_1), (x620001_1), (x620002_1), (.slice Ao21 x620000_1.length co21), (.slice Ao22 x620001_1.length co22), (.slice Ao23 x620002_1.length co23), (by first | rfl | (simp; done) | (simp [*]; done)), H', ⟨by have := HK1.out; have := HJ9.out; have := HJ18.out; omega⟩, ⟨by (with_reducible repeat (first | apply Kd.R_alloc | apply Kd.R_drewN | apply Kd.R_drew)); exact Kd.R_mono HO_620000.out (fun _ hk => hk.1)⟩, ⟨by (with_reducible repeat (first | apply Kd.R_alloc | apply Kd.R_drewN | apply Kd.R_drew)); exact Kd.R_mono HO_620001.out (fun _ hk => hk.1)⟩, ⟨by (with_reducible repeat (first | apply Kd.R_alloc | apply Kd.R_drewN | apply Kd.R_drew)); exact Kd.R_mono HO_620002.out (fun _ hk => trivial)⟩, ⟨by (with_reducible repeat (first | refine blk_drewN ?_ _ | refine blk_drew ?_ | refine blk_alloc ?_ _)); exact BK619.out⟩, ⟨by repeat (first | (with_reducible first | exact HB.out | apply below_alloc | apply pw_below_drewN | apply below_drew1 | refine below_set ?_ GE619.out | refine below_set ?_ GE626.out) | exact HB.out)⟩⟩
                  ·
                   rw [if_neg c121] at H
                   have c121b0 : ((Int.tmod t622 5) == 4) = false := beq_eq_false_iff_ne.mpr c121
                   have c121b1 : ((Int.tmod t622 5) != 4) = true := bne_iff_ne.mpr c121
                   have H' := Aside0.mk H
                   clear H
                   have hnb125 := NB619_626.out
                   have hnc125 := NB626_619.out
                   have hcz126_0 : wc.cell? ⟨gb619, 0, none⟩ = some (.slice Ao21 x620000_1.length co21) := (blk_cell BK619.out 0).trans rfl
                   have hcz126_1 : wc.cell? ⟨gb619, 1, none⟩ = some (.slice Ao22 x620001_1.length co22) := (blk_cell BK619.out 1).trans rfl
                   have hcz126_2 : wc.cell? ⟨gb619, 2, none⟩ = some (.slice Ao23 x620002_1.length co23) := (blk_cell BK619.out 2).trans rfl
                   have hfz126_0 := blk_frozen BK619.out 0
                   have hfz126_1 := blk_frozen BK619.out 1
                   have hfz126_2 := blk_frozen BK619.out 2
                   go_wp2
                   go_roundg kj18
                   case measure => have := HK1.out; have := HJ9.out; have := HJ18.out; omega
                   case rel => exact ⟨(wrap64 (x6_1 + 1)), (x620000_1), (x620001_1), (x620002_1), (.slice Ao21 x620000_1.length co21), (.slice Ao22 x620001_1.length co22), (.slice Ao23 x620002_1.length co23), (by first | rfl | (simp; done) | (simp [*]; done)), H', ⟨by have := HK1.out; have := HJ9.out; have := HJ18.out; omega⟩, ⟨by (with_reducible repeat (first | apply Kd.R_alloc | apply Kd.R_drewN | apply Kd.R_drew)); exact Kd.R_mono HO_620000.out (fun _ hk => hk.1)⟩, ⟨by (with_reducible repeat (first | apply Kd.R_alloc | apply Kd.R_drewN | apply Kd.R_drew)); exact Kd.R_mono HO_620001.out (fun _ hk => hk.1)⟩, ⟨by (with_reducible repeat (first | apply Kd.R_alloc | apply Kd.R_drewN | apply Kd.R_drew)); exact Kd.R_mono HO_620002.out (fun _ hk => trivial)⟩, ⟨by (with_reducible repeat (first | refine blk_drewN ?_ _ | refine blk_drew ?_ | refine blk_alloc ?_ _)); exact BK619.out⟩, ⟨by repeat (first | (with_reducible first | exact HB.out | apply below_alloc | apply pw_below_drewN | apply below_drew1 | refine below_set ?_ GE619.out | refine below_set ?_ GE626.out) | exact HB.out)⟩⟩
                ·
                 rw [if_neg c119] at H
                 have c119b0 : ((Int.tmod t622 5) == 3) = false := beq_eq_false_iff_ne.mpr c119
                 have c119b1 : ((Int.tmod t622 5) != 3) = true := bne_iff_ne.mpr c119
                 by_cases c127 : (Int.tmod t622 5) = 4
                 ·
                  rw [if_pos c127] at H
                  have c127b0 : ((Int.tmod t622 5) == 4) = true := beq_iff_eq.mpr c127
                  have c127b1 : ((Int.tmod t622 5) != 4) = false := bne_eq_false_iff_eq.mpr c127
                  clear c127
                  by_cases c128 : (x620001_1.length : Int) > 0
                  ·
                   rw [if_pos c128] at H
                   have c128b0 : decide (0 < (x620001_1.length : Int)) = true := decide_eq_true c128
                   have c128b1 : decide (0 < x620001_1.length) = true := decide_eq_true (by omega)
                   clear c128
                   exact absurd H (by rw [HT.out]; simp)
                  ·
                   rw [if_neg c128] at H
                   have c128b0 : decide (0 < (x620001_1.length : Int)) = false := decide_eq_false c128
                   have c128b1 : decide (0 < x620001_1.length) = false := decide_eq_false (by omega)
                   clear c128
                   have H' := Aside0.mk H
                   clear H
                   have hnb129 := NB619_626.out
                   have hnc129 := NB626_619.out
                   have hcz130_0 : wc.cell? ⟨gb619, 0, none⟩ = some (.slice Ao21 x620000_1.length co21) := (blk_cell BK619.out 0).trans rfl
                   have hcz130_1 : wc.cell? ⟨gb619, 1, none⟩ = some (.slice Ao22 x620001_1.length co22) := (blk_cell BK619.out 1).trans rfl
                   have hcz130_2 : wc.cell? ⟨gb619, 2, none⟩ = some (.slice Ao23 x620002_1.length co23) := (blk_cell BK619.out 2).trans rfl
                   have hfz130_0 := blk_frozen BK619.out 0
                   have hfz130_1 := blk_frozen BK619.out 1
                   have hfz130_2 := blk_frozen BK619.out 2
                   go_wp2
                   go_roundg kj18
                   case measure => have := HK1.out; have := HJ9.out; have := HJ18.out; omega
                   case rel => exact ⟨(wrap64 (x6_1 + 1)), (x620000_1), (x620001_1), (x620002_1), (.slice Ao21 x620000_1.length co21), (.slice Ao22 x620001_1.length co22), (.slice Ao23 x620002_1.length co23), (by first | rfl | (simp; done) | (simp [*]; done)), H', ⟨by have := HK1.out; have := HJ9.out; have := HJ18.out; omega⟩, ⟨by (with_reducible repeat (first | apply Kd.R_alloc | apply Kd.R_drewN | apply Kd.R_drew)); exact Kd.R_mono HO_620000.out (fun _ hk => hk.1)⟩, ⟨by (with_reducible repeat (first | apply Kd.R_alloc | apply Kd.R_drewN | apply Kd.R_drew)); exact Kd.R_mono HO_620001.out (fun _ hk => hk.1)⟩, ⟨by (with_reducible repeat (first | apply Kd.R_alloc | apply Kd.R_drewN | apply Kd.R_drew)); exact Kd.R_mono HO_620002.out (fun _ hk => trivial)⟩, ⟨by (with_reducible repeat (first | refine blk_drewN ?_ _ | refine blk_drew ?_ | refine blk_alloc ?_ _)); exact BK619.out⟩, ⟨by repeat (first | (with_reducible first | exact HB.out | apply below_alloc | apply pw_below_drewN | apply below_drew1 | refine below_set ?_ GE619.out | refine below_set ?_ GE626.out) | exact HB.out)⟩⟩
                 ·
                  rw [if_neg c127] at H
                  have c127b0 : ((Int.tmod t622 5) == 4) = false := beq_eq_false_iff_ne.mpr c127
                  have c127b1 : ((Int.tmod t622 5) != 4) = true := bne_iff_ne.mpr c127
                  have H' := Aside0.mk H
                  clear H
                  go_wp2
                  go_roundg kj18
                  case measure => have := HK1.out; have := HJ9.out; have := HJ18.out; omega
                  case rel => exact ⟨(wrap64 (x6_1 + 1)), (x620000_1), (x620001_1), (x620002_1), (.slice Ao21 x620000_1.length co21), (.slice Ao22 x620001_1.length co22), (.slice Ao23 x620002_1.length co23), (by first | rfl | (simp; done) | (simp [*]; done)), H', ⟨by have := HK1.out; have := HJ9.out; have := HJ18.out; omega⟩, ⟨by (with_reducible repeat (first | apply Kd.R_alloc | apply Kd.R_drewN | apply Kd.R_drew)); exact Kd.R_mono HO_620000.out (fun _ hk => hk.1)⟩, ⟨by (with_reducible repeat (first | apply Kd.R_alloc | apply Kd.R_drewN | apply Kd.R_drew)); exact Kd.R_mono HO_620001.out (fun _ hk => hk.1)⟩, ⟨by (with_reducible repeat (first | apply Kd.R_alloc | apply Kd.R_drewN | apply Kd.R_drew)); exact Kd.R_mono HO_620002.out (fun _ hk => trivial)⟩, ⟨by (with_reducible repeat (first | refine blk_drewN ?_ _ | refine blk_drew ?_ | refine blk_alloc ?_ _)); exact BK619.out⟩, ⟨by repeat (first | (with_reducible first | exact HB.out | apply below_alloc | apply pw_below_drewN | apply below_drew1 | refine below_set ?_ GE619.out | refine below_set ?_ GE626.out) | exact HB.out)⟩⟩
              ·
               rw [if_neg c105] at H
               have c105b0 : (t624 == 0) = false := beq_eq_false_iff_ne.mpr c105
               have c105b1 : (t624 != 0) = true := bne_iff_ne.mpr c105
               exact absurd H (by rw [HT.out]; simp)
             · as_aux_lemma =>
              rw [if_neg c104] at H
              have c104b0 : ((Int.tmod t622 5) == 1) = false := beq_eq_false_iff_ne.mpr c104
              have c104b1 : ((Int.tmod t622 5) != 1) = true := bne_iff_ne.mpr c104
              by_cases c131 : (Int.tmod t622 5) = 2
              ·
               rw [if_pos c131] at H
               have c131b0 : ((Int.tmod t622 5) == 2) = true := beq_iff_eq.mpr c131
               have c131b1 : ((Int.tmod t622 5) != 2) = false := bne_eq_false_iff_eq.mpr c131
               clear c131
               by_cases c132 : t624 = 0
               ·
                rw [if_pos c132] at H
                have c132b0 : (t624 == 0) = true := beq_iff_eq.mpr c132
                have c132b1 : (t624 != 0) = false := bne_eq_false_iff_eq.mpr c132
                clear c132
                by_cases c133 : (Int.tmod t622 5) = 3
                ·
                 rw [if_pos c133] at H
                 have c133b0 : ((Int.tmod t622 5) == 3) = true := beq_iff_eq.mpr c133
                 have c133b1 : ((Int.tmod t622 5) != 3) = false := bne_eq_false_iff_eq.mpr c133
                 clear c133
                 by_cases c134 : (x620000_1.length : Int) > 0
                 ·
                  rw [if_pos c134] at H
                  have c134b0 : decide (0 < (x620000_1.length : Int)) = true := decide_eq_true c134
                  have c134b1 : decide (0 < x620000_1.length) = true := decide_eq_true (by omega)
                  clear c134
                  exact absurd H (by rw [HT.out]; simp)
                 ·
                  rw [if_neg c134] at H
                  have c134b0 : decide (0 < (x620000_1.length : Int)) = false := decide_eq_false c134
                  have c134b1 : decide (0 < x620000_1.length) = false := decide_eq_false (by omega)
                  clear c134
                  by_cases c135 : (Int.tmod t622 5) = 4
                  ·
                   rw [if_pos c135] at H
                   have c135b0 : ((Int.tmod t622 5) == 4) = true := beq_iff_eq.mpr c135
                   have c135b1 : ((Int.tmod t622 5) != 4) = false := bne_eq_false_iff_eq.mpr c135
                   clear c135
                   by_cases c136 : (x620001_1.length : Int) > 0
                   ·
                    rw [if_pos c136] at H
                    have c136b0 : decide (0 < (x620001_1.length : Int)) = true := decide_eq_true c136
                    have c136b1 : decide (0 < x620001_1.length) = true := decide_eq_true (by omega)
                    clear c136
                    exact absurd H (by rw [HT.out]; simp)
                   ·
                    rw [if_neg c136] at H
                    have c136b0 : decide (0 < (x620001_1.length : Int)) = false := decide_eq_false c136
                    have c136b1 : decide (0 < x620001_1.length) = false := decide_eq_false (by omega)
                    clear c136
                    have H' := Aside0.mk H
                    clear H
                    have hnb137 := NB619_626.out
                    have hnc137 := NB626_619.out
                    have hcz138_0 : wc.cell? ⟨gb619, 0, none⟩ = some (.slice Ao21 x620000_1.length co21) := (blk_cell BK619.out 0).trans rfl
                    have hcz138_1 : wc.cell? ⟨gb619, 1, none⟩ = some (.slice Ao22 x620001_1.length co22) := (blk_cell BK619.out 1).trans rfl
                    have hcz138_2 : wc.cell? ⟨gb619, 2, none⟩ = some (.slice Ao23 x620002_1.length co23) := (blk_cell BK619.out 2).trans rfl
                    have hfz138_0 := blk_frozen BK619.out 0
                    have hfz138_1 := blk_frozen BK619.out 1
                    have hfz138_2 := blk_frozen BK619.out 2
                    go_wp2
                    go_roundg kj18
                    case measure => have := HK1.out; have := HJ9.out; have := HJ18.out; omega
                    case rel => exact ⟨(wrap64 (x6_1 + 1)), (x620000_1), (x620001_1), (x620002_1), (.slice Ao21 x620000_1.length co21), (.slice Ao22 x620001_1.length co22), (.slice Ao23 x620002_1.length co23), (by first | rfl | (simp; done) | (simp [*]; done)), H', ⟨by have := HK1.out; have := HJ9.out; have := HJ18.out; omega⟩, ⟨by (with_reducible repeat (first | apply Kd.R_alloc | apply Kd.R_drewN | apply Kd.R_drew)); exact Kd.R_mono HO_620000.out (fun _ hk => hk.1)⟩, ⟨by (with_reducible repeat (first | apply Kd.R_alloc | apply Kd.R_drewN | apply Kd.R_drew)); exact Kd.R_mono HO_620001.out (fun _ hk => hk.1)⟩, ⟨by (with_reducible repeat (first | apply Kd.R_alloc | apply Kd.R_drewN | apply Kd.R_drew)); exact Kd.R_mono HO_620002.out (fun _ hk => trivial)⟩, ⟨by (with_reducible repeat (first | refine blk_drewN ?_ _ | refine blk_drew ?_ | refine blk_alloc ?_ _)); exact BK619.out⟩, ⟨by repeat (first | (with_reducible first | exact HB.out | apply below_alloc | apply pw_below_drewN | apply below_drew1 | refine below_set ?_ GE619.out | refine below_set ?_ GE626.out) | exact HB.out)⟩⟩
                  ·
                   rw [if_neg c135] at H
                   have c135b0 : ((Int.tmod t622 5) == 4) = false := beq_eq_false_iff_ne.mpr c135
                   have c135b1 : ((Int.tmod t622 5) != 4) = true := bne_iff_ne.mpr c135
                   have H' := Aside0.mk H
                   clear H
                   have hnb139 := NB619_626.out
                   have hnc139 := NB626_619.out
                   have hcz140_0 : wc.cell? ⟨gb619, 0, none⟩ = some (.slice Ao21 x620000_1.length co21) := (blk_cell BK619.out 0).trans rfl
                   have hcz140_1 : wc.cell? ⟨gb619, 1, none⟩ = some (.slice Ao22 x620001_1.length co22) := (blk_cell BK619.out 1).trans rfl
                   have hcz140_2 : wc.cell? ⟨gb619, 2, none⟩ = some (.slice Ao23 x620002_1.length co23) := (blk_cell BK619.out 2).trans rfl
                   have hfz140_0 := blk_frozen BK619.out 0
                   have hfz140_1 := blk_frozen BK619.out 1
                   have hfz140_2 := blk_frozen BK619.out 2
                   go_wp2
                   go_roundg kj18
                   case measure => have := HK1.out; have := HJ9.out; have := HJ18.out; omega
                   case rel => exact ⟨(wrap64 (x6_1 + 1)), (x620000_1), (x620001_1), (x620002_1), (.slice Ao21 x620000_1.length co21), (.slice Ao22 x620001_1.length co22), (.slice Ao23 x620002_1.length co23), (by first | rfl | (simp; done) | (simp [*]; done)), H', ⟨by have := HK1.out; have := HJ9.out; have := HJ18.out; omega⟩, ⟨by (with_reducible repeat (first | apply Kd.R_alloc | apply Kd.R_drewN | apply Kd.R_drew)); exact Kd.R_mono HO_620000.out (fun _ hk => hk.1)⟩, ⟨by (with_reducible repeat (first | apply Kd.R_alloc | apply Kd.R_drewN | apply Kd.R_drew)); exact Kd.R_mono HO_620001.out (fun _ hk => hk.1)⟩, ⟨by (with_reducible repeat (first | apply Kd.R_alloc | apply Kd.R_drewN | apply Kd.R_drew)); exact Kd.R_mono HO_620002.out (fun _ hk => trivial)⟩, ⟨by (with_reducible repeat (first | refine blk_drewN ?_ _ | refine blk_drew ?_ | refine blk_alloc ?_ _)); exact BK619.out⟩, ⟨by repeat (first | (with_reducible first | exact HB.out | apply below_alloc | apply pw_below_drewN | apply below_drew1 | refine below_set ?_ GE619.out | refine below_set ?_ GE626.out) | exact HB.out)⟩⟩
                ·
                 rw [if_neg c133] at H
                 have c133b0 : ((Int.tmod t622 5) == 3) = false := beq_eq_false_iff_ne.mpr c133
                 have c133b1 : ((Int.tmod t622 5) != 3) = true := bne_iff_ne.mpr c133
                 by_cases c141 : (Int.tmod t622 5) = 4
                 ·
                  rw [if_pos c141] at H
                  have c141b0 : ((Int.tmod t622 5) == 4) = true := beq_iff_eq.mpr c141
                  have c141b1 : ((Int.tmod t622 5) != 4) = false := bne_eq_false_iff_eq.mpr c141
                  clear c141
                  by_cases c142 : (x620001_1.length : Int) > 0
                  ·
                   rw [if_pos c142] at H
                   have c142b0 : decide (0 < (x620001_1.length : Int)) = true := decide_eq_true c142
                   have c142b1 : decide (0 < x620001_1.length) = true := decide_eq_true (by omega)
                   clear c142
                   exact absurd H (by rw [HT.out]; simp)
                  ·
                   rw [if_neg c142] at H
                   have c142b0 : decide (0 < (x620001_1.length : Int)) = false := decide_eq_false c142
                   have c142b1 : decide (0 < x620001_1.length) = false := decide_eq_false (by omega)
                   clear c142
                   have H' := Aside0.mk H
                   clear H
                   have hnb143 := NB619_626.out
                   have hnc143 := NB626_619.out
                   have hcz144_0 : wc.cell? ⟨gb619, 0, none⟩ = some (.slice Ao21 x620000_1.length co21) := (blk_cell BK619.out 0).trans rfl
                   have hcz144_1 : wc.cell? ⟨gb619, 1, none⟩ = some (.slice Ao22 x620001_1.length co22) := (blk_cell BK619.out 1).trans rfl
                   have hcz144_2 : wc.cell? ⟨gb619, 2, none⟩ = some (.slice Ao23 x620002_1.length co23) := (blk_cell BK619.out 2).trans rfl
                   have hfz144_0 := blk_frozen BK619.out 0
                   have hfz144_1 := blk_frozen BK619.out 1
                   have hfz144_2 := blk_frozen BK619.out 2
                   go_wp2
                   go_roundg kj18
                   case measure => have := HK1.out; have := HJ9.out; have := HJ18.out; omega
                   case rel => exact ⟨(wrap64 (x6_1 + 1)), (x620000_1), (x620001_1), (x620002_1), (.slice Ao21 x620000_1.length co21), (.slice Ao22 x620001_1.length co22), (.slice Ao23 x620002_1.length co23), (by first | rfl | (simp; done) | (simp [*]; done)), H', ⟨by have := HK1.out; have := HJ9.out; have := HJ18.out; omega⟩, ⟨by (with_reducible repeat (first | apply Kd.R_alloc | apply Kd.R_drewN | apply Kd.R_drew)); exact Kd.R_mono HO_620000.out (fun _ hk => hk.1)⟩, ⟨by (with_reducible repeat (first | apply Kd.R_alloc | apply Kd.R_drewN | apply Kd.R_drew)); exact Kd.R_mono HO_620001.out (fun _ hk => hk.1)⟩, ⟨by (with_reducible repeat (first | apply Kd.R_alloc | apply Kd.R_drewN | apply Kd.R_drew)); exact Kd.R_mono HO_620002.out (fun _ hk => trivial)⟩, ⟨by (with_reducible repeat (first | refine blk_drewN ?_ _ | refine blk_drew ?_ | refine blk_alloc ?_ _)); exact BK619.out⟩, ⟨by repeat (first | (with_reducible first | exact HB.out | apply below_alloc | apply pw_below_drewN | apply below_drew1 | refine below_set ?_ GE619.out | refine below_set ?_ GE626.out) | exact HB.out)⟩⟩
                 ·
                  rw [if_neg c141] at H
                  have c141b0 : ((Int.tmod t622 5) == 4) = false := beq_eq_false_iff_ne.mpr c141
                  have c141b1 : ((Int.tmod t622 5) != 4) = true := bne_iff_ne.mpr c141
                  have H' := Aside0.mk H
                  clear H
                  go_wp2
                  go_roundg kj18
                  case measure => have := HK1.out; have := HJ9.out; have := HJ18.out; omega
                  case rel => exact ⟨(wrap64 (x6_1 + 1)), (x620000_1), (x620001_1), (x620002_1), (.slice Ao21 x620000_1.length co21), (.slice Ao22 x620001_1.length co22), (.slice Ao23 x620002_1.length co23), (by first | rfl | (simp; done) | (simp [*]; done)), H', ⟨by have := HK1.out; have := HJ9.out; have := HJ18.out; omega⟩, ⟨by (with_reducible repeat (first | apply Kd.R_alloc | apply Kd.R_drewN | apply Kd.R_drew)); exact Kd.R_mono HO_620000.out (fun _ hk => hk.1)⟩, ⟨by (with_reducible repeat (first | apply Kd.R_alloc | apply Kd.R_drewN | apply Kd.R_drew)); exact Kd.R_mono HO_620001.out (fun _ hk => hk.1)⟩, ⟨by (with_reducible repeat (first | apply Kd.R_alloc | apply Kd.R_drewN | apply Kd.R_drew)); exact Kd.R_mono HO_620002.out (fun _ hk => trivial)⟩, ⟨by (with_reducible repeat (first | refine blk_drewN ?_ _ | refine blk_drew ?_ | refine blk_alloc ?_ _)); exact BK619.out⟩, ⟨by repeat (first | (with_reducible first | exact HB.out | apply below_alloc | apply pw_below_drewN | apply below_drew1 | refine below_set ?_ GE619.out | refine below_set ?_ GE626.out) | exact HB.out)⟩⟩
               ·
                rw [if_neg c132] at H
                have c132b0 : (t624 == 0) = false := beq_eq_false_iff_ne.mpr c132
                have c132b1 : (t624 != 0) = true := bne_iff_ne.mpr c132
                exact absurd H (by rw [HT.out]; simp)
              ·
               rw [if_neg c131] at H
               have c131b0 : ((Int.tmod t622 5) == 2) = false := beq_eq_false_iff_ne.mpr c131
               have c131b1 : ((Int.tmod t622 5) != 2) = true := bne_iff_ne.mpr c131
               by_cases c145 : (Int.tmod t622 5) = 3
               ·
                rw [if_pos c145] at H
                have c145b0 : ((Int.tmod t622 5) == 3) = true := beq_iff_eq.mpr c145
                have c145b1 : ((Int.tmod t622 5) != 3) = false := bne_eq_false_iff_eq.mpr c145
                clear c145
                by_cases c146 : (x620000_1.length : Int) > 0
                ·
                 rw [if_pos c146] at H
                 have c146b0 : decide (0 < (x620000_1.length : Int)) = true := decide_eq_true c146
                 have c146b1 : decide (0 < x620000_1.length) = true := decide_eq_true (by omega)
                 clear c146
                 exact absurd H (by rw [HT.out]; simp)
                ·
                 rw [if_neg c146] at H
                 have c146b0 : decide (0 < (x620000_1.length : Int)) = false := decide_eq_false c146
                 have c146b1 : decide (0 < x620000_1.length) = false := decide_eq_false (by omega)
                 clear c146
                 by_cases c147 : (Int.tmod t622 5) = 4
                 ·
                  rw [if_pos c147] at H
                  have c147b0 : ((Int.tmod t622 5) == 4) = true := beq_iff_eq.mpr c147
                  have c147b1 : ((Int.tmod t622 5) != 4) = false := bne_eq_false_iff_eq.mpr c147
                  clear c147
                  by_cases c148 : (x620001_1.length : Int) > 0
                  ·
                   rw [if_pos c148] at H
                   have c148b0 : decide (0 < (x620001_1.length : Int)) = true := decide_eq_true c148
                   have c148b1 : decide (0 < x620001_1.length) = true := decide_eq_true (by omega)
                   clear c148
                   exact absurd H (by rw [HT.out]; simp)
                  ·
                   rw [if_neg c148] at H
                   have c148b0 : decide (0 < (x620001_1.length : Int)) = false := decide_eq_false c148
                   have c148b1 : decide (0 < x620001_1.length) = false := decide_eq_false (by omega)
                   clear c148
                   have H' := Aside0.mk H
                   clear H
                   have hnb149 := NB619_626.out
                   have hnc149 := NB626_619.out
                   have hcz150_0 : wc.cell? ⟨gb619, 0, none⟩ = some (.slice Ao21 x620000_1.length co21) := (blk_cell BK619.out 0).trans rfl
                   have hcz150_1 : wc.cell? ⟨gb619, 1, none⟩ = some (.slice Ao22 x620001_1.length co22) := (blk_cell BK619.out 1).trans rfl
                   have hcz150_2 : wc.cell? ⟨gb619, 2, none⟩ = some (.slice Ao23 x620002_1.length co23) := (blk_cell BK619.out 2).trans rfl
                   have hfz150_0 := blk_frozen BK619.out 0
                   have hfz150_1 := blk_frozen BK619.out 1
                   have hfz150_2 := blk_frozen BK619.out 2
                   go_wp2
                   go_roundg kj18
                   case measure => have := HK1.out; have := HJ9.out; have := HJ18.out; omega
                   case rel => exact ⟨(wrap64 (x6_1 + 1)), (x620000_1), (x620001_1), (x620002_1), (.slice Ao21 x620000_1.length co21), (.slice Ao22 x620001_1.length co22), (.slice Ao23 x620002_1.length co23), (by first | rfl | (simp; done) | (simp [*]; done)), H', ⟨by have := HK1.out; have := HJ9.out; have := HJ18.out; omega⟩, ⟨by (with_reducible repeat (first | apply Kd.R_alloc | apply Kd.R_drewN | apply Kd.R_drew)); exact Kd.R_mono HO_620000.out (fun _ hk => hk.1)⟩, ⟨by (with_reducible repeat (first | apply Kd.R_alloc | apply Kd.R_drewN | apply Kd.R_drew)); exact Kd.R_mono HO_620001.out (fun _ hk => hk.1)⟩, ⟨by (with_reducible repeat (first | apply Kd.R_alloc | apply Kd.R_drewN | apply Kd.R_drew)); exact Kd.R_mono HO_620002.out (fun _ hk => trivial)⟩, ⟨by (with_reducible repeat (first | refine blk_drewN ?_ _ | refine blk_drew ?_ | refine blk_alloc ?_ _)); exact BK619.out⟩, ⟨by repeat (first | (with_reducible first | exact HB.out | apply below_alloc | apply pw_below_drewN | apply below_drew1 | refine below_set ?_ GE619.out | refine below_set ?_ GE626.out) | exact HB.out)⟩⟩
                 ·
                  rw [if_neg c147] at H
                  have c147b0 : ((Int.tmod t622 5) == 4) = false := beq_eq_false_iff_ne.mpr c147
                  have c147b1 : ((Int.tmod t622 5) != 4) = true := bne_iff_ne.mpr c147
                  have H' := Aside0.mk H
                  clear H
                  have hnb151 := NB619_626.out
                  have hnc151 := NB626_619.out
                  have hcz152_0 : wc.cell? ⟨gb619, 0, none⟩ = some (.slice Ao21 x620000_1.length co21) := (blk_cell BK619.out 0).trans rfl
                  have hcz152_1 : wc.cell? ⟨gb619, 1, none⟩ = some (.slice Ao22 x620001_1.length co22) := (blk_cell BK619.out 1).trans rfl
                  have hcz152_2 : wc.cell? ⟨gb619, 2, none⟩ = some (.slice Ao23 x620002_1.length co23) := (blk_cell BK619.out 2).trans rfl
                  have hfz152_0 := blk_frozen BK619.out 0
                  have hfz152_1 := blk_frozen BK619.out 1
                  have hfz152_2 := blk_frozen BK619.out 2
                  go_wp2
                  go_roundg kj18
                  case measure => have := HK1.out; have := HJ9.out; have := HJ18.out; omega
                  case rel => exact ⟨(wrap64 (x6_1 + 1)), (x620000_1), (x620001_1), (x620002_1), (.slice Ao21 x620000_1.length co21), (.slice Ao22 x620001_1.length co22), (.slice Ao23 x620002_1.length co23), (by first | rfl | (simp; done) | (simp [*]; done)), H', ⟨by have := HK1.out; have := HJ9.out; have := HJ18.out; omega⟩, ⟨by (with_reducible repeat (first | apply Kd.R_alloc | apply Kd.R_drewN | apply Kd.R_drew)); exact Kd.R_mono HO_620000.out (fun _ hk => hk.1)⟩, ⟨by (with_reducible repeat (first | apply Kd.R_alloc | apply Kd.R_drewN | apply Kd.R_drew)); exact Kd.R_mono HO_620001.out (fun _ hk => hk.1)⟩, ⟨by (with_reducible repeat (first | apply Kd.R_alloc | apply Kd.R_drewN | apply Kd.R_drew)); exact Kd.R_mono HO_620002.out (fun _ hk => trivial)⟩, ⟨by (with_reducible repeat (first | refine blk_drewN ?_ _ | refine blk_drew ?_ | refine blk_alloc ?_ _)); exact BK619.out⟩, ⟨by repeat (first | (with_reducible first | exact HB.out | apply below_alloc | apply pw_below_drewN | apply below_drew1 | refine below_set ?_ GE619.out | refine below_set ?_ GE626.out) | exact HB.out)⟩⟩
               ·
                rw [if_neg c145] at H
                have c145b0 : ((Int.tmod t622 5) == 3) = false := beq_eq_false_iff_ne.mpr c145
                have c145b1 : ((Int.tmod t622 5) != 3) = true := bne_iff_ne.mpr c145
                by_cases c153 : (Int.tmod t622 5) = 4
                ·
                 rw [if_pos c153] at H
                 have c153b0 : ((Int.tmod t622 5) == 4) = true := beq_iff_eq.mpr c153
                 have c153b1 : ((Int.tmod t622 5) != 4) = false := bne_eq_false_iff_eq.mpr c153
                 clear c153
                 by_cases c154 : (x620001_1.length : Int) > 0
                 ·
                  rw [if_pos c154] at H
                  have c154b0 : decide (0 < (x620001_1.length : Int)) = true := decide_eq_true c154
                  have c154b1 : decide (0 < x620001_1.length) = true := decide_eq_true (by omega)
                  clear c154
                  exact absurd H (by rw [HT.out]; simp)
                 ·
                  rw [if_neg c154] at H
                  have c154b0 : decide (0 < (x620001_1.length : Int)) = false := decide_eq_false c154
                  have c154b1 : decide (0 < x620001_1.length) = false := decide_eq_false (by omega)
                  clear c154
                  have H' := Aside0.mk H
                  clear H
                  have hnb155 := NB619_626.out
                  have hnc155 := NB626_619.out
                  have hcz156_0 : wc.cell? ⟨gb619, 0, none⟩ = some (.slice Ao21 x620000_1.length co21) := (blk_cell BK619.out 0).trans rfl
                  have hcz156_1 : wc.cell? ⟨gb619, 1, none⟩ = some (.slice Ao22 x620001_1.length co22) := (blk_cell BK619.out 1).trans rfl
                  have hcz156_2 : wc.cell? ⟨gb619, 2, none⟩ = some (.slice Ao23 x620002_1.length co23) := (blk_cell BK619.out 2).trans rfl
                  have hfz156_0 := blk_frozen BK619.out 0
                  have hfz156_1 := blk_frozen BK619.out 1
                  have hfz156_2 := blk_frozen BK619.out 2
                  go_wp2
                  go_roundg kj18
                  case measure => have := HK1.out; have := HJ9.out; have := HJ18.out; omega
                  case rel => exact ⟨(wrap64 (x6_1 + 1)), (x620000_1), (x620001_1), (x620002_1), (.slice Ao21 x620000_1.length co21), (.slice Ao22 x620001_1.length co22), (.slice Ao23 x620002_1.length co23), (by first | rfl | (simp; done) | (simp [*]; done)), H', ⟨by have := HK1.out; have := HJ9.out; have := HJ18.out; omega⟩, ⟨by (with_reducible repeat (first | apply Kd.R_alloc | apply Kd.R_drewN | apply Kd.R_drew)); exact Kd.R_mono HO_620000.out (fun _ hk => hk.1)⟩, ⟨by (with_reducible repeat (first | apply Kd.R_alloc | apply Kd.R_drewN | apply Kd.R_drew)); exact Kd.R_mono HO_620001.out (fun _ hk => hk.1)⟩, ⟨by (with_reducible repeat (first | apply Kd.R_alloc | apply Kd.R_drewN | apply Kd.R_drew)); exact Kd.R_mono HO_620002.out (fun _ hk => trivial)⟩, ⟨by (with_reducible repeat (first | refine blk_drewN ?_ _ | refine blk_drew ?_ | refine blk_alloc ?_ _)); exact BK619.out⟩, ⟨by repeat (first | (with_reducible first | exact HB.out | apply below_alloc | apply pw_below_drewN | apply below_drew1 | refine below_set ?_ GE619.out | refine below_set ?_ GE626.out) | exact HB.out)⟩⟩
                ·
                 rw [if_neg c153] at H
                 have c153b0 : ((Int.tmod t622 5) == 4) = false := beq_eq_false_iff_ne.mpr c153
                 have c153b1 : ((Int.tmod t622 5) != 4) = true := bne_iff_ne.mpr c153
                 have H' := Aside0.mk H
                 clear H
                 go_wp2
                 go_roundg kj18
                 case measure => have := HK1.out; have := HJ9.out; have := HJ18.out; omega
                 case rel => exact ⟨(wrap64 (x6_1 + 1)), (x620000_1), (x620001_1), (x620002_1), (.slice Ao21 x620000_1.length co21), (.slice Ao22 x620001_1.length co22), (.slice Ao23 x620002_1.length co23), (by first | rfl | (simp; done) | (simp [*]; done)), H', ⟨by have := HK1.out; have := HJ9.out; have := HJ18.out; omega⟩, ⟨by (with_reducible repeat (first | apply Kd.R_alloc | apply Kd.R_drewN | apply Kd.R_drew)); exact Kd.R_mono HO_620000.out (fun _ hk => hk.1)⟩, ⟨by (with_reducible repeat (first | apply Kd.R_alloc | apply Kd.R_drewN | apply Kd.R_drew)); exact Kd.R_mono HO_620001.out (fun _ hk => hk.1)⟩, ⟨by (with_reducible repeat (first | apply Kd.R_alloc | apply Kd.R_drewN | apply Kd.R_drew)); exact Kd.R_mono HO_620002.out (fun _ hk => trivial)⟩, ⟨by (with_reducible repeat (first | refine blk_drewN ?_ _ | refine blk_drew ?_ | refine blk_alloc ?_ _)); exact BK619.out⟩, ⟨by repeat (first | (with_reducible first | exact HB.out | apply below_alloc | apply pw_below_drewN | apply below_drew1 | refine below_set ?_ GE619.out | refine below_set ?_ GE626.out) | exact HB.out)⟩⟩
        ·
         rw [if_neg c18] at H
         have c18b0 : (t625 == 0) = false := beq_eq_false_iff_ne.mpr c18
         have c18b1 : (t625 != 0) = true := bne_iff_ne.mpr c18
         exact absurd H (by rw [HT.out]; simp)
       ·
        rw [if_neg c14] at H
        exact absurd H (by simp)
      ·
       rw [if_neg c13] at H
       exact absurd H (by simp)
     ·
      replace c12 := Bool.eq_false_iff.mpr c12
      subst c12
      have H1 : ((headgatelaw07_awake.f).bind fun t620 => (some t620)) = some r := by rw [if_neg (show ¬ (false = true) by decide)] at H; exact H
      clear H
      have H := H1
      clear H1
      replace H := Option.bind_eq_some_iff.mp H
      obtain ⟨t620, A1570, H⟩ := H
      replace H : (some t620) = some r := H
      have A157 := Aside0.mk A1570
      clear A1570
      obtain rfl := Option.some.inj H
      go_wp2_with (first | ((with_reducible refine gate_callee (f := 11) rfl ?_); refine goesL_ (some 149) rfl rfl Try.func11 (by kernel_rfl) rfl #[] rfl (by (try simp only [List.map_toArray, List.map_cons, List.map_nil]); first | done | rfl | (simp only [List.length_drop, List.length_take]; rfl)) ?_; (with_reducible refine (headgatelaw07_awake.calls  t620 _ A157.out).mono ?_); rintro e w158 ⟨rfl, hb⟩; refine ⟨_, rfl, ?_⟩; have n0_ := Aside0.mk (Kd.R_below (by (with_reducible repeat (first | apply Kd.R_alloc | apply Kd.R_drewN | apply Kd.R_drew)); exact HO_620000.out) hb); have n1_ := Aside0.mk (Kd.R_below (by (with_reducible repeat (first | apply Kd.R_alloc | apply Kd.R_drewN | apply Kd.R_drew)); exact HO_620001.out) hb); have n2_ := Aside0.mk (Kd.R_below (by (with_reducible repeat (first | apply Kd.R_alloc | apply Kd.R_drewN | apply Kd.R_drew)); exact HO_620002.out) hb); have n3_ := Aside0.mk (blk_below (g := gb619) (o := .cells #[u620000, u620001, u620002] 25 (0, 0)) (by (with_reducible repeat (first | refine blk_drewN ?_ _ | refine blk_drew ?_ | refine blk_alloc ?_ _)); exact BK619.out) hb); have n4_ := Aside0.mk (below_step (by repeat (first | (with_reducible first | exact HB.out | apply below_alloc | apply pw_below_drewN | apply below_drew1 | refine below_set ?_ GE619.out) | exact HB.out)) hb); clear HO_620000; clear HO_620001; clear HO_620002; clear BK619; clear HB; have HO_620000 := n0_; have HO_620001 := n1_; have HO_620002 := n2_; have BK619 := n3_; have HB := n4_; clear n0_ n1_ n2_ n3_ n4_; (try clear hb); (try clear hb2); (try clear hk); (try clear hi)))
      go_ret
      exact ⟨by first | rfl | (simp [errW_none, errW_some] <;> rfl) | (simp [*, errW_none, errW_some] <;> rfl), by repeat (first | (with_reducible first | exact HB.out | apply below_alloc | apply pw_below_drewN | apply below_drew1 | refine below_set ?_ GE619.out) | exact HB.out)⟩

/-- THE ONE PURE STATEMENT of headgatelaw07_LruSteps: yours. -/
def headgatelaw07_LruSteps.Pure : Prop := ∀ (l0 : List Int) (l1 : List Int), l0.length ≤ maxLen → l0.length * 8 ≤ 140737488351232 → (∀ x ∈ l0, (Lit.int .i64 x).wf = true) → l1.length ≤ maxLen → l1.length * 8 ≤ 140737488351232 → (∀ x ∈ l1, (Lit.int .i64 x).wf = true) → ∃ k, headgatelaw07_LruSteps.f k l0 l1 = some true
theorem headgatelaw07_LruSteps.walk (P : headgatelaw07_LruSteps.Pure) (a0 : Option Addr) (len0 cap0 : Nat) (z0 : List Int) (a1 : Option Addr) (len1 cap1 : Nat) (z1 : List Int) (w : World) (w0 : (a0 = none ∧ len0 = 0 ∧ cap0 = 0 ∧ z0 = []) ∨ ∃ x, a0 = some x ∧ len0 ≤ cap0 ∧ cap0 ≤ maxLen ∧ z0.length = cap0 ∧ (∀ i, i < z0.length → w.cell? (x.add i) = some (.int .i64 (z0.getD i 0))) ∧ ∀ n ∈ z0, (Lit.int .i64 n).wf = true) (y0 : len0 * 8 ≤ 140737488351232) (w1 : (a1 = none ∧ len1 = 0 ∧ cap1 = 0 ∧ z1 = []) ∨ ∃ x, a1 = some x ∧ len1 ≤ cap1 ∧ cap1 ≤ maxLen ∧ z1.length = cap1 ∧ (∀ i, i < z1.length → w.cell? (x.add i) = some (.int .i64 (z1.getD i 0))) ∧ ∀ n ∈ z1, (Lit.int .i64 n).wf = true) (y1 : len1 * 8 ≤ 140737488351232) :
  Calls Try.prog 7 #[.slice a0 len0 cap0, .slice a1 len1 cap1] w fun e w' => e = .returned (.bool true) ∧ Below w.heap.size w w' := by
 obtain ⟨l0, rfl, hr0, hm0, hw0, hc0⟩ := ReadsInt.ofRowC w0
 obtain ⟨l1, rfl, hr1, hm1, hw1, hc1⟩ := ReadsInt.ofRowC w1
 obtain ⟨k, h⟩ := P l0 l1 hm0 y0 hw0 hm1 y1 hw1
 refine (headgatelaw07_LruSteps.calls k _ _ l0 _ _ l1 true w (Kd.C_of_reads (d := (0 : Int)) (h1 := fun _ => rfl) hr0) hc0 (Kd.C_of_reads (d := (0 : Int)) (h1 := fun _ => rfl) hr1) hc1 ⟨rfl⟩ h).mono ?_
 rintro e w' ⟨rfl, hd⟩
 exact ⟨rfl, hd⟩

end Go.Proofs.Ytaofihdmgdpenaa.X
