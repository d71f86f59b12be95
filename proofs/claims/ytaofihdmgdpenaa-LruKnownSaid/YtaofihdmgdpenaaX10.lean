/- What Go functions of this seat compute, told as Lean functions, and that each call of the Go code comes to that answer; for a law: its row, for every input. Written by a program of the session. -/
import Derived.Test.YtaofihdmgdpenaaX0
import Derived.Test.YtaofihdmgdpenaaX2
import Derived.Shelf.Spec.SlicesInsertGrow
namespace Go.Proofs.Ytaofihdmgdpenaa.X
open Go.RowKit Go.Proofs.YtaofihdmgdpenaaW.PrintWords Go.Proofs.YtaofihdmgdpenaaW.PrintLast Go.Proofs.YtaofihdmgdpenaaW.PrintMore
attribute [local go_sem] max2_int min2_int max_two min_two max_three min_three max_four min_four   -- for this text's walks alone
set_option linter.unusedVariables false
set_option linter.unusedSimpArgs false

/-! ### lru_about: function 44 -/
def lru_about.j0 : Nat → Int → Bool → List Int → List Int → List Bool → Option (List Int × List Int × List Bool × Int × Int)
 | 0, _, _, _, _, _ => none
 | k + 1, x1, x19, x133000, x133001, x133002 => if x19 = true then (some (([] : List Int), ([] : List Int), ([] : List Bool), 0, 2)) else ((slices_Contains_int_int.f k x133000 x1).bind fun t133 => (if t133 = true then (some (x133000, x133001, x133002, 1, 0)) else ((slices_Contains_int_int.f k x133001 x1).bind fun t134 => (if t134 = true then (some (x133000, x133001, x133002, 2, 0)) else (some (x133000, x133001, x133002, 0, 0))))))
def lru_about.f (k : Nat) (l0_0 : List Int) (l0_1 : List Int) (l0_2 : List Bool) (a1 : Int) : Option (List Int × List Int × List Bool × Int × Int) := (lru_opened.f l0_0 l0_1 l0_2).bind fun bt122 => (if bt122.2.2.2 = 0 then (if a1 < 0 then (lru_about.j0 k a1 true bt122.1 bt122.2.1 bt122.2.2.1) else (lru_about.j0 k a1 (decide (a1 ≥ (bt122.2.2.1.length : Int))) bt122.1 bt122.2.1 bt122.2.2.1)) else (some (bt122.1, bt122.2.1, bt122.2.2.1, 0, bt122.2.2.2)))
theorem lru_about.mono_l : ∀ k, (∀ y0 y1 y2 y3 y4, LeO (lru_about.j0 k y0 y1 y2 y3 y4) (lru_about.j0 (k + 1) y0 y1 y2 y3 y4))
 | 0 => fun _ _ _ _ _ r h => by simp [lru_about.j0] at h
 | k + 1 => by
  have ih0 := lru_about.mono_l k
  ·
   intro y0 y1 y2 y3 y4
   unfold lru_about.j0
   repeat' first
   | (with_reducible exact ih0 _ _ _ _ _)
   | (with_reducible exact slices_Contains_int_int.mono _ _ _)
   | (with_reducible exact LeO.refl _)
   | (with_reducible exact LeO.none _)
   | (with_reducible refine LeO.ite ?_ ?_)
   | (with_reducible refine LeO.bind ?_ (fun _ => ?_))
   | exact ih0 _ _ _ _ _
   | exact slices_Contains_int_int.mono _ _ _
   | exact LeO.none _
   | refine LeO.ite ?_ ?_
   | refine LeO.bind ?_ (fun _ => ?_)
theorem lru_about.mono : ∀ a0 a1 a2 a3 k, LeO (lru_about.f k a0 a1 a2 a3) (lru_about.f (k + 1) a0 a1 a2 a3) := by
 intro a0 a1 a2 a3 k
 have ih0 := lru_about.mono_l k
 unfold lru_about.f
 repeat' first
   | (with_reducible exact ih0 _ _ _ _ _)
   | (with_reducible exact slices_Contains_int_int.mono _ _ _)
   | (with_reducible exact LeO.refl _)
   | (with_reducible exact LeO.none _)
   | (with_reducible refine LeO.ite ?_ ?_)
   | (with_reducible refine LeO.bind ?_ (fun _ => ?_))
   | exact ih0 _ _ _ _ _
   | exact slices_Contains_int_int.mono _ _ _
   | exact LeO.none _
   | refine LeO.ite ?_ ?_
   | refine LeO.bind ?_ (fun _ => ?_)
set_option maxHeartbeats 2000000 in
set_option maxRecDepth 100000 in
theorem lru_about.calls (k : Nat) (A0_0 : Option Addr) (c0_0 : Nat) (l0_0 : List Int) (A0_1 : Option Addr) (c0_1 : Nat) (l0_1 : List Int) (A0_2 : Option Addr) (c0_2 : Nat) (l0_2 : List Bool) (a1 : Int) (r1 : List Int) (r2 : List Int) (r3 : List Bool) (r4 : Int) (r5 : Int) (w : World) (hr0_0 : Kd.C (Kd.int .i64) w A0_0 l0_0.length l0_0) (hc0_0 : l0_0.length ≤ c0_0) (hr0_1 : Kd.C (Kd.int .i64) w A0_1 l0_1.length l0_1) (hc0_1 : l0_1.length ≤ c0_1) (hr0_2 : Kd.C Kd.bool w A0_2 l0_2.length l0_2) (hc0_2 : l0_2.length ≤ c0_2) (h : lru_about.f k l0_0 l0_1 l0_2 a1 = some (r1, r2, r3, r4, r5)) :
  Calls Try.prog 44 #[.agg #[.slice A0_0 l0_0.length c0_0, .slice A0_1 l0_1.length c0_1, .slice A0_2 l0_2.length c0_2], .int .i64 a1] w fun e w' => ∃ v0_ v1_ v2_ : Value, e = .returned (.tuple #[.agg #[v0_, v1_, v2_], .int .i64 r4, .int .i64 r5]) ∧ Kd.R (Kd.int .i64) 3 w' w.heap.size (fun k_ => some k_ ≠ (v1_ : Value).ownBlock) v0_ r1 ∧ Kd.R (Kd.int .i64) 3 w' w.heap.size (fun k_ => some k_ ≠ (v0_ : Value).ownBlock) v1_ r2 ∧ Kd.R Kd.bool 4 w' w.heap.size (fun _ => True) v2_ r3 ∧ Below w.heap.size w w' := by
 have hu25 := Try.underlying25
 have HR0_0 := Aside0.mk hr0_0
 have HC0_0 := Aside0.mk hc0_0
 clear hr0_0 hc0_0
 have HR0_1 := Aside0.mk hr0_1
 have HC0_1 := Aside0.mk hc0_1
 clear hr0_1 hc0_1
 have HR0_2 := Aside0.mk hr0_2
 have HC0_2 := Aside0.mk hc0_2
 clear hr0_2 hc0_2
 have HB := Aside0.mk (Below.refl w.heap.size w)
 have H : ((lru_opened.f l0_0 l0_1 l0_2).bind fun bt122 => (if bt122.2.2.2 = 0 then (if a1 < 0 then (lru_about.j0 k a1 true bt122.1 bt122.2.1 bt122.2.2.1) else (lru_about.j0 k a1 (decide (a1 ≥ (bt122.2.2.1.length : Int))) bt122.1 bt122.2.1 bt122.2.2.1)) else (some (bt122.1, bt122.2.1, bt122.2.2.1, 0, bt122.2.2.2)))) = some (r1, r2, r3, r4, r5) := h
 clear h
 replace H := Option.bind_eq_some_iff.mp H
 obtain ⟨⟨t122, t125, t128, t131⟩, A30, H⟩ := H
 replace H : (if t131 = 0 then (if a1 < 0 then (lru_about.j0 k a1 true t122 t125 t128) else (lru_about.j0 k a1 (decide (a1 ≥ (t128.length : Int))) t122 t125 t128)) else (some (t122, t125, t128, 0, t131))) = some (r1, r2, r3, r4, r5) := H
 have A3 := Aside0.mk A30
 clear A30
 by_cases c4 : t131 = 0
 ·
  rw [if_pos c4] at H
  have c4b0 : (t131 == 0) = true := beq_iff_eq.mpr c4
  have c4b1 : (t131 != 0) = false := bne_eq_false_iff_eq.mpr c4
  clear c4
  have HC5 := Aside0.mk H
  clear H
  go_enter Try.func44, Try.ntmps44
  go_upto_region 4 with (first | ((with_reducible refine gate_dst (N := 2) rfl ?_); (try (refine gate_guard (by rfl) ?_; dsimp only)); refine box_event ?hg (N := 2) ?hd (cs := #[.slice A0_0 l0_0.length c0_0, .slice A0_1 l0_1.length c0_1, .slice A0_2 l0_2.length c0_2]) (t := 25) ?hr ?_; (case hd => rfl); (case hg => rfl); (case hr => first | (go_simp; done) | (go_simp; rfl)); intro gb120 hg w6 hbox hb; have n0_ := Aside0.mk (below_step (upH HB) hb); have n1_ := Aside0.mk (hbox); have n2_ := Aside0.mk ((by rw [hg]; exact (below_size (upH HB)) : w.heap.size ≤ gb120)); have n3_ := Aside0.mk ((by rw [hg]; exact (below_size (upH HB)) : w.heap.size ≤ gb120)); clear HB; have HB := n0_; have BK120 := n1_; have GW120 := n2_; have GE120 := n3_; clear n0_ n1_ n2_ n3_; clear hb hbox hg) | ((with_reducible refine gate_dst (N := 4) rfl ?_); (try (refine gate_guard (by rfl) ?_; dsimp only)); refine box_event ?hg (N := 4) ?hd (cs := #[.slice none 0 0, .slice none 0 0, .slice none 0 0]) (t := 25) ?hr ?_; (case hd => rfl); (case hg => rfl); (case hr => first | (go_simp; done) | (go_simp; rfl)); intro gb121 hg w7 hbox hb; have n0_ := Aside0.mk (blkB BK120 hb); have n1_ := Aside0.mk (below_step (upH HB) hb); have n2_ := Aside0.mk (hbox); have n3_ := Aside0.mk ((by rw [hg]; exact (below_size (upH HB)) : w.heap.size ≤ gb121)); have n4_ := Aside0.mk ((by rw [hg]; exact (below_size (upH HB)) : w.heap.size ≤ gb121)); have n5_ := Aside0.mk ((by rw [hg]; exact Nat.ne_of_lt (blk_lt (g := gb120) (o := .cells #[.slice A0_0 l0_0.length c0_0, .slice A0_1 l0_1.length c0_1, .slice A0_2 l0_2.length c0_2] 25 (0, 0)) (upB BK120)) : gb120 ≠ gb121)); have n6_ := Aside0.mk ((by rw [hg]; exact Nat.ne_of_gt (blk_lt (g := gb120) (o := .cells #[.slice A0_0 l0_0.length c0_0, .slice A0_1 l0_1.length c0_1, .slice A0_2 l0_2.length c0_2] 25 (0, 0)) (upB BK120)) : gb121 ≠ gb120)); clear BK120; clear HB; have BK120 := n0_; have HB := n1_; have BK121 := n2_; have GW121 := n3_; have GE121 := n4_; have NB120_121 := n5_; have NB121_120 := n6_; clear n0_ n1_ n2_ n3_ n4_ n5_ n6_; clear hb hbox hg; have hnb8 := NB120_121.out; have hnc8 := NB121_120.out; have hcz9_0 := cell0 BK120; have hcz9_1 := cell1 BK120; have hcz9_2 := cell2 BK120; have hfz9_0 := blk_frozen BK120.out 0; have hfz9_1 := blk_frozen BK120.out 1; have hfz9_2 := blk_frozen BK120.out 2) | ((with_reducible refine gate_callee (f := 53) rfl ?_); refine goesL_ (some 11) rfl rfl Try.func53 (by kernel_rfl) rfl #[.agg #[.slice A0_0 l0_0.length c0_0, .slice A0_1 l0_1.length c0_1, .slice A0_2 l0_2.length c0_2]] rfl (args_ (p := _)) ?_; (with_reducible refine (lru_opened.calls _ _ l0_0 _ _ l0_1 _ _ l0_2 t122 t125 t128 t131 _ ?side1 ?side2 ?side3 ?side4 ?side5 ?side6 A3.out).mono ?_); (case side1 => exact upc (Kd.C_below HR0_0.out HB.out)); (case side2 => exact HC0_0.out); (case side3 => exact upc (Kd.C_below HR0_1.out HB.out)); (case side4 => exact HC0_1.out); (case side5 => exact upc (Kd.C_below HR0_2.out HB.out)); (case side6 => exact HC0_2.out); rintro e w10 ⟨v123, v126, v129, rfl, ho0, ho1, ho2, hb⟩; refine ⟨_, rfl, ?_⟩; have n0_ := Aside0.mk (Kd.R_lower ho0 (below_size (upH HB))); have n1_ := Aside0.mk (Kd.R_lower ho1 (below_size (upH HB))); have n2_ := Aside0.mk (Kd.R_lower ho2 (below_size (upH HB))); have n3_ := Aside0.mk (blkB BK120 hb); have n4_ := Aside0.mk (blkB BK121 hb); have n5_ := Aside0.mk (below_step (upH HB) hb); clear BK120; clear BK121; clear HB; have HO124 := n0_; have HO127 := n1_; have HO130 := n2_; have BK120 := n3_; have BK121 := n4_; have HB := n5_; clear n0_ n1_ n2_ n3_ n4_ n5_; (try clear hb); (try clear hb2); (try clear hk); (try clear hi); (try clear ho0); (try clear ho1); (try clear ho2)) | ((with_reducible refine gate_dst (N := 7) rfl ?_); (try (refine gate_guard (by rfl) ?_; dsimp only)); refine box_event ?hg (N := 7) ?hd (cs := #[.slice none 0 0, .slice none 0 0, .slice none 0 0]) (t := 25) ?hr ?_; (case hd => rfl); (case hg => rfl); (case hr => first | (go_simp; done) | (go_simp; rfl)); intro gb132 hg w11 hbox hb; have n0_ := Aside0.mk (Kd.R_below (upR HO124.out) hb); have n1_ := Aside0.mk (Kd.R_below (upR HO127.out) hb); have n2_ := Aside0.mk (Kd.R_below (upR HO130.out) hb); have n3_ := Aside0.mk (blkB BK120 hb); have n4_ := Aside0.mk (blkB BK121 hb); have n5_ := Aside0.mk (below_step (upH HB) hb); have n6_ := Aside0.mk (hbox); have n7_ := Aside0.mk ((by rw [hg]; exact (below_size (upH HB)) : w.heap.size ≤ gb132)); have n8_ := Aside0.mk ((by rw [hg]; exact (below_size (upH HB)) : w.heap.size ≤ gb132)); have n9_ := Aside0.mk ((by rw [hg]; exact Nat.ne_of_lt (blk_lt (g := gb120) (o := .cells #[.slice A0_0 l0_0.length c0_0, .slice A0_1 l0_1.length c0_1, .slice A0_2 l0_2.length c0_2] 25 (0, 0)) (upB BK120)) : gb120 ≠ gb132)); have n10_ := Aside0.mk ((by rw [hg]; exact Nat.ne_of_gt (blk_lt (g := gb120) (o := .cells #[.slice A0_0 l0_0.length c0_0, .slice A0_1 l0_1.length c0_1, .slice A0_2 l0_2.length c0_2] 25 (0, 0)) (upB BK120)) : gb132 ≠ gb120)); have n11_ := Aside0.mk ((by rw [hg]; exact Nat.ne_of_lt (blk_lt (g := gb121) (o := .cells #[.slice none 0 0, .slice none 0 0, .slice none 0 0] 25 (0, 0)) (upB BK121)) : gb121 ≠ gb132)); have n12_ := Aside0.mk ((by rw [hg]; exact Nat.ne_of_gt (blk_lt (g := gb121) (o := .cells #[.slice none 0 0, .slice none 0 0, .slice none 0 0] 25 (0, 0)) (upB BK121)) : gb132 ≠ gb121)); clear HO124; clear HO127; clear HO130; clear BK120; clear BK121; clear HB; have HO124 := n0_; have HO127 := n1_; have HO130 := n2_; have BK120 := n3_; have BK121 := n4_; have HB := n5_; have BK132 := n6_; have GW132 := n7_; have GE132 := n8_; have NB120_132 := n9_; have NB132_120 := n10_; have NB121_132 := n11_; have NB132_121 := n12_; clear n0_ n1_ n2_ n3_ n4_ n5_ n6_ n7_ n8_ n9_ n10_ n11_ n12_; clear hb hbox hg; obtain ⟨Ao12, co12, eo12⟩ := Kd.R_slice HO124.out; subst eo12; have hnb13 := NB132_120.out; have hnc13 := NB120_132.out; have hnb14 := NB132_121.out; have hnc14 := NB121_132.out; have hcz15_0 := cell0 BK132; have hcz15_1 := cell1 BK132; have hcz15_2 := cell2 BK132; have hfz15_0 := blk_frozen BK132.out 0; have hfz15_1 := blk_frozen BK132.out 1; have hfz15_2 := blk_frozen BK132.out 2; obtain ⟨Ao16, co16, eo16⟩ := Kd.R_slice HO127.out; subst eo16; obtain ⟨Ao17, co17, eo17⟩ := Kd.R_slice HO130.out; subst eo17))
  (try simp only [Act.put, List.setIfInBounds_toArray, List.set_cons_zero, List.set_cons_succ])
  go_cut [19] (fun v19 wc => ∃ (kq : Nat) (x19_4 : Bool), v19 = .bool x19_4 ∧ Aside0 (lru_about.j0 kq a1 x19_4 t122 t125 t128 = some (r1, r2, r3, r4, r5)) ∧ Aside0 (kq ≤ k) ∧ Aside0 (Kd.R (Kd.int .i64) 3 wc w.heap.size (fun k_ => some k_ ≠ ((.slice Ao16 t125.length co16) : Value).ownBlock) (.slice Ao12 t122.length co12) t122) ∧ Aside0 (Kd.R (Kd.int .i64) 3 wc w.heap.size (fun k_ => some k_ ≠ ((.slice Ao12 t122.length co12) : Value).ownBlock) (.slice Ao16 t125.length co16) t125) ∧ Aside0 (Kd.R Kd.bool 4 wc w.heap.size (fun _ => True) (.slice Ao17 t128.length co17) t128) ∧ Aside0 (wc.heap[gb120]? = some (.cells #[(.slice A0_0 l0_0.length c0_0), (.slice A0_1 l0_1.length c0_1), (.slice A0_2 l0_2.length c0_2)] 25 (0, 0))) ∧ Aside0 (wc.heap[gb121]? = some (.cells #[(.slice none 0 0), (.slice none 0 0), (.slice none 0 0)] 25 (0, 0))) ∧ Aside0 (wc.heap[gb132]? = some (.cells #[(.slice Ao12 t122.length co12), (.slice Ao16 t125.length co16), (.slice Ao17 t128.length co17)] 25 (0, 0))) ∧ Aside0 (Below w.heap.size w wc))
  case first =>
   have H := HC5.out
   clear HC5
   by_cases c18 : a1 < 0
   ·
    rw [if_pos c18] at H
    have c18b0 : decide (a1 < 0) = true := decide_eq_true c18
    clear c18
    (first | rw [c18b0] | (simp only [i64_w, i32_w]; rw [c18b0]) | skip)
    have H' := Aside0.mk H
    clear H
    go_wp2
    go_meet
    case rel => exact ⟨_, (true), (by first | rfl | (simp; done) | (simp [*]; done)), H', ⟨by first | omega | exact Nat.le_refl _⟩, ⟨by (with_reducible repeat (first | apply Kd.R_alloc | apply Kd.R_drewN | apply Kd.R_drew)); exact Kd.R_mono (far3 HO124.out BK132) (fun _ hk => hk.1)⟩, ⟨by (with_reducible repeat (first | apply Kd.R_alloc | apply Kd.R_drewN | apply Kd.R_drew)); exact Kd.R_mono (far3 HO127.out BK132) (fun _ hk => hk.1)⟩, ⟨by (with_reducible repeat (first | apply Kd.R_alloc | apply Kd.R_drewN | apply Kd.R_drew)); exact Kd.R_mono (far3 HO130.out BK132) (fun _ hk => trivial)⟩, ⟨by (with_reducible repeat (first | refine blk_drewN ?_ _ | refine blk_drew ?_ | refine blk_alloc ?_ _)); refine blk_far ?_ NB120_132.out _; (with_reducible repeat (first | refine blk_drewN ?_ _ | refine blk_drew ?_ | refine blk_alloc ?_ _)); refine blk_far ?_ NB120_132.out _; (with_reducible repeat (first | refine blk_drewN ?_ _ | refine blk_drew ?_ | refine blk_alloc ?_ _)); refine blk_far ?_ NB120_132.out _; (with_reducible repeat (first | refine blk_drewN ?_ _ | refine blk_drew ?_ | refine blk_alloc ?_ _)); exact BK120.out⟩, ⟨by (with_reducible repeat (first | refine blk_drewN ?_ _ | refine blk_drew ?_ | refine blk_alloc ?_ _)); refine blk_far ?_ NB121_132.out _; (with_reducible repeat (first | refine blk_drewN ?_ _ | refine blk_drew ?_ | refine blk_alloc ?_ _)); refine blk_far ?_ NB121_132.out _; (with_reducible repeat (first | refine blk_drewN ?_ _ | refine blk_drew ?_ | refine blk_alloc ?_ _)); refine blk_far ?_ NB121_132.out _; (with_reducible repeat (first | refine blk_drewN ?_ _ | refine blk_drew ?_ | refine blk_alloc ?_ _)); exact BK121.out⟩, ⟨by (with_reducible repeat (first | refine blk_drewN ?_ _ | refine blk_drew ?_ | refine blk_alloc ?_ _)); refine blk_put (cs := #[.slice Ao12 t122.length co12, .slice Ao16 t125.length co16, .slice none 0 0]) ?_ 2 _ rfl; (with_reducible repeat (first | refine blk_drewN ?_ _ | refine blk_drew ?_ | refine blk_alloc ?_ _)); refine blk_put (cs := #[.slice Ao12 t122.length co12, .slice none 0 0, .slice none 0 0]) ?_ 1 _ rfl; (with_reducible repeat (first | refine blk_drewN ?_ _ | refine blk_drew ?_ | refine blk_alloc ?_ _)); refine blk_put (cs := #[.slice none 0 0, .slice none 0 0, .slice none 0 0]) ?_ 0 _ rfl; (with_reducible repeat (first | refine blk_drewN ?_ _ | refine blk_drew ?_ | refine blk_alloc ?_ _)); exact BK132.out⟩, ⟨upH HB⟩⟩
   ·
    rw [if_neg c18] at H
    have c18b0 : decide (a1 < 0) = false := decide_eq_false c18
    clear c18
    (first | rw [c18b0] | (simp only [i64_w, i32_w]; rw [c18b0]) | skip)
    have H' := Aside0.mk H
    clear H
    have hnb19 := NB132_120.out
    have hnc19 := NB120_132.out
    have hnb20 := NB132_121.out
    have hnc20 := NB121_132.out
    have hcz21_0 := cell0 BK132
    have hcz21_1 := cell1 BK132
    have hcz21_2 := cell2 BK132
    have hfz21_0 := blk_frozen BK132.out 0
    have hfz21_1 := blk_frozen BK132.out 1
    have hfz21_2 := blk_frozen BK132.out 2
    go_wp2
    go_meet
    case rel => exact ⟨_, (decide (a1 ≥ (t128.length : Int))), (by first | rfl | (simp; done) | (simp [*]; done)), H', ⟨by first | omega | exact Nat.le_refl _⟩, ⟨by (with_reducible repeat (first | apply Kd.R_alloc | apply Kd.R_drewN | apply Kd.R_drew)); exact Kd.R_mono (far3 HO124.out BK132) (fun _ hk => hk.1)⟩, ⟨by (with_reducible repeat (first | apply Kd.R_alloc | apply Kd.R_drewN | apply Kd.R_drew)); exact Kd.R_mono (far3 HO127.out BK132) (fun _ hk => hk.1)⟩, ⟨by (with_reducible repeat (first | apply Kd.R_alloc | apply Kd.R_drewN | apply Kd.R_drew)); exact Kd.R_mono (far3 HO130.out BK132) (fun _ hk => trivial)⟩, ⟨by (with_reducible repeat (first | refine blk_drewN ?_ _ | refine blk_drew ?_ | refine blk_alloc ?_ _)); refine blk_far ?_ NB120_132.out _; (with_reducible repeat (first | refine blk_drewN ?_ _ | refine blk_drew ?_ | refine blk_alloc ?_ _)); refine blk_far ?_ NB120_132.out _; (with_reducible repeat (first | refine blk_drewN ?_ _ | refine blk_drew ?_ | refine blk_alloc ?_ _)); refine blk_far ?_ NB120_132.out _; (with_reducible repeat (first | refine blk_drewN ?_ _ | refine blk_drew ?_ | refine blk_alloc ?_ _)); exact BK120.out⟩, ⟨by (with_reducible repeat (first | refine blk_drewN ?_ _ | refine blk_drew ?_ | refine blk_alloc ?_ _)); refine blk_far ?_ NB121_132.out _; (with_reducible repeat (first | refine blk_drewN ?_ _ | refine blk_drew ?_ | refine blk_alloc ?_ _)); refine blk_far ?_ NB121_132.out _; (with_reducible repeat (first | refine blk_drewN ?_ _ | refine blk_drew ?_ | refine blk_alloc ?_ _)); refine blk_far ?_ NB121_132.out _; (with_reducible repeat (first | refine blk_drewN ?_ _ | refine blk_drew ?_ | refine blk_alloc ?_ _)); exact BK121.out⟩, ⟨by (with_reducible repeat (first | refine blk_drewN ?_ _ | refine blk_drew ?_ | refine blk_alloc ?_ _)); refine blk_put (cs := #[.slice Ao12 t122.length co12, .slice Ao16 t125.length co16, .slice none 0 0]) ?_ 2 _ rfl; (with_reducible repeat (first | refine blk_drewN ?_ _ | refine blk_drew ?_ | refine blk_alloc ?_ _)); refine blk_put (cs := #[.slice Ao12 t122.length co12, .slice none 0 0, .slice none 0 0]) ?_ 1 _ rfl; (with_reducible repeat (first | refine blk_drewN ?_ _ | refine blk_drew ?_ | refine blk_alloc ?_ _)); refine blk_put (cs := #[.slice none 0 0, .slice none 0 0, .slice none 0 0]) ?_ 0 _ rfl; (with_reducible repeat (first | refine blk_drewN ?_ _ | refine blk_drew ?_ | refine blk_alloc ?_ _)); exact BK132.out⟩, ⟨upH HB⟩⟩
  case rest =>
   clear HC5
   try clear c1
   try clear c2
   try clear p2
   try clear c4
   try clear c4b0
   try clear c4b1
   try clear c5
   try clear c8
   try clear c13
   try clear c14
   try clear c18
   try clear c18b0
   try clear c19
   try clear c20
   try clear hcz15_0
   try clear hcz15_1
   try clear hcz15_2
   try clear hcz21_0
   try clear hcz21_1
   try clear hcz21_2
   try clear hcz9_0
   try clear hcz9_1
   try clear hcz9_2
   try clear hfz15_0
   try clear hfz15_1
   try clear hfz15_2
   try clear hfz21_0
   try clear hfz21_1
   try clear hfz21_2
   try clear hfz9_0
   try clear hfz9_1
   try clear hfz9_2
   obtain ⟨kq, x19_4, rfl, HA, HJ4, HO_133000, HO_133001, HO_133002, BK120, BK121, BK132, HB⟩ := hcut
   cases kq with
   | zero => exact absurd HA.out (by simp [lru_about.j0])
   | succ kj4 =>
    have H := HA.out
    clear HA
    simp only [lru_about.j0] at H
    by_cases c22 : x19_4 = true
    ·
     subst c22
     have H1 : (some (([] : List Int), ([] : List Int), ([] : List Bool), 0, 2)) = some (r1, r2, r3, r4, r5) := by rw [if_pos rfl] at H; exact H
     clear H
     have H := H1
     clear H1
     simp only [Option.some.injEq, Prod.mk.injEq] at H
     obtain ⟨rfl, rfl, rfl, rfl, rfl⟩ := H
     have hnb23 := NB121_120.out
     have hnc23 := NB120_121.out
     have hnb24 := NB121_132.out
     have hnc24 := NB132_121.out
     have hcz25_0 := cell0 BK121
     have hcz25_1 := cell1 BK121
     have hcz25_2 := cell2 BK121
     have hfz25_0 := blk_frozen BK121.out 0
     have hfz25_1 := blk_frozen BK121.out 1
     have hfz25_2 := blk_frozen BK121.out 2
     go_wp2
     refine bodyPost_ret (results_ctt rfl _ _ gb121 25 #[.slice none 0 0, .slice none 0 0, .slice none 0 0] (0, 0) _ rfl (by (with_reducible repeat (first | refine blk_drewN ?_ _ | refine blk_drew ?_ | refine blk_alloc ?_ _)); refine blk_put (cs := #[.slice none 0 0, .slice none 0 0, .slice none 0 0]) ?_ 2 _ rfl; (with_reducible repeat (first | refine blk_drewN ?_ _ | refine blk_drew ?_ | refine blk_alloc ?_ _)); refine blk_put (cs := #[.slice none 0 0, .slice none 0 0, .slice none 0 0]) ?_ 1 _ rfl; (with_reducible repeat (first | refine blk_drewN ?_ _ | refine blk_drew ?_ | refine blk_alloc ?_ _)); refine blk_put (cs := #[.slice none 0 0, .slice none 0 0, .slice none 0 0]) ?_ 0 _ rfl; (with_reducible repeat (first | refine blk_drewN ?_ _ | refine blk_drew ?_ | refine blk_alloc ?_ _)); exact BK121.out) Try.underlying25 rfl (by kernel_rfl)) rfl ?_
     exact ⟨_, _, _, by first | rfl | (simp [errW_none, errW_some] <;> rfl) | (simp [*, errW_none, errW_some] <;> rfl), by first | exact Kd.R_nil _ _ _ _ _ | exact Kd.N_nil _ _ _ _ _ | exact Kd.V_nil _ _ _ _ _ | exact Kd.Q_nil _ _ _ _ _ | exact Kd.S_nil _ _ _ _ _, by first | exact Kd.R_nil _ _ _ _ _ | exact Kd.N_nil _ _ _ _ _ | exact Kd.V_nil _ _ _ _ _ | exact Kd.Q_nil _ _ _ _ _ | exact Kd.S_nil _ _ _ _ _, by first | exact Kd.R_nil _ _ _ _ _ | exact Kd.N_nil _ _ _ _ _ | exact Kd.V_nil _ _ _ _ _ | exact Kd.Q_nil _ _ _ _ _ | exact Kd.S_nil _ _ _ _ _, by repeat (first | (with_reducible first | exact HB.out | apply below_alloc | apply pw_below_drewN | apply below_drew1 | refine below_set ?_ GE120.out | refine below_set ?_ GE121.out | refine below_set ?_ GE132.out) | exact HB.out)⟩
    ·
     replace c22 := Bool.eq_false_iff.mpr c22
     subst c22
     have H1 : ((slices_Contains_int_int.f kj4 t122 a1).bind fun t133 => (if t133 = true then (some (t122, t125, t128, 1, 0)) else ((slices_Contains_int_int.f kj4 t125 a1).bind fun t134 => (if t134 = true then (some (t122, t125, t128, 2, 0)) else (some (t122, t125, t128, 0, 0)))))) = some (r1, r2, r3, r4, r5) := by rw [if_neg (show ¬ (false = true) by decide)] at H; exact H
     clear H
     have H := H1
     clear H1
     replace H := Option.bind_eq_some_iff.mp H
     obtain ⟨t133, A260, H⟩ := H
     replace H : (if t133 = true then (some (t122, t125, t128, 1, 0)) else ((slices_Contains_int_int.f kj4 t125 a1).bind fun t134 => (if t134 = true then (some (t122, t125, t128, 2, 0)) else (some (t122, t125, t128, 0, 0))))) = some (r1, r2, r3, r4, r5) := H
     have A26 := Aside0.mk A260
     clear A260
     by_cases c27 : t133 = true
     ·
      subst c27
      have H1 : (some (t122, t125, t128, 1, 0)) = some (r1, r2, r3, r4, r5) := by rw [if_pos rfl] at H; exact H
      clear H
      have H := H1
      clear H1
      simp only [Option.some.injEq, Prod.mk.injEq] at H
      obtain ⟨rfl, rfl, rfl, rfl, rfl⟩ := H
      have hnb28 := NB132_120.out
      have hnc28 := NB120_132.out
      have hnb29 := NB132_121.out
      have hnc29 := NB121_132.out
      have hcz30_0 := cell0 BK132
      have hcz30_1 := cell1 BK132
      have hcz30_2 := cell2 BK132
      have hfz30_0 := blk_frozen BK132.out 0
      have hfz30_1 := blk_frozen BK132.out 1
      have hfz30_2 := blk_frozen BK132.out 2
      go_wp2_with (first | ((with_reducible refine gate_callee (f := 57) rfl ?_); refine goesL_ (some 34) rfl rfl Try.func57 (by kernel_rfl) rfl #[.slice Ao12 t122.length co12, .int .i64 a1] rfl (args_ (p := _)) ?_; (with_reducible refine (slices_Contains_int_int.calls kj4 _ _ t122 a1 true _ ?side1 ?side2 A26.out).mono ?_); (case side1 => exact upc (Kd.R_reads' HO_133000.out).2.2); (case side2 => exact (Kd.R_reads' HO_133000.out).2.1); rintro e w' ⟨rfl, ⟨nd, rfl⟩⟩; refine ⟨_, rfl, ?_⟩; (try (rw [drewN_self wc]; generalize hq_ : World.drewN wc _ = wc; have n0_ : Aside0 (Kd.R (Kd.int .i64) 3 wc w.heap.size (fun k_ => some k_ ≠ (.slice Ao16 t125.length co16 : Value).ownBlock) (.slice Ao12 t122.length co12) t122) := ⟨by rw [← hq_]; exact (upR HO_133000.out)⟩; have n1_ : Aside0 (Kd.R (Kd.int .i64) 3 wc w.heap.size (fun k_ => some k_ ≠ (.slice Ao12 t122.length co12 : Value).ownBlock) (.slice Ao16 t125.length co16) t125) := ⟨by rw [← hq_]; exact (upR HO_133001.out)⟩; have n2_ : Aside0 (Kd.R Kd.bool 4 wc w.heap.size (fun _ => True) (.slice Ao17 t128.length co17) t128) := ⟨by rw [← hq_]; exact (upR HO_133002.out)⟩; have n3_ : Aside0 (wc.heap[gb120]? = some (.cells #[.slice A0_0 l0_0.length c0_0, .slice A0_1 l0_1.length c0_1, .slice A0_2 l0_2.length c0_2] 25 (0, 0))) := ⟨by rw [← hq_]; exact (upB BK120)⟩; have n4_ : Aside0 (wc.heap[gb121]? = some (.cells #[.slice none 0 0, .slice none 0 0, .slice none 0 0] 25 (0, 0))) := ⟨by rw [← hq_]; exact (upB BK121)⟩; have n5_ : Aside0 (wc.heap[gb132]? = some (.cells #[.slice Ao12 t122.length co12, .slice Ao16 t125.length co16, .slice Ao17 t128.length co17] 25 (0, 0))) := ⟨by rw [← hq_]; exact (upB BK132)⟩; have n6_ : Aside0 (Below w.heap.size w wc) := ⟨by rw [← hq_]; exact (upH HB)⟩; clear HO_133000 HO_133001 HO_133002 BK120 BK121 BK132 HB hq_; have HO_133000 := n0_; have HO_133001 := n1_; have HO_133002 := n2_; have BK120 := n3_; have BK121 := n4_; have BK132 := n5_; have HB := n6_; clear n0_ n1_ n2_ n3_ n4_ n5_ n6_)); (try have hcz30_0 := cell0 BK132); (try have hcz30_1 := cell1 BK132); (try have hcz30_2 := cell2 BK132); (try have hfz30_0 := blk_frozen BK132.out 0); (try have hfz30_1 := blk_frozen BK132.out 1); (try have hfz30_2 := blk_frozen BK132.out 2); have hnb31 := NB121_120.out; have hnc31 := NB120_121.out; have hcz32_0 := cell0 BK121; have hcz32_1 := cell1 BK121; have hcz32_2 := cell2 BK121; have hfz32_0 := blk_frozen BK121.out 0; have hfz32_1 := blk_frozen BK121.out 1; have hfz32_2 := blk_frozen BK121.out 2))
      refine bodyPost_ret (results_ctt rfl _ _ gb121 25 #[.slice Ao12 t122.length co12, .slice Ao16 t125.length co16, .slice Ao17 t128.length co17] (0, 0) _ rfl (by (with_reducible repeat (first | refine blk_drewN ?_ _ | refine blk_drew ?_ | refine blk_alloc ?_ _)); refine blk_put (cs := #[.slice Ao12 t122.length co12, .slice Ao16 t125.length co16, .slice none 0 0]) ?_ 2 _ rfl; (with_reducible repeat (first | refine blk_drewN ?_ _ | refine blk_drew ?_ | refine blk_alloc ?_ _)); refine blk_put (cs := #[.slice Ao12 t122.length co12, .slice none 0 0, .slice none 0 0]) ?_ 1 _ rfl; (with_reducible repeat (first | refine blk_drewN ?_ _ | refine blk_drew ?_ | refine blk_alloc ?_ _)); refine blk_put (cs := #[.slice none 0 0, .slice none 0 0, .slice none 0 0]) ?_ 0 _ rfl; (with_reducible repeat (first | refine blk_drewN ?_ _ | refine blk_drew ?_ | refine blk_alloc ?_ _)); exact BK121.out) Try.underlying25 rfl (by kernel_rfl)) rfl ?_
      exact ⟨_, _, _, by first | rfl | (simp [errW_none, errW_some] <;> rfl) | (simp [*, errW_none, errW_some] <;> rfl), by (with_reducible repeat (first | apply Kd.R_alloc | apply Kd.R_drewN | apply Kd.R_drew)); exact Kd.R_mono (far3 HO_133000.out BK121) (fun _ hk => hk.1), by (with_reducible repeat (first | apply Kd.R_alloc | apply Kd.R_drewN | apply Kd.R_drew)); exact Kd.R_mono (far3 HO_133001.out BK121) (fun _ hk => hk.1), by (with_reducible repeat (first | apply Kd.R_alloc | apply Kd.R_drewN | apply Kd.R_drew)); exact Kd.R_mono (far3 HO_133002.out BK121) (fun _ hk => trivial), by repeat (first | (with_reducible first | exact HB.out | apply below_alloc | apply pw_below_drewN | apply below_drew1 | refine below_set ?_ GE120.out | refine below_set ?_ GE121.out | refine below_set ?_ GE132.out) | exact HB.out)⟩
     ·
      replace c27 := Bool.eq_false_iff.mpr c27
      subst c27
      have H1 : ((slices_Contains_int_int.f kj4 t125 a1).bind fun t134 => (if t134 = true then (some (t122, t125, t128, 2, 0)) else (some (t122, t125, t128, 0, 0)))) = some (r1, r2, r3, r4, r5) := by rw [if_neg (show ¬ (false = true) by decide)] at H; exact H
      clear H
      have H := H1
      clear H1
      replace H := Option.bind_eq_some_iff.mp H
      obtain ⟨t134, A330, H⟩ := H
      replace H : (if t134 = true then (some (t122, t125, t128, 2, 0)) else (some (t122, t125, t128, 0, 0))) = some (r1, r2, r3, r4, r5) := H
      have A33 := Aside0.mk A330
      clear A330
      by_cases c34 : t134 = true
      ·
       subst c34
       have H1 : (some (t122, t125, t128, 2, 0)) = some (r1, r2, r3, r4, r5) := by rw [if_pos rfl] at H; exact H
       clear H
       have H := H1
       clear H1
       simp only [Option.some.injEq, Prod.mk.injEq] at H
       obtain ⟨rfl, rfl, rfl, rfl, rfl⟩ := H
       have hnb35 := NB132_120.out
       have hnc35 := NB120_132.out
       have hnb36 := NB132_121.out
       have hnc36 := NB121_132.out
       have hcz37_0 := cell0 BK132
       have hcz37_1 := cell1 BK132
       have hcz37_2 := cell2 BK132
       have hfz37_0 := blk_frozen BK132.out 0
       have hfz37_1 := blk_frozen BK132.out 1
       have hfz37_2 := blk_frozen BK132.out 2
       go_wp2_with (first | ((with_reducible refine gate_callee (f := 57) rfl ?_); refine goesL_ (some 34) rfl rfl Try.func57 (by kernel_rfl) rfl #[.slice Ao12 t122.length co12, .int .i64 a1] rfl (args_ (p := _)) ?_; (with_reducible refine (slices_Contains_int_int.calls kj4 _ _ t122 a1 false _ ?side1 ?side2 A26.out).mono ?_); (case side1 => exact upc (Kd.R_reads' HO_133000.out).2.2); (case side2 => exact (Kd.R_reads' HO_133000.out).2.1); rintro e w' ⟨rfl, ⟨nd, rfl⟩⟩; refine ⟨_, rfl, ?_⟩; (try (rw [drewN_self wc]; generalize hq_ : World.drewN wc _ = wc; have n0_ : Aside0 (Kd.R (Kd.int .i64) 3 wc w.heap.size (fun k_ => some k_ ≠ (.slice Ao16 t125.length co16 : Value).ownBlock) (.slice Ao12 t122.length co12) t122) := ⟨by rw [← hq_]; exact (upR HO_133000.out)⟩; have n1_ : Aside0 (Kd.R (Kd.int .i64) 3 wc w.heap.size (fun k_ => some k_ ≠ (.slice Ao12 t122.length co12 : Value).ownBlock) (.slice Ao16 t125.length co16) t125) := ⟨by rw [← hq_]; exact (upR HO_133001.out)⟩; have n2_ : Aside0 (Kd.R Kd.bool 4 wc w.heap.size (fun _ => True) (.slice Ao17 t128.length co17) t128) := ⟨by rw [← hq_]; exact (upR HO_133002.out)⟩; have n3_ : Aside0 (wc.heap[gb120]? = some (.cells #[.slice A0_0 l0_0.length c0_0, .slice A0_1 l0_1.length c0_1, .slice A0_2 l0_2.length c0_2] 25 (0, 0))) := ⟨by rw [← hq_]; exact (upB BK120)⟩; have n4_ : Aside0 (wc.heap[gb121]? = some (.cells #[.slice none 0 0, .slice none 0 0, .slice none 0 0] 25 (0, 0))) := ⟨by rw [← hq_]; exact (upB BK121)⟩; have n5_ : Aside0 (wc.heap[gb132]? = some (.cells #[.slice Ao12 t122.length co12, .slice Ao16 t125.length co16, .slice Ao17 t128.length co17] 25 (0, 0))) := ⟨by rw [← hq_]; exact (upB BK132)⟩; have n6_ : Aside0 (Below w.heap.size w wc) := ⟨by rw [← hq_]; exact (upH HB)⟩; clear HO_133000 HO_133001 HO_133002 BK120 BK121 BK132 HB hq_; have HO_133000 := n0_; have HO_133001 := n1_; have HO_133002 := n2_; have BK120 := n3_; have BK121 := n4_; have BK132 := n5_; have HB := n6_; clear n0_ n1_ n2_ n3_ n4_ n5_ n6_)); (try have hcz37_0 := cell0 BK132); (try have hcz37_1 := cell1 BK132); (try have hcz37_2 := cell2 BK132); (try have hfz37_0 := blk_frozen BK132.out 0); (try have hfz37_1 := blk_frozen BK132.out 1); (try have hfz37_2 := blk_frozen BK132.out 2)) | ((with_reducible refine gate_callee (f := 57) rfl ?_); refine goesL_ (some 40) rfl rfl Try.func57 (by kernel_rfl) rfl #[.slice Ao16 t125.length co16, .int .i64 a1] rfl (args_ (p := _)) ?_; (with_reducible refine (slices_Contains_int_int.calls kj4 _ _ t125 a1 true _ ?side1 ?side2 A33.out).mono ?_); (case side1 => exact upc (Kd.R_reads' HO_133001.out).2.2); (case side2 => exact (Kd.R_reads' HO_133001.out).2.1); rintro e w' ⟨rfl, ⟨nd, rfl⟩⟩; refine ⟨_, rfl, ?_⟩; (try (rw [drewN_self wc]; generalize hq_ : World.drewN wc _ = wc; have n0_ : Aside0 (Kd.R (Kd.int .i64) 3 wc w.heap.size (fun k_ => some k_ ≠ (.slice Ao16 t125.length co16 : Value).ownBlock) (.slice Ao12 t122.length co12) t122) := ⟨by rw [← hq_]; exact (upR HO_133000.out)⟩; have n1_ : Aside0 (Kd.R (Kd.int .i64) 3 wc w.heap.size (fun k_ => some k_ ≠ (.slice Ao12 t122.length co12 : Value).ownBlock) (.slice Ao16 t125.length co16) t125) := ⟨by rw [← hq_]; exact (upR HO_133001.out)⟩; have n2_ : Aside0 (Kd.R Kd.bool 4 wc w.heap.size (fun _ => True) (.slice Ao17 t128.length co17) t128) := ⟨by rw [← hq_]; exact (upR HO_133002.out)⟩; have n3_ : Aside0 (wc.heap[gb120]? = some (.cells #[.slice A0_0 l0_0.length c0_0, .slice A0_1 l0_1.length c0_1, .slice A0_2 l0_2.length c0_2] 25 (0, 0))) := ⟨by rw [← hq_]; exact (upB BK120)⟩; have n4_ : Aside0 (wc.heap[gb121]? = some (.cells #[.slice none 0 0, .slice none 0 0, .slice none 0 0] 25 (0, 0))) := ⟨by rw [← hq_]; exact (upB BK121)⟩; have n5_ : Aside0 (wc.heap[gb132]? = some (.cells #[.slice Ao12 t122.length co12, .slice Ao16 t125.length co16, .slice Ao17 t128.length co17] 25 (0, 0))) := ⟨by rw [← hq_]; exact (upB BK132)⟩; have n6_ : Aside0 (Below w.heap.size w wc) := ⟨by rw [← hq_]; exact (upH HB)⟩; clear HO_133000 HO_133001 HO_133002 BK120 BK121 BK132 HB hq_; have HO_133000 := n0_; have HO_133001 := n1_; have HO_133002 := n2_; have BK120 := n3_; have BK121 := n4_; have BK132 := n5_; have HB := n6_; clear n0_ n1_ n2_ n3_ n4_ n5_ n6_)); (try have hcz37_0 := cell0 BK132); (try have hcz37_1 := cell1 BK132); (try have hcz37_2 := cell2 BK132); (try have hfz37_0 := blk_frozen BK132.out 0); (try have hfz37_1 := blk_frozen BK132.out 1); (try have hfz37_2 := blk_frozen BK132.out 2); have hnb38 := NB121_120.out; have hnc38 := NB120_121.out; have hcz39_0 := cell0 BK121; have hcz39_1 := cell1 BK121; have hcz39_2 := cell2 BK121; have hfz39_0 := blk_frozen BK121.out 0; have hfz39_1 := blk_frozen BK121.out 1; have hfz39_2 := blk_frozen BK121.out 2))
       refine bodyPost_ret (results_ctt rfl _ _ gb121 25 #[.slice Ao12 t122.length co12, .slice Ao16 t125.length co16, .slice Ao17 t128.length co17] (0, 0) _ rfl (by (with_reducible repeat (first | refine blk_drewN ?_ _ | refine blk_drew ?_ | refine blk_alloc ?_ _)); refine blk_put (cs := #[.slice Ao12 t122.length co12, .slice Ao16 t125.length co16, .slice none 0 0]) ?_ 2 _ rfl; (with_reducible repeat (first | refine blk_drewN ?_ _ | refine blk_drew ?_ | refine blk_alloc ?_ _)); refine blk_put (cs := #[.slice Ao12 t122.length co12, .slice none 0 0, .slice none 0 0]) ?_ 1 _ rfl; (with_reducible repeat (first | refine blk_drewN ?_ _ | refine blk_drew ?_ | refine blk_alloc ?_ _)); refine blk_put (cs := #[.slice none 0 0, .slice none 0 0, .slice none 0 0]) ?_ 0 _ rfl; (with_reducible repeat (first | refine blk_drewN ?_ _ | refine blk_drew ?_ | refine blk_alloc ?_ _)); exact BK121.out) Try.underlying25 rfl (by kernel_rfl)) rfl ?_
       exact ⟨_, _, _, by first | rfl | (simp [errW_none, errW_some] <;> rfl) | (simp [*, errW_none, errW_some] <;> rfl), by (with_reducible repeat (first | apply Kd.R_alloc | apply Kd.R_drewN | apply Kd.R_drew)); exact Kd.R_mono (far3 HO_133000.out BK121) (fun _ hk => hk.1), by (with_reducible repeat (first | apply Kd.R_alloc | apply Kd.R_drewN | apply Kd.R_drew)); exact Kd.R_mono (far3 HO_133001.out BK121) (fun _ hk => hk.1), by (with_reducible repeat (first | apply Kd.R_alloc | apply Kd.R_drewN | apply Kd.R_drew)); exact Kd.R_mono (far3 HO_133002.out BK121) (fun _ hk => trivial), by repeat (first | (with_reducible first | exact HB.out | apply below_alloc | apply pw_below_drewN | apply below_drew1 | refine below_set ?_ GE120.out | refine below_set ?_ GE121.out | refine below_set ?_ GE132.out) | exact HB.out)⟩
      ·
       replace c34 := Bool.eq_false_iff.mpr c34
       subst c34
       have H1 : (some (t122, t125, t128, 0, 0)) = some (r1, r2, r3, r4, r5) := by rw [if_neg (show ¬ (false = true) by decide)] at H; exact H
       clear H
       have H := H1
       clear H1
       simp only [Option.some.injEq, Prod.mk.injEq] at H
       obtain ⟨rfl, rfl, rfl, rfl, rfl⟩ := H
       have hnb40 := NB132_120.out
       have hnc40 := NB120_132.out
       have hnb41 := NB132_121.out
       have hnc41 := NB121_132.out
       have hcz42_0 := cell0 BK132
       have hcz42_1 := cell1 BK132
       have hcz42_2 := cell2 BK132
       have hfz42_0 := blk_frozen BK132.out 0
       have hfz42_1 := blk_frozen BK132.out 1
       have hfz42_2 := blk_frozen BK132.out 2
       go_wp2_with (first | ((with_reducible refine gate_callee (f := 57) rfl ?_); refine goesL_ (some 34) rfl rfl Try.func57 (by kernel_rfl) rfl #[.slice Ao12 t122.length co12, .int .i64 a1] rfl (args_ (p := _)) ?_; (with_reducible refine (slices_Contains_int_int.calls kj4 _ _ t122 a1 false _ ?side1 ?side2 A26.out).mono ?_); (case side1 => exact upc (Kd.R_reads' HO_133000.out).2.2); (case side2 => exact (Kd.R_reads' HO_133000.out).2.1); rintro e w' ⟨rfl, ⟨nd, rfl⟩⟩; refine ⟨_, rfl, ?_⟩; (try (rw [drewN_self wc]; generalize hq_ : World.drewN wc _ = wc; have n0_ : Aside0 (Kd.R (Kd.int .i64) 3 wc w.heap.size (fun k_ => some k_ ≠ (.slice Ao16 t125.length co16 : Value).ownBlock) (.slice Ao12 t122.length co12) t122) := ⟨by rw [← hq_]; exact (upR HO_133000.out)⟩; have n1_ : Aside0 (Kd.R (Kd.int .i64) 3 wc w.heap.size (fun k_ => some k_ ≠ (.slice Ao12 t122.length co12 : Value).ownBlock) (.slice Ao16 t125.length co16) t125) := ⟨by rw [← hq_]; exact (upR HO_133001.out)⟩; have n2_ : Aside0 (Kd.R Kd.bool 4 wc w.heap.size (fun _ => True) (.slice Ao17 t128.length co17) t128) := ⟨by rw [← hq_]; exact (upR HO_133002.out)⟩; have n3_ : Aside0 (wc.heap[gb120]? = some (.cells #[.slice A0_0 l0_0.length c0_0, .slice A0_1 l0_1.length c0_1, .slice A0_2 l0_2.length c0_2] 25 (0, 0))) := ⟨by rw [← hq_]; exact (upB BK120)⟩; have n4_ : Aside0 (wc.heap[gb121]? = some (.cells #[.slice none 0 0, .slice none 0 0, .slice none 0 0] 25 (0, 0))) := ⟨by rw [← hq_]; exact (upB BK121)⟩; have n5_ : Aside0 (wc.heap[gb132]? = some (.cells #[.slice Ao12 t122.length co12, .slice Ao16 t125.length co16, .slice Ao17 t128.length co17] 25 (0, 0))) := ⟨by rw [← hq_]; exact (upB BK132)⟩; have n6_ : Aside0 (Below w.heap.size w wc) := ⟨by rw [← hq_]; exact (upH HB)⟩; clear HO_133000 HO_133001 HO_133002 BK120 BK121 BK132 HB hq_; have HO_133000 := n0_; have HO_133001 := n1_; have HO_133002 := n2_; have BK120 := n3_; have BK121 := n4_; have BK132 := n5_; have HB := n6_; clear n0_ n1_ n2_ n3_ n4_ n5_ n6_)); (try have hcz42_0 := cell0 BK132); (try have hcz42_1 := cell1 BK132); (try have hcz42_2 := cell2 BK132); (try have hfz42_0 := blk_frozen BK132.out 0); (try have hfz42_1 := blk_frozen BK132.out 1); (try have hfz42_2 := blk_frozen BK132.out 2)) | ((with_reducible refine gate_callee (f := 57) rfl ?_); refine goesL_ (some 40) rfl rfl Try.func57 (by kernel_rfl) rfl #[.slice Ao16 t125.length co16, .int .i64 a1] rfl (args_ (p := _)) ?_; (with_reducible refine (slices_Contains_int_int.calls kj4 _ _ t125 a1 false _ ?side1 ?side2 A33.out).mono ?_); (case side1 => exact upc (Kd.R_reads' HO_133001.out).2.2); (case side2 => exact (Kd.R_reads' HO_133001.out).2.1); rintro e w' ⟨rfl, ⟨nd, rfl⟩⟩; refine ⟨_, rfl, ?_⟩; (try (rw [drewN_self wc]; generalize hq_ : World.drewN wc _ = wc; have n0_ : Aside0 (Kd.R (Kd.int .i64) 3 wc w.heap.size (fun k_ => some k_ ≠ (.slice Ao16 t125.length co16 : Value).ownBlock) (.slice Ao12 t122.length co12) t122) := ⟨by rw [← hq_]; exact (upR HO_133000.out)⟩; have n1_ : Aside0 (Kd.R (Kd.int .i64) 3 wc w.heap.size (fun k_ => some k_ ≠ (.slice Ao12 t122.length co12 : Value).ownBlock) (.slice Ao16 t125.length co16) t125) := ⟨by rw [← hq_]; exact (upR HO_133001.out)⟩; have n2_ : Aside0 (Kd.R Kd.bool 4 wc w.heap.size (fun _ => True) (.slice Ao17 t128.length co17) t128) := ⟨by rw [← hq_]; exact (upR HO_133002.out)⟩; have n3_ : Aside0 (wc.heap[gb120]? = some (.cells #[.slice A0_0 l0_0.length c0_0, .slice A0_1 l0_1.length c0_1, .slice A0_2 l0_2.length c0_2] 25 (0, 0))) := ⟨by rw [← hq_]; exact (upB BK120)⟩; have n4_ : Aside0 (wc.heap[gb121]? = some (.cells #[.slice none 0 0, .slice none 0 0, .slice none 0 0] 25 (0, 0))) := ⟨by rw [← hq_]; exact (upB BK121)⟩; have n5_ : Aside0 (wc.heap[gb132]? = some (.cells #[.slice Ao12 t122.length co12, .slice Ao16 t125.length co16, .slice Ao17 t128.length co17] 25 (0, 0))) := ⟨by rw [← hq_]; exact (upB BK132)⟩; have n6_ : Aside0 (Below w.heap.size w wc) := ⟨by rw [← hq_]; exact (upH HB)⟩; clear HO_133000 HO_133001 HO_133002 BK120 BK121 BK132 HB hq_; have HO_133000 := n0_; have HO_133001 := n1_; have HO_133002 := n2_; have BK120 := n3_; have BK121 := n4_; have BK132 := n5_; have HB := n6_; clear n0_ n1_ n2_ n3_ n4_ n5_ n6_)); (try have hcz42_0 := cell0 BK132); (try have hcz42_1 := cell1 BK132); (try have hcz42_2 := cell2 BK132); (try have hfz42_0 := blk_frozen BK132.out 0); (try have hfz42_1 := blk_frozen BK132.out 1); (try have hfz42_2 := blk_frozen BK132.out 2); have hnb43 := NB121_120.out; have hnc43 := NB120_121.out; have hcz44_0 := cell0 BK121; have hcz44_1 := cell1 BK121; have hcz44_2 := cell2 BK121; have hfz44_0 := blk_frozen BK121.out 0; have hfz44_1 := blk_frozen BK121.out 1; have hfz44_2 := blk_frozen BK121.out 2))
       refine bodyPost_ret (results_ctt rfl _ _ gb121 25 #[.slice Ao12 t122.length co12, .slice Ao16 t125.length co16, .slice Ao17 t128.length co17] (0, 0) _ rfl (by (with_reducible repeat (first | refine blk_drewN ?_ _ | refine blk_drew ?_ | refine blk_alloc ?_ _)); refine blk_put (cs := #[.slice Ao12 t122.length co12, .slice Ao16 t125.length co16, .slice none 0 0]) ?_ 2 _ rfl; (with_reducible repeat (first | refine blk_drewN ?_ _ | refine blk_drew ?_ | refine blk_alloc ?_ _)); refine blk_put (cs := #[.slice Ao12 t122.length co12, .slice none 0 0, .slice none 0 0]) ?_ 1 _ rfl; (with_reducible repeat (first | refine blk_drewN ?_ _ | refine blk_drew ?_ | refine blk_alloc ?_ _)); refine blk_put (cs := #[.slice none 0 0, .slice none 0 0, .slice none 0 0]) ?_ 0 _ rfl; (with_reducible repeat (first | refine blk_drewN ?_ _ | refine blk_drew ?_ | refine blk_alloc ?_ _)); exact BK121.out) Try.underlying25 rfl (by kernel_rfl)) rfl ?_
       exact ⟨_, _, _, by first | rfl | (simp [errW_none, errW_some] <;> rfl) | (simp [*, errW_none, errW_some] <;> rfl), by (with_reducible repeat (first | apply Kd.R_alloc | apply Kd.R_drewN | apply Kd.R_drew)); exact Kd.R_mono (far3 HO_133000.out BK121) (fun _ hk => hk.1), by (with_reducible repeat (first | apply Kd.R_alloc | apply Kd.R_drewN | apply Kd.R_drew)); exact Kd.R_mono (far3 HO_133001.out BK121) (fun _ hk => hk.1), by (with_reducible repeat (first | apply Kd.R_alloc | apply Kd.R_drewN | apply Kd.R_drew)); exact Kd.R_mono (far3 HO_133002.out BK121) (fun _ hk => trivial), by repeat (first | (with_reducible first | exact HB.out | apply below_alloc | apply pw_below_drewN | apply below_drew1 | refine below_set ?_ GE120.out | refine below_set ?_ GE121.out | refine below_set ?_ GE132.out) | exact HB.out)⟩
 ·
  rw [if_neg c4] at H
  have c4b0 : (t131 == 0) = false := beq_eq_false_iff_ne.mpr c4
  have c4b1 : (t131 != 0) = true := bne_iff_ne.mpr c4
  simp only [Option.some.injEq, Prod.mk.injEq] at H
  obtain ⟨rfl, rfl, rfl, rfl, rfl⟩ := H
  go_enter Try.func44, Try.ntmps44
  go_wp2_with (first | ((with_reducible refine gate_dst (N := 2) rfl ?_); (try (refine gate_guard (by rfl) ?_; dsimp only)); refine box_event ?hg (N := 2) ?hd (cs := #[.slice A0_0 l0_0.length c0_0, .slice A0_1 l0_1.length c0_1, .slice A0_2 l0_2.length c0_2]) (t := 25) ?hr ?_; (case hd => rfl); (case hg => rfl); (case hr => first | (go_simp; done) | (go_simp; rfl)); intro gb120 hg w45 hbox hb; have n0_ := Aside0.mk (below_step (upH HB) hb); have n1_ := Aside0.mk (hbox); have n2_ := Aside0.mk ((by rw [hg]; exact (below_size (upH HB)) : w.heap.size ≤ gb120)); have n3_ := Aside0.mk ((by rw [hg]; exact (below_size (upH HB)) : w.heap.size ≤ gb120)); clear HB; have HB := n0_; have BK120 := n1_; have GW120 := n2_; have GE120 := n3_; clear n0_ n1_ n2_ n3_; clear hb hbox hg) | ((with_reducible refine gate_dst (N := 4) rfl ?_); (try (refine gate_guard (by rfl) ?_; dsimp only)); refine box_event ?hg (N := 4) ?hd (cs := #[.slice none 0 0, .slice none 0 0, .slice none 0 0]) (t := 25) ?hr ?_; (case hd => rfl); (case hg => rfl); (case hr => first | (go_simp; done) | (go_simp; rfl)); intro gb121 hg w46 hbox hb; have n0_ := Aside0.mk (blkB BK120 hb); have n1_ := Aside0.mk (below_step (upH HB) hb); have n2_ := Aside0.mk (hbox); have n3_ := Aside0.mk ((by rw [hg]; exact (below_size (upH HB)) : w.heap.size ≤ gb121)); have n4_ := Aside0.mk ((by rw [hg]; exact (below_size (upH HB)) : w.heap.size ≤ gb121)); have n5_ := Aside0.mk ((by rw [hg]; exact Nat.ne_of_lt (blk_lt (g := gb120) (o := .cells #[.slice A0_0 l0_0.length c0_0, .slice A0_1 l0_1.length c0_1, .slice A0_2 l0_2.length c0_2] 25 (0, 0)) (upB BK120)) : gb120 ≠ gb121)); have n6_ := Aside0.mk ((by rw [hg]; exact Nat.ne_of_gt (blk_lt (g := gb120) (o := .cells #[.slice A0_0 l0_0.length c0_0, .slice A0_1 l0_1.length c0_1, .slice A0_2 l0_2.length c0_2] 25 (0, 0)) (upB BK120)) : gb121 ≠ gb120)); clear BK120; clear HB; have BK120 := n0_; have HB := n1_; have BK121 := n2_; have GW121 := n3_; have GE121 := n4_; have NB120_121 := n5_; have NB121_120 := n6_; clear n0_ n1_ n2_ n3_ n4_ n5_ n6_; clear hb hbox hg; have hnb47 := NB120_121.out; have hnc47 := NB121_120.out; have hcz48_0 := cell0 BK120; have hcz48_1 := cell1 BK120; have hcz48_2 := cell2 BK120; have hfz48_0 := blk_frozen BK120.out 0; have hfz48_1 := blk_frozen BK120.out 1; have hfz48_2 := blk_frozen BK120.out 2) | ((with_reducible refine gate_callee (f := 53) rfl ?_); refine goesL_ (some 11) rfl rfl Try.func53 (by kernel_rfl) rfl #[.agg #[.slice A0_0 l0_0.length c0_0, .slice A0_1 l0_1.length c0_1, .slice A0_2 l0_2.length c0_2]] rfl (args_ (p := _)) ?_; (with_reducible refine (lru_opened.calls _ _ l0_0 _ _ l0_1 _ _ l0_2 t122 t125 t128 t131 _ ?side1 ?side2 ?side3 ?side4 ?side5 ?side6 A3.out).mono ?_); (case side1 => exact upc (Kd.C_below HR0_0.out HB.out)); (case side2 => exact HC0_0.out); (case side3 => exact upc (Kd.C_below HR0_1.out HB.out)); (case side4 => exact HC0_1.out); (case side5 => exact upc (Kd.C_below HR0_2.out HB.out)); (case side6 => exact HC0_2.out); rintro e w49 ⟨v123, v126, v129, rfl, ho0, ho1, ho2, hb⟩; refine ⟨_, rfl, ?_⟩; have n0_ := Aside0.mk (Kd.R_lower ho0 (below_size (upH HB))); have n1_ := Aside0.mk (Kd.R_lower ho1 (below_size (upH HB))); have n2_ := Aside0.mk (Kd.R_lower ho2 (below_size (upH HB))); have n3_ := Aside0.mk (blkB BK120 hb); have n4_ := Aside0.mk (blkB BK121 hb); have n5_ := Aside0.mk (below_step (upH HB) hb); clear BK120; clear BK121; clear HB; have HO124 := n0_; have HO127 := n1_; have HO130 := n2_; have BK120 := n3_; have BK121 := n4_; have HB := n5_; clear n0_ n1_ n2_ n3_ n4_ n5_; (try clear hb); (try clear hb2); (try clear hk); (try clear hi); (try clear ho0); (try clear ho1); (try clear ho2)) | ((with_reducible refine gate_dst (N := 7) rfl ?_); (try (refine gate_guard (by rfl) ?_; dsimp only)); refine box_event ?hg (N := 7) ?hd (cs := #[.slice none 0 0, .slice none 0 0, .slice none 0 0]) (t := 25) ?hr ?_; (case hd => rfl); (case hg => rfl); (case hr => first | (go_simp; done) | (go_simp; rfl)); intro gb132 hg w50 hbox hb; have n0_ := Aside0.mk (Kd.R_below (upR HO124.out) hb); have n1_ := Aside0.mk (Kd.R_below (upR HO127.out) hb); have n2_ := Aside0.mk (Kd.R_below (upR HO130.out) hb); have n3_ := Aside0.mk (blkB BK120 hb); have n4_ := Aside0.mk (blkB BK121 hb); have n5_ := Aside0.mk (below_step (upH HB) hb); have n6_ := Aside0.mk (hbox); have n7_ := Aside0.mk ((by rw [hg]; exact (below_size (upH HB)) : w.heap.size ≤ gb132)); have n8_ := Aside0.mk ((by rw [hg]; exact (below_size (upH HB)) : w.heap.size ≤ gb132)); have n9_ := Aside0.mk ((by rw [hg]; exact Nat.ne_of_lt (blk_lt (g := gb120) (o := .cells #[.slice A0_0 l0_0.length c0_0, .slice A0_1 l0_1.length c0_1, .slice A0_2 l0_2.length c0_2] 25 (0, 0)) (upB BK120)) : gb120 ≠ gb132)); have n10_ := Aside0.mk ((by rw [hg]; exact Nat.ne_of_gt (blk_lt (g := gb120) (o := .cells #[.slice A0_0 l0_0.length c0_0, .slice A0_1 l0_1.length c0_1, .slice A0_2 l0_2.length c0_2] 25 (0, 0)) (upB BK120)) : gb132 ≠ gb120)); have n11_ := Aside0.mk ((by rw [hg]; exact Nat.ne_of_lt (blk_lt (g := gb121) (o := .cells #[.slice none 0 0, .slice none 0 0, .slice none 0 0] 25 (0, 0)) (upB BK121)) : gb121 ≠ gb132)); have n12_ := Aside0.mk ((by rw [hg]; exact Nat.ne_of_gt (blk_lt (g := gb121) (o := .cells #[.slice none 0 0, .slice none 0 0, .slice none 0 0] 25 (0, 0)) (upB BK121)) : gb132 ≠ gb121)); clear HO124; clear HO127; clear HO130; clear BK120; clear BK121; clear HB; have HO124 := n0_; have HO127 := n1_; have HO130 := n2_; have BK120 := n3_; have BK121 := n4_; have HB := n5_; have BK132 := n6_; have GW132 := n7_; have GE132 := n8_; have NB120_132 := n9_; have NB132_120 := n10_; have NB121_132 := n11_; have NB132_121 := n12_; clear n0_ n1_ n2_ n3_ n4_ n5_ n6_ n7_ n8_ n9_ n10_ n11_ n12_; clear hb hbox hg; obtain ⟨Ao51, co51, eo51⟩ := Kd.R_slice HO124.out; subst eo51; have hnb52 := NB132_120.out; have hnc52 := NB120_132.out; have hnb53 := NB132_121.out; have hnc53 := NB121_132.out; have hcz54_0 := cell0 BK132; have hcz54_1 := cell1 BK132; have hcz54_2 := cell2 BK132; have hfz54_0 := blk_frozen BK132.out 0; have hfz54_1 := blk_frozen BK132.out 1; have hfz54_2 := blk_frozen BK132.out 2; obtain ⟨Ao55, co55, eo55⟩ := Kd.R_slice HO127.out; subst eo55; obtain ⟨Ao56, co56, eo56⟩ := Kd.R_slice HO130.out; subst eo56; have hcz57_0 := cell0 BK121; have hcz57_1 := cell1 BK121; have hcz57_2 := cell2 BK121; have hfz57_0 := blk_frozen BK121.out 0; have hfz57_1 := blk_frozen BK121.out 1; have hfz57_2 := blk_frozen BK121.out 2))
  refine bodyPost_ret (results_ctt rfl _ _ gb121 25 #[.slice Ao51 t122.length co51, .slice Ao55 t125.length co55, .slice Ao56 t128.length co56] (0, 0) _ rfl (by (with_reducible repeat (first | refine blk_drewN ?_ _ | refine blk_drew ?_ | refine blk_alloc ?_ _)); refine blk_put (cs := #[.slice Ao51 t122.length co51, .slice Ao55 t125.length co55, .slice none 0 0]) ?_ 2 _ rfl; (with_reducible repeat (first | refine blk_drewN ?_ _ | refine blk_drew ?_ | refine blk_alloc ?_ _)); refine blk_put (cs := #[.slice Ao51 t122.length co51, .slice none 0 0, .slice none 0 0]) ?_ 1 _ rfl; (with_reducible repeat (first | refine blk_drewN ?_ _ | refine blk_drew ?_ | refine blk_alloc ?_ _)); refine blk_put (cs := #[.slice none 0 0, .slice none 0 0, .slice none 0 0]) ?_ 0 _ rfl; (with_reducible repeat (first | refine blk_drewN ?_ _ | refine blk_drew ?_ | refine blk_alloc ?_ _)); refine blk_far ?_ NB121_132.out _; (with_reducible repeat (first | refine blk_drewN ?_ _ | refine blk_drew ?_ | refine blk_alloc ?_ _)); refine blk_far ?_ NB121_132.out _; (with_reducible repeat (first | refine blk_drewN ?_ _ | refine blk_drew ?_ | refine blk_alloc ?_ _)); refine blk_far ?_ NB121_132.out _; (with_reducible repeat (first | refine blk_drewN ?_ _ | refine blk_drew ?_ | refine blk_alloc ?_ _)); exact BK121.out) Try.underlying25 rfl (by kernel_rfl)) rfl ?_
  exact ⟨_, _, _, by first | rfl | (simp [errW_none, errW_some] <;> rfl) | (simp [*, errW_none, errW_some] <;> rfl), by (with_reducible repeat (first | apply Kd.R_alloc | apply Kd.R_drewN | apply Kd.R_drew)); exact Kd.R_mono (Kd.R_far (p := ⟨gb121, 2, none⟩) (Kd.R_far (p := ⟨gb121, 1, none⟩) (Kd.R_far (p := ⟨gb121, 0, none⟩) (Kd.R_far (p := ⟨gb132, 2, none⟩) (Kd.R_far (p := ⟨gb132, 1, none⟩) (Kd.R_far (p := ⟨gb132, 0, none⟩) (Kd.R_types (Kd.R_types HO124.out BK132.out (by decide)) BK121.out (by decide)) (fun _ hk => hk.1.2) (.slice Ao51 t122.length co51)) (fun _ hk => hk.1.2) (.slice Ao55 t125.length co55)) (fun _ hk => hk.1.2) (.slice Ao56 t128.length co56)) (fun _ hk => hk.2) (.slice Ao51 t122.length co51)) (fun _ hk => hk.2) (.slice Ao55 t125.length co55)) (fun _ hk => hk.2) (.slice Ao56 t128.length co56)) (fun _ hk => hk.1.1), by (with_reducible repeat (first | apply Kd.R_alloc | apply Kd.R_drewN | apply Kd.R_drew)); exact Kd.R_mono (Kd.R_far (p := ⟨gb121, 2, none⟩) (Kd.R_far (p := ⟨gb121, 1, none⟩) (Kd.R_far (p := ⟨gb121, 0, none⟩) (Kd.R_far (p := ⟨gb132, 2, none⟩) (Kd.R_far (p := ⟨gb132, 1, none⟩) (Kd.R_far (p := ⟨gb132, 0, none⟩) (Kd.R_types (Kd.R_types HO127.out BK132.out (by decide)) BK121.out (by decide)) (fun _ hk => hk.1.2) (.slice Ao51 t122.length co51)) (fun _ hk => hk.1.2) (.slice Ao55 t125.length co55)) (fun _ hk => hk.1.2) (.slice Ao56 t128.length co56)) (fun _ hk => hk.2) (.slice Ao51 t122.length co51)) (fun _ hk => hk.2) (.slice Ao55 t125.length co55)) (fun _ hk => hk.2) (.slice Ao56 t128.length co56)) (fun _ hk => hk.1.1), by (with_reducible repeat (first | apply Kd.R_alloc | apply Kd.R_drewN | apply Kd.R_drew)); exact Kd.R_mono (Kd.R_far (p := ⟨gb121, 2, none⟩) (Kd.R_far (p := ⟨gb121, 1, none⟩) (Kd.R_far (p := ⟨gb121, 0, none⟩) (Kd.R_far (p := ⟨gb132, 2, none⟩) (Kd.R_far (p := ⟨gb132, 1, none⟩) (Kd.R_far (p := ⟨gb132, 0, none⟩) (Kd.R_types (Kd.R_types HO130.out BK132.out (by decide)) BK121.out (by decide)) (fun _ hk => hk.1.2) (.slice Ao51 t122.length co51)) (fun _ hk => hk.1.2) (.slice Ao55 t125.length co55)) (fun _ hk => hk.1.2) (.slice Ao56 t128.length co56)) (fun _ hk => hk.2) (.slice Ao51 t122.length co51)) (fun _ hk => hk.2) (.slice Ao55 t125.length co55)) (fun _ hk => hk.2) (.slice Ao56 t128.length co56)) (fun _ hk => trivial), by repeat (first | (with_reducible first | exact HB.out | apply below_alloc | apply pw_below_drewN | apply below_drew1 | refine below_set ?_ GE120.out | refine below_set ?_ GE121.out | refine below_set ?_ GE132.out) | exact HB.out)⟩

end Go.Proofs.Ytaofihdmgdpenaa.X

namespace Go.Proofs.Ytaofihdmgdpenaa.X
open Go.RowKit Go.Proofs.YtaofihdmgdpenaaW.PrintWords Go.Proofs.YtaofihdmgdpenaaW.PrintLast Go.Proofs.YtaofihdmgdpenaaW.PrintMore
attribute [local go_sem] max2_int min2_int max_two min_two max_three min_three max_four min_four   -- for this text's walks alone
set_option linter.unusedVariables false
set_option linter.unusedSimpArgs false

/-! ### slices_Insert_int_int: function 45 -/
section
open Go.Lib
attribute [local go_sem] Oper.semAt_some
theorem insI_intinfo : (Try.prog.info? 3).map (fun i => (i.zero, i.size, i.bytes)) = some (some (.int .i64 0), 1, 8) := by kernel_rfl
/-- Behind the two copies the row is x :: xs. -/
theorem insI_row {g c : Nat} {e : TypeId} {cur : Array Value} {W : World} (xs : List Int) (x : Int) (hb : W.heap[g]? = some (.cells cur e (0, 0))) (hs : cur.size = c) (hl : xs.length + 1 ≤ c) :
  ∃ cur', ((W.setCells g 1 (xs.map (Value.int .i64))).setCells g 0 [.int .i64 x]).heap[g]? = some (.cells cur' e (0, 0)) ∧ cur'.size = c ∧ cur'.toList.take (xs.length + 1) = (x :: xs).map (Value.int .i64) := by
 obtain ⟨c1, h1, h2, h3⟩ := setCells_row (xs.map (Value.int .i64)) 1 W cur hb (by simp; omega)
 obtain ⟨c2, h4, h5, h6⟩ := setCells_row [.int .i64 x] 0 (W.setCells g 1 (xs.map (Value.int .i64))) c1 h1 (by simp; omega)
 refine ⟨c2, h4, by omega, ?_⟩
 obtain ⟨y, ys, hy⟩ := List.exists_cons_of_length_pos (l := cur.toList) (by rw [Array.length_toList]; omega)
 rw [h6, h3, hy]
 simp
theorem insI_row2 {g c : Nat} {e : TypeId} {cur : Array Value} {W : World} (xs : List Int) (x : Int) (hb : W.heap[g]? = some (.cells cur e (0, 0))) (hs : cur.size = c) (hl : xs.length + 1 ≤ c) :
  ∃ cur', ((W.setCells g 0 [.int .i64 x]).setCells g 1 (xs.map (Value.int .i64))).heap[g]? = some (.cells cur' e (0, 0)) ∧ cur'.size = c ∧ cur'.toList.take (xs.length + 1) = (x :: xs).map (Value.int .i64) := by
 obtain ⟨c1, h1, h2, h3⟩ := setCells_row [.int .i64 x] 0 W cur hb (by simp; omega)
 obtain ⟨c2, h4, h5, h6⟩ := setCells_row (xs.map (Value.int .i64)) 1 (W.setCells g 0 [.int .i64 x]) c1 h1 (by simp; omega)
 refine ⟨c2, h4, by omega, ?_⟩
 rw [h6, h3]
 simp
set_option maxHeartbeats 4000000 in
set_option maxRecDepth 100000 in
theorem insI_shift (b c vb : Nat) (xs : List Int) (x : Int) (cur : Array Value) (w : World) (hn : 0 < xs.length) (hroom : xs.length + 1 ≤ c) (hc63 : c ≤ maxLen) (hvb : vb ≠ b)
  (hb : w.heap[b]? = some (.cells cur 3 (0, 0))) (hsz0 : cur.size = c) (htake : cur.toList.take xs.length = xs.map (Value.int .i64)) (hv : w.heap[vb]? = some (.cells #[.int .i64 x] 3 (0, 0))) :
  Calls Try.prog 45 #[.slice (some ⟨b, 0, none⟩) xs.length c, .int .i64 0, .slice (some ⟨vb, 0, none⟩) 1 1] w fun e w' =>
   e = .returned (.slice (some ⟨b, 0, none⟩) (xs.length + 1) c) ∧ w' = (w.drew.setCells b 1 (xs.map (Value.int .i64))).setCells b 0 [.int .i64 x] := by
 obtain ⟨i0, hi0, hzz0, hzz1, hzz2⟩ := info_parts insI_intinfo
 have hsz : (Try.prog.info? 3).map (·.size) = some 1 := by rw [hi0]; simp [hzz1]
 have uT := Try.underlying22
 have u22 := Try.underlying22
 generalize hcs : xs.map (Value.int .i64) = cs at htake ⊢
 have hcl : cs.length = xs.length := by rw [← hcs, List.length_map]
 have h1c : ∀ v ∈ cs, v.oneCell' = true := by rw [← hcs]; intro v hv; obtain ⟨y, _, rfl⟩ := List.mem_map.1 hv; rfl
 have hcsc : ∀ j v, cs[j]? = some v → w.cell? ⟨b, j, none⟩ = some v := fun j v hj => by
  have hjl : j < xs.length := by have := (List.getElem?_eq_some_iff.1 hj).1; omega
  rw [← htake, List.getElem?_take_of_lt hjl, Array.getElem?_toList] at hj
  simp [World.cell?, hb, hj]
 have hsp : ∀ j, j < xs.length + 1 → (w.cell? ⟨b, j, none⟩).isSome = true := fun j hj => by
  simp [World.cell?, hb, Array.getElem?_eq_getElem (show j < cur.size by omega)]
 have hfz : ∀ j, w.frozen? ⟨b, j, none⟩ = false := fun j => by simp [World.frozen?, hb]
 have hvc : w.cell? ⟨vb, 0, none⟩ = some (.int .i64 x) := by simp [World.cell?, hv]
 generalize xs.length = n at *
 have hov : ∀ lb cb, (callFunc 58 #[.slice (some ⟨vb, 0, none⟩) 1 1, .slice (some ⟨b, 1, none⟩) lb cb]).run Try.prog w = .ok (.value (.bool false)) w := fun lb cb => by
  rw [run_callFunc_extern Try.func58 (by kernel_rfl) (by kernel_rfl) (by kernel_rfl) (e := Extern.SlicesOverlaps.overlaps #[22, 22] #[4]) (by kernel_rfl),
   Lib.run_overlaps_apart w 22 4 3 Try.underlying22 1 (fun W => by kernel_rfl) ⟨vb, 0, none⟩ ⟨b, 1, none⟩ 1 1 lb cb hvb 3 3 1 c (by simp [World.shape?, hv]) (by simp [World.shape?, hb, hsz0]) (by omega) (by simp [World.frozen?, hv]) (by simp [World.frozen?, hv])]
  rfl
 have hcp1 : ∀ ty dc sc, (Builtin.copy_ #[22, 22] ty #[.slice (some ⟨b, 1, none⟩) n dc, .slice (some ⟨b, 0, none⟩) (n + 1) sc]).run Try.prog w.drew = .ok (goInt cs.length) (w.drew.setCells b 1 cs) := fun ty dc sc =>
  run_copy_cells w.drew _ _ ty 3 b 1 n dc ⟨b, 0, none⟩ (n + 1) sc cs uT hsz (by rw [hcl]; simp only [Nat.min_def]; split <;> omega)
   (fun j v hj => by rw [Addr.add_lit, Nat.zero_add]; exact hcsc j v hj)
   (fun j hj => by rw [Nat.add_comm]; exact hsp _ (by omega)) (fun j hj => hfz _) h1c
 obtain ⟨W1, hW1⟩ : ∃ W1, W1 = w.drew.setCells b 1 cs := ⟨_, rfl⟩
 have hsp1 : ∀ k, k < n + 1 → (W1.cell? ⟨b, k, none⟩).isSome = true := fun k hk => by
  rw [hW1]
  exact isSome_setCells b _ _ _ (fun j hj => by rw [Nat.add_comm]; exact hsp _ (by omega)) _ (hsp k hk)
 have hcp2 : ∀ (W : World), (∀ x, W.cell? x = W1.cell? x) → (∀ x, W.frozen? x = W1.frozen? x) → ∀ ty dc, (Builtin.copy_ #[22, 22] ty #[.slice (some ⟨b, 0, none⟩) (n + 1) dc, .slice (some ⟨vb, 0, none⟩) 1 1]).run Try.prog W = .ok (goInt [Value.int .i64 x].length) (W.setCells b 0 [.int .i64 x]) := fun W hWc hWf ty dc =>
  run_copy_cells W _ _ ty 3 b 0 (n + 1) dc ⟨vb, 0, none⟩ 1 1 [.int .i64 x] uT hsz (by simp [Nat.min_def])
   (fun j v hj => by
    rw [Addr.add_lit, hWc, hW1, World.cell?_setCells_out b _ _ _ _ (fun h _ => absurd h hvb)]
    match j, hj with
    | 0, hj => cases hj; exact hvc)
   (fun j hj => by rw [hWc, Nat.zero_add]; exact hsp1 _ (by simp at hj; omega)) (fun j hj => by rw [hWf, hW1, World.frozen?_setCells]; exact hfz _) (by simp [Value.oneCell'])
 rw [← hW1] at hcp1
 have hw1 : IntKind.i64.wrap ((n : Int) + 1) = (n : Int) + 1 := by rw [IntKind.wrap_i64]; unfold maxLen at hc63; omega
 have mixed : Try.prog.follows .mixedOrders = true := rfl
 have u1 : IntKind.i64.wrap 1 = 1 := by decide
 have u2 : (1 : Int) ≤ (n : Int) + 1 := by omega
 have u3 : (0 : Int) ≤ (n : Int) + 1 := by omega
 have u4 : ¬ (c = 1) := by omega
 have u5 : ¬ (c = 0) := by omega
 have u6 : (1 : Int).toNat = 1 := rfl
 have d1 : decide ((0 : Int) = (n : Int)) = false := decide_eq_false (by omega)
 have d2 : decide ((c : Int) < (n : Int) + 1) = false := decide_eq_false (by omega)
 have d3 : decide ((n : Int) + 1 ≤ (c : Int)) = true := decide_eq_true (by omega)
 go_enter Try.func45, Try.ntmps45
 go_wp2_with (simp only [hov])
 go_region_law_o (refine step_copy_runI rfl _ _ 22 22 rfl _ _ (by simp [Act.eval, Act.put]) (by simp [Act.eval, Act.put]) (hcp1 _ _ _) ?_)
 go_wp2_with (at_builtin; refine wpList_copy_runI _ rfl _ _ 22 22 rfl _ _ rfl rfl (hcp2 _ (fun _ => rfl) (fun _ => rfl) _ _) ?_)
 go_ret
 first | exact ⟨rfl, rfl⟩ | exact ⟨rfl, by rw [hW1]⟩
set_option maxHeartbeats 4000000 in
set_option maxRecDepth 100000 in
theorem insI_grow (b c vb : Nat) (xs : List Int) (x : Int) (cur : Array Value) (w : World) (hn : 0 < xs.length) (hnc : xs.length ≤ c) (hroom : c < xs.length + 1) (hbig : xs.length ≤ 1000000)
  (hb : w.heap[b]? = some (.cells cur 3 (0, 0))) (hsz0 : cur.size = c) (htake : cur.toList.take xs.length = xs.map (Value.int .i64)) (hv : w.heap[vb]? = some (.cells #[.int .i64 x] 3 (0, 0))) :
  Calls Try.prog 45 #[.slice (some ⟨b, 0, none⟩) xs.length c, .int .i64 0, .slice (some ⟨vb, 0, none⟩) 1 1] w fun e w' =>
   ∃ (G : Nat) (ROW : Array Value), xs.length + 1 ≤ G ∧ G ≤ maxLen ∧ ROW.size = G ∧ e = .returned (.slice (some ⟨w.heap.size, 0, none⟩) (xs.length + 1) G) ∧ w' = (((w.alloc (.cells ROW 3)).drew.setCells w.heap.size 0 [.int .i64 x]).drew).setCells w.heap.size 1 (xs.map (Value.int .i64)) := by
 obtain ⟨i0, hi0, hzz0, hzz1, hzz2⟩ := info_parts insI_intinfo
 have hsz : (Try.prog.info? 3).map (·.size) = some 1 := by rw [hi0]; simp [hzz1]
 have uT := Try.underlying22
 have u22 := Try.underlying22
 have hUi := Try.underlying3
 generalize hcs : xs.map (Value.int .i64) = cs at htake ⊢
 have hcl : cs.length = xs.length := by rw [← hcs, List.length_map]
 have h1c : ∀ v ∈ cs, v.oneCell' = true := by rw [← hcs]; intro v hv; obtain ⟨y, _, rfl⟩ := List.mem_map.1 hv; rfl
 have hcsc : ∀ j v, cs[j]? = some v → w.cell? ⟨b, j, none⟩ = some v := fun j v hj => by
  have hjl : j < xs.length := by have := (List.getElem?_eq_some_iff.1 hj).1; omega
  rw [← htake, List.getElem?_take_of_lt hjl, Array.getElem?_toList] at hj
  simp [World.cell?, hb, hj]
 have hvc : w.cell? ⟨vb, 0, none⟩ = some (.int .i64 x) := by simp [World.cell?, hv]
 have hbw : b < w.heap.size := (Array.getElem?_eq_some_iff.1 hb).1
 have hvw : vb < w.heap.size := (Array.getElem?_eq_some_iff.1 hv).1
 generalize xs.length = n at *
 have hold : (Builtin.firstCells i0.size 0 (.slice (some ⟨b, 0, none⟩) 0 c)).run Try.prog w.drew = .ok #[] w.drew := by
  rw [hzz1]
  exact run_firstCells_some w.drew 1 0 ⟨b, 0, none⟩ 0 c [] rfl (fun j v hj => by simp at hj)
 have hrz : ∀ ty, (Builtin.append_ #[22, 3] ty #[.slice (some ⟨b, 0, none⟩) 0 c, .int .i64 ((n : Int) + 1)]).run Try.prog w =
   .ok (.slice (some ⟨w.heap.size, 0, none⟩) (n + 1) (grownCap w (n + 1) c 3)) (w.drew.alloc (.cells (#[] ++ Builtin.zeroCells (Value.int .i64 0).cells (n + 1) ++ Builtin.zeroCells (Value.int .i64 0).cells (grownCap w (n + 1) c 3 - (n + 1))) 3)) := fun ty => by
  have h := Lib.run_append_grow_zeros w 22 3 ty 3 i0 _ .i64 .i64 uT hUi hi0 hzz0 (some ⟨b, 0, none⟩) 0 c [] hold (n + 1) (by omega) (by omega) (by omega) (by omega) (by rw [hzz2]; omega) (by rw [hzz2, Nat.zero_add]; exact growslice_fits hroom (by omega))
  rw [Nat.zero_add] at h
  exact h
 obtain ⟨G, hG⟩ : ∃ G, G = grownCap w (n + 1) c 3 := ⟨_, rfl⟩
 have hGn : n + 1 ≤ G := by rw [hG]; exact grownCap_ge w _ _ _
 have hGm : G ≤ maxLen := by rw [hG]; exact grownCap_le_maxLen w (n + 1) c 3 (by unfold maxLen; omega)
 obtain ⟨ROW, hROW⟩ : ∃ ROW : Array Value, ROW = #[] ++ Builtin.zeroCells (Value.int .i64 0).cells (n + 1) ++ Builtin.zeroCells (Value.int .i64 0).cells (G - (n + 1)) := ⟨_, rfl⟩
 rw [← hG] at hrz
 rw [← hROW] at hrz
 have hRl : ROW.size = G := by
  rw [hROW]
  simp [Builtin.zeroCells, Value.cells]
  omega
 obtain ⟨W1, hW1⟩ : ∃ W1, W1 = w.drew.alloc (.cells ROW 3) := ⟨_, rfl⟩
 rw [← hW1] at hrz
 have hN : ∀ j, j < n + 1 → (W1.cell? ⟨w.heap.size, j, none⟩).isSome = true := fun j hj => by
  rw [hW1, World.cell?_alloc_at (w := w.drew) ROW _ w.heap.size j rfl, Array.getElem?_eq_getElem (by omega)]; rfl
 have hNf : ∀ j, W1.frozen? ⟨w.heap.size, j, none⟩ = false := fun j => by rw [hW1]; exact World.frozen?_alloc_at (w := w.drew) ROW _ w.heap.size j rfl
 have hOb : ∀ j v, w.cell? ⟨b, j, none⟩ = some v → W1.cell? ⟨b, j, none⟩ = some v := fun j v h => by rw [hW1, World.cell?_alloc_past (w := w.drew) _ b j hbw]; exact h
 have hOv : ∀ j v, w.cell? ⟨vb, j, none⟩ = some v → W1.cell? ⟨vb, j, none⟩ = some v := fun j v h => by rw [hW1, World.cell?_alloc_past (w := w.drew) _ vb j hvw]; exact h
 have hcpA : ∀ (W : World), (∀ x, W.cell? x = W1.cell? x) → (∀ x, W.frozen? x = W1.frozen? x) → ∀ ty dc, (Builtin.copy_ #[22, 22] ty #[.slice (some ⟨w.heap.size, 0, none⟩) (n + 1) dc, .slice (some ⟨vb, 0, none⟩) 1 1]).run Try.prog W = .ok (goInt [Value.int .i64 x].length) (W.setCells w.heap.size 0 [.int .i64 x]) := fun W hWc hWf ty dc =>
  run_copy_cells W _ _ ty 3 w.heap.size 0 (n + 1) dc ⟨vb, 0, none⟩ 1 1 [.int .i64 x] uT hsz (by simp [Nat.min_def])
   (fun j v hj => by
    rw [Addr.add_lit, hWc]
    match j, hj with
    | 0, hj => cases hj; exact hOv _ _ hvc)
   (fun j hj => by rw [hWc, Nat.zero_add]; exact hN _ (by simp at hj; omega)) (fun j hj => by rw [hWf]; exact hNf _) (by simp [Value.oneCell'])
 have hG63 : G ≤ 9223372036854775807 := by unfold maxLen at hGm; omega
 have hbN : b ≠ w.heap.size := by omega
 have hcpB : ∀ (W : World), (∀ y, W.cell? y = (W1.setCells w.heap.size 0 [.int .i64 x]).cell? y) → (∀ y, W.frozen? y = (W1.setCells w.heap.size 0 [.int .i64 x]).frozen? y) → ∀ ty dc sc, (Builtin.copy_ #[22, 22] ty #[.slice (some ⟨w.heap.size, 1, none⟩) n dc, .slice (some ⟨b, 0, none⟩) n sc]).run Try.prog W = .ok (goInt cs.length) (W.setCells w.heap.size 1 cs) := fun W hWc hWf ty dc sc =>
  run_copy_cells W _ _ ty 3 w.heap.size 1 n dc ⟨b, 0, none⟩ n sc cs uT hsz (by rw [hcl]; simp [Nat.min_def])
   (fun j v hj => by
    rw [Addr.add_lit, hWc, World.cell?_setCells_out _ _ _ _ _ (fun h _ => absurd h hbN), Nat.zero_add]
    exact hOb _ v (hcsc j v hj))
   (fun j hj => by rw [hWc]; exact isSome_setCells _ _ _ _ (fun t ht => hN _ (by simp at ht; omega)) _ (hN _ (by omega)))
   (fun j hj => by rw [hWf, World.frozen?_setCells]; exact hNf _) h1c
 subst hW1
 have hE1 : ∀ y, ((w.alloc (.cells ROW 3)).drew).cell? y = (w.drew.alloc (.cells ROW 3)).cell? y := fun y => rfl
 have hE2 : ∀ y, ((w.alloc (.cells ROW 3)).drew).frozen? y = (w.drew.alloc (.cells ROW 3)).frozen? y := fun y => rfl
 have hF1 : ∀ y, (((w.alloc (.cells ROW 3)).drew.setCells w.heap.size 0 [.int .i64 x]).drew).cell? y = ((w.drew.alloc (.cells ROW 3)).setCells w.heap.size 0 [.int .i64 x]).cell? y := fun y => rfl
 have hF2 : ∀ y, (((w.alloc (.cells ROW 3)).drew.setCells w.heap.size 0 [.int .i64 x]).drew).frozen? y = ((w.drew.alloc (.cells ROW 3)).setCells w.heap.size 0 [.int .i64 x]).frozen? y := fun y => rfl
 have hw1 : IntKind.i64.wrap ((n : Int) + 1) = (n : Int) + 1 := by rw [IntKind.wrap_i64]; omega
 have mixed : Try.prog.follows .mixedOrders = true := rfl
 have u1 : IntKind.i64.wrap 1 = 1 := by decide
 have u2 : (1 : Int) ≤ (n : Int) + 1 := by omega
 have u3 : (0 : Int) ≤ (n : Int) + 1 := by omega
 have u4 : ¬ (G = 1) := by omega
 have u5 : ¬ (G = 0) := by omega
 have u6 : (1 : Int).toNat = 1 := rfl
 have u7 : (0 : Int) ≤ (n : Int) := by omega
 have u8 : ¬ (c = 0) := by omega
 have d1 : decide ((0 : Int) = (n : Int)) = false := decide_eq_false (by omega)
 have d2 : decide ((c : Int) < (n : Int) + 1) = true := decide_eq_true (by omega)
 have d3 : (c : Int) < (n : Int) + 1 := by omega
 clear hold hROW hG
 go_enter Try.func45, Try.ntmps45
 go_wp2_with (first
  | (at_builtin; refine Lib.wpList_append_run _ rfl _ _ _ _ rfl _ _ rfl rfl _ _ (hrz _) ?_)
  | (at_builtin; refine wpList_copy_runI _ rfl _ _ 22 22 rfl _ _ rfl rfl (hcpA _ hE1 hE2 _ _) ?_)
  | (at_builtin; refine wpList_copy_runI _ rfl _ _ 22 22 rfl _ _ rfl rfl (hcpB _ (fun _ => rfl) (fun _ => rfl) _ _ _) ?_))
 go_region_law_o (refine step_copy_runI rfl _ _ 22 22 rfl (.slice (some ⟨w.heap.size, 1, none⟩) n (G - 1)) (.slice (some ⟨b, 0, none⟩) n c) (by simp [Act.eval, Act.put]) (by simp [Act.eval, Act.put]) (hcpB _ hF1 hF2 3 (G - 1) c) ?_)
 go_wp2
 go_ret
 exact ⟨G, ROW, hGn, hGm, hRl, rfl, rfl⟩
set_option maxHeartbeats 4000000 in
set_option maxRecDepth 100000 in
theorem insI_end_room (b c vb : Nat) (x : Int) (cur : Array Value) (w : World) (hc : 1 ≤ c)
  (hb : w.heap[b]? = some (.cells cur 3 (0, 0))) (hsz0 : cur.size = c) (hv : w.heap[vb]? = some (.cells #[.int .i64 x] 3 (0, 0))) :
  Calls Try.prog 45 #[.slice (some ⟨b, 0, none⟩) 0 c, .int .i64 0, .slice (some ⟨vb, 0, none⟩) 1 1] w fun e w' =>
   e = .returned (.slice (some ⟨b, 0, none⟩) 1 c) ∧ w' = w.setCells b 0 [.int .i64 x] := by
 have uT := Try.underlying22
 have u22 := Try.underlying22
 have hsp : (w.cell? ⟨b, 0, none⟩).isSome = true := by simp [World.cell?, hb, Array.getElem?_eq_getElem (show 0 < cur.size by omega)]
 have hfz : w.frozen? ⟨b, 0, none⟩ = false := by simp [World.frozen?, hb]
 have hvc : w.cell? ⟨vb, 0, none⟩ = some (.int .i64 x) := by simp [World.cell?, hv]
 have hsrc : Src Try.prog 1 22 (.slice (some ⟨vb, 0, none⟩) 1 1) 1 [.int .i64 x] w := Src.ofSlice w u22 ⟨vb, 0, none⟩ 1 1 [.int .i64 x] (by simp) (fun j u hj => by
  match j, hj with
  | 0, hj => cases hj; rw [Addr.add_lit]; exact hvc) (by simp [Value.oneCell'])
 have mixed : Try.prog.follows .mixedOrders = true := rfl
 go_enter Try.func45, Try.ntmps45
 go_wp2_with (at_builtin; refine wpList_append_room1 _ rfl _ _ 22 22 rfl 3 _ _ uT insI_intinfo b 0 0 c rfl _ rfl 1 [.int .i64 x] hsrc (by omega) (fun j hj => by (obtain rfl : j = 0 := by simp at hj; omega); exact hsp) (fun j hj => by (obtain rfl : j = 0 := by simp at hj; omega); exact hfz) ?_)
 go_ret
 exact ⟨rfl, rfl⟩
set_option maxHeartbeats 4000000 in
set_option maxRecDepth 100000 in
theorem insI_end_grow (base : Option Addr) (vb : Nat) (x : Int) (w : World) (hbs : base = none ∨ ∃ b, base = some ⟨b, 0, none⟩) (hv : w.heap[vb]? = some (.cells #[.int .i64 x] 3 (0, 0))) :
  Calls Try.prog 45 #[.slice base 0 0, .int .i64 0, .slice (some ⟨vb, 0, none⟩) 1 1] w fun e w' =>
   ∃ (G : Nat) (ROW : Array Value), 1 ≤ G ∧ G ≤ maxLen ∧ ROW.size = G ∧ ROW.toList.take 1 = [.int .i64 x] ∧ e = .returned (.slice (some ⟨w.heap.size, 0, none⟩) 1 G) ∧ w' = w.drew.alloc (.cells ROW 3) := by
 obtain ⟨i0, hi0, hzz0, hzz1, hzz2⟩ := info_parts insI_intinfo
 have uT := Try.underlying22
 have u22 := Try.underlying22
 have hvc : w.cell? ⟨vb, 0, none⟩ = some (.int .i64 x) := by simp [World.cell?, hv]
 have hsrc : Src Try.prog i0.size 22 (.slice (some ⟨vb, 0, none⟩) 1 1) 1 [.int .i64 x] w := by
  rw [hzz1]
  exact Src.ofSlice w u22 ⟨vb, 0, none⟩ 1 1 [.int .i64 x] (by simp) (fun j u hj => by
   match j, hj with
   | 0, hj => cases hj; rw [Addr.add_lit]; exact hvc) (by simp [Value.oneCell'])
 have hold : (Builtin.firstCells i0.size 0 (.slice base 0 0)).run Try.prog w.drew = .ok #[] w.drew := by
  rw [hzz1]
  rcases hbs with rfl | ⟨b, rfl⟩
  ·
   exact run_firstCells_none w.drew 1 0 0 0
  ·
   exact run_firstCells_some w.drew 1 0 ⟨b, 0, none⟩ 0 0 [] rfl (fun j v hj => by simp at hj)
 have hrun : ∀ ty, (Builtin.append_ #[22, 22] ty #[.slice base 0 0, .slice (some ⟨vb, 0, none⟩) 1 1]).run Try.prog w = _ := fun ty =>
  run_append_grow_src w 22 22 ty 3 i0 _ uT hi0 hzz0 base 0 0 [] hold _ 1 [.int .i64 x] hsrc (by omega) (by omega) (by rw [hzz2]; exact growslice_fits (by omega) (by omega))
 obtain ⟨G, hG⟩ : ∃ G, G = grownCap w (0 + 1) 0 3 := ⟨_, rfl⟩
 have hGn : 1 ≤ G := by rw [hG]; exact grownCap_ge w _ _ _
 have hGm : G ≤ maxLen := by rw [hG]; exact grownCap_le_maxLen w (0 + 1) 0 3 (by unfold maxLen; omega)
 obtain ⟨ROW, hROW⟩ : ∃ ROW : Array Value, ROW = ([] ++ [Value.int .i64 x]).toArray ++ Builtin.zeroCells (Value.int .i64 0).cells (G - (0 + 1)) := ⟨_, rfl⟩
 rw [← hG] at hrun
 rw [← hROW] at hrun
 have hRl : ROW.size = G := by
  rw [hROW]
  simp [Builtin.zeroCells, Value.cells]
  omega
 have hRt : ROW.toList.take 1 = [.int .i64 x] := by
  rw [hROW]
  simp
 have mixed : Try.prog.follows .mixedOrders = true := rfl
 clear hROW hG hold hsrc
 rcases hbs with rfl | ⟨b, rfl⟩
 ·
  go_enter Try.func45, Try.ntmps45
  go_wp2_with (at_builtin; refine Lib.wpList_append_run _ rfl _ _ _ _ rfl _ _ rfl rfl _ _ (hrun _) ?_)
  go_ret
  exact ⟨G, ROW, hGn, hGm, hRl, hRt, rfl, rfl⟩
 ·
  go_enter Try.func45, Try.ntmps45
  go_wp2_with (at_builtin; refine Lib.wpList_append_run _ rfl _ _ _ _ rfl _ _ rfl rfl _ _ (hrun _) ?_)
  go_ret
  exact ⟨G, ROW, hGn, hGm, hRl, hRt, rfl, rfl⟩
/-- slices.Insert(s, 0, x), s a row of the caller's own: it owns x :: xs behind it. -/
theorem insI_front (base vb : Nat) (v : Value) (xs : List Int) (x : Int) (w : World) (hR : Kd.R (Kd.int .i64) 3 w base (fun _ => True) v xs) (hlen : xs.length ≤ 1000000)
  (hv : w.heap[vb]? = some (.cells #[.int .i64 x] 3 (0, 0))) (hne : v.ownBlock ≠ some vb) (hbase : base ≤ w.heap.size) :
  Calls Try.prog 45 #[v, .int .i64 0, .slice (some ⟨vb, 0, none⟩) 1 1] w fun e w' => ∃ v', e = .returned v' ∧ Kd.R (Kd.int .i64) 3 w' base (fun _ => True) v' (x :: xs) ∧ w.grownBy w' v.ownBlock ∧ (v'.ownBlock = v.ownBlock ∨ ∃ b, v'.ownBlock = some b ∧ w.heap.size ≤ b) := by
 obtain ⟨_, hown⟩ := Kd.own_of_R hR
 have fresh : ∀ (W : World) (G : Nat) (cur : Array Value), W.heap[w.heap.size]? = some (.cells cur 3 (0, 0)) → xs.length + 1 ≤ G → G ≤ maxLen → cur.size = G → cur.toList.take (xs.length + 1) = (x :: xs).map (Value.int .i64) →
   Kd.R (Kd.int .i64) 3 W base (fun _ => True) (.slice (some ⟨w.heap.size, 0, none⟩) (xs.length + 1) G) (x :: xs) := fun W G cur h1 h2 h3 h4 h5 =>
  Kd.R_of_own ⟨by simp [encs], .inr ⟨_, G, cur, rfl, hbase, h1, h2, h3, by omega, by simpa [encs] using h5⟩⟩ (fun _ _ => trivial)
 rcases hown with ⟨rfl, h0⟩ | ⟨g, cap, cur, rfl, hg, hgb, hcap, hmax, hsz, htake⟩
 ·
  obtain rfl := List.eq_nil_of_length_eq_zero h0
  refine (insI_end_grow none vb x w (.inl rfl) hv).mono ?_
  rintro e w' ⟨G, ROW, h1, h2, h3, h4, rfl, rfl⟩
  refine ⟨_, rfl, fresh _ G ROW (blk_new w.drew _) h1 h2 h3 h4, ?_, .inr ⟨_, rfl, Nat.le_refl _⟩⟩
  exact World.grownBy.trans (⟨rfl, rfl, rfl, Nat.le_refl _, fun _ _ _ => rfl⟩ : w.grownBy w.drew _) (World.grownBy_alloc w.drew _ _)
 ·
  have hgw : g < w.heap.size := (Array.getElem?_eq_some_iff.1 hgb).1
  have hvg : vb ≠ g := fun e => hne (by rw [e]; rfl)
  have ht2 : cur.toList.take xs.length = xs.map (Value.int .i64) := by simpa [encs] using htake
  have hsz1 : cur.size = cap := by omega
  have grown : ∀ (W : World) (a b : Nat) (us vs : List Value), w.grownBy W (some g) → w.grownBy ((W.setCells g a us).setCells g b vs) (some g) := fun W a b us vs h => by
   obtain ⟨p1, p2, p3, p4⟩ := setCells_same g us a W
   obtain ⟨q1, q2, q3, q4⟩ := setCells_same g vs b (W.setCells g a us)
   exact ⟨by rw [q1, p1, h.os], by rw [q2, p2, h.tape], by rw [q3, p3, h.output], by rw [q4, p4]; exact h.size, fun k hk hkn => by
    have : k ≠ g := fun e => hkn (by rw [e])
    rw [setCells_far vs b k this, setCells_far us a k this]
    exact h.block k hk hkn⟩
  by_cases hn : 0 < xs.length
  ·
   by_cases hroom : xs.length + 1 ≤ cap
   ·
    refine (insI_shift g cap vb xs x cur w hn hroom hmax hvg hgb hsz1 ht2 hv).mono ?_
    rintro e w' ⟨rfl, rfl⟩
    obtain ⟨cur', r1, r2, r3⟩ := insI_row (W := w.drew) xs x hgb hsz1 hroom
    refine ⟨_, rfl, Kd.R_of_own ⟨by simp [encs], .inr ⟨_, cap, cur', rfl, hg, r1, hroom, hmax, by omega, by simpa [encs] using r3⟩⟩ (fun _ _ => trivial), ?_, .inl rfl⟩
    exact grown _ _ _ _ _ ((⟨rfl, rfl, rfl, Nat.le_refl _, fun _ _ _ => rfl⟩ : w.grownBy w.drew _))
   ·
    refine (insI_grow g cap vb xs x cur w hn hcap (by omega) hlen hgb hsz1 ht2 hv).mono ?_
    rintro e w' ⟨G, ROW, h1, h2, h3, rfl, rfl⟩
    rw [drew_setCells]
    obtain ⟨cur', r1, r2, r3⟩ := insI_row2 (W := (w.alloc (.cells ROW 3)).drew.drew) xs x (blk_new w _) h3 h1
    refine ⟨_, rfl, fresh _ G cur' r1 h1 h2 r2 r3, ?_, .inr ⟨_, rfl, Nat.le_refl _⟩⟩
    obtain ⟨p1, p2, p3, p4⟩ := setCells_same w.heap.size [.int .i64 x] 0 (w.alloc (.cells ROW 3)).drew.drew
    obtain ⟨q1, q2, q3, q4⟩ := setCells_same w.heap.size (xs.map (Value.int .i64)) 1 ((w.alloc (.cells ROW 3)).drew.drew.setCells w.heap.size 0 [.int .i64 x])
    have ha := World.grownBy_alloc w (.cells ROW 3) (some g)
    exact ⟨by rw [q1, p1]; exact ha.os, by rw [q2, p2]; exact ha.2, by rw [q3, p3]; exact ha.3, by rw [q4, p4]; exact ha.size, fun k hk hkn => by
     have : k ≠ w.heap.size := by omega
     rw [setCells_far _ _ k this, setCells_far _ _ k this]
     exact ha.block k hk hkn⟩
  ·
   have h0 : xs = [] := List.eq_nil_of_length_eq_zero (by omega)
   subst h0
   by_cases hc : 1 ≤ cap
   ·
    refine (insI_end_room g cap vb x cur w hc hgb hsz1 hv).mono ?_
    rintro e w' ⟨rfl, rfl⟩
    obtain ⟨cur', r1, r2, r3⟩ := setCells_row [.int .i64 x] 0 w cur hgb (by simp; omega)
    refine ⟨_, rfl, Kd.R_of_own ⟨by simp [encs], .inr ⟨_, cap, cur', rfl, hg, r1, hc, hmax, by omega, by rw [r3]; simp [encs]⟩⟩ (fun _ _ => trivial), ?_, .inl rfl⟩
    exact grown w 0 0 [] [.int .i64 x] ⟨rfl, rfl, rfl, Nat.le_refl _, fun _ _ _ => rfl⟩
   ·
    obtain rfl : cap = 0 := by omega
    refine (insI_end_grow (some ⟨g, 0, none⟩) vb x w (.inr ⟨g, rfl⟩) hv).mono ?_
    rintro e w' ⟨G, ROW, h1, h2, h3, h4, rfl, rfl⟩
    refine ⟨_, rfl, fresh _ G ROW (blk_new w.drew _) h1 h2 h3 h4, ?_, .inr ⟨_, rfl, Nat.le_refl _⟩⟩
    exact World.grownBy.trans (⟨rfl, rfl, rfl, Nat.le_refl _, fun _ _ _ => rfl⟩ : w.grownBy w.drew _) (World.grownBy_alloc w.drew _ _)
end


end Go.Proofs.Ytaofihdmgdpenaa.X

namespace Go.Proofs.Ytaofihdmgdpenaa.X
open Go.RowKit Go.Proofs.YtaofihdmgdpenaaW.PrintWords Go.Proofs.YtaofihdmgdpenaaW.PrintLast Go.Proofs.YtaofihdmgdpenaaW.PrintMore
attribute [local go_sem] max2_int min2_int max_two min_two max_three min_three max_four min_four   -- for this text's walks alone
set_option linter.unusedVariables false
set_option linter.unusedSimpArgs false

/-! ### Rows whose elements are written out cell by cell -/
theorem flat_get {α β : Type} (f : α → List β) (s : Nat) (hs : ∀ x, (f x).length = s) : ∀ (xs : List α) (q r : Nat), r < s → (xs.flatMap f)[q * s + r]? = (xs[q]?).bind fun x => (f x)[r]?
 | [], q, r, _ => by simp
 | x :: xs, 0, r, hr => by
  rw [List.flatMap_cons, List.getElem?_append_left (by rw [hs]; omega)]
  simp
 | x :: xs, q + 1, r, hr => by
  have e : (q + 1) * s + r = s + (q * s + r) := by rw [Nat.add_mul]; omega
  rw [List.flatMap_cons, e, List.getElem?_append_right (by rw [hs]; omega), hs, show s + (q * s + r) - s = q * s + r by omega, flat_get f s hs xs q r hr]
  simp
theorem flat_length {α β : Type} (f : α → List β) (s : Nat) (hs : ∀ x, (f x).length = s) : ∀ xs : List α, (xs.flatMap f).length = xs.length * s
 | [] => by simp
 | x :: xs => by rw [List.flatMap_cons, List.length_append, hs, flat_length f s hs xs, List.length_cons, Nat.add_mul]; omega
/-- A row that is read, cell by cell. -/
theorem flat_cells {α : Type} {d : Kd α} {f : α → List Value} (hs : ∀ x, (f x).length = d.sz) (h0 : 0 < d.sz) (hK : ∀ w x c, d.K w x c → c = f x) {w : World} {ad : Addr} {n : Nat} {xs : List α} (h : Kd.C d w (some ad) n xs) :
  ∀ j u, (xs.flatMap f)[j]? = some u → w.cell? (ad.add j) = some u := by
 intro j u hu
 have hlt := (List.getElem?_eq_some_iff.1 hu).1
 rw [flat_length f d.sz hs] at hlt
 obtain ⟨q, r, hj, hq, hr⟩ : ∃ q r, j = q * d.sz + r ∧ q < xs.length ∧ r < d.sz :=
  ⟨j / d.sz, j % d.sz, by rw [Nat.mul_comm]; exact (Nat.div_add_mod j d.sz).symm, Nat.div_lt_of_lt_mul (by rw [Nat.mul_comm]; exact hlt), Nat.mod_lt j h0⟩
 rw [hj, flat_get f d.sz hs xs _ _ hr, List.getElem?_eq_getElem hq] at hu
 simp only [Option.bind_some] at hu
 obtain ⟨ad', c, e, _, hKc, hc⟩ := Kd.C_get h xs[q] (q : Int) (by omega) (by have := h.1; omega)
 cases e
 have hx : xs.getD ((q : Int)).toNat xs[q] = xs[q] := by
  rw [Int.toNat_natCast, List.getD_eq_getElem?_getD, List.getElem?_eq_getElem hq]
  rfl
 rw [hx] at hKc
 have := hK _ _ _ hKc
 subst this
 have h2 := hc r u hu
 rw [Int.toNat_natCast, ← hj] at h2
 exact h2
theorem flat_reps {α : Type} {R : α → List Value → Prop} {f : α → List Value} {s : Nat} (hs : ∀ x, (f x).length = s) (hR : ∀ x, R x (f x)) (xs : List α) : Reps R s xs (xs.flatMap f) := by
 refine ⟨flat_length f s hs xs, fun j p hj => ?_⟩
 have e : ((xs.flatMap f).drop (j * s)).take s = f p := by
  apply List.ext_getElem?
  intro r
  by_cases hr : r < s
  ·
   rw [List.getElem?_take_of_lt hr, List.getElem?_drop, flat_get f s hs xs j r hr, hj]
   rfl
  ·
   rw [List.getElem?_eq_none (by rw [List.length_take]; omega), List.getElem?_eq_none (by rw [hs]; omega)]
 rw [e]
 exact hR p
/-- A row of the call's own, out of its cells. -/
theorem flat_own {α : Type} {d : Kd α} {f : α → List Value} (hs : ∀ x, (f x).length = d.sz) (hM : ∀ w base ok x, d.M w base ok x (f x)) {e base : Nat} {w : World} {v : Value} {xs : List α} (h : w.ownsRow base e d.sz v xs.length (xs.flatMap f)) : Kd.R d e w base (fun _ => True) v xs :=
 ⟨fun _ _ => trivial, ⟨_, h, flat_reps hs (fun x => hM _ _ _ x) xs⟩⟩
theorem lit_C (w : World) (e : TypeId) (xs : List Int) (h : xs.length ≤ 1000) : Kd.C (Kd.int .i64) (w.alloc (.cells (nums .i64 xs).toArray e)) (some ⟨w.heap.size, 0, none⟩) xs.length xs := by
 have ho := own_lit w w.heap.size e .i64 xs (Nat.le_refl _) (by omega)
 have hr : Kd.R (Kd.int .i64) e (w.alloc (.cells (nums .i64 xs).toArray e)) w.heap.size (fun _ => True) (.slice (some ⟨w.heap.size, 0, none⟩) xs.length xs.length) xs := Kd.R_of_own ho (fun _ _ => trivial)
 exact (Kd.R_reads' hr).2.2
theorem lit_Cb (w : World) (e : TypeId) (xs : List Int) (h : xs.length ≤ 1000) (b : Nat) (hb : b = w.heap.size) : Kd.C (Kd.int .i64) (w.alloc (.cells (nums .i64 xs).toArray e)) (some ⟨b, 0, none⟩) xs.length xs := by
 subst hb
 exact lit_C w e xs h

theorem R_set {α : Type} {d : Kd α} {e base g i t : Nat} {ok : Nat → Prop} {W : World} {v u : Value} {xs : List α} {cs : Array Value} {fr : Nat × Nat} (h : d.R e W base ok v xs) (hb : W.heap[g]? = some (.cells cs t fr)) (ht : ∀ q, q ∈ e :: d.E → q ≠ t) : d.R e (W.setCell ⟨g, i, none⟩ u) base ok v xs := by
 refine Kd.R_mono (Kd.R_far (p := ⟨g, i, none⟩) (ok := fun k => ok k ∧ k ≠ g) (Kd.R_mono (Kd.R_bound h) fun k hk => ⟨hk.1, fun he => ?_⟩) (fun _ hk => hk.2) u) (fun _ hk => hk.1)
 obtain ⟨q, hq, cells, hc⟩ := hk.2.2.2
 rw [he, hb] at hc
 injection hc with hc
 injection hc with _ hc2 _
 exact ht q hq hc2.symm
theorem blk_past {W : World} {g k i : Nat} {u : Value} {o : Obj} (h : W.heap[k]? = some o) (hne : k ≠ g) : (W.setCell ⟨g, i, none⟩ u).heap[k]? = some o := (Below.heap_setCell W ⟨g, i, none⟩ u k hne).trans h
theorem blk_second {W : World} {o o2 : Obj} : ((W.alloc o).alloc o2).heap[W.heap.size + 1]? = some o2 := by
 have := blk_new (W.alloc o) o2
 simpa using this


end Go.Proofs.Ytaofihdmgdpenaa.X
