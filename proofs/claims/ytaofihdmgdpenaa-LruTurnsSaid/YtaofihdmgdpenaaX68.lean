/- What Go functions of this seat compute, told as Lean functions, and that each call of the Go code comes to that answer; for a law: its row, for every input. Written by a program of the session. -/
import Derived.Test.YtaofihdmgdpenaaX0
import Derived.Test.YtaofihdmgdpenaaX1
import Derived.Test.YtaofihdmgdpenaaX38
import Derived.Test.YtaofihdmgdpenaaX66
namespace Go.Proofs.Ytaofihdmgdpenaa.X
open Go.RowKit Go.Proofs.YtaofihdmgdpenaaW.PrintWords Go.Proofs.YtaofihdmgdpenaaW.PrintLast Go.Proofs.YtaofihdmgdpenaaW.PrintMore
attribute [local go_sem] max2_int min2_int max_two min_two max_three min_three max_four min_four   -- for this text's walks alone
set_option linter.unusedVariables false
set_option linter.unusedSimpArgs false

/-! ### headgateref07_Promote: function 40 -/
def headgateref07_Promote.j0 : Nat → Int → Bool → List Int → List Int → List Bool → Option (List Int × List Int × List Bool × Int × Int)
 | 0, _, _, _, _, _ => none
 | k + 1, x5, x18, x685000, x685001, x685002 => if x18 = true then (if 6 = 0 then (if 0 ≤ (wrap64 ((x685001.length : Int) - 1)) then (if (wrap64 ((x685001.length : Int) - 1)) < (x685001.length : Int) then ((headgateref07_Remove.f k x685000 x685001 x685002 (rd x685001 (wrap64 ((x685001.length : Int) - 1)))).bind fun bt688 => ((some (([rd x685001 (wrap64 ((x685001.length : Int) - 1))] : List Int) : List Int)).bind fun y699 => (if y699.length + bt688.1.length < 17592186044416 then (some ((y699 ++ bt688.1), bt688.2.1, bt688.2.2.1, rd x685001 (wrap64 ((x685001.length : Int) - 1)), 0)) else (none)))) else (none)) else (none)) else (some (([] : List Int), ([] : List Int), ([] : List Bool), 0, 6))) else (if x5 = 0 then (if 0 ≤ (wrap64 ((x685001.length : Int) - 1)) then (if (wrap64 ((x685001.length : Int) - 1)) < (x685001.length : Int) then ((headgateref07_Remove.f k x685000 x685001 x685002 (rd x685001 (wrap64 ((x685001.length : Int) - 1)))).bind fun bt706 => ((some (([rd x685001 (wrap64 ((x685001.length : Int) - 1))] : List Int) : List Int)).bind fun y717 => (if y717.length + bt706.1.length < 17592186044416 then (some ((y717 ++ bt706.1), bt706.2.1, bt706.2.2.1, rd x685001 (wrap64 ((x685001.length : Int) - 1)), 0)) else (none)))) else (none)) else (none)) else (some (([] : List Int), ([] : List Int), ([] : List Bool), 0, x5)))
def headgateref07_Promote.f (k : Nat) (l0_0 : List Int) (l0_1 : List Int) (l0_2 : List Bool) : Option (List Int × List Int × List Bool × Int × Int) := (headgateref07_Check.f l0_0 l0_1 l0_2).bind fun t686 => (if t686 = 0 then (headgateref07_Promote.j0 k t686 ((l0_1.length : Int) == 0) l0_0 l0_1 l0_2) else (headgateref07_Promote.j0 k t686 false l0_0 l0_1 l0_2))
theorem headgateref07_Promote.mono_l : ∀ k, (∀ y0 y1 y2 y3 y4, LeO (headgateref07_Promote.j0 k y0 y1 y2 y3 y4) (headgateref07_Promote.j0 (k + 1) y0 y1 y2 y3 y4))
 | 0 => fun _ _ _ _ _ r h => by simp [headgateref07_Promote.j0] at h
 | k + 1 => by
  have ih0 := headgateref07_Promote.mono_l k
  ·
   intro y0 y1 y2 y3 y4
   unfold headgateref07_Promote.j0
   repeat' first
   | (with_reducible exact ih0 _ _ _ _ _)
   | (with_reducible exact headgateref07_Remove.mono _ _ _ _ _)
   | (with_reducible exact LeO.refl _)
   | (with_reducible exact LeO.none _)
   | (with_reducible refine LeO.ite ?_ ?_)
   | (with_reducible refine LeO.bind ?_ (fun _ => ?_))
   | exact ih0 _ _ _ _ _
   | exact headgateref07_Remove.mono _ _ _ _ _
   | exact LeO.none _
   | refine LeO.ite ?_ ?_
   | refine LeO.bind ?_ (fun _ => ?_)
theorem headgateref07_Promote.mono : ∀ a0 a1 a2 k, LeO (headgateref07_Promote.f k a0 a1 a2) (headgateref07_Promote.f (k + 1) a0 a1 a2) := by
 intro a0 a1 a2 k
 have ih0 := headgateref07_Promote.mono_l k
 unfold headgateref07_Promote.f
 repeat' first
   | (with_reducible exact ih0 _ _ _ _ _)
   | (with_reducible exact headgateref07_Remove.mono _ _ _ _ _)
   | (with_reducible exact LeO.refl _)
   | (with_reducible exact LeO.none _)
   | (with_reducible refine LeO.ite ?_ ?_)
   | (with_reducible refine LeO.bind ?_ (fun _ => ?_))
   | exact ih0 _ _ _ _ _
   | exact headgateref07_Remove.mono _ _ _ _ _
   | exact LeO.none _
   | refine LeO.ite ?_ ?_
   | refine LeO.bind ?_ (fun _ => ?_)
set_option maxHeartbeats 2000000 in
set_option maxRecDepth 100000 in
theorem headgateref07_Promote.calls (k : Nat) (A0_0 : Option Addr) (c0_0 : Nat) (l0_0 : List Int) (A0_1 : Option Addr) (c0_1 : Nat) (l0_1 : List Int) (A0_2 : Option Addr) (c0_2 : Nat) (l0_2 : List Bool) (r1 : List Int) (r2 : List Int) (r3 : List Bool) (r4 : Int) (r5 : Int) (w : World) (hr0_0 : Kd.C (Kd.int .i64) w A0_0 l0_0.length l0_0) (hc0_0 : l0_0.length ≤ c0_0) (hr0_1 : Kd.C (Kd.int .i64) w A0_1 l0_1.length l0_1) (hc0_1 : l0_1.length ≤ c0_1) (hr0_2 : Kd.C Kd.bool w A0_2 l0_2.length l0_2) (hc0_2 : l0_2.length ≤ c0_2) (h : headgateref07_Promote.f k l0_0 l0_1 l0_2 = some (r1, r2, r3, r4, r5)) :
  Calls Try.prog 40 #[.agg #[.slice A0_0 l0_0.length c0_0, .slice A0_1 l0_1.length c0_1, .slice A0_2 l0_2.length c0_2]] w fun e w' => ∃ v0_ v1_ v2_ : Value, e = .returned (.tuple #[.agg #[v0_, v1_, v2_], .int .i64 r4, .int .i64 r5]) ∧ Kd.R (Kd.int .i64) 3 w' w.heap.size (fun k_ => some k_ ≠ (v1_ : Value).ownBlock) v0_ r1 ∧ Kd.R (Kd.int .i64) 3 w' w.heap.size (fun k_ => some k_ ≠ (v0_ : Value).ownBlock) v1_ r2 ∧ Kd.R Kd.bool 4 w' w.heap.size (fun _ => True) v2_ r3 ∧ Below w.heap.size w w' := by
 have hu25 := Try.underlying25
 have HR0_0 := Aside0.mk hr0_0
 have HC0_0 := Aside0.mk hc0_0
 clear hr0_0 hc0_0
 have HR0_1 := Aside0.mk hr0_1
 have HC0_1 := Aside0.mk hc0_1
 clear hr0_1 hc0_1
 have HR0_2 := Aside0.mk hr0_2
 have HC0_2 := Aside0.mk hc0_2
 clear hr0_2 hc0_2
 have HB := Aside0.mk (Below.refl w.heap.size w)
 have H : ((headgateref07_Check.f l0_0 l0_1 l0_2).bind fun t686 => (if t686 = 0 then (headgateref07_Promote.j0 k t686 ((l0_1.length : Int) == 0) l0_0 l0_1 l0_2) else (headgateref07_Promote.j0 k t686 false l0_0 l0_1 l0_2))) = some (r1, r2, r3, r4, r5) := h
 clear h
 replace H := Option.bind_eq_some_iff.mp H
 obtain ⟨t686, A20, H⟩ := H
 replace H : (if t686 = 0 then (headgateref07_Promote.j0 k t686 ((l0_1.length : Int) == 0) l0_0 l0_1 l0_2) else (headgateref07_Promote.j0 k t686 false l0_0 l0_1 l0_2)) = some (r1, r2, r3, r4, r5) := H
 have A2 := Aside0.mk A20
 clear A20
 have HC3 := Aside0.mk H
 clear H
 go_enter Try.func40, Try.ntmps40
 go_upto_region 2 with (first | ((with_reducible refine gate_dst (N := 1) rfl ?_); (try (refine gate_guard (by rfl) ?_; dsimp only)); refine box_event ?hg (N := 1) ?hd (cs := #[.slice A0_0 l0_0.length c0_0, .slice A0_1 l0_1.length c0_1, .slice A0_2 l0_2.length c0_2]) (t := 25) ?hr ?_; (case hd => rfl); (case hg => rfl); (case hr => first | (go_simp; done) | (go_simp; rfl)); intro gb684 hg w4 hbox hb; have n0_ := Aside0.mk (below_step (upH HB) hb); have n1_ := Aside0.mk (hbox); have n2_ := Aside0.mk ((by rw [hg]; exact (below_size (upH HB)) : w.heap.size ≤ gb684)); have n3_ := Aside0.mk ((by rw [hg]; exact (below_size (upH HB)) : w.heap.size ≤ gb684)); clear HB; have HB := n0_; have BK684 := n1_; have GW684 := n2_; have GE684 := n3_; clear n0_ n1_ n2_ n3_; clear hb hbox hg) | ((with_reducible refine gate_dst (N := 2) rfl ?_); (try (refine gate_guard (by rfl) ?_; dsimp only)); refine box_event ?hg (N := 2) ?hd (cs := #[.slice none 0 0, .slice none 0 0, .slice none 0 0]) (t := 25) ?hr ?_; (case hd => rfl); (case hg => rfl); (case hr => first | (go_simp; done) | (go_simp; rfl)); intro gb685 hg w5 hbox hb; have n0_ := Aside0.mk (blkB BK684 hb); have n1_ := Aside0.mk (below_step (upH HB) hb); have n2_ := Aside0.mk (hbox); have n3_ := Aside0.mk ((by rw [hg]; exact (below_size (upH HB)) : w.heap.size ≤ gb685)); have n4_ := Aside0.mk ((by rw [hg]; exact (below_size (upH HB)) : w.heap.size ≤ gb685)); have n5_ := Aside0.mk ((by rw [hg]; exact Nat.ne_of_lt (blk_lt (g := gb684) (o := .cells #[.slice A0_0 l0_0.length c0_0, .slice A0_1 l0_1.length c0_1, .slice A0_2 l0_2.length c0_2] 25 (0, 0)) (upB BK684)) : gb684 ≠ gb685)); have n6_ := Aside0.mk ((by rw [hg]; exact Nat.ne_of_gt (blk_lt (g := gb684) (o := .cells #[.slice A0_0 l0_0.length c0_0, .slice A0_1 l0_1.length c0_1, .slice A0_2 l0_2.length c0_2] 25 (0, 0)) (upB BK684)) : gb685 ≠ gb684)); clear BK684; clear HB; have BK684 := n0_; have HB := n1_; have BK685 := n2_; have GW685 := n3_; have GE685 := n4_; have NB684_685 := n5_; have NB685_684 := n6_; clear n0_ n1_ n2_ n3_ n4_ n5_ n6_; clear hb hbox hg; have hnb6 := NB684_685.out; have hnc6 := NB685_684.out; have hcz7_0 := cell0 BK684; have hcz7_1 := cell1 BK684; have hcz7_2 := cell2 BK684; have hfz7_0 := blk_frozen BK684.out 0; have hfz7_1 := blk_frozen BK684.out 1; have hfz7_2 := blk_frozen BK684.out 2) | ((with_reducible refine gate_callee (f := 17) rfl ?_); refine goesL_ (some 10) rfl rfl Try.func17 (by kernel_rfl) rfl #[.agg #[.slice A0_0 l0_0.length c0_0, .slice A0_1 l0_1.length c0_1, .slice A0_2 l0_2.length c0_2]] rfl (args_ (p := _)) ?_; (with_reducible refine (headgateref07_Check.calls _ _ l0_0 _ _ l0_1 _ _ l0_2 t686 _ ?side1 ?side2 ?side3 ?side4 ?side5 ?side6 A2.out).mono ?_); (case side1 => exact upc (Kd.C_below HR0_0.out HB.out)); (case side2 => exact HC0_0.out); (case side3 => exact upc (Kd.C_below HR0_1.out HB.out)); (case side4 => exact HC0_1.out); (case side5 => exact upc (Kd.C_below HR0_2.out HB.out)); (case side6 => exact HC0_2.out); rintro e w8 ⟨rfl, hb⟩; refine ⟨_, rfl, ?_⟩; have n0_ := Aside0.mk (blkB BK684 hb); have n1_ := Aside0.mk (blkB BK685 hb); have n2_ := Aside0.mk (below_step (upH HB) hb); clear BK684; clear BK685; clear HB; have BK684 := n0_; have BK685 := n1_; have HB := n2_; clear n0_ n1_ n2_; (try clear hb); (try clear hb2); (try clear hk); (try clear hi)))
 (try simp only [Act.put, List.setIfInBounds_toArray, List.set_cons_zero, List.set_cons_succ])
 go_cut [18] (fun v18 wc => ∃ (kq : Nat) (x18_2 : Bool), v18 = .bool x18_2 ∧ Aside0 (headgateref07_Promote.j0 kq t686 x18_2 l0_0 l0_1 l0_2 = some (r1, r2, r3, r4, r5)) ∧ Aside0 (kq ≤ k) ∧ Aside0 (wc.heap[gb684]? = some (.cells #[(.slice A0_0 l0_0.length c0_0), (.slice A0_1 l0_1.length c0_1), (.slice A0_2 l0_2.length c0_2)] 25 (0, 0))) ∧ Aside0 (wc.heap[gb685]? = some (.cells #[(.slice none 0 0), (.slice none 0 0), (.slice none 0 0)] 25 (0, 0))) ∧ Aside0 (Below w.heap.size w wc))
 case first =>
  have H := HC3.out
  clear HC3
  by_cases c9 : t686 = 0
  ·
   rw [if_pos c9] at H
   have c9b0 : (t686 == 0) = true := beq_iff_eq.mpr c9
   have c9b1 : (t686 != 0) = false := bne_eq_false_iff_eq.mpr c9
   clear c9
   (first | rw [c9b0] | (simp only [i64_w, i32_w]; rw [c9b0]) | skip)
   have H' := Aside0.mk H
   clear H
   have hnb10 := NB684_685.out
   have hnc10 := NB685_684.out
   have hcz11_0 := cell0 BK684
   have hcz11_1 := cell1 BK684
   have hcz11_2 := cell2 BK684
   have hfz11_0 := blk_frozen BK684.out 0
   have hfz11_1 := blk_frozen BK684.out 1
   have hfz11_2 := blk_frozen BK684.out 2
   go_wp2
   go_meet
   case rel => exact ⟨_, (((l0_1.length : Int) == 0)), (by first | rfl | (simp; done) | (simp [*]; done)), H', ⟨by first | omega | exact Nat.le_refl _⟩, ⟨upB BK684⟩, ⟨upB BK685⟩, ⟨upH HB⟩⟩
  ·
   rw [if_neg c9] at H
   have c9b0 : (t686 == 0) = false := beq_eq_false_iff_ne.mpr c9
   have c9b1 : (t686 != 0) = true := bne_iff_ne.mpr c9
   (first | rw [c9b0] | (simp only [i64_w, i32_w]; rw [c9b0]) | skip)
   have H' := Aside0.mk H
   clear H
   go_wp2
   go_meet
   case rel => exact ⟨_, (false), (by first | rfl | (simp; done) | (simp [*]; done)), H', ⟨by first | omega | exact Nat.le_refl _⟩, ⟨upB BK684⟩, ⟨upB BK685⟩, ⟨upH HB⟩⟩
 case rest =>
  clear HC3
  try clear c1
  try clear p2
  try clear c4
  try clear c6
  try clear c9
  try clear c9b0
  try clear c9b1
  try clear c10
  try clear hcz11_0
  try clear hcz11_1
  try clear hcz11_2
  try clear hcz7_0
  try clear hcz7_1
  try clear hcz7_2
  try clear hfz11_0
  try clear hfz11_1
  try clear hfz11_2
  try clear hfz7_0
  try clear hfz7_1
  try clear hfz7_2
  obtain ⟨kq, x18_2, rfl, HA, HJ2, BK684, BK685, HB⟩ := hcut
  cases kq with
  | zero => exact absurd HA.out (by simp [headgateref07_Promote.j0])
  | succ kj2 =>
   have H := HA.out
   clear HA
   simp only [headgateref07_Promote.j0] at H
   by_cases c12 : x18_2 = true
   ·
    subst c12
    have H1 : (if 6 = 0 then (if 0 ≤ (wrap64 ((l0_1.length : Int) - 1)) then (if (wrap64 ((l0_1.length : Int) - 1)) < (l0_1.length : Int) then ((headgateref07_Remove.f kj2 l0_0 l0_1 l0_2 (rd l0_1 (wrap64 ((l0_1.length : Int) - 1)))).bind fun bt688 => ((some (([rd l0_1 (wrap64 ((l0_1.length : Int) - 1))] : List Int) : List Int)).bind fun y699 => (if y699.length + bt688.1.length < 17592186044416 then (some ((y699 ++ bt688.1), bt688.2.1, bt688.2.2.1, rd l0_1 (wrap64 ((l0_1.length : Int) - 1)), 0)) else (none)))) else (none)) else (none)) else (some (([] : List Int), ([] : List Int), ([] : List Bool), 0, 6))) = some (r1, r2, r3, r4, r5) := by rw [if_pos rfl] at H; exact H
    clear H
    have H := H1
    clear H1
    by_cases c13 : 6 = 0
    ·
     exact absurd c13 (by decide)
    ·
     rw [if_neg c13] at H
     have c13b0 : (6 == 0) = false := beq_eq_false_iff_ne.mpr c13
     have c13b1 : (6 != 0) = true := bne_iff_ne.mpr c13
     simp only [Option.some.injEq, Prod.mk.injEq] at H
     obtain ⟨rfl, rfl, rfl, rfl, rfl⟩ := H
     have hnb36 := NB685_684.out
     have hnc36 := NB684_685.out
     have hcz37_0 := cell0 BK685
     have hcz37_1 := cell1 BK685
     have hcz37_2 := cell2 BK685
     have hfz37_0 := blk_frozen BK685.out 0
     have hfz37_1 := blk_frozen BK685.out 1
     have hfz37_2 := blk_frozen BK685.out 2
     go_wp2
     refine bodyPost_ret (results_ctt rfl _ _ gb685 25 #[.slice none 0 0, .slice none 0 0, .slice none 0 0] (0, 0) _ rfl (by (with_reducible repeat (first | refine blk_drewN ?_ _ | refine blk_drew ?_ | refine blk_alloc ?_ _)); refine blk_put (cs := #[.slice none 0 0, .slice none 0 0, .slice none 0 0]) ?_ 2 _ rfl; (with_reducible repeat (first | refine blk_drewN ?_ _ | refine blk_drew ?_ | refine blk_alloc ?_ _)); refine blk_put (cs := #[.slice none 0 0, .slice none 0 0, .slice none 0 0]) ?_ 1 _ rfl; (with_reducible repeat (first | refine blk_drewN ?_ _ | refine blk_drew ?_ | refine blk_alloc ?_ _)); refine blk_put (cs := #[.slice none 0 0, .slice none 0 0, .slice none 0 0]) ?_ 0 _ rfl; (with_reducible repeat (first | refine blk_drewN ?_ _ | refine blk_drew ?_ | refine blk_alloc ?_ _)); exact BK685.out) Try.underlying25 rfl (by kernel_rfl)) rfl ?_
     exact ⟨_, _, _, by first | rfl | (simp [errW_none, errW_some] <;> rfl) | (simp [*, errW_none, errW_some] <;> rfl), by first | exact Kd.R_nil _ _ _ _ _ | exact Kd.N_nil _ _ _ _ _ | exact Kd.V_nil _ _ _ _ _ | exact Kd.Q_nil _ _ _ _ _ | exact Kd.S_nil _ _ _ _ _, by first | exact Kd.R_nil _ _ _ _ _ | exact Kd.N_nil _ _ _ _ _ | exact Kd.V_nil _ _ _ _ _ | exact Kd.Q_nil _ _ _ _ _ | exact Kd.S_nil _ _ _ _ _, by first | exact Kd.R_nil _ _ _ _ _ | exact Kd.N_nil _ _ _ _ _ | exact Kd.V_nil _ _ _ _ _ | exact Kd.Q_nil _ _ _ _ _ | exact Kd.S_nil _ _ _ _ _, by repeat (first | (with_reducible first | exact HB.out | apply below_alloc | apply pw_below_drewN | apply below_drew1 | refine below_set ?_ GE684.out | refine below_set ?_ GE685.out) | exact HB.out)⟩
   ·
    replace c12 := Bool.eq_false_iff.mpr c12
    subst c12
    have H1 : (if t686 = 0 then (if 0 ≤ (wrap64 ((l0_1.length : Int) - 1)) then (if (wrap64 ((l0_1.length : Int) - 1)) < (l0_1.length : Int) then ((headgateref07_Remove.f kj2 l0_0 l0_1 l0_2 (rd l0_1 (wrap64 ((l0_1.length : Int) - 1)))).bind fun bt706 => ((some (([rd l0_1 (wrap64 ((l0_1.length : Int) - 1))] : List Int) : List Int)).bind fun y717 => (if y717.length + bt706.1.length < 17592186044416 then (some ((y717 ++ bt706.1), bt706.2.1, bt706.2.2.1, rd l0_1 (wrap64 ((l0_1.length : Int) - 1)), 0)) else (none)))) else (none)) else (none)) else (some (([] : List Int), ([] : List Int), ([] : List Bool), 0, t686))) = some (r1, r2, r3, r4, r5) := by rw [if_neg (show ¬ (false = true) by decide)] at H; exact H
    clear H
    have H := H1
    clear H1
    by_cases c38 : t686 = 0
    ·
     rw [if_pos c38] at H
     have c38b0 : (t686 == 0) = true := beq_iff_eq.mpr c38
     have c38b1 : (t686 != 0) = false := bne_eq_false_iff_eq.mpr c38
     clear c38
     obtain ⟨ji39, hji39⟩ : ∃ j_ : Int, (wrap64 ((l0_1.length : Int) - 1)) = j_ := ⟨_, rfl⟩
     replace H : (if 0 ≤ (ji39) then (if (ji39) < (l0_1.length : Int) then ((headgateref07_Remove.f kj2 l0_0 l0_1 l0_2 (rd l0_1 (ji39))).bind fun bt706 => ((some (([rd l0_1 (ji39)] : List Int) : List Int)).bind fun y717 => (if y717.length + bt706.1.length < 17592186044416 then (some ((y717 ++ bt706.1), bt706.2.1, bt706.2.2.1, rd l0_1 (ji39), 0)) else (none)))) else (none)) else (none)) = some (r1, r2, r3, r4, r5) := by first | (rw [hji39] at H; exact H) | (simp only [hji39] at H ⊢; exact H)
     have hji39w : (IntKind.i64.wrap ((l0_1.length : Int) - 1)) = ji39 := (i64_w _).trans hji39
     by_cases c40 : 0 ≤ (ji39)
     ·
      rw [if_pos c40] at H
      have c40b0 : decide (0 ≤ (ji39)) = true := decide_eq_true c40
      clear c40
      by_cases c41 : (ji39) < (l0_1.length : Int)
      ·
       rw [if_pos c41] at H
       have c41b0 : decide ((ji39) < (l0_1.length : Int)) = true := decide_eq_true c41
       clear c41
       replace H := Option.bind_eq_some_iff.mp H
       obtain ⟨⟨t706, t709, t712, t715⟩, A420, H⟩ := H
       replace H : ((some (([rd l0_1 (ji39)] : List Int) : List Int)).bind fun y717 => (if y717.length + t706.length < 17592186044416 then (some ((y717 ++ t706), t709, t712, rd l0_1 (ji39), 0)) else (none))) = some (r1, r2, r3, r4, r5) := H
       have A42 := Aside0.mk A420
       clear A420
       obtain ⟨y717, hy717⟩ : ∃ y_ : List Int, y_ = (([rd l0_1 (ji39)] : List Int)) := ⟨_, rfl⟩
       replace H : (if y717.length + t706.length < 17592186044416 then (some ((y717 ++ t706), t709, t712, rd l0_1 (ji39), 0)) else (none)) = some (r1, r2, r3, r4, r5) := by first | (rw [hy717]; with_reducible exact H) | (have H2_ := (Option.bind_some _ _).symm.trans H; rw [hy717]; with_reducible exact H2_) | (have H2_ := (Option.bind_some _ _).symm.trans H; with_reducible exact H2_) | with_reducible exact H | (rw [hy717]; exact H) | exact H
       have Ny717 := Aside0.mk hy717
       clear hy717
       by_cases c43 : y717.length + t706.length < 17592186044416
       ·
        rw [if_pos c43] at H
        have LMc43 := Aside0.mk c43
        clear c43
        obtain ⟨y720, hy720⟩ : ∃ y_ : List Int, y_ = (y717 ++ t706) := ⟨_, rfl⟩
        replace H : (some (y720, t709, t712, rd l0_1 (ji39), 0)) = some (r1, r2, r3, r4, r5) := by first | (rw [hy720]; with_reducible exact H) | (have H2_ := (Option.bind_some _ _).symm.trans H; rw [hy720]; with_reducible exact H2_) | (have H2_ := (Option.bind_some _ _).symm.trans H; with_reducible exact H2_) | with_reducible exact H | (rw [hy720]; exact H) | exact H
        have Ny720 := Aside0.mk hy720
        clear hy720
        simp only [Option.some.injEq, Prod.mk.injEq] at H
        obtain ⟨rfl, rfl, rfl, rfl, rfl⟩ := H
        have hnb44 := NB684_685.out
        have hnc44 := NB685_684.out
        have hcz45_0 := cell0 BK684
        have hcz45_1 := cell1 BK684
        have hcz45_2 := cell2 BK684
        have hfz45_0 := blk_frozen BK684.out 0
        have hfz45_1 := blk_frozen BK684.out 1
        have hfz45_2 := blk_frozen BK684.out 2
        have p705 : 0 ≤ ((ji39) : Int) := of_decide_eq_true (asm_ (p := _))
        have q705 : (ji39) < (l0_1.length : Int) := of_decide_eq_true (asm_ (p := _))
        obtain ⟨ad705, e705, hx705_0⟩ := Kd.at_int HR0_1.out (ji39) p705 q705
        cases e705
        replace hx705_0 := (HB.out.cell (World.block_lt_of_cell? w _ hx705_0)).trans hx705_0
        replace p705 := eq_true p705
        replace q705 := eq_true q705
        go_wp2_with (first | ((with_reducible refine gate_callee (f := 21) rfl ?_); refine goesL_ (some 34) rfl rfl Try.func21 (by kernel_rfl) rfl #[.agg #[.slice A0_0 l0_0.length c0_0, .slice (some ad705) l0_1.length c0_1, .slice A0_2 l0_2.length c0_2], .int .i64 (rd l0_1 (ji39))] rfl (by (try simp only [List.map_toArray, List.map_cons, List.map_nil]); first | done | (simp only [hji39]; rfl) | rfl | (simp only [List.length_drop, List.length_take]; rfl)) ?_; (with_reducible refine (headgateref07_Remove.calls kj2 _ _ l0_0 _ _ l0_1 _ _ l0_2 (rd l0_1 (ji39)) t706 t709 t712 t715 _ ?side1 ?side2 ?side3 ?side4 ?side5 ?side6 A42.out).mono ?_); (case side1 => exact upc (Kd.C_below HR0_0.out HB.out)); (case side2 => exact HC0_0.out); (case side3 => exact upc (Kd.C_below HR0_1.out HB.out)); (case side4 => exact HC0_1.out); (case side5 => exact upc (Kd.C_below HR0_2.out HB.out)); (case side6 => exact HC0_2.out); rintro e w46 ⟨v707, v710, v713, rfl, ho0, ho1, ho2, hb⟩; refine ⟨_, rfl, ?_⟩; have n0_ := Aside0.mk (Kd.R_lower ho0 (below_size (upH HB))); have n1_ := Aside0.mk (Kd.R_lower ho1 (below_size (upH HB))); have n2_ := Aside0.mk (Kd.R_lower ho2 (below_size (upH HB))); have n3_ := Aside0.mk (blkB BK684 hb); have n4_ := Aside0.mk (blkB BK685 hb); have n5_ := Aside0.mk (below_step (upH HB) hb); clear BK684; clear BK685; clear HB; have HO708 := n0_; have HO711 := n1_; have HO714 := n2_; have BK684 := n3_; have BK685 := n4_; have HB := n5_; clear n0_ n1_ n2_ n3_ n4_ n5_; (try clear hb); (try clear hb2); (try clear hk); (try clear hi); (try clear ho0); (try clear ho1); (try clear ho2)) | ((with_reducible refine gate_dst (N := 7) rfl ?_); (try (refine gate_guard (by rfl) ?_; dsimp only)); refine box_event ?hg (N := 7) ?hd (cs := #[.slice none 0 0, .slice none 0 0, .slice none 0 0]) (t := 25) ?hr ?_; (case hd => rfl); (case hg => rfl); (case hr => first | (go_simp; done) | (go_simp; rfl)); intro gb716 hg w47 hbox hb; have n0_ := Aside0.mk (Kd.R_below (upR HO708.out) hb); have n1_ := Aside0.mk (Kd.R_below (upR HO711.out) hb); have n2_ := Aside0.mk (Kd.R_below (upR HO714.out) hb); have n3_ := Aside0.mk (blkB BK684 hb); have n4_ := Aside0.mk (blkB BK685 hb); have n5_ := Aside0.mk (below_step (upH HB) hb); have n6_ := Aside0.mk (hbox); have n7_ := Aside0.mk ((by rw [hg]; exact (below_size (upH HB)) : w.heap.size ≤ gb716)); have n8_ := Aside0.mk ((by rw [hg]; exact (below_size (upH HB)) : w.heap.size ≤ gb716)); have n9_ := Aside0.mk ((by rw [hg]; exact Nat.ne_of_lt (blk_lt (g := gb684) (o := .cells #[.slice A0_0 l0_0.length c0_0, .slice (some ad705) l0_1.length c0_1, .slice A0_2 l0_2.length c0_2] 25 (0, 0)) (upB BK684)) : gb684 ≠ gb716)); have n10_ := Aside0.mk ((by rw [hg]; exact Nat.ne_of_gt (blk_lt (g := gb684) (o := .cells #[.slice A0_0 l0_0.length c0_0, .slice (some ad705) l0_1.length c0_1, .slice A0_2 l0_2.length c0_2] 25 (0, 0)) (upB BK684)) : gb716 ≠ gb684)); have n11_ := Aside0.mk ((by rw [hg]; exact Nat.ne_of_lt (blk_lt (g := gb685) (o := .cells #[.slice none 0 0, .slice none 0 0, .slice none 0 0] 25 (0, 0)) (upB BK685)) : gb685 ≠ gb716)); have n12_ := Aside0.mk ((by rw [hg]; exact Nat.ne_of_gt (blk_lt (g := gb685) (o := .cells #[.slice none 0 0, .slice none 0 0, .slice none 0 0] 25 (0, 0)) (upB BK685)) : gb716 ≠ gb685)); clear HO708; clear HO711; clear HO714; clear BK684; clear BK685; clear HB; have HO708 := n0_; have HO711 := n1_; have HO714 := n2_; have BK684 := n3_; have BK685 := n4_; have HB := n5_; have BK716 := n6_; have GW716 := n7_; have GE716 := n8_; have NB684_716 := n9_; have NB716_684 := n10_; have NB685_716 := n11_; have NB716_685 := n12_; clear n0_ n1_ n2_ n3_ n4_ n5_ n6_ n7_ n8_ n9_ n10_ n11_ n12_; clear hb hbox hg; obtain ⟨Ao48, co48, eo48⟩ := Kd.R_slice HO708.out; subst eo48; have hnb49 := NB716_684.out; have hnc49 := NB684_716.out; have hnb50 := NB716_685.out; have hnc50 := NB685_716.out; have hcz51_0 := cell0 BK716; have hcz51_1 := cell1 BK716; have hcz51_2 := cell2 BK716; have hfz51_0 := blk_frozen BK716.out 0; have hfz51_1 := blk_frozen BK716.out 1; have hfz51_2 := blk_frozen BK716.out 2; obtain ⟨Ao52, co52, eo52⟩ := Kd.R_slice HO711.out; subst eo52; obtain ⟨Ao53, co53, eo53⟩ := Kd.R_slice HO714.out; subst eo53) | ((with_reducible refine gate_dst (N := 38) rfl ?_); (try (refine gate_guard (by rfl) ?_; dsimp only)); refine Kd.R_lit (Kd.int .i64) _ 3 ?hg (N := 38) ?hd (xs := ([rd l0_1 (ji39)] : List Int)) (inner := [.int .i64 (rd l0_1 (ji39))]) (ok := fun _ => True) (okp := fun _ => True) ?hr ?hp (fun _ hk => hk) trivial (Below.refl _ _) (Nat.le_refl _) (by simp) ?_; (case hd => rfl); (case hg => rfl); (case hr => first | (go_simp; done) | (go_simp; rfl)); (case hp => exact (Reps.one (show Kd.M (Kd.int .i64) _ _ _ (rd l0_1 (ji39)) [.int .i64 (rd l0_1 (ji39))] from rfl) (Reps.none _ _))); intro v718 w54 ho55 hb hg_ hnew_; clear hg_ hnew_; (first | rw [← Ny717.out] at ho55 | (simp only [Int.reduceToNat] at ho55; rw [← Ny717.out] at ho55)); have n0_ := Aside0.mk (Kd.R_elder' (upR (Kd.R_mono (far3 HO708.out BK716) (fun _ h_ => h_.1))) (Kd.R_base ho55) hb); have n1_ := Aside0.mk (Kd.R_elder' (upR (Kd.R_mono (far3 HO711.out BK716) (fun _ h_ => h_.1))) (Kd.R_base ho55) hb); have n2_ := Aside0.mk (Kd.R_below (upR (Kd.R_mono (far3 HO714.out BK716) (fun _ h_ => h_.1))) hb); have n3_ := Aside0.mk (Kd.R_lower (Kd.R_new' (Kd.R_new' ho55 (Kd.R_lt (upR (Kd.R_mono (far3 HO708.out BK716) (fun _ h_ => h_.1))))) (Kd.R_lt (upR (Kd.R_mono (far3 HO711.out BK716) (fun _ h_ => h_.1))))) (below_size (upH HB))); have n4_ := Aside0.mk (blk_below (g := gb684) (o := .cells #[.slice A0_0 l0_0.length c0_0, .slice (some ad705) l0_1.length c0_1, .slice A0_2 l0_2.length c0_2] 25 (0, 0)) (by (with_reducible repeat (first | refine blk_drewN ?_ _ | refine blk_drew ?_ | refine blk_alloc ?_ _)); refine blk_far ?_ NB684_716.out _; (with_reducible repeat (first | refine blk_drewN ?_ _ | refine blk_drew ?_ | refine blk_alloc ?_ _)); refine blk_far ?_ NB684_716.out _; (with_reducible repeat (first | refine blk_drewN ?_ _ | refine blk_drew ?_ | refine blk_alloc ?_ _)); refine blk_far ?_ NB684_716.out _; (with_reducible repeat (first | refine blk_drewN ?_ _ | refine blk_drew ?_ | refine blk_alloc ?_ _)); exact BK684.out) hb); have n5_ := Aside0.mk (blk_below (g := gb685) (o := .cells #[.slice none 0 0, .slice none 0 0, .slice none 0 0] 25 (0, 0)) (by (with_reducible repeat (first | refine blk_drewN ?_ _ | refine blk_drew ?_ | refine blk_alloc ?_ _)); refine blk_far ?_ NB685_716.out _; (with_reducible repeat (first | refine blk_drewN ?_ _ | refine blk_drew ?_ | refine blk_alloc ?_ _)); refine blk_far ?_ NB685_716.out _; (with_reducible repeat (first | refine blk_drewN ?_ _ | refine blk_drew ?_ | refine blk_alloc ?_ _)); refine blk_far ?_ NB685_716.out _; (with_reducible repeat (first | refine blk_drewN ?_ _ | refine blk_drew ?_ | refine blk_alloc ?_ _)); exact BK685.out) hb); have n6_ := Aside0.mk (blk_below (g := gb716) (o := .cells #[.slice Ao48 t706.length co48, .slice Ao52 t709.length co52, .slice Ao53 t712.length co53] 25 (0, 0)) (by (with_reducible repeat (first | refine blk_drewN ?_ _ | refine blk_drew ?_ | refine blk_alloc ?_ _)); refine blk_put (cs := #[.slice Ao48 t706.length co48, .slice Ao52 t709.length co52, .slice none 0 0]) ?_ 2 _ rfl; (with_reducible repeat (first | refine blk_drewN ?_ _ | refine blk_drew ?_ | refine blk_alloc ?_ _)); refine blk_put (cs := #[.slice Ao48 t706.length co48, .slice none 0 0, .slice none 0 0]) ?_ 1 _ rfl; (with_reducible repeat (first | refine blk_drewN ?_ _ | refine blk_drew ?_ | refine blk_alloc ?_ _)); refine blk_put (cs := #[.slice none 0 0, .slice none 0 0, .slice none 0 0]) ?_ 0 _ rfl; (with_reducible repeat (first | refine blk_drewN ?_ _ | refine blk_drew ?_ | refine blk_alloc ?_ _)); exact BK716.out) hb); have n7_ := Aside0.mk (below_step (upH HB) hb); clear HO708; clear HO711; clear HO714; clear BK684; clear BK685; clear BK716; clear HB; have HO708 := n0_; have HO711 := n1_; have HO714 := n2_; have HO719 := n3_; have BK684 := n4_; have BK685 := n5_; have BK716 := n6_; have HB := n7_; clear n0_ n1_ n2_ n3_ n4_ n5_ n6_ n7_; clear hb ho55; have hcz56_0 := cell0 BK716; have hcz56_1 := cell1 BK716; have hcz56_2 := cell2 BK716; have hfz56_0 := blk_frozen BK716.out 0; have hfz56_1 := blk_frozen BK716.out 1; have hfz56_2 := blk_frozen BK716.out 2) | ((with_reducible refine gate_builtin (b := .append) (xs := #[.tmp 38, .tmp 40]) rfl ?_); (try (refine gate_guard (by rfl) ?_; dsimp only)); at_builtin; refine Kd.R_append_rows (Kd.int .i64) (w0 := w) w.heap.size rfl (.tmp 38) (.tmp 40) 22 3 (.int .i64 0) 8 rfl Try.underlying22 info3 rfl (by decide) (by omega) v718 y717 t706 _ _ _ (fun k_ => some k_ ≠ (.slice Ao48 t706.length co48 : Value).ownBlock ∧ some k_ ≠ (.slice Ao52 t709.length co52 : Value).ownBlock) (fun _ => False) rfl rfl ?aO ?aR (fun _ _ h => h) (fun _ h => h.elim) ?aF ?aB ?aS ?aL ?_; (case aR => repeat (first | exact (Kd.R_reads' HO708.out).2.2 | (with_reducible refine Kd.C_alloc ?_ _) | (with_reducible refine Kd.C_drewN ?_ _) | (with_reducible refine Kd.C_drew ?_))); (case aB => exact (upH HB)); (case aF => exact (fun k_ hk => ⟨Kd.fresh' (Kd.R_lt (upR HO708.out)) k_ hk, Kd.fresh' (Kd.R_lt (upR HO711.out)) k_ hk⟩)); (case aO => exact (by (with_reducible repeat (first | apply Kd.R_alloc | apply Kd.R_drewN | apply Kd.R_drew)); exact Kd.R_mono HO719.out (fun _ hk => ⟨hk.1.2, hk.2⟩))); (case aS => exact (below_size (upH HB))); (case aL => have := LMc43.out; omega); intro v721 w57 ho hb hg hat; rw [← Ny720.out] at ho; have n0_ := Aside0.mk (blk_grown (g := gb684) (o := .cells #[.slice A0_0 l0_0.length c0_0, .slice (some ad705) l0_1.length c0_1, .slice A0_2 l0_2.length c0_2] 25 (0, 0)) (upB BK684) hg (Kd.R_ne HO719.out BK684.out (by decide))); have n1_ := Aside0.mk (blk_grown (g := gb685) (o := .cells #[.slice none 0 0, .slice none 0 0, .slice none 0 0] 25 (0, 0)) (upB BK685) hg (Kd.R_ne HO719.out BK685.out (by decide))); have n2_ := Aside0.mk (Kd.R_after (ok := (fun k_ => some k_ ≠ (.slice Ao52 t709.length co52 : Value).ownBlock)) (upR HO708.out) hg hat); have n3_ := Aside0.mk (Kd.R_after (ok := (fun k_ => some k_ ≠ (.slice Ao48 t706.length co48 : Value).ownBlock)) (upR HO711.out) hg hat); have n4_ := Aside0.mk (Kd.R_over' (upR HO714.out) (Kd.R_typed (upR HO719.out)) (by decide) hg); have n5_ := Aside0.mk (blk_grown (g := gb716) (o := .cells #[.slice Ao48 t706.length co48, .slice Ao52 t709.length co52, .slice Ao53 t712.length co53] 25 (0, 0)) (upB BK716) hg (Kd.R_ne HO719.out BK716.out (by decide))); have n6_ := Aside0.mk (hb); have n7_ := Aside0.mk (ho); clear BK684; clear BK685; clear HO708; clear HO711; clear HO714; clear BK716; clear HB; clear HO719; have BK684 := n0_; have BK685 := n1_; have HO708 := n2_; have HO711 := n3_; have HO714 := n4_; have BK716 := n5_; have HB := n6_; have HO722 := n7_; clear n0_ n1_ n2_ n3_ n4_ n5_ n6_ n7_; clear ho hb hg hat; obtain ⟨Ao58, co58, eo58⟩ := Kd.R_slice HO722.out; subst eo58; have hcz59_0 := cell0 BK716; have hcz59_1 := cell1 BK716; have hcz59_2 := cell2 BK716; have hfz59_0 := blk_frozen BK716.out 0; have hfz59_1 := blk_frozen BK716.out 1; have hfz59_2 := blk_frozen BK716.out 2; have hcz60_0 := cell0 BK685; have hcz60_1 := cell1 BK685; have hcz60_2 := cell2 BK685; have hfz60_0 := blk_frozen BK685.out 0; have hfz60_1 := blk_frozen BK685.out 1; have hfz60_2 := blk_frozen BK685.out 2))
        refine bodyPost_ret (results_ctt rfl _ _ gb685 25 #[.slice Ao58 y720.length co58, .slice Ao52 t709.length co52, .slice Ao53 t712.length co53] (0, 0) _ rfl (by (with_reducible repeat (first | refine blk_drewN ?_ _ | refine blk_drew ?_ | refine blk_alloc ?_ _)); refine blk_put (cs := #[.slice Ao58 y720.length co58, .slice Ao52 t709.length co52, .slice none 0 0]) ?_ 2 _ rfl; (with_reducible repeat (first | refine blk_drewN ?_ _ | refine blk_drew ?_ | refine blk_alloc ?_ _)); refine blk_put (cs := #[.slice Ao58 y720.length co58, .slice none 0 0, .slice none 0 0]) ?_ 1 _ rfl; (with_reducible repeat (first | refine blk_drewN ?_ _ | refine blk_drew ?_ | refine blk_alloc ?_ _)); refine blk_put (cs := #[.slice none 0 0, .slice none 0 0, .slice none 0 0]) ?_ 0 _ rfl; (with_reducible repeat (first | refine blk_drewN ?_ _ | refine blk_drew ?_ | refine blk_alloc ?_ _)); refine blk_far ?_ NB685_716.out _; (with_reducible repeat (first | refine blk_drewN ?_ _ | refine blk_drew ?_ | refine blk_alloc ?_ _)); exact BK685.out) Try.underlying25 rfl (by kernel_rfl)) rfl ?_
        exact ⟨_, _, _, by first | rfl | (simp [errW_none, errW_some] <;> rfl) | (simp only [← hji39]; first | rfl | (simp [errW_none, errW_some] <;> rfl)) | (simp [*, errW_none, errW_some] <;> rfl), by (with_reducible repeat (first | apply Kd.R_alloc | apply Kd.R_drewN | apply Kd.R_drew)); exact Kd.R_mono (Kd.R_far (p := ⟨gb685, 2, none⟩) (Kd.R_far (p := ⟨gb685, 1, none⟩) (Kd.R_far (p := ⟨gb685, 0, none⟩) (Kd.R_far (p := ⟨gb716, 0, none⟩) (Kd.R_types (Kd.R_types HO722.out BK716.out (by decide)) BK685.out (by decide)) (fun _ hk => hk.1.2) (.slice Ao58 y720.length co58)) (fun _ hk => hk.2) (.slice Ao58 y720.length co58)) (fun _ hk => hk.2) (.slice Ao52 t709.length co52)) (fun _ hk => hk.2) (.slice Ao53 t712.length co53)) (fun _ hk => hk.1.1.2), by (with_reducible repeat (first | apply Kd.R_alloc | apply Kd.R_drewN | apply Kd.R_drew)); exact Kd.R_mono (Kd.R_far (p := ⟨gb685, 2, none⟩) (Kd.R_far (p := ⟨gb685, 1, none⟩) (Kd.R_far (p := ⟨gb685, 0, none⟩) (Kd.R_far (p := ⟨gb716, 0, none⟩) (Kd.R_types (Kd.R_types HO711.out BK716.out (by decide)) BK685.out (by decide)) (fun _ hk => hk.1.2) (.slice Ao58 y720.length co58)) (fun _ hk => hk.2) (.slice Ao58 y720.length co58)) (fun _ hk => hk.2) (.slice Ao52 t709.length co52)) (fun _ hk => hk.2) (.slice Ao53 t712.length co53)) (fun _ hk => hk.1.1.2), by (with_reducible repeat (first | apply Kd.R_alloc | apply Kd.R_drewN | apply Kd.R_drew)); exact Kd.R_mono (Kd.R_far (p := ⟨gb685, 2, none⟩) (Kd.R_far (p := ⟨gb685, 1, none⟩) (Kd.R_far (p := ⟨gb685, 0, none⟩) (Kd.R_far (p := ⟨gb716, 0, none⟩) (Kd.R_types (Kd.R_types HO714.out BK716.out (by decide)) BK685.out (by decide)) (fun _ hk => hk.1.2) (.slice Ao58 y720.length co58)) (fun _ hk => hk.2) (.slice Ao58 y720.length co58)) (fun _ hk => hk.2) (.slice Ao52 t709.length co52)) (fun _ hk => hk.2) (.slice Ao53 t712.length co53)) (fun _ hk => trivial), by repeat (first | (with_reducible first | exact HB.out | apply below_alloc | apply pw_below_drewN | apply below_drew1 | refine below_set ?_ GE684.out | refine below_set ?_ GE685.out | refine below_set ?_ GE716.out) | exact HB.out)⟩
       ·
        rw [if_neg c43] at H
        exact absurd H (by simp)
      ·
       rw [if_neg c41] at H
       exact absurd H (by simp)
     ·
      rw [if_neg c40] at H
      exact absurd H (by simp)
    ·
     rw [if_neg c38] at H
     have c38b0 : (t686 == 0) = false := beq_eq_false_iff_ne.mpr c38
     have c38b1 : (t686 != 0) = true := bne_iff_ne.mpr c38
     simp only [Option.some.injEq, Prod.mk.injEq] at H
     obtain ⟨rfl, rfl, rfl, rfl, rfl⟩ := H
     have hnb61 := NB685_684.out
     have hnc61 := NB684_685.out
     have hcz62_0 := cell0 BK685
     have hcz62_1 := cell1 BK685
     have hcz62_2 := cell2 BK685
     have hfz62_0 := blk_frozen BK685.out 0
     have hfz62_1 := blk_frozen BK685.out 1
     have hfz62_2 := blk_frozen BK685.out 2
     go_wp2
     refine bodyPost_ret (results_ctt rfl _ _ gb685 25 #[.slice none 0 0, .slice none 0 0, .slice none 0 0] (0, 0) _ rfl (by (with_reducible repeat (first | refine blk_drewN ?_ _ | refine blk_drew ?_ | refine blk_alloc ?_ _)); refine blk_put (cs := #[.slice none 0 0, .slice none 0 0, .slice none 0 0]) ?_ 2 _ rfl; (with_reducible repeat (first | refine blk_drewN ?_ _ | refine blk_drew ?_ | refine blk_alloc ?_ _)); refine blk_put (cs := #[.slice none 0 0, .slice none 0 0, .slice none 0 0]) ?_ 1 _ rfl; (with_reducible repeat (first | refine blk_drewN ?_ _ | refine blk_drew ?_ | refine blk_alloc ?_ _)); refine blk_put (cs := #[.slice none 0 0, .slice none 0 0, .slice none 0 0]) ?_ 0 _ rfl; (with_reducible repeat (first | refine blk_drewN ?_ _ | refine blk_drew ?_ | refine blk_alloc ?_ _)); exact BK685.out) Try.underlying25 rfl (by kernel_rfl)) rfl ?_
     exact ⟨_, _, _, by first | rfl | (simp [errW_none, errW_some] <;> rfl) | (simp [*, errW_none, errW_some] <;> rfl), by first | exact Kd.R_nil _ _ _ _ _ | exact Kd.N_nil _ _ _ _ _ | exact Kd.V_nil _ _ _ _ _ | exact Kd.Q_nil _ _ _ _ _ | exact Kd.S_nil _ _ _ _ _, by first | exact Kd.R_nil _ _ _ _ _ | exact Kd.N_nil _ _ _ _ _ | exact Kd.V_nil _ _ _ _ _ | exact Kd.Q_nil _ _ _ _ _ | exact Kd.S_nil _ _ _ _ _, by first | exact Kd.R_nil _ _ _ _ _ | exact Kd.N_nil _ _ _ _ _ | exact Kd.V_nil _ _ _ _ _ | exact Kd.Q_nil _ _ _ _ _ | exact Kd.S_nil _ _ _ _ _, by repeat (first | (with_reducible first | exact HB.out | apply below_alloc | apply pw_below_drewN | apply below_drew1 | refine below_set ?_ GE684.out | refine below_set ?_ GE685.out) | exact HB.out)⟩

end Go.Proofs.Ytaofihdmgdpenaa.X

namespace Go.Proofs.Ytaofihdmgdpenaa.X
open Go.RowKit Go.Proofs.YtaofihdmgdpenaaW.PrintWords Go.Proofs.YtaofihdmgdpenaaW.PrintLast Go.Proofs.YtaofihdmgdpenaaW.PrintMore
attribute [local go_sem] max2_int min2_int max_two min_two max_three min_three max_four min_four   -- for this text's walks alone
set_option linter.unusedVariables false
set_option linter.unusedSimpArgs false

/-! ### headgateref07_Order: function 41 -/
def headgateref07_Order.l0 : Nat → List Int → List Int → List Int → List Bool → Option (List Int × Int)
 | 0, _, _, _, _ => none
 | k + 1, x5, x724000, x724001, x724002 => (headgateref07_Last.f x724000 x724001 x724002).bind fun bt725 => (if bt725.2 = 0 then (if x5.length < 17592186044416 then ((headgateref07_Remove.f k x724000 x724001 x724002 bt725.1).bind fun bt730 => (headgateref07_Order.l0 k (x5 ++ [bt725.1]) bt730.1 bt730.2.1 bt730.2.2.1)) else (none)) else (some (x5, 0)))
def headgateref07_Order.f (k : Nat) (l0_0 : List Int) (l0_1 : List Int) (l0_2 : List Bool) : Option (List Int × Int) := (headgateref07_Check.f l0_0 l0_1 l0_2).bind fun t724 => (if t724 = 0 then (headgateref07_Order.l0 k ([] : List Int) l0_0 l0_1 l0_2) else (some (([] : List Int), t724)))
theorem headgateref07_Order.mono_l : ∀ k, (∀ y0 y1 y2 y3, LeO (headgateref07_Order.l0 k y0 y1 y2 y3) (headgateref07_Order.l0 (k + 1) y0 y1 y2 y3))
 | 0 => fun _ _ _ _ r h => by simp [headgateref07_Order.l0] at h
 | k + 1 => by
  have ih0 := headgateref07_Order.mono_l k
  ·
   intro y0 y1 y2 y3
   unfold headgateref07_Order.l0
   repeat' first
   | (with_reducible exact ih0 _ _ _ _)
   | (with_reducible exact headgateref07_Remove.mono _ _ _ _ _)
   | (with_reducible exact LeO.refl _)
   | (with_reducible exact LeO.none _)
   | (with_reducible refine LeO.ite ?_ ?_)
   | (with_reducible refine LeO.bind ?_ (fun _ => ?_))
   | exact ih0 _ _ _ _
   | exact headgateref07_Remove.mono _ _ _ _ _
   | exact LeO.none _
   | refine LeO.ite ?_ ?_
   | refine LeO.bind ?_ (fun _ => ?_)
theorem headgateref07_Order.mono : ∀ a0 a1 a2 k, LeO (headgateref07_Order.f k a0 a1 a2) (headgateref07_Order.f (k + 1) a0 a1 a2) := by
 intro a0 a1 a2 k
 have ih0 := headgateref07_Order.mono_l k
 unfold headgateref07_Order.f
 repeat' first
   | (with_reducible exact ih0 _ _ _ _)
   | (with_reducible exact headgateref07_Remove.mono _ _ _ _ _)
   | (with_reducible exact LeO.refl _)
   | (with_reducible exact LeO.none _)
   | (with_reducible refine LeO.ite ?_ ?_)
   | (with_reducible refine LeO.bind ?_ (fun _ => ?_))
   | exact ih0 _ _ _ _
   | exact headgateref07_Remove.mono _ _ _ _ _
   | exact LeO.none _
   | refine LeO.ite ?_ ?_
   | refine LeO.bind ?_ (fun _ => ?_)
set_option maxHeartbeats 2000000 in
set_option maxRecDepth 100000 in
theorem headgateref07_Order.calls (k : Nat) (P0_0_ : Nat → Prop) (A0_0 : Option Addr) (c0_0 : Nat) (l0_0 : List Int) (P0_1_ : Nat → Prop) (A0_1 : Option Addr) (c0_1 : Nat) (l0_1 : List Int) (P0_2_ : Nat → Prop) (A0_2 : Option Addr) (c0_2 : Nat) (l0_2 : List Bool) (r1 : List Int) (r2 : Int) (w : World) (hs0_0 : Kd.V (Kd.int .i64) 3 w w.heap.size (fun k_ => P0_0_ k_) (.slice A0_0 l0_0.length c0_0) l0_0) (hs0_1 : Kd.V (Kd.int .i64) 3 w w.heap.size (fun k_ => P0_1_ k_) (.slice A0_1 l0_1.length c0_1) l0_1) (hs0_2 : Kd.V Kd.bool 4 w w.heap.size (fun k_ => P0_2_ k_) (.slice A0_2 l0_2.length c0_2) l0_2) (h : headgateref07_Order.f k l0_0 l0_1 l0_2 = some (r1, r2)) :
  Calls Try.prog 41 #[.agg #[.slice A0_0 l0_0.length c0_0, .slice A0_1 l0_1.length c0_1, .slice A0_2 l0_2.length c0_2]] w fun e w' => ∃ v0_ : Value, e = .returned (.tuple #[v0_, .int .i64 r2]) ∧ Kd.R (Kd.int .i64) 3 w' w.heap.size (fun k_ => (w.heap.size ≤ k_)) v0_ r1 ∧ Below w.heap.size w w' := by
 have hu25 := Try.underlying25
 have HO0_0 := Aside0.mk (show Kd.V (Kd.int .i64) 3 w w.heap.size (fun k_ => ((P0_0_ k_ ∨ P0_1_ k_ ∨ P0_2_ k_) ∨ w.heap.size ≤ k_)) (.slice A0_0 l0_0.length c0_0) l0_0 from Kd.V_mono hs0_0 (fun k_ hk => .inl (.inl hk)))
 have HO0_1 := Aside0.mk (show Kd.V (Kd.int .i64) 3 w w.heap.size (fun k_ => ((P0_0_ k_ ∨ P0_1_ k_ ∨ P0_2_ k_) ∨ w.heap.size ≤ k_)) (.slice A0_1 l0_1.length c0_1) l0_1 from Kd.V_mono hs0_1 (fun k_ hk => .inl (.inr (.inl hk))))
 have HO0_2 := Aside0.mk (show Kd.V Kd.bool 4 w w.heap.size (fun k_ => ((P0_0_ k_ ∨ P0_1_ k_ ∨ P0_2_ k_) ∨ w.heap.size ≤ k_)) (.slice A0_2 l0_2.length c0_2) l0_2 from Kd.V_mono hs0_2 (fun k_ hk => .inl (.inr (.inr hk))))
 have HB := Aside0.mk (Below.refl w.heap.size w)
 have H : ((headgateref07_Check.f l0_0 l0_1 l0_2).bind fun t724 => (if t724 = 0 then (headgateref07_Order.l0 k ([] : List Int) l0_0 l0_1 l0_2) else (some (([] : List Int), t724)))) = some (r1, r2) := h
 clear h
 replace H := Option.bind_eq_some_iff.mp H
 obtain ⟨t724, A20, H⟩ := H
 replace H : (if t724 = 0 then (headgateref07_Order.l0 k ([] : List Int) l0_0 l0_1 l0_2) else (some (([] : List Int), t724))) = some (r1, r2) := H
 have A2 := Aside0.mk A20
 clear A20
 by_cases c3 : t724 = 0
 ·
  rw [if_pos c3] at H
  have c3b0 : (t724 == 0) = true := beq_iff_eq.mpr c3
  have c3b1 : (t724 != 0) = false := bne_eq_false_iff_eq.mpr c3
  clear c3
  have H' := Aside0.mk H
  clear H
  go_enter Try.func41, Try.ntmps41
  go_wp2_with (first | ((with_reducible refine gate_dst (N := 1) rfl ?_); refine box_event ?hg (N := 1) ?hd (cs := #[.slice A0_0 l0_0.length c0_0, .slice A0_1 l0_1.length c0_1, .slice A0_2 l0_2.length c0_2]) (t := 25) ?hr ?_; (case hd => rfl); (case hg => rfl); (case hr => first | (go_simp; done) | (go_simp; rfl)); intro gb723 hg w4 hbox hb; have n0_ := Aside0.mk (Kd.V_below (Kd.V_elderB (upV HO0_0.out) gb723 (Nat.le_of_eq hg.symm)) hb); have n1_ := Aside0.mk (Kd.V_below (Kd.V_elderB (upV HO0_1.out) gb723 (Nat.le_of_eq hg.symm)) hb); have n2_ := Aside0.mk (Kd.V_below (Kd.V_elderB (upV HO0_2.out) gb723 (Nat.le_of_eq hg.symm)) hb); have n3_ := Aside0.mk (below_step (upH HB) hb); have n4_ := Aside0.mk (hbox); have n5_ := Aside0.mk ((by rw [hg]; exact (below_size (upH HB)) : w.heap.size ≤ gb723)); have n6_ := Aside0.mk ((by rw [hg]; exact (below_size (upH HB)) : w.heap.size ≤ gb723)); clear HO0_0; clear HO0_1; clear HO0_2; clear HB; have HO0_0 := n0_; have HO0_1 := n1_; have HO0_2 := n2_; have HB := n3_; have BK723 := n4_; have GW723 := n5_; have GE723 := n6_; clear n0_ n1_ n2_ n3_ n4_ n5_ n6_; clear hb hbox hg; have hcz5_0 := cell0 BK723; have hcz5_1 := cell1 BK723; have hcz5_2 := cell2 BK723; have hfz5_0 := blk_frozen BK723.out 0; have hfz5_1 := blk_frozen BK723.out 1; have hfz5_2 := blk_frozen BK723.out 2) | ((with_reducible refine gate_callee (f := 17) rfl ?_); refine goesL_ (some 9) rfl rfl Try.func17 (by kernel_rfl) rfl #[.agg #[.slice A0_0 l0_0.length c0_0, .slice A0_1 l0_1.length c0_1, .slice A0_2 l0_2.length c0_2]] rfl (args_ (p := _)) ?_; (with_reducible refine (headgateref07_Check.calls _ _ l0_0 _ _ l0_1 _ _ l0_2 t724 _ ?side1 ?side2 ?side3 ?side4 ?side5 ?side6 A2.out).mono ?_); (case side1 => exact upc (Kd.V_reads' HO0_0.out).2.2); (case side2 => exact (Kd.V_reads' HO0_0.out).2.1); (case side3 => exact upc (Kd.V_reads' HO0_1.out).2.2); (case side4 => exact (Kd.V_reads' HO0_1.out).2.1); (case side5 => exact upc (Kd.V_reads' HO0_2.out).2.2); (case side6 => exact (Kd.V_reads' HO0_2.out).2.1); rintro e w6 ⟨rfl, hb⟩; refine ⟨_, rfl, ?_⟩; have n0_ := Aside0.mk (Kd.V_below (upV HO0_0.out) hb); have n1_ := Aside0.mk (Kd.V_below (upV HO0_1.out) hb); have n2_ := Aside0.mk (Kd.V_below (upV HO0_2.out) hb); have n3_ := Aside0.mk (blkB BK723 hb); have n4_ := Aside0.mk (below_step (upH HB) hb); clear HO0_0; clear HO0_1; clear HO0_2; clear BK723; clear HB; have HO0_0 := n0_; have HO0_1 := n1_; have HO0_2 := n2_; have BK723 := n3_; have HB := n4_; clear n0_ n1_ n2_ n3_ n4_; (try clear hb); (try clear hb2); (try clear hk); (try clear hi)))
  go_loopg [5] k (fun kq v5 w' => ∃ (x5_1 : List Int) (x724000_1 : List Int) (x724001_1 : List Int) (x724002_1 : List Bool) (u724000 : Value) (u724001 : Value) (u724002 : Value), Aside0 (headgateref07_Order.l0 kq x5_1 x724000_1 x724001_1 x724002_1 = some (r1, r2)) ∧ Aside0 (kq ≤ k) ∧ Aside0 (Kd.R (Kd.int .i64) 3 w' w.heap.size (fun k_ => (w.heap.size ≤ k_)) v5 x5_1) ∧ Aside0 (Kd.V (Kd.int .i64) 3 w' w.heap.size (fun k_ => ((P0_0_ k_ ∨ P0_1_ k_ ∨ P0_2_ k_) ∨ w.heap.size ≤ k_) ∧ some k_ ≠ (v5 : Value).ownBlock ∧ k_ ≠ gb723) u724000 x724000_1) ∧ Aside0 (Kd.V (Kd.int .i64) 3 w' w.heap.size (fun k_ => ((P0_0_ k_ ∨ P0_1_ k_ ∨ P0_2_ k_) ∨ w.heap.size ≤ k_) ∧ some k_ ≠ (v5 : Value).ownBlock ∧ k_ ≠ gb723) u724001 x724001_1) ∧ Aside0 (Kd.V Kd.bool 4 w' w.heap.size (fun k_ => ((P0_0_ k_ ∨ P0_1_ k_ ∨ P0_2_ k_) ∨ w.heap.size ≤ k_) ∧ some k_ ≠ (v5 : Value).ownBlock ∧ k_ ≠ gb723) u724002 x724002_1) ∧ Aside0 (w'.heap[gb723]? = some (.cells #[u724000, u724001, u724002] 25 (0, 0))) ∧ Aside0 (Below w.heap.size w w'))
  case atStart => exact ⟨(([] : List Int)), (l0_0), (l0_1), (l0_2), (.slice A0_0 l0_0.length c0_0), (.slice A0_1 l0_1.length c0_1), (.slice A0_2 l0_2.length c0_2), H', ⟨Nat.le_refl _⟩, ⟨by first | exact Kd.R_nil _ _ _ _ _ | exact Kd.N_nil _ _ _ _ _ | exact Kd.V_nil _ _ _ _ _ | exact Kd.Q_nil _ _ _ _ _ | exact Kd.S_nil _ _ _ _ _⟩, ⟨by (with_reducible repeat (first | apply Kd.V_alloc | apply Kd.V_drewN | apply Kd.V_drew)); exact Kd.V_mono HO0_0.out (fun _ hk => ⟨hk.1, ⟨(by simp [Value.ownBlock]), hk.2⟩⟩)⟩, ⟨by (with_reducible repeat (first | apply Kd.V_alloc | apply Kd.V_drewN | apply Kd.V_drew)); exact Kd.V_mono HO0_1.out (fun _ hk => ⟨hk.1, ⟨(by simp [Value.ownBlock]), hk.2⟩⟩)⟩, ⟨by (with_reducible repeat (first | apply Kd.V_alloc | apply Kd.V_drewN | apply Kd.V_drew)); exact Kd.V_mono HO0_2.out (fun _ hk => ⟨hk.1, ⟨(by simp [Value.ownBlock]), hk.2⟩⟩)⟩, ⟨upB BK723⟩, ⟨upH HB⟩⟩
  case round =>
   clear H'
   try clear c1
   try clear p2
   try clear c3
   try clear c3b0
   try clear c3b1
   try clear c4
   try clear hcz5_0
   try clear hcz5_1
   try clear hcz5_2
   try clear hfz5_0
   try clear hfz5_1
   try clear hfz5_2
   obtain ⟨x5_1, x724000_1, x724001_1, x724002_1, u724000, u724001, u724002, HA, HK1, HO_5, HO_724000, HO_724001, HO_724002, BK723, HB⟩ := hrel
   cases gk with
   | zero => exact absurd HA.out (by simp [headgateref07_Order.l0])
   | succ k1 =>
    have H := HA.out
    clear HA
    simp only [headgateref07_Order.l0] at H
    replace H := Option.bind_eq_some_iff.mp H
    obtain ⟨⟨t725, t726⟩, A70, H⟩ := H
    replace H : (if t726 = 0 then (if x5_1.length < 17592186044416 then ((headgateref07_Remove.f k1 x724000_1 x724001_1 x724002_1 t725).bind fun bt730 => (headgateref07_Order.l0 k1 (x5_1 ++ [t725]) bt730.1 bt730.2.1 bt730.2.2.1)) else (none)) else (some (x5_1, 0))) = some (r1, r2) := H
    have A7 := Aside0.mk A70
    clear A70
    by_cases c8 : t726 = 0
    ·
     rw [if_pos c8] at H
     have c8b0 : (t726 == 0) = true := beq_iff_eq.mpr c8
     have c8b1 : (t726 != 0) = false := bne_eq_false_iff_eq.mpr c8
     clear c8
     by_cases c9 : x5_1.length < 17592186044416
     ·
      rw [if_pos c9] at H
      have LMc9 := Aside0.mk c9
      clear c9
      obtain ⟨y727, hy727⟩ : ∃ y_ : List Int, y_ = (x5_1 ++ [t725]) := ⟨_, rfl⟩
      replace H : ((headgateref07_Remove.f k1 x724000_1 x724001_1 x724002_1 t725).bind fun bt730 => (headgateref07_Order.l0 k1 y727 bt730.1 bt730.2.1 bt730.2.2.1)) = some (r1, r2) := by first | (rw [hy727]; with_reducible exact H) | (have H2_ := (Option.bind_some _ _).symm.trans H; rw [hy727]; with_reducible exact H2_) | (have H2_ := (Option.bind_some _ _).symm.trans H; with_reducible exact H2_) | with_reducible exact H | (rw [hy727]; exact H) | exact H
      have Ny727 := Aside0.mk hy727
      clear hy727
      replace H := Option.bind_eq_some_iff.mp H
      obtain ⟨⟨t730, t733, t736, t739⟩, A100, H⟩ := H
      replace H : (headgateref07_Order.l0 k1 y727 t730 t733 t736) = some (r1, r2) := H
      have A10 := Aside0.mk A100
      clear A100
      have H' := Aside0.mk H
      clear H
      have hcz11_0 := cell0 BK723
      have hcz11_1 := cell1 BK723
      have hcz11_2 := cell2 BK723
      have hfz11_0 := blk_frozen BK723.out 0
      have hfz11_1 := blk_frozen BK723.out 1
      have hfz11_2 := blk_frozen BK723.out 2
      obtain ⟨Ao12, co12, eo12⟩ := Kd.V_slice HO_724000.out
      subst eo12
      obtain ⟨Ao13, co13, eo13⟩ := Kd.V_slice HO_724001.out
      subst eo13
      obtain ⟨Ao14, co14, eo14⟩ := Kd.V_slice HO_724002.out
      subst eo14
      go_wp2_with (first | ((with_reducible refine gate_callee (f := 38) rfl ?_); refine goesL_ (some 15) rfl rfl Try.func38 (by kernel_rfl) rfl #[.agg #[.slice Ao12 x724000_1.length co12, .slice Ao13 x724001_1.length co13, .slice Ao14 x724002_1.length co14]] rfl (args_ (p := _)) ?_; (with_reducible refine (headgateref07_Last.calls _ _ x724000_1 _ _ x724001_1 _ _ x724002_1 t725 t726 _ ?side1 ?side2 ?side3 ?side4 ?side5 ?side6 A7.out).mono ?_); (case side1 => exact upc (Kd.V_reads' HO_724000.out).2.2); (case side2 => exact (Kd.V_reads' HO_724000.out).2.1); (case side3 => exact upc (Kd.V_reads' HO_724001.out).2.2); (case side4 => exact (Kd.V_reads' HO_724001.out).2.1); (case side5 => exact upc (Kd.V_reads' HO_724002.out).2.2); (case side6 => exact (Kd.V_reads' HO_724002.out).2.1); rintro e w15 ⟨rfl, hb⟩; refine ⟨_, rfl, ?_⟩; have n0_ := Aside0.mk (Kd.R_below (upR HO_5.out) hb); have n1_ := Aside0.mk (Kd.V_below (upV HO_724000.out) hb); have n2_ := Aside0.mk (Kd.V_below (upV HO_724001.out) hb); have n3_ := Aside0.mk (Kd.V_below (upV HO_724002.out) hb); have n4_ := Aside0.mk (blkB BK723 hb); have n5_ := Aside0.mk (below_step (upH HB) hb); clear HO_5; clear HO_724000; clear HO_724001; clear HO_724002; clear BK723; clear HB; have HO_5 := n0_; have HO_724000 := n1_; have HO_724001 := n2_; have HO_724002 := n3_; have BK723 := n4_; have HB := n5_; clear n0_ n1_ n2_ n3_ n4_ n5_; (try clear hb); (try clear hb2); (try clear hk); (try clear hi)) | ((with_reducible refine gate_builtin (b := .append) (xs := #[.tmp 21, .tmp 23]) rfl ?_); at_builtin; refine Kd.R_append (Kd.int .i64) (w0 := w) w.heap.size rfl (.tmp 21) (.tmp 23) 22 3 (.int .i64 0) 8 rfl Try.underlying22 info3 rfl (by decide) (by omega) u5 x5_1 t725 [.int .i64 t725] (fun k_ => (w.heap.size ≤ k_)) (fun _ => False) rfl rfl ?aP (fun _ hk => hk.elim) ?aF ?aO ?aB ?aS ?aL ?_; (case aP => exact rfl); (case aB => exact (upH HB)); (case aF => exact (fun k_ hk => (Nat.le_trans (below_size (upH HB)) hk))); (case aO => exact (upR HO_5.out)); (case aS => exact (below_size (upH HB))); (case aL => have := LMc9.out; omega); intro v728 w16 ho hb hg hat; rw [← Ny727.out] at ho; have n0_ := Aside0.mk (Kd.V_afterv (ok := (fun k_ => ((P0_0_ k_ ∨ P0_1_ k_ ∨ P0_2_ k_) ∨ w.heap.size ≤ k_) ∧ k_ ≠ gb723)) (by (with_reducible repeat (first | apply Kd.V_alloc | apply Kd.V_drewN | apply Kd.V_drew)); exact Kd.V_mono HO_724000.out (fun _ hk => ⟨⟨hk.1, hk.2.2⟩, hk.2.1⟩)) hg hat); have n1_ := Aside0.mk (Kd.V_afterv (ok := (fun k_ => ((P0_0_ k_ ∨ P0_1_ k_ ∨ P0_2_ k_) ∨ w.heap.size ≤ k_) ∧ k_ ≠ gb723)) (by (with_reducible repeat (first | apply Kd.V_alloc | apply Kd.V_drewN | apply Kd.V_drew)); exact Kd.V_mono HO_724001.out (fun _ hk => ⟨⟨hk.1, hk.2.2⟩, hk.2.1⟩)) hg hat); have n2_ := Aside0.mk (Kd.V_afterv (ok := (fun k_ => ((P0_0_ k_ ∨ P0_1_ k_ ∨ P0_2_ k_) ∨ w.heap.size ≤ k_) ∧ k_ ≠ gb723)) (by (with_reducible repeat (first | apply Kd.V_alloc | apply Kd.V_drewN | apply Kd.V_drew)); exact Kd.V_mono HO_724002.out (fun _ hk => ⟨⟨hk.1, hk.2.2⟩, hk.2.1⟩)) hg hat); have n3_ := Aside0.mk (blk_grown (g := gb723) (o := .cells #[.slice Ao12 x724000_1.length co12, .slice Ao13 x724001_1.length co13, .slice Ao14 x724002_1.length co14] 25 (0, 0)) (upB BK723) hg (Kd.R_ne HO_5.out BK723.out (by decide))); have n4_ := Aside0.mk (hb); have n5_ := Aside0.mk (ho); clear HO_724000; clear HO_724001; clear HO_724002; clear BK723; clear HB; clear HO_5; have HO_724000 := n0_; have HO_724001 := n1_; have HO_724002 := n2_; have BK723 := n3_; have HB := n4_; have HO729 := n5_; clear n0_ n1_ n2_ n3_ n4_ n5_; clear ho hb hg hat; have hcz17_0 := cell0 BK723; have hcz17_1 := cell1 BK723; have hcz17_2 := cell2 BK723; have hfz17_0 := blk_frozen BK723.out 0; have hfz17_1 := blk_frozen BK723.out 1; have hfz17_2 := blk_frozen BK723.out 2) | ((with_reducible refine gate_callee (f := 21) rfl ?_); refine goesL_ (some 28) rfl rfl Try.func21 (by kernel_rfl) rfl #[.agg #[.slice Ao12 x724000_1.length co12, .slice Ao13 x724001_1.length co13, .slice Ao14 x724002_1.length co14], .int .i64 t725] rfl (args_ (p := _)) ?_; (with_reducible refine (headgateref07_Remove.calls k1 _ _ x724000_1 _ _ x724001_1 _ _ x724002_1 t725 t730 t733 t736 t739 _ ?side1 ?side2 ?side3 ?side4 ?side5 ?side6 A10.out).mono ?_); (case side1 => exact upc (Kd.V_reads' HO_724000.out).2.2); (case side2 => exact (Kd.V_reads' HO_724000.out).2.1); (case side3 => exact upc (Kd.V_reads' HO_724001.out).2.2); (case side4 => exact (Kd.V_reads' HO_724001.out).2.1); (case side5 => exact upc (Kd.V_reads' HO_724002.out).2.2); (case side6 => exact (Kd.V_reads' HO_724002.out).2.1); rintro e w18 ⟨v731, v734, v737, rfl, ho0, ho1, ho2, hb⟩; refine ⟨_, rfl, ?_⟩; have n0_ := Aside0.mk (Kd.V_mono (Kd.V_told (Kd.V_told (Kd.V_told (Kd.V_old (upV HO_724000.out) hb) (Kd.R_base ho0)) (Kd.R_base ho1)) (Kd.R_base ho2)) (fun _ h_ => h_.1)); have n1_ := Aside0.mk (Kd.V_mono (Kd.V_told (Kd.V_told (Kd.V_told (Kd.V_old (upV HO_724001.out) hb) (Kd.R_base ho0)) (Kd.R_base ho1)) (Kd.R_base ho2)) (fun _ h_ => h_.1)); have n2_ := Aside0.mk (Kd.V_mono (Kd.V_told (Kd.V_told (Kd.V_told (Kd.V_old (upV HO_724002.out) hb) (Kd.R_base ho0)) (Kd.R_base ho1)) (Kd.R_base ho2)) (fun _ h_ => h_.1)); have n3_ := Aside0.mk (Kd.R_mono (Kd.R_told (Kd.R_told (Kd.R_old (upR HO729.out) hb) (Kd.R_base ho0)) (Kd.R_base ho1)) (fun _ h_ => h_.1)); have n4_ := Aside0.mk (Kd.R_lower (Kd.R_new' (Kd.R_newM (M := fun k_ => (w.heap.size ≤ k_)) ho0 (below_size (upH HB)) (fun k_ h_ => h_)) (Kd.R_lt (upR HO729.out))) (below_size (upH HB))); have n5_ := Aside0.mk (Kd.R_lower (Kd.R_new' (Kd.R_newM (M := fun k_ => (w.heap.size ≤ k_)) ho1 (below_size (upH HB)) (fun k_ h_ => h_)) (Kd.R_lt (upR HO729.out))) (below_size (upH HB))); have n6_ := Aside0.mk (Kd.R_lower (Kd.R_newM (M := fun k_ => (w.heap.size ≤ k_)) ho2 (below_size (upH HB)) (fun k_ h_ => h_)) (below_size (upH HB))); have n7_ := Aside0.mk (blkB BK723 hb); have n8_ := Aside0.mk (below_step (upH HB) hb); clear HO_724000; clear HO_724001; clear HO_724002; clear HO729; clear BK723; clear HB; have HO_724000 := n0_; have HO_724001 := n1_; have HO_724002 := n2_; have HO729 := n3_; have HO732 := n4_; have HO735 := n5_; have HO738 := n6_; have BK723 := n7_; have HB := n8_; clear n0_ n1_ n2_ n3_ n4_ n5_ n6_ n7_ n8_; (try clear hb); (try clear hb2); (try clear hk); (try clear hi); (try clear ho0); (try clear ho1); (try clear ho2); obtain ⟨Ao19, co19, eo19⟩ := Kd.R_slice HO732.out; subst eo19; have hcz20_0 := cell0 BK723; have hcz20_1 := cell1 BK723; have hcz20_2 := cell2 BK723; have hfz20_0 := blk_frozen BK723.out 0; have hfz20_1 := blk_frozen BK723.out 1; have hfz20_2 := blk_frozen BK723.out 2; obtain ⟨Ao21, co21, eo21⟩ := Kd.R_slice HO735.out; subst eo21; obtain ⟨Ao22, co22, eo22⟩ := Kd.R_slice HO738.out; subst eo22))
      go_roundg k1
      case measure => have := HK1.out; omega
      case rel => exact ⟨(y727), (t730), (t733), (t736), (.slice Ao19 t730.length co19), (.slice Ao21 t733.length co21), (.slice Ao22 t736.length co22), H', ⟨by have := HK1.out; omega⟩, ⟨by (with_reducible repeat (first | apply Kd.R_alloc | apply Kd.R_drewN | apply Kd.R_drew)); exact Kd.R_mono (far3 HO729.out BK723) (fun _ hk => hk.1.1.1)⟩, ⟨Kd.V_mono (Kd.R_V (by (with_reducible repeat (first | apply Kd.R_alloc | apply Kd.R_drewN | apply Kd.R_drew)); exact Kd.R_mono (ok' := fun k_ => w.heap.size ≤ k_ ∧ some k_ ≠ (_ : Value).ownBlock ∧ k_ ≠ gb723) (Kd.R_far (p := ⟨gb723, 2, none⟩) (Kd.R_far (p := ⟨gb723, 1, none⟩) (Kd.R_far (p := ⟨gb723, 0, none⟩) (Kd.R_types (Kd.R_types HO732.out BK723.out (by decide)) BK723.out (by decide)) (fun _ hk => hk.2) (.slice Ao19 t730.length co19)) (fun _ hk => hk.2) (.slice Ao21 t733.length co21)) (fun _ hk => hk.2) (.slice Ao22 t736.length co22)) (fun _ hk => ⟨hk.1.1.1.1, ⟨hk.1.1.2, hk.1.2⟩⟩))) (fun k_ hk => by first | exact ⟨(.inr (hk.1)), hk.2⟩ | exact (.inr (hk)))⟩, ⟨Kd.V_mono (Kd.R_V (by (with_reducible repeat (first | apply Kd.R_alloc | apply Kd.R_drewN | apply Kd.R_drew)); exact Kd.R_mono (ok' := fun k_ => w.heap.size ≤ k_ ∧ some k_ ≠ (_ : Value).ownBlock ∧ k_ ≠ gb723) (Kd.R_far (p := ⟨gb723, 2, none⟩) (Kd.R_far (p := ⟨gb723, 1, none⟩) (Kd.R_far (p := ⟨gb723, 0, none⟩) (Kd.R_types (Kd.R_types HO735.out BK723.out (by decide)) BK723.out (by decide)) (fun _ hk => hk.2) (.slice Ao19 t730.length co19)) (fun _ hk => hk.2) (.slice Ao21 t733.length co21)) (fun _ hk => hk.2) (.slice Ao22 t736.length co22)) (fun _ hk => ⟨hk.1.1.1.1, ⟨hk.1.1.2, hk.1.2⟩⟩))) (fun k_ hk => by first | exact ⟨(.inr (hk.1)), hk.2⟩ | exact (.inr (hk)))⟩, ⟨Kd.V_mono (Kd.R_V (by (with_reducible repeat (first | apply Kd.R_alloc | apply Kd.R_drewN | apply Kd.R_drew)); exact Kd.R_mono (ok' := fun k_ => w.heap.size ≤ k_ ∧ some k_ ≠ (_ : Value).ownBlock ∧ k_ ≠ gb723) (Kd.R_far (p := ⟨gb723, 2, none⟩) (Kd.R_far (p := ⟨gb723, 1, none⟩) (Kd.R_far (p := ⟨gb723, 0, none⟩) (Kd.R_types (Kd.R_types (Kd.R_apart' HO738.out (Kd.R_typed HO729.out) (by decide)) BK723.out (by decide)) BK723.out (by decide)) (fun _ hk => hk.2) (.slice Ao19 t730.length co19)) (fun _ hk => hk.2) (.slice Ao21 t733.length co21)) (fun _ hk => hk.2) (.slice Ao22 t736.length co22)) (fun _ hk => ⟨hk.1.1.1.1, ⟨hk.1.1.2, hk.1.2⟩⟩))) (fun k_ hk => by first | exact ⟨(.inr (hk.1)), hk.2⟩ | exact (.inr (hk)))⟩, ⟨by (with_reducible repeat (first | refine blk_drewN ?_ _ | refine blk_drew ?_ | refine blk_alloc ?_ _)); refine blk_put (cs := #[.slice Ao19 t730.length co19, .slice Ao21 t733.length co21, .slice Ao14 x724002_1.length co14]) ?_ 2 _ rfl; (with_reducible repeat (first | refine blk_drewN ?_ _ | refine blk_drew ?_ | refine blk_alloc ?_ _)); refine blk_put (cs := #[.slice Ao19 t730.length co19, .slice Ao13 x724001_1.length co13, .slice Ao14 x724002_1.length co14]) ?_ 1 _ rfl; (with_reducible repeat (first | refine blk_drewN ?_ _ | refine blk_drew ?_ | refine blk_alloc ?_ _)); refine blk_put (cs := #[.slice Ao12 x724000_1.length co12, .slice Ao13 x724001_1.length co13, .slice Ao14 x724002_1.length co14]) ?_ 0 _ rfl; (with_reducible repeat (first | refine blk_drewN ?_ _ | refine blk_drew ?_ | refine blk_alloc ?_ _)); exact BK723.out⟩, ⟨upH HB⟩⟩
     ·
      rw [if_neg c9] at H
      exact absurd H (by simp)
    ·
     rw [if_neg c8] at H
     have c8b0 : (t726 == 0) = false := beq_eq_false_iff_ne.mpr c8
     have c8b1 : (t726 != 0) = true := bne_iff_ne.mpr c8
     simp only [Option.some.injEq, Prod.mk.injEq] at H
     obtain ⟨rfl, rfl⟩ := H
     have hcz23_0 := cell0 BK723
     have hcz23_1 := cell1 BK723
     have hcz23_2 := cell2 BK723
     have hfz23_0 := blk_frozen BK723.out 0
     have hfz23_1 := blk_frozen BK723.out 1
     have hfz23_2 := blk_frozen BK723.out 2
     obtain ⟨Ao24, co24, eo24⟩ := Kd.V_slice HO_724000.out
     subst eo24
     obtain ⟨Ao25, co25, eo25⟩ := Kd.V_slice HO_724001.out
     subst eo25
     obtain ⟨Ao26, co26, eo26⟩ := Kd.V_slice HO_724002.out
     subst eo26
     go_wp2_with (first | ((with_reducible refine gate_callee (f := 38) rfl ?_); refine goesL_ (some 15) rfl rfl Try.func38 (by kernel_rfl) rfl #[.agg #[.slice Ao24 x724000_1.length co24, .slice Ao25 x724001_1.length co25, .slice Ao26 x724002_1.length co26]] rfl (args_ (p := _)) ?_; (with_reducible refine (headgateref07_Last.calls _ _ x724000_1 _ _ x724001_1 _ _ x724002_1 t725 t726 _ ?side1 ?side2 ?side3 ?side4 ?side5 ?side6 A7.out).mono ?_); (case side1 => exact upc (Kd.V_reads' HO_724000.out).2.2); (case side2 => exact (Kd.V_reads' HO_724000.out).2.1); (case side3 => exact upc (Kd.V_reads' HO_724001.out).2.2); (case side4 => exact (Kd.V_reads' HO_724001.out).2.1); (case side5 => exact upc (Kd.V_reads' HO_724002.out).2.2); (case side6 => exact (Kd.V_reads' HO_724002.out).2.1); rintro e w27 ⟨rfl, hb⟩; refine ⟨_, rfl, ?_⟩; have n0_ := Aside0.mk (Kd.R_below (upR HO_5.out) hb); have n1_ := Aside0.mk (Kd.V_below (upV HO_724000.out) hb); have n2_ := Aside0.mk (Kd.V_below (upV HO_724001.out) hb); have n3_ := Aside0.mk (Kd.V_below (upV HO_724002.out) hb); have n4_ := Aside0.mk (blkB BK723 hb); have n5_ := Aside0.mk (below_step (upH HB) hb); clear HO_5; clear HO_724000; clear HO_724001; clear HO_724002; clear BK723; clear HB; have HO_5 := n0_; have HO_724000 := n1_; have HO_724001 := n2_; have HO_724002 := n3_; have BK723 := n4_; have HB := n5_; clear n0_ n1_ n2_ n3_ n4_ n5_; (try clear hb); (try clear hb2); (try clear hk); (try clear hi)))
     go_ret2
     exact ⟨_, by first | rfl | (simp [errW_none, errW_some] <;> rfl) | (simp [*, errW_none, errW_some] <;> rfl), by (with_reducible repeat (first | apply Kd.R_alloc | apply Kd.R_drewN | apply Kd.R_drew)); exact HO_5.out, by repeat (first | (with_reducible first | exact HB.out | apply below_alloc | apply pw_below_drewN | apply below_drew1 | refine below_set ?_ GE723.out) | exact HB.out)⟩
 ·
  rw [if_neg c3] at H
  have c3b0 : (t724 == 0) = false := beq_eq_false_iff_ne.mpr c3
  have c3b1 : (t724 != 0) = true := bne_iff_ne.mpr c3
  simp only [Option.some.injEq, Prod.mk.injEq] at H
  obtain ⟨rfl, rfl⟩ := H
  go_enter Try.func41, Try.ntmps41
  go_wp2_with (first | ((with_reducible refine gate_dst (N := 1) rfl ?_); refine box_event ?hg (N := 1) ?hd (cs := #[.slice A0_0 l0_0.length c0_0, .slice A0_1 l0_1.length c0_1, .slice A0_2 l0_2.length c0_2]) (t := 25) ?hr ?_; (case hd => rfl); (case hg => rfl); (case hr => first | (go_simp; done) | (go_simp; rfl)); intro gb723 hg w28 hbox hb; have n0_ := Aside0.mk (Kd.V_below (Kd.V_elderB (upV HO0_0.out) gb723 (Nat.le_of_eq hg.symm)) hb); have n1_ := Aside0.mk (Kd.V_below (Kd.V_elderB (upV HO0_1.out) gb723 (Nat.le_of_eq hg.symm)) hb); have n2_ := Aside0.mk (Kd.V_below (Kd.V_elderB (upV HO0_2.out) gb723 (Nat.le_of_eq hg.symm)) hb); have n3_ := Aside0.mk (below_step (upH HB) hb); have n4_ := Aside0.mk (hbox); have n5_ := Aside0.mk ((by rw [hg]; exact (below_size (upH HB)) : w.heap.size ≤ gb723)); have n6_ := Aside0.mk ((by rw [hg]; exact (below_size (upH HB)) : w.heap.size ≤ gb723)); clear HO0_0; clear HO0_1; clear HO0_2; clear HB; have HO0_0 := n0_; have HO0_1 := n1_; have HO0_2 := n2_; have HB := n3_; have BK723 := n4_; have GW723 := n5_; have GE723 := n6_; clear n0_ n1_ n2_ n3_ n4_ n5_ n6_; clear hb hbox hg; have hcz29_0 := cell0 BK723; have hcz29_1 := cell1 BK723; have hcz29_2 := cell2 BK723; have hfz29_0 := blk_frozen BK723.out 0; have hfz29_1 := blk_frozen BK723.out 1; have hfz29_2 := blk_frozen BK723.out 2) | ((with_reducible refine gate_callee (f := 17) rfl ?_); refine goesL_ (some 9) rfl rfl Try.func17 (by kernel_rfl) rfl #[.agg #[.slice A0_0 l0_0.length c0_0, .slice A0_1 l0_1.length c0_1, .slice A0_2 l0_2.length c0_2]] rfl (args_ (p := _)) ?_; (with_reducible refine (headgateref07_Check.calls _ _ l0_0 _ _ l0_1 _ _ l0_2 t724 _ ?side1 ?side2 ?side3 ?side4 ?side5 ?side6 A2.out).mono ?_); (case side1 => exact upc (Kd.V_reads' HO0_0.out).2.2); (case side2 => exact (Kd.V_reads' HO0_0.out).2.1); (case side3 => exact upc (Kd.V_reads' HO0_1.out).2.2); (case side4 => exact (Kd.V_reads' HO0_1.out).2.1); (case side5 => exact upc (Kd.V_reads' HO0_2.out).2.2); (case side6 => exact (Kd.V_reads' HO0_2.out).2.1); rintro e w30 ⟨rfl, hb⟩; refine ⟨_, rfl, ?_⟩; have n0_ := Aside0.mk (Kd.V_below (upV HO0_0.out) hb); have n1_ := Aside0.mk (Kd.V_below (upV HO0_1.out) hb); have n2_ := Aside0.mk (Kd.V_below (upV HO0_2.out) hb); have n3_ := Aside0.mk (blkB BK723 hb); have n4_ := Aside0.mk (below_step (upH HB) hb); clear HO0_0; clear HO0_1; clear HO0_2; clear BK723; clear HB; have HO0_0 := n0_; have HO0_1 := n1_; have HO0_2 := n2_; have BK723 := n3_; have HB := n4_; clear n0_ n1_ n2_ n3_ n4_; (try clear hb); (try clear hb2); (try clear hk); (try clear hi)))
  go_ret2
  exact ⟨_, by first | rfl | (simp [errW_none, errW_some] <;> rfl) | (simp [*, errW_none, errW_some] <;> rfl), by first | exact Kd.R_nil _ _ _ _ _ | exact Kd.N_nil _ _ _ _ _ | exact Kd.V_nil _ _ _ _ _ | exact Kd.Q_nil _ _ _ _ _ | exact Kd.S_nil _ _ _ _ _, by repeat (first | (with_reducible first | exact HB.out | apply below_alloc | apply pw_below_drewN | apply below_drew1 | refine below_set ?_ GE723.out) | exact HB.out)⟩

end Go.Proofs.Ytaofihdmgdpenaa.X
