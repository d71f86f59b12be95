/- What Go functions of this seat compute, told as Lean functions, and that each call of the Go code comes to that answer; for a law: its row, for every input. Written by a program of the session. -/
import Derived.Test.YtnheknlmmmkbpaaX0
import Derived.Test.YtnheknlmmmkbpaaX44
import Derived.Test.YtnheknlmmmkbpaaX54
namespace Go.Proofs.Ytnheknlmmmkbpaa.X
open Go.RowKit Go.Proofs.YtnheknlmmmkbpaaW.PrintWords Go.Proofs.YtnheknlmmmkbpaaW.PrintLast Go.Proofs.YtnheknlmmmkbpaaW.PrintMore
attribute [local go_sem] max2_int min2_int max_two min_two max_three min_three max_four min_four   -- for this text's walks alone
set_option linter.unusedVariables false
set_option linter.unusedSimpArgs false

/-! ### headgateref07_Promote: function 48 -/
def headgateref07_Promote.j0 : Nat → Int → Bool → List Int → List Int → List Bool → Option (List Int × List Int × List Bool × Int × Int)
 | 0, _, _, _, _, _ => none
 | k + 1, x5, x18, x364000, x364001, x364002 => if x18 = true then (if 6 = 0 then (if 0 ≤ (wrap64 ((x364001.length : Int) - 1)) then (if (wrap64 ((x364001.length : Int) - 1)) < (x364001.length : Int) then ((headgateref07_Remove.f k x364000 x364001 x364002 (rd x364001 (wrap64 ((x364001.length : Int) - 1)))).bind fun bt367 => ((some (([rd x364001 (wrap64 ((x364001.length : Int) - 1))] : List Int) : List Int)).bind fun y378 => (if y378.length + bt367.1.length < 17592186044416 then (some ((y378 ++ bt367.1), bt367.2.1, bt367.2.2.1, rd x364001 (wrap64 ((x364001.length : Int) - 1)), 0)) else (none)))) else (none)) else (none)) else (some (([] : List Int), ([] : List Int), ([] : List Bool), 0, 6))) else (if x5 = 0 then (if 0 ≤ (wrap64 ((x364001.length : Int) - 1)) then (if (wrap64 ((x364001.length : Int) - 1)) < (x364001.length : Int) then ((headgateref07_Remove.f k x364000 x364001 x364002 (rd x364001 (wrap64 ((x364001.length : Int) - 1)))).bind fun bt385 => ((some (([rd x364001 (wrap64 ((x364001.length : Int) - 1))] : List Int) : List Int)).bind fun y396 => (if y396.length + bt385.1.length < 17592186044416 then (some ((y396 ++ bt385.1), bt385.2.1, bt385.2.2.1, rd x364001 (wrap64 ((x364001.length : Int) - 1)), 0)) else (none)))) else (none)) else (none)) else (some (([] : List Int), ([] : List Int), ([] : List Bool), 0, x5)))
def headgateref07_Promote.f (k : Nat) (l0_0 : List Int) (l0_1 : List Int) (l0_2 : List Bool) : Option (List Int × List Int × List Bool × Int × Int) := (headgateref07_Check.f l0_0 l0_1 l0_2).bind fun t365 => (if t365 = 0 then (headgateref07_Promote.j0 k t365 ((l0_1.length : Int) == 0) l0_0 l0_1 l0_2) else (headgateref07_Promote.j0 k t365 false l0_0 l0_1 l0_2))
theorem headgateref07_Promote.mono_l : ∀ k, (∀ y0 y1 y2 y3 y4, LeO (headgateref07_Promote.j0 k y0 y1 y2 y3 y4) (headgateref07_Promote.j0 (k + 1) y0 y1 y2 y3 y4))
 | 0 => fun _ _ _ _ _ r h => by simp [headgateref07_Promote.j0] at h
 | k + 1 => by
  have ih0 := headgateref07_Promote.mono_l k
  ·
   intro y0 y1 y2 y3 y4
   unfold headgateref07_Promote.j0
   repeat' first
   | (with_reducible exact ih0 _ _ _ _ _)
   | (with_reducible exact headgateref07_Remove.mono _ _ _ _ _)
   | (with_reducible exact LeO.refl _)
   | (with_reducible exact LeO.none _)
   | (with_reducible refine LeO.ite ?_ ?_)
   | (with_reducible refine LeO.bind ?_ (fun _ => ?_))
   | exact ih0 _ _ _ _ _
   | exact headgateref07_Remove.mono _ _ _ _ _
   | exact LeO.none _
   | refine LeO.ite ?_ ?_
   | refine LeO.bind ?_ (fun _ => ?_)
theorem headgateref07_Promote.mono : ∀ a0 a1 a2 k, LeO (headgateref07_Promote.f k a0 a1 a2) (headgateref07_Promote.f (k + 1) a0 a1 a2) := by
 intro a0 a1 a2 k
 have ih0 := headgateref07_Promote.mono_l k
 unfold headgateref07_Promote.f
 repeat' first
   | (with_reducible exact ih0 _ _ _ _ _)
   | (with_reducible exact headgateref07_Remove.mono _ _ _ _ _)
   | (with_reducible exact LeO.refl _)
   | (with_reducible exact LeO.none _)
   | (with_reducible refine LeO.ite ?_ ?_)
   | (with_reducible refine LeO.bind ?_ (fun _ => ?_))
   | exact ih0 _ _ _ _ _
   | exact headgateref07_Remove.mono _ _ _ _ _
   | exact LeO.none _
   | refine LeO.ite ?_ ?_
   | refine LeO.bind ?_ (fun _ => ?_)
set_option maxHeartbeats 2000000 in
set_option maxRecDepth 100000 in
theorem headgateref07_Promote.calls (k : Nat) (A0_0 : Option Addr) (c0_0 : Nat) (l0_0 : List Int) (A0_1 : Option Addr) (c0_1 : Nat) (l0_1 : List Int) (A0_2 : Option Addr) (c0_2 : Nat) (l0_2 : List Bool) (r1 : List Int) (r2 : List Int) (r3 : List Bool) (r4 : Int) (r5 : Int) (w : World) (hr0_0 : Kd.C (Kd.int .i64) w A0_0 l0_0.length l0_0) (hc0_0 : l0_0.length ≤ c0_0) (hr0_1 : Kd.C (Kd.int .i64) w A0_1 l0_1.length l0_1) (hc0_1 : l0_1.length ≤ c0_1) (hr0_2 : Kd.C Kd.bool w A0_2 l0_2.length l0_2) (hc0_2 : l0_2.length ≤ c0_2) (h : headgateref07_Promote.f k l0_0 l0_1 l0_2 = some (r1, r2, r3, r4, r5)) :
  Calls Try.prog 48 #[.agg #[.slice A0_0 l0_0.length c0_0, .slice A0_1 l0_1.length c0_1, .slice A0_2 l0_2.length c0_2]] w fun e w' => ∃ v0_ v1_ v2_ : Value, e = .returned (.tuple #[.agg #[v0_, v1_, v2_], .int .i64 r4, .int .i64 r5]) ∧ Kd.R (Kd.int .i64) 3 w' w.heap.size (fun k_ => some k_ ≠ (v1_ : Value).ownBlock) v0_ r1 ∧ Kd.R (Kd.int .i64) 3 w' w.heap.size (fun k_ => some k_ ≠ (v0_ : Value).ownBlock) v1_ r2 ∧ Kd.R Kd.bool 4 w' w.heap.size (fun _ => True) v2_ r3 ∧ Below w.heap.size w w' := by
 have hu33 := Try.underlying33
 have HR0_0 := Aside0.mk hr0_0
 have HC0_0 := Aside0.mk hc0_0
 clear hr0_0 hc0_0
 have HR0_1 := Aside0.mk hr0_1
 have HC0_1 := Aside0.mk hc0_1
 clear hr0_1 hc0_1
 have HR0_2 := Aside0.mk hr0_2
 have HC0_2 := Aside0.mk hc0_2
 clear hr0_2 hc0_2
 have HB := Aside0.mk (Below.refl w.heap.size w)
 have H : ((headgateref07_Check.f l0_0 l0_1 l0_2).bind fun t365 => (if t365 = 0 then (headgateref07_Promote.j0 k t365 ((l0_1.length : Int) == 0) l0_0 l0_1 l0_2) else (headgateref07_Promote.j0 k t365 false l0_0 l0_1 l0_2))) = some (r1, r2, r3, r4, r5) := h
 clear h
 replace H := Option.bind_eq_some_iff.mp H
 obtain ⟨t365, A20, H⟩ := H
 replace H : (if t365 = 0 then (headgateref07_Promote.j0 k t365 ((l0_1.length : Int) == 0) l0_0 l0_1 l0_2) else (headgateref07_Promote.j0 k t365 false l0_0 l0_1 l0_2)) = some (r1, r2, r3, r4, r5) := H
 have A2 := Aside0.mk A20
 clear A20
 have HC3 := Aside0.mk H
 clear H
 go_enter Try.func48, Try.ntmps48
 go_upto_region 2 with (first | ((with_reducible refine gate_dst (N := 1) rfl ?_); (try (refine gate_guard (by rfl) ?_; dsimp only)); refine box_event ?hg (N := 1) ?hd (cs := #[.slice A0_0 l0_0.length c0_0, .slice A0_1 l0_1.length c0_1, .slice A0_2 l0_2.length c0_2]) (t := 33) ?hr ?_; (case hd => rfl); (case hg => rfl); (case hr => first | (go_simp; done) | (go_simp; rfl)); intro gb363 hg w4 hbox hb; have n0_ := Aside0.mk (below_step (upH HB) hb); have n1_ := Aside0.mk (hbox); have n2_ := Aside0.mk ((by rw [hg]; exact (below_size (upH HB)) : w.heap.size ≤ gb363)); have n3_ := Aside0.mk ((by rw [hg]; exact (below_size (upH HB)) : w.heap.size ≤ gb363)); clear HB; have HB := n0_; have BK363 := n1_; have GW363 := n2_; have GE363 := n3_; clear n0_ n1_ n2_ n3_; clear hb hbox hg) | ((with_reducible refine gate_dst (N := 2) rfl ?_); (try (refine gate_guard (by rfl) ?_; dsimp only)); refine box_event ?hg (N := 2) ?hd (cs := #[.slice none 0 0, .slice none 0 0, .slice none 0 0]) (t := 33) ?hr ?_; (case hd => rfl); (case hg => rfl); (case hr => first | (go_simp; done) | (go_simp; rfl)); intro gb364 hg w5 hbox hb; have n0_ := Aside0.mk (blkB BK363 hb); have n1_ := Aside0.mk (below_step (upH HB) hb); have n2_ := Aside0.mk (hbox); have n3_ := Aside0.mk ((by rw [hg]; exact (below_size (upH HB)) : w.heap.size ≤ gb364)); have n4_ := Aside0.mk ((by rw [hg]; exact (below_size (upH HB)) : w.heap.size ≤ gb364)); have n5_ := Aside0.mk ((by rw [hg]; exact Nat.ne_of_lt (blk_lt (g := gb363) (o := .cells #[.slice A0_0 l0_0.length c0_0, .slice A0_1 l0_1.length c0_1, .slice A0_2 l0_2.length c0_2] 33 (0, 0)) (upB BK363)) : gb363 ≠ gb364)); have n6_ := Aside0.mk ((by rw [hg]; exact Nat.ne_of_gt (blk_lt (g := gb363) (o := .cells #[.slice A0_0 l0_0.length c0_0, .slice A0_1 l0_1.length c0_1, .slice A0_2 l0_2.length c0_2] 33 (0, 0)) (upB BK363)) : gb364 ≠ gb363)); clear BK363; clear HB; have BK363 := n0_; have HB := n1_; have BK364 := n2_; have GW364 := n3_; have GE364 := n4_; have NB363_364 := n5_; have NB364_363 := n6_; clear n0_ n1_ n2_ n3_ n4_ n5_ n6_; clear hb hbox hg; have hnb6 := NB363_364.out; have hnc6 := NB364_363.out; have hcz7_0 := cell0 BK363; have hcz7_1 := cell1 BK363; have hcz7_2 := cell2 BK363; have hfz7_0 := blk_frozen BK363.out 0; have hfz7_1 := blk_frozen BK363.out 1; have hfz7_2 := blk_frozen BK363.out 2) | ((with_reducible refine gate_callee (f := 44) rfl ?_); refine goesL_ (some 10) rfl rfl Try.func44 (by kernel_rfl) rfl #[.agg #[.slice A0_0 l0_0.length c0_0, .slice A0_1 l0_1.length c0_1, .slice A0_2 l0_2.length c0_2]] rfl (args_ (p := _)) ?_; (with_reducible refine (headgateref07_Check.calls _ _ l0_0 _ _ l0_1 _ _ l0_2 t365 _ ?side1 ?side2 ?side3 ?side4 ?side5 ?side6 A2.out).mono ?_); (case side1 => exact upc (Kd.C_below HR0_0.out HB.out)); (case side2 => exact HC0_0.out); (case side3 => exact upc (Kd.C_below HR0_1.out HB.out)); (case side4 => exact HC0_1.out); (case side5 => exact upc (Kd.C_below HR0_2.out HB.out)); (case side6 => exact HC0_2.out); rintro e w8 ⟨rfl, hb⟩; refine ⟨_, rfl, ?_⟩; have n0_ := Aside0.mk (blkB BK363 hb); have n1_ := Aside0.mk (blkB BK364 hb); have n2_ := Aside0.mk (below_step (upH HB) hb); clear BK363; clear BK364; clear HB; have BK363 := n0_; have BK364 := n1_; have HB := n2_; clear n0_ n1_ n2_; (try clear hb); (try clear hb2); (try clear hk); (try clear hi)))
 (try simp only [Act.put, List.setIfInBounds_toArray, List.set_cons_zero, List.set_cons_succ])
 go_cut [18] (fun v18 wc => ∃ (kq : Nat) (x18_2 : Bool), v18 = .bool x18_2 ∧ Aside0 (headgateref07_Promote.j0 kq t365 x18_2 l0_0 l0_1 l0_2 = some (r1, r2, r3, r4, r5)) ∧ Aside0 (kq ≤ k) ∧ Aside0 (wc.heap[gb363]? = some (.cells #[(.slice A0_0 l0_0.length c0_0), (.slice A0_1 l0_1.length c0_1), (.slice A0_2 l0_2.length c0_2)] 33 (0, 0))) ∧ Aside0 (wc.heap[gb364]? = some (.cells #[(.slice none 0 0), (.slice none 0 0), (.slice none 0 0)] 33 (0, 0))) ∧ Aside0 (Below w.heap.size w wc))
 case first =>
  have H := HC3.out
  clear HC3
  by_cases c9 : t365 = 0
  ·
   rw [if_pos c9] at H
   have c9b0 : (t365 == 0) = true := beq_iff_eq.mpr c9
   have c9b1 : (t365 != 0) = false := bne_eq_false_iff_eq.mpr c9
   clear c9
   (first | rw [c9b0] | (simp only [i64_w, i32_w]; rw [c9b0]) | skip)
   have H' := Aside0.mk H
   clear H
   have hnb10 := NB363_364.out
   have hnc10 := NB364_363.out
   have hcz11_0 := cell0 BK363
   have hcz11_1 := cell1 BK363
   have hcz11_2 := cell2 BK363
   have hfz11_0 := blk_frozen BK363.out 0
   have hfz11_1 := blk_frozen BK363.out 1
   have hfz11_2 := blk_frozen BK363.out 2
   go_wp2
   go_meet
   case rel => exact ⟨_, (((l0_1.length : Int) == 0)), (by first | rfl | (simp; done) | (simp [*]; done)), H', ⟨by first | omega | exact Nat.le_refl _⟩, ⟨upB BK363⟩, ⟨upB BK364⟩, ⟨upH HB⟩⟩
  ·
   rw [if_neg c9] at H
   have c9b0 : (t365 == 0) = false := beq_eq_false_iff_ne.mpr c9
   have c9b1 : (t365 != 0) = true := bne_iff_ne.mpr c9
   (first | rw [c9b0] | (simp only [i64_w, i32_w]; rw [c9b0]) | skip)
   have H' := Aside0.mk H
   clear H
   go_wp2
   go_meet
   case rel => exact ⟨_, (false), (by first | rfl | (simp; done) | (simp [*]; done)), H', ⟨by first | omega | exact Nat.le_refl _⟩, ⟨upB BK363⟩, ⟨upB BK364⟩, ⟨upH HB⟩⟩
 case rest =>
  clear HC3
  try clear c1
  try clear p2
  try clear c4
  try clear c6
  try clear c9
  try clear c9b0
  try clear c9b1
  try clear c10
  try clear hcz11_0
  try clear hcz11_1
  try clear hcz11_2
  try clear hcz7_0
  try clear hcz7_1
  try clear hcz7_2
  try clear hfz11_0
  try clear hfz11_1
  try clear hfz11_2
  try clear hfz7_0
  try clear hfz7_1
  try clear hfz7_2
  obtain ⟨kq, x18_2, rfl, HA, HJ2, BK363, BK364, HB⟩ := hcut
  cases kq with
  | zero => exact absurd HA.out (by simp [headgateref07_Promote.j0])
  | succ kj2 =>
   have H := HA.out
   clear HA
   simp only [headgateref07_Promote.j0] at H
   by_cases c12 : x18_2 = true
   ·
    subst c12
    have H1 : (if 6 = 0 then (if 0 ≤ (wrap64 ((l0_1.length : Int) - 1)) then (if (wrap64 ((l0_1.length : Int) - 1)) < (l0_1.length : Int) then ((headgateref07_Remove.f kj2 l0_0 l0_1 l0_2 (rd l0_1 (wrap64 ((l0_1.length : Int) - 1)))).bind fun bt367 => ((some (([rd l0_1 (wrap64 ((l0_1.length : Int) - 1))] : List Int) : List Int)).bind fun y378 => (if y378.length + bt367.1.length < 17592186044416 then (some ((y378 ++ bt367.1), bt367.2.1, bt367.2.2.1, rd l0_1 (wrap64 ((l0_1.length : Int) - 1)), 0)) else (none)))) else (none)) else (none)) else (some (([] : List Int), ([] : List Int), ([] : List Bool), 0, 6))) = some (r1, r2, r3, r4, r5) := by rw [if_pos rfl] at H; exact H
    clear H
    have H := H1
    clear H1
    by_cases c13 : 6 = 0
    ·
     exact absurd c13 (by decide)
    ·
     rw [if_neg c13] at H
     have c13b0 : (6 == 0) = false := beq_eq_false_iff_ne.mpr c13
     have c13b1 : (6 != 0) = true := bne_iff_ne.mpr c13
     simp only [Option.some.injEq, Prod.mk.injEq] at H
     obtain ⟨rfl, rfl, rfl, rfl, rfl⟩ := H
     have hnb36 := NB364_363.out
     have hnc36 := NB363_364.out
     have hcz37_0 := cell0 BK364
     have hcz37_1 := cell1 BK364
     have hcz37_2 := cell2 BK364
     have hfz37_0 := blk_frozen BK364.out 0
     have hfz37_1 := blk_frozen BK364.out 1
     have hfz37_2 := blk_frozen BK364.out 2
     go_wp2
     refine bodyPost_ret (results_ctt rfl _ _ gb364 33 #[.slice none 0 0, .slice none 0 0, .slice none 0 0] (0, 0) _ rfl (by (with_reducible repeat (first | refine blk_drewN ?_ _ | refine blk_drew ?_ | refine blk_alloc ?_ _)); refine blk_put (cs := #[.slice none 0 0, .slice none 0 0, .slice none 0 0]) ?_ 2 _ rfl; (with_reducible repeat (first | refine blk_drewN ?_ _ | refine blk_drew ?_ | refine blk_alloc ?_ _)); refine blk_put (cs := #[.slice none 0 0, .slice none 0 0, .slice none 0 0]) ?_ 1 _ rfl; (with_reducible repeat (first | refine blk_drewN ?_ _ | refine blk_drew ?_ | refine blk_alloc ?_ _)); refine blk_put (cs := #[.slice none 0 0, .slice none 0 0, .slice none 0 0]) ?_ 0 _ rfl; (with_reducible repeat (first | refine blk_drewN ?_ _ | refine blk_drew ?_ | refine blk_alloc ?_ _)); exact BK364.out) Try.underlying33 rfl (by kernel_rfl)) rfl ?_
     exact ⟨_, _, _, by first | rfl | (simp [errW_none, errW_some] <;> rfl) | (simp [*, errW_none, errW_some] <;> rfl), by first | exact Kd.R_nil _ _ _ _ _ | exact Kd.N_nil _ _ _ _ _ | exact Kd.V_nil _ _ _ _ _ | exact Kd.Q_nil _ _ _ _ _ | exact Kd.S_nil _ _ _ _ _, by first | exact Kd.R_nil _ _ _ _ _ | exact Kd.N_nil _ _ _ _ _ | exact Kd.V_nil _ _ _ _ _ | exact Kd.Q_nil _ _ _ _ _ | exact Kd.S_nil _ _ _ _ _, by first | exact Kd.R_nil _ _ _ _ _ | exact Kd.N_nil _ _ _ _ _ | exact Kd.V_nil _ _ _ _ _ | exact Kd.Q_nil _ _ _ _ _ | exact Kd.S_nil _ _ _ _ _, by repeat (first | (with_reducible first | exact HB.out | apply below_alloc | apply pw_below_drewN | apply below_drew1 | refine below_set ?_ GE363.out | refine below_set ?_ GE364.out) | exact HB.out)⟩
   ·
    replace c12 := Bool.eq_false_iff.mpr c12
    subst c12
    have H1 : (if t365 = 0 then (if 0 ≤ (wrap64 ((l0_1.length : Int) - 1)) then (if (wrap64 ((l0_1.length : Int) - 1)) < (l0_1.length : Int) then ((headgateref07_Remove.f kj2 l0_0 l0_1 l0_2 (rd l0_1 (wrap64 ((l0_1.length : Int) - 1)))).bind fun bt385 => ((some (([rd l0_1 (wrap64 ((l0_1.length : Int) - 1))] : List Int) : List Int)).bind fun y396 => (if y396.length + bt385.1.length < 17592186044416 then (some ((y396 ++ bt385.1), bt385.2.1, bt385.2.2.1, rd l0_1 (wrap64 ((l0_1.length : Int) - 1)), 0)) else (none)))) else (none)) else (none)) else (some (([] : List Int), ([] : List Int), ([] : List Bool), 0, t365))) = some (r1, r2, r3, r4, r5) := by rw [if_neg (show ¬ (false = true) by decide)] at H; exact H
    clear H
    have H := H1
    clear H1
    by_cases c38 : t365 = 0
    ·
     rw [if_pos c38] at H
     have c38b0 : (t365 == 0) = true := beq_iff_eq.mpr c38
     have c38b1 : (t365 != 0) = false := bne_eq_false_iff_eq.mpr c38
     clear c38
     obtain ⟨ji39, hji39⟩ : ∃ j_ : Int, (wrap64 ((l0_1.length : Int) - 1)) = j_ := ⟨_, rfl⟩
     replace H : (if 0 ≤ (ji39) then (if (ji39) < (l0_1.length : Int) then ((headgateref07_Remove.f kj2 l0_0 l0_1 l0_2 (rd l0_1 (ji39))).bind fun bt385 => ((some (([rd l0_1 (ji39)] : List Int) : List Int)).bind fun y396 => (if y396.length + bt385.1.length < 17592186044416 then (some ((y396 ++ bt385.1), bt385.2.1, bt385.2.2.1, rd l0_1 (ji39), 0)) else (none)))) else (none)) else (none)) = some (r1, r2, r3, r4, r5) := by first | (rw [hji39] at H; exact H) | (simp only [hji39] at H ⊢; exact H)
     have hji39w : (IntKind.i64.wrap ((l0_1.length : Int) - 1)) = ji39 := (i64_w _).trans hji39
     by_cases c40 : 0 ≤ (ji39)
     ·
      rw [if_pos c40] at H
      have c40b0 : decide (0 ≤ (ji39)) = true := decide_eq_true c40
      clear c40
      by_cases c41 : (ji39) < (l0_1.length : Int)
      ·
       rw [if_pos c41] at H
       have c41b0 : decide ((ji39) < (l0_1.length : Int)) = true := decide_eq_true c41
       clear c41
       replace H := Option.bind_eq_some_iff.mp H
       obtain ⟨⟨t385, t388, t391, t394⟩, A420, H⟩ := H
       replace H : ((some (([rd l0_1 (ji39)] : List Int) : List Int)).bind fun y396 => (if y396.length + t385.length < 17592186044416 then (some ((y396 ++ t385), t388, t391, rd l0_1 (ji39), 0)) else (none))) = some (r1, r2, r3, r4, r5) := H
       have A42 := Aside0.mk A420
       clear A420
       obtain ⟨y396, hy396⟩ : ∃ y_ : List Int, y_ = (([rd l0_1 (ji39)] : List Int)) := ⟨_, rfl⟩
       replace H : (if y396.length + t385.length < 17592186044416 then (some ((y396 ++ t385), t388, t391, rd l0_1 (ji39), 0)) else (none)) = some (r1, r2, r3, r4, r5) := by first | (rw [hy396]; with_reducible exact H) | (have H2_ := (Option.bind_some _ _).symm.trans H; rw [hy396]; with_reducible exact H2_) | (have H2_ := (Option.bind_some _ _).symm.trans H; with_reducible exact H2_) | with_reducible exact H | (rw [hy396]; exact H) | exact H
       have Ny396 := Aside0.mk hy396
       clear hy396
       by_cases c43 : y396.length + t385.length < 17592186044416
       ·
        rw [if_pos c43] at H
        have LMc43 := Aside0.mk c43
        clear c43
        obtain ⟨y399, hy399⟩ : ∃ y_ : List Int, y_ = (y396 ++ t385) := ⟨_, rfl⟩
        replace H : (some (y399, t388, t391, rd l0_1 (ji39), 0)) = some (r1, r2, r3, r4, r5) := by first | (rw [hy399]; with_reducible exact H) | (have H2_ := (Option.bind_some _ _).symm.trans H; rw [hy399]; with_reducible exact H2_) | (have H2_ := (Option.bind_some _ _).symm.trans H; with_reducible exact H2_) | with_reducible exact H | (rw [hy399]; exact H) | exact H
        have Ny399 := Aside0.mk hy399
        clear hy399
        simp only [Option.some.injEq, Prod.mk.injEq] at H
        obtain ⟨rfl, rfl, rfl, rfl, rfl⟩ := H
        have hnb44 := NB363_364.out
        have hnc44 := NB364_363.out
        have hcz45_0 := cell0 BK363
        have hcz45_1 := cell1 BK363
        have hcz45_2 := cell2 BK363
        have hfz45_0 := blk_frozen BK363.out 0
        have hfz45_1 := blk_frozen BK363.out 1
        have hfz45_2 := blk_frozen BK363.out 2
        have p384 : 0 ≤ ((ji39) : Int) := of_decide_eq_true (asm_ (p := _))
        have q384 : (ji39) < (l0_1.length : Int) := of_decide_eq_true (asm_ (p := _))
        obtain ⟨ad384, e384, hx384_0⟩ := Kd.at_int HR0_1.out (ji39) p384 q384
        cases e384
        replace hx384_0 := (HB.out.cell (World.block_lt_of_cell? w _ hx384_0)).trans hx384_0
        replace p384 := eq_true p384
        replace q384 := eq_true q384
        go_wp2_with (first | ((with_reducible refine gate_callee (f := 55) rfl ?_); refine goesL_ (some 34) rfl rfl Try.func55 (by kernel_rfl) rfl #[.agg #[.slice A0_0 l0_0.length c0_0, .slice (some ad384) l0_1.length c0_1, .slice A0_2 l0_2.length c0_2], .int .i64 (rd l0_1 (ji39))] rfl (by (try simp only [List.map_toArray, List.map_cons, List.map_nil]); first | done | (simp only [hji39]; rfl) | rfl | (simp only [List.length_drop, List.length_take]; rfl)) ?_; (with_reducible refine (headgateref07_Remove.calls kj2 _ _ l0_0 _ _ l0_1 _ _ l0_2 (rd l0_1 (ji39)) t385 t388 t391 t394 _ ?side1 ?side2 ?side3 ?side4 ?side5 ?side6 A42.out).mono ?_); (case side1 => exact upc (Kd.C_below HR0_0.out HB.out)); (case side2 => exact HC0_0.out); (case side3 => exact upc (Kd.C_below HR0_1.out HB.out)); (case side4 => exact HC0_1.out); (case side5 => exact upc (Kd.C_below HR0_2.out HB.out)); (case side6 => exact HC0_2.out); rintro e w46 ⟨v386, v389, v392, rfl, ho0, ho1, ho2, hb⟩; refine ⟨_, rfl, ?_⟩; have n0_ := Aside0.mk (Kd.R_lower ho0 (below_size (upH HB))); have n1_ := Aside0.mk (Kd.R_lower ho1 (below_size (upH HB))); have n2_ := Aside0.mk (Kd.R_lower ho2 (below_size (upH HB))); have n3_ := Aside0.mk (blkB BK363 hb); have n4_ := Aside0.mk (blkB BK364 hb); have n5_ := Aside0.mk (below_step (upH HB) hb); clear BK363; clear BK364; clear HB; have HO387 := n0_; have HO390 := n1_; have HO393 := n2_; have BK363 := n3_; have BK364 := n4_; have HB := n5_; clear n0_ n1_ n2_ n3_ n4_ n5_; (try clear hb); (try clear hb2); (try clear hk); (try clear hi); (try clear ho0); (try clear ho1); (try clear ho2)) | ((with_reducible refine gate_dst (N := 7) rfl ?_); (try (refine gate_guard (by rfl) ?_; dsimp only)); refine box_event ?hg (N := 7) ?hd (cs := #[.slice none 0 0, .slice none 0 0, .slice none 0 0]) (t := 33) ?hr ?_; (case hd => rfl); (case hg => rfl); (case hr => first | (go_simp; done) | (go_simp; rfl)); intro gb395 hg w47 hbox hb; have n0_ := Aside0.mk (Kd.R_below (upR HO387.out) hb); have n1_ := Aside0.mk (Kd.R_below (upR HO390.out) hb); have n2_ := Aside0.mk (Kd.R_below (upR HO393.out) hb); have n3_ := Aside0.mk (blkB BK363 hb); have n4_ := Aside0.mk (blkB BK364 hb); have n5_ := Aside0.mk (below_step (upH HB) hb); have n6_ := Aside0.mk (hbox); have n7_ := Aside0.mk ((by rw [hg]; exact (below_size (upH HB)) : w.heap.size ≤ gb395)); have n8_ := Aside0.mk ((by rw [hg]; exact (below_size (upH HB)) : w.heap.size ≤ gb395)); have n9_ := Aside0.mk ((by rw [hg]; exact Nat.ne_of_lt (blk_lt (g := gb363) (o := .cells #[.slice A0_0 l0_0.length c0_0, .slice (some ad384) l0_1.length c0_1, .slice A0_2 l0_2.length c0_2] 33 (0, 0)) (upB BK363)) : gb363 ≠ gb395)); have n10_ := Aside0.mk ((by rw [hg]; exact Nat.ne_of_gt (blk_lt (g := gb363) (o := .cells #[.slice A0_0 l0_0.length c0_0, .slice (some ad384) l0_1.length c0_1, .slice A0_2 l0_2.length c0_2] 33 (0, 0)) (upB BK363)) : gb395 ≠ gb363)); have n11_ := Aside0.mk ((by rw [hg]; exact Nat.ne_of_lt (blk_lt (g := gb364) (o := .cells #[.slice none 0 0, .slice none 0 0, .slice none 0 0] 33 (0, 0)) (upB BK364)) : gb364 ≠ gb395)); have n12_ := Aside0.mk ((by rw [hg]; exact Nat.ne_of_gt (blk_lt (g := gb364) (o := .cells #[.slice none 0 0, .slice none 0 0, .slice none 0 0] 33 (0, 0)) (upB BK364)) : gb395 ≠ gb364)); clear HO387; clear HO390; clear HO393; clear BK363; clear BK364; clear HB; have HO387 := n0_; have HO390 := n1_; have HO393 := n2_; have BK363 := n3_; have BK364 := n4_; have HB := n5_; have BK395 := n6_; have GW395 := n7_; have GE395 := n8_; have NB363_395 := n9_; have NB395_363 := n10_; have NB364_395 := n11_; have NB395_364 := n12_; clear n0_ n1_ n2_ n3_ n4_ n5_ n6_ n7_ n8_ n9_ n10_ n11_ n12_; clear hb hbox hg; obtain ⟨Ao48, co48, eo48⟩ := Kd.R_slice HO387.out; subst eo48; have hnb49 := NB395_363.out; have hnc49 := NB363_395.out; have hnb50 := NB395_364.out; have hnc50 := NB364_395.out; have hcz51_0 := cell0 BK395; have hcz51_1 := cell1 BK395; have hcz51_2 := cell2 BK395; have hfz51_0 := blk_frozen BK395.out 0; have hfz51_1 := blk_frozen BK395.out 1; have hfz51_2 := blk_frozen BK395.out 2; obtain ⟨Ao52, co52, eo52⟩ := Kd.R_slice HO390.out; subst eo52; obtain ⟨Ao53, co53, eo53⟩ := Kd.R_slice HO393.out; subst eo53) | ((with_reducible refine gate_dst (N := 38) rfl ?_); (try (refine gate_guard (by rfl) ?_; dsimp only)); refine Kd.R_lit (Kd.int .i64) _ 3 ?hg (N := 38) ?hd (xs := ([rd l0_1 (ji39)] : List Int)) (inner := [.int .i64 (rd l0_1 (ji39))]) (ok := fun _ => True) (okp := fun _ => True) ?hr ?hp (fun _ hk => hk) trivial (Below.refl _ _) (Nat.le_refl _) (by simp) ?_; (case hd => rfl); (case hg => rfl); (case hr => first | (go_simp; done) | (go_simp; rfl)); (case hp => exact (Reps.one (show Kd.M (Kd.int .i64) _ _ _ (rd l0_1 (ji39)) [.int .i64 (rd l0_1 (ji39))] from rfl) (Reps.none _ _))); intro v397 w54 ho55 hb hg_ hnew_; clear hg_ hnew_; (first | rw [← Ny396.out] at ho55 | (simp only [Int.reduceToNat] at ho55; rw [← Ny396.out] at ho55)); have n0_ := Aside0.mk (Kd.R_elder' (upR (Kd.R_mono (far3 HO387.out BK395) (fun _ h_ => h_.1))) (Kd.R_base ho55) hb); have n1_ := Aside0.mk (Kd.R_elder' (upR (Kd.R_mono (far3 HO390.out BK395) (fun _ h_ => h_.1))) (Kd.R_base ho55) hb); have n2_ := Aside0.mk (Kd.R_below (upR (Kd.R_mono (far3 HO393.out BK395) (fun _ h_ => h_.1))) hb); have n3_ := Aside0.mk (Kd.R_lower (Kd.R_new' (Kd.R_new' ho55 (Kd.R_lt (upR (Kd.R_mono (far3 HO387.out BK395) (fun _ h_ => h_.1))))) (Kd.R_lt (upR (Kd.R_mono (far3 HO390.out BK395) (fun _ h_ => h_.1))))) (below_size (upH HB))); have n4_ := Aside0.mk (blk_below (g := gb363) (o := .cells #[.slice A0_0 l0_0.length c0_0, .slice (some ad384) l0_1.length c0_1, .slice A0_2 l0_2.length c0_2] 33 (0, 0)) (by (with_reducible repeat (first | refine blk_drewN ?_ _ | refine blk_drew ?_ | refine blk_alloc ?_ _)); refine blk_far ?_ NB363_395.out _; (with_reducible repeat (first | refine blk_drewN ?_ _ | refine blk_drew ?_ | refine blk_alloc ?_ _)); refine blk_far ?_ NB363_395.out _; (with_reducible repeat (first | refine blk_drewN ?_ _ | refine blk_drew ?_ | refine blk_alloc ?_ _)); refine blk_far ?_ NB363_395.out _; (with_reducible repeat (first | refine blk_drewN ?_ _ | refine blk_drew ?_ | refine blk_alloc ?_ _)); exact BK363.out) hb); have n5_ := Aside0.mk (blk_below (g := gb364) (o := .cells #[.slice none 0 0, .slice none 0 0, .slice none 0 0] 33 (0, 0)) (by (with_reducible repeat (first | refine blk_drewN ?_ _ | refine blk_drew ?_ | refine blk_alloc ?_ _)); refine blk_far ?_ NB364_395.out _; (with_reducible repeat (first | refine blk_drewN ?_ _ | refine blk_drew ?_ | refine blk_alloc ?_ _)); refine blk_far ?_ NB364_395.out _; (with_reducible repeat (first | refine blk_drewN ?_ _ | refine blk_drew ?_ | refine blk_alloc ?_ _)); refine blk_far ?_ NB364_395.out _; (with_reducible repeat (first | refine blk_drewN ?_ _ | refine blk_drew ?_ | refine blk_alloc ?_ _)); exact BK364.out) hb); have n6_ := Aside0.mk (blk_below (g := gb395) (o := .cells #[.slice Ao48 t385.length co48, .slice Ao52 t388.length co52, .slice Ao53 t391.length co53] 33 (0, 0)) (by (with_reducible repeat (first | refine blk_drewN ?_ _ | refine blk_drew ?_ | refine blk_alloc ?_ _)); refine blk_put (cs := #[.slice Ao48 t385.length co48, .slice Ao52 t388.length co52, .slice none 0 0]) ?_ 2 _ rfl; (with_reducible repeat (first | refine blk_drewN ?_ _ | refine blk_drew ?_ | refine blk_alloc ?_ _)); refine blk_put (cs := #[.slice Ao48 t385.length co48, .slice none 0 0, .slice none 0 0]) ?_ 1 _ rfl; (with_reducible repeat (first | refine blk_drewN ?_ _ | refine blk_drew ?_ | refine blk_alloc ?_ _)); refine blk_put (cs := #[.slice none 0 0, .slice none 0 0, .slice none 0 0]) ?_ 0 _ rfl; (with_reducible repeat (first | refine blk_drewN ?_ _ | refine blk_drew ?_ | refine blk_alloc ?_ _)); exact BK395.out) hb); have n7_ := Aside0.mk (below_step (upH HB) hb); clear HO387; clear HO390; clear HO393; clear BK363; clear BK364; clear BK395; clear HB; have HO387 := n0_; have HO390 := n1_; have HO393 := n2_; have HO398 := n3_; have BK363 := n4_; have BK364 := n5_; have BK395 := n6_; have HB := n7_; clear n0_ n1_ n2_ n3_ n4_ n5_ n6_ n7_; clear hb ho55; have hcz56_0 := cell0 BK395; have hcz56_1 := cell1 BK395; have hcz56_2 := cell2 BK395; have hfz56_0 := blk_frozen BK395.out 0; have hfz56_1 := blk_frozen BK395.out 1; have hfz56_2 := blk_frozen BK395.out 2) | ((with_reducible refine gate_builtin (b := .append) (xs := #[.tmp 38, .tmp 40]) rfl ?_); (try (refine gate_guard (by rfl) ?_; dsimp only)); at_builtin; refine Kd.R_append_rows (Kd.int .i64) (w0 := w) w.heap.size rfl (.tmp 38) (.tmp 40) 30 3 (.int .i64 0) 8 rfl Try.underlying30 info3 rfl (by decide) (by omega) v397 y396 t385 _ _ _ (fun k_ => some k_ ≠ (.slice Ao48 t385.length co48 : Value).ownBlock ∧ some k_ ≠ (.slice Ao52 t388.length co52 : Value).ownBlock) (fun _ => False) rfl rfl ?aO ?aR (fun _ _ h => h) (fun _ h => h.elim) ?aF ?aB ?aS ?aL ?_; (case aR => repeat (first | exact (Kd.R_reads' HO387.out).2.2 | (with_reducible refine Kd.C_alloc ?_ _) | (with_reducible refine Kd.C_drewN ?_ _) | (with_reducible refine Kd.C_drew ?_))); (case aB => exact (upH HB)); (case aF => exact (fun k_ hk => ⟨Kd.fresh' (Kd.R_lt (upR HO387.out)) k_ hk, Kd.fresh' (Kd.R_lt (upR HO390.out)) k_ hk⟩)); (case aO => exact (by (with_reducible repeat (first | apply Kd.R_alloc | apply Kd.R_drewN | apply Kd.R_drew)); exact Kd.R_mono HO398.out (fun _ hk => ⟨hk.1.2, hk.2⟩))); (case aS => exact (below_size (upH HB))); (case aL => have := LMc43.out; omega); intro v400 w57 ho hb hg hat; rw [← Ny399.out] at ho; have n0_ := Aside0.mk (blk_grown (g := gb363) (o := .cells #[.slice A0_0 l0_0.length c0_0, .slice (some ad384) l0_1.length c0_1, .slice A0_2 l0_2.length c0_2] 33 (0, 0)) (upB BK363) hg (Kd.R_ne HO398.out BK363.out (by decide))); have n1_ := Aside0.mk (blk_grown (g := gb364) (o := .cells #[.slice none 0 0, .slice none 0 0, .slice none 0 0] 33 (0, 0)) (upB BK364) hg (Kd.R_ne HO398.out BK364.out (by decide))); have n2_ := Aside0.mk (Kd.R_after (ok := (fun k_ => some k_ ≠ (.slice Ao52 t388.length co52 : Value).ownBlock)) (upR HO387.out) hg hat); have n3_ := Aside0.mk (Kd.R_after (ok := (fun k_ => some k_ ≠ (.slice Ao48 t385.length co48 : Value).ownBlock)) (upR HO390.out) hg hat); have n4_ := Aside0.mk (Kd.R_over' (upR HO393.out) (Kd.R_typed (upR HO398.out)) (by decide) hg); have n5_ := Aside0.mk (blk_grown (g := gb395) (o := .cells #[.slice Ao48 t385.length co48, .slice Ao52 t388.length co52, .slice Ao53 t391.length co53] 33 (0, 0)) (upB BK395) hg (Kd.R_ne HO398.out BK395.out (by decide))); have n6_ := Aside0.mk (hb); have n7_ := Aside0.mk (ho); clear BK363; clear BK364; clear HO387; clear HO390; clear HO393; clear BK395; clear HB; clear HO398; have BK363 := n0_; have BK364 := n1_; have HO387 := n2_; have HO390 := n3_; have HO393 := n4_; have BK395 := n5_; have HB := n6_; have HO401 := n7_; clear n0_ n1_ n2_ n3_ n4_ n5_ n6_ n7_; clear ho hb hg hat; obtain ⟨Ao58, co58, eo58⟩ := Kd.R_slice HO401.out; subst eo58; have hcz59_0 := cell0 BK395; have hcz59_1 := cell1 BK395; have hcz59_2 := cell2 BK395; have hfz59_0 := blk_frozen BK395.out 0; have hfz59_1 := blk_frozen BK395.out 1; have hfz59_2 := blk_frozen BK395.out 2; have hcz60_0 := cell0 BK364; have hcz60_1 := cell1 BK364; have hcz60_2 := cell2 BK364; have hfz60_0 := blk_frozen BK364.out 0; have hfz60_1 := blk_frozen BK364.out 1; have hfz60_2 := blk_frozen BK364.out 2))
        refine bodyPost_ret (results_ctt rfl _ _ gb364 33 #[.slice Ao58 y399.length co58, .slice Ao52 t388.length co52, .slice Ao53 t391.length co53] (0, 0) _ rfl (by (with_reducible repeat (first | refine blk_drewN ?_ _ | refine blk_drew ?_ | refine blk_alloc ?_ _)); refine blk_put (cs := #[.slice Ao58 y399.length co58, .slice Ao52 t388.length co52, .slice none 0 0]) ?_ 2 _ rfl; (with_reducible repeat (first | refine blk_drewN ?_ _ | refine blk_drew ?_ | refine blk_alloc ?_ _)); refine blk_put (cs := #[.slice Ao58 y399.length co58, .slice none 0 0, .slice none 0 0]) ?_ 1 _ rfl; (with_reducible repeat (first | refine blk_drewN ?_ _ | refine blk_drew ?_ | refine blk_alloc ?_ _)); refine blk_put (cs := #[.slice none 0 0, .slice none 0 0, .slice none 0 0]) ?_ 0 _ rfl; (with_reducible repeat (first | refine blk_drewN ?_ _ | refine blk_drew ?_ | refine blk_alloc ?_ _)); refine blk_far ?_ NB364_395.out _; (with_reducible repeat (first | refine blk_drewN ?_ _ | refine blk_drew ?_ | refine blk_alloc ?_ _)); exact BK364.out) Try.underlying33 rfl (by kernel_rfl)) rfl ?_
        exact ⟨_, _, _, by first | rfl | (simp [errW_none, errW_some] <;> rfl) | (simp only [← hji39]; first | rfl | (simp [errW_none, errW_some] <;> rfl)) | (simp [*, errW_none, errW_some] <;> rfl), by (with_reducible repeat (first | apply Kd.R_alloc | apply Kd.R_drewN | apply Kd.R_drew)); exact Kd.R_mono (Kd.R_far (p := ⟨gb364, 2, none⟩) (Kd.R_far (p := ⟨gb364, 1, none⟩) (Kd.R_far (p := ⟨gb364, 0, none⟩) (Kd.R_far (p := ⟨gb395, 0, none⟩) (Kd.R_types (Kd.R_types HO401.out BK395.out (by decide)) BK364.out (by decide)) (fun _ hk => hk.1.2) (.slice Ao58 y399.length co58)) (fun _ hk => hk.2) (.slice Ao58 y399.length co58)) (fun _ hk => hk.2) (.slice Ao52 t388.length co52)) (fun _ hk => hk.2) (.slice Ao53 t391.length co53)) (fun _ hk => hk.1.1.2), by (with_reducible repeat (first | apply Kd.R_alloc | apply Kd.R_drewN | apply Kd.R_drew)); exact Kd.R_mono (Kd.R_far (p := ⟨gb364, 2, none⟩) (Kd.R_far (p := ⟨gb364, 1, none⟩) (Kd.R_far (p := ⟨gb364, 0, none⟩) (Kd.R_far (p := ⟨gb395, 0, none⟩) (Kd.R_types (Kd.R_types HO390.out BK395.out (by decide)) BK364.out (by decide)) (fun _ hk => hk.1.2) (.slice Ao58 y399.length co58)) (fun _ hk => hk.2) (.slice Ao58 y399.length co58)) (fun _ hk => hk.2) (.slice Ao52 t388.length co52)) (fun _ hk => hk.2) (.slice Ao53 t391.length co53)) (fun _ hk => hk.1.1.2), by (with_reducible repeat (first | apply Kd.R_alloc | apply Kd.R_drewN | apply Kd.R_drew)); exact Kd.R_mono (Kd.R_far (p := ⟨gb364, 2, none⟩) (Kd.R_far (p := ⟨gb364, 1, none⟩) (Kd.R_far (p := ⟨gb364, 0, none⟩) (Kd.R_far (p := ⟨gb395, 0, none⟩) (Kd.R_types (Kd.R_types HO393.out BK395.out (by decide)) BK364.out (by decide)) (fun _ hk => hk.1.2) (.slice Ao58 y399.length co58)) (fun _ hk => hk.2) (.slice Ao58 y399.length co58)) (fun _ hk => hk.2) (.slice Ao52 t388.length co52)) (fun _ hk => hk.2) (.slice Ao53 t391.length co53)) (fun _ hk => trivial), by repeat (first | (with_reducible first | exact HB.out | apply below_alloc | apply pw_below_drewN | apply below_drew1 | refine below_set ?_ GE363.out | refine below_set ?_ GE364.out | refine below_set ?_ GE395.out) | exact HB.out)⟩
       ·
        rw [if_neg c43] at H
        exact absurd H (by simp)
      ·
       rw [if_neg c41] at H
       exact absurd H (by simp)
     ·
      rw [if_neg c40] at H
      exact absurd H (by simp)
    ·
     rw [if_neg c38] at H
     have c38b0 : (t365 == 0) = false := beq_eq_false_iff_ne.mpr c38
     have c38b1 : (t365 != 0) = true := bne_iff_ne.mpr c38
     simp only [Option.some.injEq, Prod.mk.injEq] at H
     obtain ⟨rfl, rfl, rfl, rfl, rfl⟩ := H
     have hnb61 := NB364_363.out
     have hnc61 := NB363_364.out
     have hcz62_0 := cell0 BK364
     have hcz62_1 := cell1 BK364
     have hcz62_2 := cell2 BK364
     have hfz62_0 := blk_frozen BK364.out 0
     have hfz62_1 := blk_frozen BK364.out 1
     have hfz62_2 := blk_frozen BK364.out 2
     go_wp2
     refine bodyPost_ret (results_ctt rfl _ _ gb364 33 #[.slice none 0 0, .slice none 0 0, .slice none 0 0] (0, 0) _ rfl (by (with_reducible repeat (first | refine blk_drewN ?_ _ | refine blk_drew ?_ | refine blk_alloc ?_ _)); refine blk_put (cs := #[.slice none 0 0, .slice none 0 0, .slice none 0 0]) ?_ 2 _ rfl; (with_reducible repeat (first | refine blk_drewN ?_ _ | refine blk_drew ?_ | refine blk_alloc ?_ _)); refine blk_put (cs := #[.slice none 0 0, .slice none 0 0, .slice none 0 0]) ?_ 1 _ rfl; (with_reducible repeat (first | refine blk_drewN ?_ _ | refine blk_drew ?_ | refine blk_alloc ?_ _)); refine blk_put (cs := #[.slice none 0 0, .slice none 0 0, .slice none 0 0]) ?_ 0 _ rfl; (with_reducible repeat (first | refine blk_drewN ?_ _ | refine blk_drew ?_ | refine blk_alloc ?_ _)); exact BK364.out) Try.underlying33 rfl (by kernel_rfl)) rfl ?_
     exact ⟨_, _, _, by first | rfl | (simp [errW_none, errW_some] <;> rfl) | (simp [*, errW_none, errW_some] <;> rfl), by first | exact Kd.R_nil _ _ _ _ _ | exact Kd.N_nil _ _ _ _ _ | exact Kd.V_nil _ _ _ _ _ | exact Kd.Q_nil _ _ _ _ _ | exact Kd.S_nil _ _ _ _ _, by first | exact Kd.R_nil _ _ _ _ _ | exact Kd.N_nil _ _ _ _ _ | exact Kd.V_nil _ _ _ _ _ | exact Kd.Q_nil _ _ _ _ _ | exact Kd.S_nil _ _ _ _ _, by first | exact Kd.R_nil _ _ _ _ _ | exact Kd.N_nil _ _ _ _ _ | exact Kd.V_nil _ _ _ _ _ | exact Kd.Q_nil _ _ _ _ _ | exact Kd.S_nil _ _ _ _ _, by repeat (first | (with_reducible first | exact HB.out | apply below_alloc | apply pw_below_drewN | apply below_drew1 | refine below_set ?_ GE363.out | refine below_set ?_ GE364.out) | exact HB.out)⟩

end Go.Proofs.Ytnheknlmmmkbpaa.X

namespace Go.Proofs.Ytnheknlmmmkbpaa.X
open Go.RowKit Go.Proofs.YtnheknlmmmkbpaaW.PrintWords Go.Proofs.YtnheknlmmmkbpaaW.PrintLast Go.Proofs.YtnheknlmmmkbpaaW.PrintMore
attribute [local go_sem] max2_int min2_int max_two min_two max_three min_three max_four min_four   -- for this text's walks alone
set_option linter.unusedVariables false
set_option linter.unusedSimpArgs false

/-! ### headgateref31_Steps: function 27 -/
def headgateref31_Steps.l0 : Nat → Int → List Int → List Int → List Bool → Option (Int × Int)
 | 0, _, _, _, _ => none
 | k + 1, x5, x403000, x403001, x403002 => (headgateref31_Which.f k x403000 x403001 x403002).bind fun bt404 => (if bt404.1 = 1 then ((headgateref07_Demote.f k x403000 x403001 x403002).bind fun bt406 => (headgateref31_Steps.l0 k (wrap64 (x5 + 1)) bt406.1 bt406.2.1 bt406.2.2.1)) else (if bt404.1 = 2 then ((headgateref07_Promote.f k x403000 x403001 x403002).bind fun bt417 => (headgateref31_Steps.l0 k (wrap64 (x5 + 1)) bt417.1 bt417.2.1 bt417.2.2.1)) else (some (x5, 0))))
def headgateref31_Steps.f (k : Nat) (l0_0 : List Int) (l0_1 : List Int) (l0_2 : List Bool) : Option (Int × Int) := (headgateref07_Check.f l0_0 l0_1 l0_2).bind fun t403 => (if t403 = 0 then (headgateref31_Steps.l0 k 0 l0_0 l0_1 l0_2) else (some (0, t403)))
theorem headgateref31_Steps.mono_l : ∀ k, (∀ y0 y1 y2 y3, LeO (headgateref31_Steps.l0 k y0 y1 y2 y3) (headgateref31_Steps.l0 (k + 1) y0 y1 y2 y3))
 | 0 => fun _ _ _ _ r h => by simp [headgateref31_Steps.l0] at h
 | k + 1 => by
  have ih0 := headgateref31_Steps.mono_l k
  ·
   intro y0 y1 y2 y3
   unfold headgateref31_Steps.l0
   repeat' first
   | (with_reducible exact ih0 _ _ _ _)
   | (with_reducible exact headgateref07_Demote.mono _ _ _ _)
   | (with_reducible exact headgateref07_Promote.mono _ _ _ _)
   | (with_reducible exact headgateref31_Which.mono _ _ _ _)
   | (with_reducible exact LeO.refl _)
   | (with_reducible exact LeO.none _)
   | (with_reducible refine LeO.ite ?_ ?_)
   | (with_reducible refine LeO.bind ?_ (fun _ => ?_))
   | exact ih0 _ _ _ _
   | exact headgateref07_Demote.mono _ _ _ _
   | exact headgateref07_Promote.mono _ _ _ _
   | exact headgateref31_Which.mono _ _ _ _
   | exact LeO.none _
   | refine LeO.ite ?_ ?_
   | refine LeO.bind ?_ (fun _ => ?_)
theorem headgateref31_Steps.mono : ∀ a0 a1 a2 k, LeO (headgateref31_Steps.f k a0 a1 a2) (headgateref31_Steps.f (k + 1) a0 a1 a2) := by
 intro a0 a1 a2 k
 have ih0 := headgateref31_Steps.mono_l k
 unfold headgateref31_Steps.f
 repeat' first
   | (with_reducible exact ih0 _ _ _ _)
   | (with_reducible exact headgateref07_Demote.mono _ _ _ _)
   | (with_reducible exact headgateref07_Promote.mono _ _ _ _)
   | (with_reducible exact headgateref31_Which.mono _ _ _ _)
   | (with_reducible exact LeO.refl _)
   | (with_reducible exact LeO.none _)
   | (with_reducible refine LeO.ite ?_ ?_)
   | (with_reducible refine LeO.bind ?_ (fun _ => ?_))
   | exact ih0 _ _ _ _
   | exact headgateref07_Demote.mono _ _ _ _
   | exact headgateref07_Promote.mono _ _ _ _
   | exact headgateref31_Which.mono _ _ _ _
   | exact LeO.none _
   | refine LeO.ite ?_ ?_
   | refine LeO.bind ?_ (fun _ => ?_)
set_option maxHeartbeats 2000000 in
set_option maxRecDepth 100000 in
theorem headgateref31_Steps.calls (k : Nat) (P0_0_ : Nat → Prop) (A0_0 : Option Addr) (c0_0 : Nat) (l0_0 : List Int) (P0_1_ : Nat → Prop) (A0_1 : Option Addr) (c0_1 : Nat) (l0_1 : List Int) (P0_2_ : Nat → Prop) (A0_2 : Option Addr) (c0_2 : Nat) (l0_2 : List Bool) (r1 : Int) (r2 : Int) (w : World) (hs0_0 : Kd.V (Kd.int .i64) 3 w w.heap.size (fun k_ => P0_0_ k_) (.slice A0_0 l0_0.length c0_0) l0_0) (hs0_1 : Kd.V (Kd.int .i64) 3 w w.heap.size (fun k_ => P0_1_ k_) (.slice A0_1 l0_1.length c0_1) l0_1) (hs0_2 : Kd.V Kd.bool 4 w w.heap.size (fun k_ => P0_2_ k_) (.slice A0_2 l0_2.length c0_2) l0_2) (h : headgateref31_Steps.f k l0_0 l0_1 l0_2 = some (r1, r2)) :
  Calls Try.prog 27 #[.agg #[.slice A0_0 l0_0.length c0_0, .slice A0_1 l0_1.length c0_1, .slice A0_2 l0_2.length c0_2]] w fun e w' => e = .returned (.tuple #[.int .i64 r1, .int .i64 r2]) ∧ Below w.heap.size w w' := by
 have hu33 := Try.underlying33
 have HO0_0 := Aside0.mk (show Kd.V (Kd.int .i64) 3 w w.heap.size (fun k_ => ((P0_0_ k_ ∨ P0_1_ k_ ∨ P0_2_ k_) ∨ w.heap.size ≤ k_)) (.slice A0_0 l0_0.length c0_0) l0_0 from Kd.V_mono hs0_0 (fun k_ hk => .inl (.inl hk)))
 have HO0_1 := Aside0.mk (show Kd.V (Kd.int .i64) 3 w w.heap.size (fun k_ => ((P0_0_ k_ ∨ P0_1_ k_ ∨ P0_2_ k_) ∨ w.heap.size ≤ k_)) (.slice A0_1 l0_1.length c0_1) l0_1 from Kd.V_mono hs0_1 (fun k_ hk => .inl (.inr (.inl hk))))
 have HO0_2 := Aside0.mk (show Kd.V Kd.bool 4 w w.heap.size (fun k_ => ((P0_0_ k_ ∨ P0_1_ k_ ∨ P0_2_ k_) ∨ w.heap.size ≤ k_)) (.slice A0_2 l0_2.length c0_2) l0_2 from Kd.V_mono hs0_2 (fun k_ hk => .inl (.inr (.inr hk))))
 have HB := Aside0.mk (Below.refl w.heap.size w)
 have H : ((headgateref07_Check.f l0_0 l0_1 l0_2).bind fun t403 => (if t403 = 0 then (headgateref31_Steps.l0 k 0 l0_0 l0_1 l0_2) else (some (0, t403)))) = some (r1, r2) := h
 clear h
 replace H := Option.bind_eq_some_iff.mp H
 obtain ⟨t403, A20, H⟩ := H
 replace H : (if t403 = 0 then (headgateref31_Steps.l0 k 0 l0_0 l0_1 l0_2) else (some (0, t403))) = some (r1, r2) := H
 have A2 := Aside0.mk A20
 clear A20
 by_cases c3 : t403 = 0
 ·
  rw [if_pos c3] at H
  have c3b0 : (t403 == 0) = true := beq_iff_eq.mpr c3
  have c3b1 : (t403 != 0) = false := bne_eq_false_iff_eq.mpr c3
  clear c3
  have H' := Aside0.mk H
  clear H
  go_enter Try.func27, Try.ntmps27
  go_wp2_with (first | ((with_reducible refine gate_dst (N := 1) rfl ?_); refine box_event ?hg (N := 1) ?hd (cs := #[.slice A0_0 l0_0.length c0_0, .slice A0_1 l0_1.length c0_1, .slice A0_2 l0_2.length c0_2]) (t := 33) ?hr ?_; (case hd => rfl); (case hg => rfl); (case hr => first | (go_simp; done) | (go_simp; rfl)); intro gb402 hg w4 hbox hb; have n0_ := Aside0.mk (Kd.V_below (Kd.V_elderB (upV HO0_0.out) gb402 (Nat.le_of_eq hg.symm)) hb); have n1_ := Aside0.mk (Kd.V_below (Kd.V_elderB (upV HO0_1.out) gb402 (Nat.le_of_eq hg.symm)) hb); have n2_ := Aside0.mk (Kd.V_below (Kd.V_elderB (upV HO0_2.out) gb402 (Nat.le_of_eq hg.symm)) hb); have n3_ := Aside0.mk (below_step (upH HB) hb); have n4_ := Aside0.mk (hbox); have n5_ := Aside0.mk ((by rw [hg]; exact (below_size (upH HB)) : w.heap.size ≤ gb402)); have n6_ := Aside0.mk ((by rw [hg]; exact (below_size (upH HB)) : w.heap.size ≤ gb402)); clear HO0_0; clear HO0_1; clear HO0_2; clear HB; have HO0_0 := n0_; have HO0_1 := n1_; have HO0_2 := n2_; have HB := n3_; have BK402 := n4_; have GW402 := n5_; have GE402 := n6_; clear n0_ n1_ n2_ n3_ n4_ n5_ n6_; clear hb hbox hg; have hcz5_0 := cell0 BK402; have hcz5_1 := cell1 BK402; have hcz5_2 := cell2 BK402; have hfz5_0 := blk_frozen BK402.out 0; have hfz5_1 := blk_frozen BK402.out 1; have hfz5_2 := blk_frozen BK402.out 2) | ((with_reducible refine gate_callee (f := 44) rfl ?_); refine goesL_ (some 9) rfl rfl Try.func44 (by kernel_rfl) rfl #[.agg #[.slice A0_0 l0_0.length c0_0, .slice A0_1 l0_1.length c0_1, .slice A0_2 l0_2.length c0_2]] rfl (args_ (p := _)) ?_; (with_reducible refine (headgateref07_Check.calls _ _ l0_0 _ _ l0_1 _ _ l0_2 t403 _ ?side1 ?side2 ?side3 ?side4 ?side5 ?side6 A2.out).mono ?_); (case side1 => exact upc (Kd.V_reads' HO0_0.out).2.2); (case side2 => exact (Kd.V_reads' HO0_0.out).2.1); (case side3 => exact upc (Kd.V_reads' HO0_1.out).2.2); (case side4 => exact (Kd.V_reads' HO0_1.out).2.1); (case side5 => exact upc (Kd.V_reads' HO0_2.out).2.2); (case side6 => exact (Kd.V_reads' HO0_2.out).2.1); rintro e w6 ⟨rfl, hb⟩; refine ⟨_, rfl, ?_⟩; have n0_ := Aside0.mk (Kd.V_below (upV HO0_0.out) hb); have n1_ := Aside0.mk (Kd.V_below (upV HO0_1.out) hb); have n2_ := Aside0.mk (Kd.V_below (upV HO0_2.out) hb); have n3_ := Aside0.mk (blkB BK402 hb); have n4_ := Aside0.mk (below_step (upH HB) hb); clear HO0_0; clear HO0_1; clear HO0_2; clear BK402; clear HB; have HO0_0 := n0_; have HO0_1 := n1_; have HO0_2 := n2_; have BK402 := n3_; have HB := n4_; clear n0_ n1_ n2_ n3_ n4_; (try clear hb); (try clear hb2); (try clear hk); (try clear hi)))
  go_loopg [5] k (fun kq v5 w' => ∃ (x5_1 : Int) (x403000_1 : List Int) (x403001_1 : List Int) (x403002_1 : List Bool) (u403000 : Value) (u403001 : Value) (u403002 : Value), v5 = .int .i64 x5_1 ∧ Aside0 (headgateref31_Steps.l0 kq x5_1 x403000_1 x403001_1 x403002_1 = some (r1, r2)) ∧ Aside0 (kq ≤ k) ∧ Aside0 (Kd.V (Kd.int .i64) 3 w' w.heap.size (fun k_ => ((P0_0_ k_ ∨ P0_1_ k_ ∨ P0_2_ k_) ∨ w.heap.size ≤ k_) ∧ k_ ≠ gb402) u403000 x403000_1) ∧ Aside0 (Kd.V (Kd.int .i64) 3 w' w.heap.size (fun k_ => ((P0_0_ k_ ∨ P0_1_ k_ ∨ P0_2_ k_) ∨ w.heap.size ≤ k_) ∧ k_ ≠ gb402) u403001 x403001_1) ∧ Aside0 (Kd.V Kd.bool 4 w' w.heap.size (fun k_ => ((P0_0_ k_ ∨ P0_1_ k_ ∨ P0_2_ k_) ∨ w.heap.size ≤ k_) ∧ k_ ≠ gb402) u403002 x403002_1) ∧ Aside0 (w'.heap[gb402]? = some (.cells #[u403000, u403001, u403002] 33 (0, 0))) ∧ Aside0 (Below w.heap.size w w'))
  case atStart => exact ⟨(0), (l0_0), (l0_1), (l0_2), (.slice A0_0 l0_0.length c0_0), (.slice A0_1 l0_1.length c0_1), (.slice A0_2 l0_2.length c0_2), (by first | rfl | (simp; done) | (simp [*]; done)), H', ⟨Nat.le_refl _⟩, ⟨upV HO0_0.out⟩, ⟨upV HO0_1.out⟩, ⟨upV HO0_2.out⟩, ⟨upB BK402⟩, ⟨upH HB⟩⟩
  case round =>
   clear H'
   try clear c2
   try clear p2
   try clear c3
   try clear c3b0
   try clear c3b1
   try clear c4
   try clear hcz5_0
   try clear hcz5_1
   try clear hcz5_2
   try clear hfz5_0
   try clear hfz5_1
   try clear hfz5_2
   obtain ⟨x5_1, x403000_1, x403001_1, x403002_1, u403000, u403001, u403002, rfl, HA, HK1, HO_403000, HO_403001, HO_403002, BK402, HB⟩ := hrel
   cases gk with
   | zero => exact absurd HA.out (by simp [headgateref31_Steps.l0])
   | succ k1 =>
    have H := HA.out
    clear HA
    simp only [headgateref31_Steps.l0] at H
    replace H := Option.bind_eq_some_iff.mp H
    obtain ⟨⟨t404, t405⟩, A70, H⟩ := H
    replace H : (if t404 = 1 then ((headgateref07_Demote.f k1 x403000_1 x403001_1 x403002_1).bind fun bt406 => (headgateref31_Steps.l0 k1 (wrap64 (x5_1 + 1)) bt406.1 bt406.2.1 bt406.2.2.1)) else (if t404 = 2 then ((headgateref07_Promote.f k1 x403000_1 x403001_1 x403002_1).bind fun bt417 => (headgateref31_Steps.l0 k1 (wrap64 (x5_1 + 1)) bt417.1 bt417.2.1 bt417.2.2.1)) else (some (x5_1, 0)))) = some (r1, r2) := H
    have A7 := Aside0.mk A70
    clear A70
    by_cases c8 : t404 = 1
    ·
     rw [if_pos c8] at H
     have c8b0 : (t404 == 1) = true := beq_iff_eq.mpr c8
     have c8b1 : (t404 != 1) = false := bne_eq_false_iff_eq.mpr c8
     clear c8
     replace H := Option.bind_eq_some_iff.mp H
     obtain ⟨⟨t406, t409, t412, t415, t416⟩, A90, H⟩ := H
     replace H : (headgateref31_Steps.l0 k1 (wrap64 (x5_1 + 1)) t406 t409 t412) = some (r1, r2) := H
     have A9 := Aside0.mk A90
     clear A90
     have H' := Aside0.mk H
     clear H
     have hcz10_0 := cell0 BK402
     have hcz10_1 := cell1 BK402
     have hcz10_2 := cell2 BK402
     have hfz10_0 := blk_frozen BK402.out 0
     have hfz10_1 := blk_frozen BK402.out 1
     have hfz10_2 := blk_frozen BK402.out 2
     obtain ⟨Ao11, co11, eo11⟩ := Kd.V_slice HO_403000.out
     subst eo11
     obtain ⟨Ao12, co12, eo12⟩ := Kd.V_slice HO_403001.out
     subst eo12
     obtain ⟨Ao13, co13, eo13⟩ := Kd.V_slice HO_403002.out
     subst eo13
     go_wp2_with (first | ((with_reducible refine gate_callee (f := 24) rfl ?_); refine goesL_ (some 17) rfl rfl Try.func24 (by kernel_rfl) rfl #[.agg #[.slice Ao11 x403000_1.length co11, .slice Ao12 x403001_1.length co12, .slice Ao13 x403002_1.length co13]] rfl (args_ (p := _)) ?_; (with_reducible refine (headgateref31_Which.calls k1 _ _ x403000_1 _ _ x403001_1 _ _ x403002_1 t404 t405 _ ?side1 ?side2 ?side3 ?side4 ?side5 ?side6 A7.out).mono ?_); (case side1 => exact upc (Kd.V_reads' HO_403000.out).2.2); (case side2 => exact (Kd.V_reads' HO_403000.out).2.1); (case side3 => exact upc (Kd.V_reads' HO_403001.out).2.2); (case side4 => exact (Kd.V_reads' HO_403001.out).2.1); (case side5 => exact upc (Kd.V_reads' HO_403002.out).2.2); (case side6 => exact (Kd.V_reads' HO_403002.out).2.1); rintro e w14 ⟨rfl, hb⟩; refine ⟨_, rfl, ?_⟩; have n0_ := Aside0.mk (Kd.V_below (upV HO_403000.out) hb); have n1_ := Aside0.mk (Kd.V_below (upV HO_403001.out) hb); have n2_ := Aside0.mk (Kd.V_below (upV HO_403002.out) hb); have n3_ := Aside0.mk (blkB BK402 hb); have n4_ := Aside0.mk (below_step (upH HB) hb); clear HO_403000; clear HO_403001; clear HO_403002; clear BK402; clear HB; have HO_403000 := n0_; have HO_403001 := n1_; have HO_403002 := n2_; have BK402 := n3_; have HB := n4_; clear n0_ n1_ n2_ n3_ n4_; (try clear hb); (try clear hb2); (try clear hk); (try clear hi); have hcz15_0 := cell0 BK402; have hcz15_1 := cell1 BK402; have hcz15_2 := cell2 BK402; have hfz15_0 := blk_frozen BK402.out 0; have hfz15_1 := blk_frozen BK402.out 1; have hfz15_2 := blk_frozen BK402.out 2) | ((with_reducible refine gate_callee (f := 47) rfl ?_); refine goesL_ (some 26) rfl rfl Try.func47 (by kernel_rfl) rfl #[.agg #[.slice Ao11 x403000_1.length co11, .slice Ao12 x403001_1.length co12, .slice Ao13 x403002_1.length co13]] rfl (args_ (p := _)) ?_; (with_reducible refine (headgateref07_Demote.calls k1 _ _ x403000_1 _ _ x403001_1 _ _ x403002_1 t406 t409 t412 t415 t416 _ ?side1 ?side2 ?side3 ?side4 ?side5 ?side6 A9.out).mono ?_); (case side1 => exact upc (Kd.V_reads' HO_403000.out).2.2); (case side2 => exact (Kd.V_reads' HO_403000.out).2.1); (case side3 => exact upc (Kd.V_reads' HO_403001.out).2.2); (case side4 => exact (Kd.V_reads' HO_403001.out).2.1); (case side5 => exact upc (Kd.V_reads' HO_403002.out).2.2); (case side6 => exact (Kd.V_reads' HO_403002.out).2.1); rintro e w16 ⟨v407, v410, v413, rfl, ho0, ho1, ho2, hb⟩; refine ⟨_, rfl, ?_⟩; have n0_ := Aside0.mk (Kd.V_mono (Kd.V_told (Kd.V_told (Kd.V_told (Kd.V_old (upV HO_403000.out) hb) (Kd.R_base ho0)) (Kd.R_base ho1)) (Kd.R_base ho2)) (fun _ h_ => h_.1)); have n1_ := Aside0.mk (Kd.V_mono (Kd.V_told (Kd.V_told (Kd.V_told (Kd.V_old (upV HO_403001.out) hb) (Kd.R_base ho0)) (Kd.R_base ho1)) (Kd.R_base ho2)) (fun _ h_ => h_.1)); have n2_ := Aside0.mk (Kd.V_mono (Kd.V_told (Kd.V_told (Kd.V_told (Kd.V_old (upV HO_403002.out) hb) (Kd.R_base ho0)) (Kd.R_base ho1)) (Kd.R_base ho2)) (fun _ h_ => h_.1)); have n3_ := Aside0.mk (Kd.R_lower (Kd.R_newM (M := fun k_ => (w.heap.size ≤ k_)) ho0 (below_size (upH HB)) (fun k_ h_ => h_)) (below_size (upH HB))); have n4_ := Aside0.mk (Kd.R_lower (Kd.R_newM (M := fun k_ => (w.heap.size ≤ k_)) ho1 (below_size (upH HB)) (fun k_ h_ => h_)) (below_size (upH HB))); have n5_ := Aside0.mk (Kd.R_lower (Kd.R_newM (M := fun k_ => (w.heap.size ≤ k_)) ho2 (below_size (upH HB)) (fun k_ h_ => h_)) (below_size (upH HB))); have n6_ := Aside0.mk (blkB BK402 hb); have n7_ := Aside0.mk (below_step (upH HB) hb); clear HO_403000; clear HO_403001; clear HO_403002; clear BK402; clear HB; have HO_403000 := n0_; have HO_403001 := n1_; have HO_403002 := n2_; have HO408 := n3_; have HO411 := n4_; have HO414 := n5_; have BK402 := n6_; have HB := n7_; clear n0_ n1_ n2_ n3_ n4_ n5_ n6_ n7_; (try clear hb); (try clear hb2); (try clear hk); (try clear hi); (try clear ho0); (try clear ho1); (try clear ho2); obtain ⟨Ao17, co17, eo17⟩ := Kd.R_slice HO408.out; subst eo17; have hcz18_0 := cell0 BK402; have hcz18_1 := cell1 BK402; have hcz18_2 := cell2 BK402; have hfz18_0 := blk_frozen BK402.out 0; have hfz18_1 := blk_frozen BK402.out 1; have hfz18_2 := blk_frozen BK402.out 2; obtain ⟨Ao19, co19, eo19⟩ := Kd.R_slice HO411.out; subst eo19; obtain ⟨Ao20, co20, eo20⟩ := Kd.R_slice HO414.out; subst eo20))
     go_roundg k1
     case measure => have := HK1.out; omega
     case rel => exact ⟨(wrap64 (x5_1 + 1)), (t406), (t409), (t412), (.slice Ao17 t406.length co17), (.slice Ao19 t409.length co19), (.slice Ao20 t412.length co20), (by first | rfl | (simp; done) | (simp [*]; done)), H', ⟨by have := HK1.out; omega⟩, ⟨Kd.V_mono (Kd.R_V (by (with_reducible repeat (first | apply Kd.R_alloc | apply Kd.R_drewN | apply Kd.R_drew)); exact Kd.R_mono (ok' := fun k_ => w.heap.size ≤ k_ ∧ k_ ≠ gb402) (Kd.R_far (p := ⟨gb402, 2, none⟩) (Kd.R_far (p := ⟨gb402, 1, none⟩) (Kd.R_far (p := ⟨gb402, 0, none⟩) (Kd.R_types (Kd.R_types HO408.out BK402.out (by decide)) BK402.out (by decide)) (fun _ hk => hk.2) (.slice Ao17 t406.length co17)) (fun _ hk => hk.2) (.slice Ao19 t409.length co19)) (fun _ hk => hk.2) (.slice Ao20 t412.length co20)) (fun _ hk => ⟨hk.1.1.1, hk.1.2⟩))) (fun k_ hk => by first | exact ⟨(.inr (hk.1)), hk.2⟩ | exact (.inr (hk)))⟩, ⟨Kd.V_mono (Kd.R_V (by (with_reducible repeat (first | apply Kd.R_alloc | apply Kd.R_drewN | apply Kd.R_drew)); exact Kd.R_mono (ok' := fun k_ => w.heap.size ≤ k_ ∧ k_ ≠ gb402) (Kd.R_far (p := ⟨gb402, 2, none⟩) (Kd.R_far (p := ⟨gb402, 1, none⟩) (Kd.R_far (p := ⟨gb402, 0, none⟩) (Kd.R_types (Kd.R_types HO411.out BK402.out (by decide)) BK402.out (by decide)) (fun _ hk => hk.2) (.slice Ao17 t406.length co17)) (fun _ hk => hk.2) (.slice Ao19 t409.length co19)) (fun _ hk => hk.2) (.slice Ao20 t412.length co20)) (fun _ hk => ⟨hk.1.1.1, hk.1.2⟩))) (fun k_ hk => by first | exact ⟨(.inr (hk.1)), hk.2⟩ | exact (.inr (hk)))⟩, ⟨Kd.V_mono (Kd.R_V (by (with_reducible repeat (first | apply Kd.R_alloc | apply Kd.R_drewN | apply Kd.R_drew)); exact Kd.R_mono (ok' := fun k_ => w.heap.size ≤ k_ ∧ k_ ≠ gb402) (Kd.R_far (p := ⟨gb402, 2, none⟩) (Kd.R_far (p := ⟨gb402, 1, none⟩) (Kd.R_far (p := ⟨gb402, 0, none⟩) (Kd.R_types (Kd.R_types HO414.out BK402.out (by decide)) BK402.out (by decide)) (fun _ hk => hk.2) (.slice Ao17 t406.length co17)) (fun _ hk => hk.2) (.slice Ao19 t409.length co19)) (fun _ hk => hk.2) (.slice Ao20 t412.length co20)) (fun _ hk => ⟨hk.1.1.1, hk.1.2⟩))) (fun k_ hk => by first | exact ⟨(.inr (hk.1)), hk.2⟩ | exact (.inr (hk)))⟩, ⟨by (with_reducible repeat (first | refine blk_drewN ?_ _ | refine blk_drew ?_ | refine blk_alloc ?_ _)); refine blk_put (cs := #[.slice Ao17 t406.length co17, .slice Ao19 t409.length co19, .slice Ao13 x403002_1.length co13]) ?_ 2 _ rfl; (with_reducible repeat (first | refine blk_drewN ?_ _ | refine blk_drew ?_ | refine blk_alloc ?_ _)); refine blk_put (cs := #[.slice Ao17 t406.length co17, .slice Ao12 x403001_1.length co12, .slice Ao13 x403002_1.length co13]) ?_ 1 _ rfl; (with_reducible repeat (first | refine blk_drewN ?_ _ | refine blk_drew ?_ | refine blk_alloc ?_ _)); refine blk_put (cs := #[.slice Ao11 x403000_1.length co11, .slice Ao12 x403001_1.length co12, .slice Ao13 x403002_1.length co13]) ?_ 0 _ rfl; (with_reducible repeat (first | refine blk_drewN ?_ _ | refine blk_drew ?_ | refine blk_alloc ?_ _)); exact BK402.out⟩, ⟨upH HB⟩⟩
    ·
     rw [if_neg c8] at H
     have c8b0 : (t404 == 1) = false := beq_eq_false_iff_ne.mpr c8
     have c8b1 : (t404 != 1) = true := bne_iff_ne.mpr c8
     by_cases c21 : t404 = 2
     ·
      rw [if_pos c21] at H
      have c21b0 : (t404 == 2) = true := beq_iff_eq.mpr c21
      have c21b1 : (t404 != 2) = false := bne_eq_false_iff_eq.mpr c21
      clear c21
      replace H := Option.bind_eq_some_iff.mp H
      obtain ⟨⟨t417, t420, t423, t426, t427⟩, A220, H⟩ := H
      replace H : (headgateref31_Steps.l0 k1 (wrap64 (x5_1 + 1)) t417 t420 t423) = some (r1, r2) := H
      have A22 := Aside0.mk A220
      clear A220
      have H' := Aside0.mk H
      clear H
      have hcz23_0 := cell0 BK402
      have hcz23_1 := cell1 BK402
      have hcz23_2 := cell2 BK402
      have hfz23_0 := blk_frozen BK402.out 0
      have hfz23_1 := blk_frozen BK402.out 1
      have hfz23_2 := blk_frozen BK402.out 2
      obtain ⟨Ao24, co24, eo24⟩ := Kd.V_slice HO_403000.out
      subst eo24
      obtain ⟨Ao25, co25, eo25⟩ := Kd.V_slice HO_403001.out
      subst eo25
      obtain ⟨Ao26, co26, eo26⟩ := Kd.V_slice HO_403002.out
      subst eo26
      go_wp2_with (first | ((with_reducible refine gate_callee (f := 24) rfl ?_); refine goesL_ (some 17) rfl rfl Try.func24 (by kernel_rfl) rfl #[.agg #[.slice Ao24 x403000_1.length co24, .slice Ao25 x403001_1.length co25, .slice Ao26 x403002_1.length co26]] rfl (args_ (p := _)) ?_; (with_reducible refine (headgateref31_Which.calls k1 _ _ x403000_1 _ _ x403001_1 _ _ x403002_1 t404 t405 _ ?side1 ?side2 ?side3 ?side4 ?side5 ?side6 A7.out).mono ?_); (case side1 => exact upc (Kd.V_reads' HO_403000.out).2.2); (case side2 => exact (Kd.V_reads' HO_403000.out).2.1); (case side3 => exact upc (Kd.V_reads' HO_403001.out).2.2); (case side4 => exact (Kd.V_reads' HO_403001.out).2.1); (case side5 => exact upc (Kd.V_reads' HO_403002.out).2.2); (case side6 => exact (Kd.V_reads' HO_403002.out).2.1); rintro e w27 ⟨rfl, hb⟩; refine ⟨_, rfl, ?_⟩; have n0_ := Aside0.mk (Kd.V_below (upV HO_403000.out) hb); have n1_ := Aside0.mk (Kd.V_below (upV HO_403001.out) hb); have n2_ := Aside0.mk (Kd.V_below (upV HO_403002.out) hb); have n3_ := Aside0.mk (blkB BK402 hb); have n4_ := Aside0.mk (below_step (upH HB) hb); clear HO_403000; clear HO_403001; clear HO_403002; clear BK402; clear HB; have HO_403000 := n0_; have HO_403001 := n1_; have HO_403002 := n2_; have BK402 := n3_; have HB := n4_; clear n0_ n1_ n2_ n3_ n4_; (try clear hb); (try clear hb2); (try clear hk); (try clear hi); have hcz28_0 := cell0 BK402; have hcz28_1 := cell1 BK402; have hcz28_2 := cell2 BK402; have hfz28_0 := blk_frozen BK402.out 0; have hfz28_1 := blk_frozen BK402.out 1; have hfz28_2 := blk_frozen BK402.out 2) | ((with_reducible refine gate_callee (f := 48) rfl ?_); refine goesL_ (some 34) rfl rfl Try.func48 (by kernel_rfl) rfl #[.agg #[.slice Ao24 x403000_1.length co24, .slice Ao25 x403001_1.length co25, .slice Ao26 x403002_1.length co26]] rfl (args_ (p := _)) ?_; (with_reducible refine (headgateref07_Promote.calls k1 _ _ x403000_1 _ _ x403001_1 _ _ x403002_1 t417 t420 t423 t426 t427 _ ?side1 ?side2 ?side3 ?side4 ?side5 ?side6 A22.out).mono ?_); (case side1 => exact upc (Kd.V_reads' HO_403000.out).2.2); (case side2 => exact (Kd.V_reads' HO_403000.out).2.1); (case side3 => exact upc (Kd.V_reads' HO_403001.out).2.2); (case side4 => exact (Kd.V_reads' HO_403001.out).2.1); (case side5 => exact upc (Kd.V_reads' HO_403002.out).2.2); (case side6 => exact (Kd.V_reads' HO_403002.out).2.1); rintro e w29 ⟨v418, v421, v424, rfl, ho0, ho1, ho2, hb⟩; refine ⟨_, rfl, ?_⟩; have n0_ := Aside0.mk (Kd.V_mono (Kd.V_told (Kd.V_told (Kd.V_told (Kd.V_old (upV HO_403000.out) hb) (Kd.R_base ho0)) (Kd.R_base ho1)) (Kd.R_base ho2)) (fun _ h_ => h_.1)); have n1_ := Aside0.mk (Kd.V_mono (Kd.V_told (Kd.V_told (Kd.V_told (Kd.V_old (upV HO_403001.out) hb) (Kd.R_base ho0)) (Kd.R_base ho1)) (Kd.R_base ho2)) (fun _ h_ => h_.1)); have n2_ := Aside0.mk (Kd.V_mono (Kd.V_told (Kd.V_told (Kd.V_told (Kd.V_old (upV HO_403002.out) hb) (Kd.R_base ho0)) (Kd.R_base ho1)) (Kd.R_base ho2)) (fun _ h_ => h_.1)); have n3_ := Aside0.mk (Kd.R_lower (Kd.R_newM (M := fun k_ => (w.heap.size ≤ k_)) ho0 (below_size (upH HB)) (fun k_ h_ => h_)) (below_size (upH HB))); have n4_ := Aside0.mk (Kd.R_lower (Kd.R_newM (M := fun k_ => (w.heap.size ≤ k_)) ho1 (below_size (upH HB)) (fun k_ h_ => h_)) (below_size (upH HB))); have n5_ := Aside0.mk (Kd.R_lower (Kd.R_newM (M := fun k_ => (w.heap.size ≤ k_)) ho2 (below_size (upH HB)) (fun k_ h_ => h_)) (below_size (upH HB))); have n6_ := Aside0.mk (blkB BK402 hb); have n7_ := Aside0.mk (below_step (upH HB) hb); clear HO_403000; clear HO_403001; clear HO_403002; clear BK402; clear HB; have HO_403000 := n0_; have HO_403001 := n1_; have HO_403002 := n2_; have HO419 := n3_; have HO422 := n4_; have HO425 := n5_; have BK402 := n6_; have HB := n7_; clear n0_ n1_ n2_ n3_ n4_ n5_ n6_ n7_; (try clear hb); (try clear hb2); (try clear hk); (try clear hi); (try clear ho0); (try clear ho1); (try clear ho2); obtain ⟨Ao30, co30, eo30⟩ := Kd.R_slice HO419.out; subst eo30; have hcz31_0 := cell0 BK402; have hcz31_1 := cell1 BK402; have hcz31_2 := cell2 BK402; have hfz31_0 := blk_frozen BK402.out 0; have hfz31_1 := blk_frozen BK402.out 1; have hfz31_2 := blk_frozen BK402.out 2; obtain ⟨Ao32, co32, eo32⟩ := Kd.R_slice HO422.out; subst eo32; obtain ⟨Ao33, co33, eo33⟩ := Kd.R_slice HO425.out; subst eo33))
      go_roundg k1
      case measure => have := HK1.out; omega
      case rel => exact ⟨(wrap64 (x5_1 + 1)), (t417), (t420), (t423), (.slice Ao30 t417.length co30), (.slice Ao32 t420.length co32), (.slice Ao33 t423.length co33), (by first | rfl | (simp; done) | (simp [*]; done)), H', ⟨by have := HK1.out; omega⟩, ⟨Kd.V_mono (Kd.R_V (by (with_reducible repeat (first | apply Kd.R_alloc | apply Kd.R_drewN | apply Kd.R_drew)); exact Kd.R_mono (ok' := fun k_ => w.heap.size ≤ k_ ∧ k_ ≠ gb402) (Kd.R_far (p := ⟨gb402, 2, none⟩) (Kd.R_far (p := ⟨gb402, 1, none⟩) (Kd.R_far (p := ⟨gb402, 0, none⟩) (Kd.R_types (Kd.R_types HO419.out BK402.out (by decide)) BK402.out (by decide)) (fun _ hk => hk.2) (.slice Ao30 t417.length co30)) (fun _ hk => hk.2) (.slice Ao32 t420.length co32)) (fun _ hk => hk.2) (.slice Ao33 t423.length co33)) (fun _ hk => ⟨hk.1.1.1, hk.1.2⟩))) (fun k_ hk => by first | exact ⟨(.inr (hk.1)), hk.2⟩ | exact (.inr (hk)))⟩, ⟨Kd.V_mono (Kd.R_V (by (with_reducible repeat (first | apply Kd.R_alloc | apply Kd.R_drewN | apply Kd.R_drew)); exact Kd.R_mono (ok' := fun k_ => w.heap.size ≤ k_ ∧ k_ ≠ gb402) (Kd.R_far (p := ⟨gb402, 2, none⟩) (Kd.R_far (p := ⟨gb402, 1, none⟩) (Kd.R_far (p := ⟨gb402, 0, none⟩) (Kd.R_types (Kd.R_types HO422.out BK402.out (by decide)) BK402.out (by decide)) (fun _ hk => hk.2) (.slice Ao30 t417.length co30)) (fun _ hk => hk.2) (.slice Ao32 t420.length co32)) (fun _ hk => hk.2) (.slice Ao33 t423.length co33)) (fun _ hk => ⟨hk.1.1.1, hk.1.2⟩))) (fun k_ hk => by first | exact ⟨(.inr (hk.1)), hk.2⟩ | exact (.inr (hk)))⟩, ⟨Kd.V_mono (Kd.R_V (by (with_reducible repeat (first | apply Kd.R_alloc | apply Kd.R_drewN | apply Kd.R_drew)); exact Kd.R_mono (ok' := fun k_ => w.heap.size ≤ k_ ∧ k_ ≠ gb402) (Kd.R_far (p := ⟨gb402, 2, none⟩) (Kd.R_far (p := ⟨gb402, 1, none⟩) (Kd.R_far (p := ⟨gb402, 0, none⟩) (Kd.R_types (Kd.R_types HO425.out BK402.out (by decide)) BK402.out (by decide)) (fun _ hk => hk.2) (.slice Ao30 t417.length co30)) (fun _ hk => hk.2) (.slice Ao32 t420.length co32)) (fun _ hk => hk.2) (.slice Ao33 t423.length co33)) (fun _ hk => ⟨hk.1.1.1, hk.1.2⟩))) (fun k_ hk => by first | exact ⟨(.inr (hk.1)), hk.2⟩ | exact (.inr (hk)))⟩, ⟨by (with_reducible repeat (first | refine blk_drewN ?_ _ | refine blk_drew ?_ | refine blk_alloc ?_ _)); refine blk_put (cs := #[.slice Ao30 t417.length co30, .slice Ao32 t420.length co32, .slice Ao26 x403002_1.length co26]) ?_ 2 _ rfl; (with_reducible repeat (first | refine blk_drewN ?_ _ | refine blk_drew ?_ | refine blk_alloc ?_ _)); refine blk_put (cs := #[.slice Ao30 t417.length co30, .slice Ao25 x403001_1.length co25, .slice Ao26 x403002_1.length co26]) ?_ 1 _ rfl; (with_reducible repeat (first | refine blk_drewN ?_ _ | refine blk_drew ?_ | refine blk_alloc ?_ _)); refine blk_put (cs := #[.slice Ao24 x403000_1.length co24, .slice Ao25 x403001_1.length co25, .slice Ao26 x403002_1.length co26]) ?_ 0 _ rfl; (with_reducible repeat (first | refine blk_drewN ?_ _ | refine blk_drew ?_ | refine blk_alloc ?_ _)); exact BK402.out⟩, ⟨upH HB⟩⟩
     ·
      rw [if_neg c21] at H
      have c21b0 : (t404 == 2) = false := beq_eq_false_iff_ne.mpr c21
      have c21b1 : (t404 != 2) = true := bne_iff_ne.mpr c21
      simp only [Option.some.injEq, Prod.mk.injEq] at H
      obtain ⟨rfl, rfl⟩ := H
      have hcz34_0 := cell0 BK402
      have hcz34_1 := cell1 BK402
      have hcz34_2 := cell2 BK402
      have hfz34_0 := blk_frozen BK402.out 0
      have hfz34_1 := blk_frozen BK402.out 1
      have hfz34_2 := blk_frozen BK402.out 2
      obtain ⟨Ao35, co35, eo35⟩ := Kd.V_slice HO_403000.out
      subst eo35
      obtain ⟨Ao36, co36, eo36⟩ := Kd.V_slice HO_403001.out
      subst eo36
      obtain ⟨Ao37, co37, eo37⟩ := Kd.V_slice HO_403002.out
      subst eo37
      go_wp2_with (first | ((with_reducible refine gate_callee (f := 24) rfl ?_); refine goesL_ (some 17) rfl rfl Try.func24 (by kernel_rfl) rfl #[.agg #[.slice Ao35 x403000_1.length co35, .slice Ao36 x403001_1.length co36, .slice Ao37 x403002_1.length co37]] rfl (args_ (p := _)) ?_; (with_reducible refine (headgateref31_Which.calls k1 _ _ x403000_1 _ _ x403001_1 _ _ x403002_1 t404 t405 _ ?side1 ?side2 ?side3 ?side4 ?side5 ?side6 A7.out).mono ?_); (case side1 => exact upc (Kd.V_reads' HO_403000.out).2.2); (case side2 => exact (Kd.V_reads' HO_403000.out).2.1); (case side3 => exact upc (Kd.V_reads' HO_403001.out).2.2); (case side4 => exact (Kd.V_reads' HO_403001.out).2.1); (case side5 => exact upc (Kd.V_reads' HO_403002.out).2.2); (case side6 => exact (Kd.V_reads' HO_403002.out).2.1); rintro e w38 ⟨rfl, hb⟩; refine ⟨_, rfl, ?_⟩; have n0_ := Aside0.mk (Kd.V_below (upV HO_403000.out) hb); have n1_ := Aside0.mk (Kd.V_below (upV HO_403001.out) hb); have n2_ := Aside0.mk (Kd.V_below (upV HO_403002.out) hb); have n3_ := Aside0.mk (blkB BK402 hb); have n4_ := Aside0.mk (below_step (upH HB) hb); clear HO_403000; clear HO_403001; clear HO_403002; clear BK402; clear HB; have HO_403000 := n0_; have HO_403001 := n1_; have HO_403002 := n2_; have BK402 := n3_; have HB := n4_; clear n0_ n1_ n2_ n3_ n4_; (try clear hb); (try clear hb2); (try clear hk); (try clear hi)))
      go_ret2
      exact ⟨by first | rfl | (simp [errW_none, errW_some] <;> rfl) | (simp [*, errW_none, errW_some] <;> rfl), by repeat (first | (with_reducible first | exact HB.out | apply below_alloc | apply pw_below_drewN | apply below_drew1 | refine below_set ?_ GE402.out) | exact HB.out)⟩
 ·
  rw [if_neg c3] at H
  have c3b0 : (t403 == 0) = false := beq_eq_false_iff_ne.mpr c3
  have c3b1 : (t403 != 0) = true := bne_iff_ne.mpr c3
  simp only [Option.some.injEq, Prod.mk.injEq] at H
  obtain ⟨rfl, rfl⟩ := H
  go_enter Try.func27, Try.ntmps27
  go_wp2_with (first | ((with_reducible refine gate_dst (N := 1) rfl ?_); refine box_event ?hg (N := 1) ?hd (cs := #[.slice A0_0 l0_0.length c0_0, .slice A0_1 l0_1.length c0_1, .slice A0_2 l0_2.length c0_2]) (t := 33) ?hr ?_; (case hd => rfl); (case hg => rfl); (case hr => first | (go_simp; done) | (go_simp; rfl)); intro gb402 hg w39 hbox hb; have n0_ := Aside0.mk (Kd.V_below (Kd.V_elderB (upV HO0_0.out) gb402 (Nat.le_of_eq hg.symm)) hb); have n1_ := Aside0.mk (Kd.V_below (Kd.V_elderB (upV HO0_1.out) gb402 (Nat.le_of_eq hg.symm)) hb); have n2_ := Aside0.mk (Kd.V_below (Kd.V_elderB (upV HO0_2.out) gb402 (Nat.le_of_eq hg.symm)) hb); have n3_ := Aside0.mk (below_step (upH HB) hb); have n4_ := Aside0.mk (hbox); have n5_ := Aside0.mk ((by rw [hg]; exact (below_size (upH HB)) : w.heap.size ≤ gb402)); have n6_ := Aside0.mk ((by rw [hg]; exact (below_size (upH HB)) : w.heap.size ≤ gb402)); clear HO0_0; clear HO0_1; clear HO0_2; clear HB; have HO0_0 := n0_; have HO0_1 := n1_; have HO0_2 := n2_; have HB := n3_; have BK402 := n4_; have GW402 := n5_; have GE402 := n6_; clear n0_ n1_ n2_ n3_ n4_ n5_ n6_; clear hb hbox hg; have hcz40_0 := cell0 BK402; have hcz40_1 := cell1 BK402; have hcz40_2 := cell2 BK402; have hfz40_0 := blk_frozen BK402.out 0; have hfz40_1 := blk_frozen BK402.out 1; have hfz40_2 := blk_frozen BK402.out 2) | ((with_reducible refine gate_callee (f := 44) rfl ?_); refine goesL_ (some 9) rfl rfl Try.func44 (by kernel_rfl) rfl #[.agg #[.slice A0_0 l0_0.length c0_0, .slice A0_1 l0_1.length c0_1, .slice A0_2 l0_2.length c0_2]] rfl (args_ (p := _)) ?_; (with_reducible refine (headgateref07_Check.calls _ _ l0_0 _ _ l0_1 _ _ l0_2 t403 _ ?side1 ?side2 ?side3 ?side4 ?side5 ?side6 A2.out).mono ?_); (case side1 => exact upc (Kd.V_reads' HO0_0.out).2.2); (case side2 => exact (Kd.V_reads' HO0_0.out).2.1); (case side3 => exact upc (Kd.V_reads' HO0_1.out).2.2); (case side4 => exact (Kd.V_reads' HO0_1.out).2.1); (case side5 => exact upc (Kd.V_reads' HO0_2.out).2.2); (case side6 => exact (Kd.V_reads' HO0_2.out).2.1); rintro e w41 ⟨rfl, hb⟩; refine ⟨_, rfl, ?_⟩; have n0_ := Aside0.mk (Kd.V_below (upV HO0_0.out) hb); have n1_ := Aside0.mk (Kd.V_below (upV HO0_1.out) hb); have n2_ := Aside0.mk (Kd.V_below (upV HO0_2.out) hb); have n3_ := Aside0.mk (blkB BK402 hb); have n4_ := Aside0.mk (below_step (upH HB) hb); clear HO0_0; clear HO0_1; clear HO0_2; clear BK402; clear HB; have HO0_0 := n0_; have HO0_1 := n1_; have HO0_2 := n2_; have BK402 := n3_; have HB := n4_; clear n0_ n1_ n2_ n3_ n4_; (try clear hb); (try clear hb2); (try clear hk); (try clear hi)))
  go_ret2
  exact ⟨by first | rfl | (simp [errW_none, errW_some] <;> rfl) | (simp [*, errW_none, errW_some] <;> rfl), by repeat (first | (with_reducible first | exact HB.out | apply below_alloc | apply pw_below_drewN | apply below_drew1 | refine below_set ?_ GE402.out) | exact HB.out)⟩

end Go.Proofs.Ytnheknlmmmkbpaa.X

namespace Go.Proofs.Ytnheknlmmmkbpaa.X
open Go.RowKit Go.Proofs.YtnheknlmmmkbpaaW.PrintWords Go.Proofs.YtnheknlmmmkbpaaW.PrintLast Go.Proofs.YtnheknlmmmkbpaaW.PrintMore
attribute [local go_sem] max2_int min2_int max_two min_two max_three min_three max_four min_four   -- for this text's walks alone
set_option linter.unusedVariables false
set_option linter.unusedSimpArgs false

/-! ### headgatekit_SameInts: function 49 -/
def headgatekit_SameInts.l0 : Nat → List Int → List Int → Int → Option (Bool)
 | 0, _, _, _ => none
 | k + 1, x0, x1, x5 => if x5 < (x0.length : Int) then (if 0 ≤ x5 then (if x5 < (x1.length : Int) then (if (rd x0 x5) = (rd x1 x5) then (headgatekit_SameInts.l0 k x0 x1 (wrap64 (x5 + 1))) else (some false)) else (none)) else (none)) else (some true)
def headgatekit_SameInts.f (k : Nat) (l0 : List Int) (l1 : List Int) : Option (Bool) := if (l0.length : Int) = (l1.length : Int) then (headgatekit_SameInts.l0 k l0 l1 0) else (some false)
theorem headgatekit_SameInts.mono_l : ∀ k, (∀ y0 y1 y2, LeO (headgatekit_SameInts.l0 k y0 y1 y2) (headgatekit_SameInts.l0 (k + 1) y0 y1 y2))
 | 0 => fun _ _ _ r h => by simp [headgatekit_SameInts.l0] at h
 | k + 1 => by
  have ih0 := headgatekit_SameInts.mono_l k
  ·
   intro y0 y1 y2
   unfold headgatekit_SameInts.l0
   repeat' first
   | (with_reducible exact ih0 _ _ _)
   | (with_reducible exact LeO.refl _)
   | (with_reducible exact LeO.none _)
   | (with_reducible refine LeO.ite ?_ ?_)
   | (with_reducible refine LeO.bind ?_ (fun _ => ?_))
   | exact ih0 _ _ _
   | exact LeO.none _
   | refine LeO.ite ?_ ?_
   | refine LeO.bind ?_ (fun _ => ?_)
theorem headgatekit_SameInts.mono : ∀ a0 a1 k, LeO (headgatekit_SameInts.f k a0 a1) (headgatekit_SameInts.f (k + 1) a0 a1) := by
 intro a0 a1 k
 have ih0 := headgatekit_SameInts.mono_l k
 unfold headgatekit_SameInts.f
 repeat' first
   | (with_reducible exact ih0 _ _ _)
   | (with_reducible exact LeO.refl _)
   | (with_reducible exact LeO.none _)
   | (with_reducible refine LeO.ite ?_ ?_)
   | (with_reducible refine LeO.bind ?_ (fun _ => ?_))
   | exact ih0 _ _ _
   | exact LeO.none _
   | refine LeO.ite ?_ ?_
   | refine LeO.bind ?_ (fun _ => ?_)
set_option maxHeartbeats 2000000 in
set_option maxRecDepth 100000 in
theorem headgatekit_SameInts.calls (k : Nat) (A0 : Option Addr) (c0 : Nat) (l0 : List Int) (A1 : Option Addr) (c1 : Nat) (l1 : List Int) (r : Bool) (w : World) (hr0 : Kd.C (Kd.int .i64) w A0 l0.length l0) (hc0 : l0.length ≤ c0) (hr1 : Kd.C (Kd.int .i64) w A1 l1.length l1) (hc1 : l1.length ≤ c1) (h : headgatekit_SameInts.f k l0 l1 = some r) :
  Calls Try.prog 49 #[.slice A0 l0.length c0, .slice A1 l1.length c1] w fun e w' => e = .returned (.bool r) ∧ Drawn0 w w' := by
 have HR0 := Aside0.mk hr0
 have HC0 := Aside0.mk hc0
 clear hr0 hc0
 have HR1 := Aside0.mk hr1
 have HC1 := Aside0.mk hc1
 clear hr1 hc1
 have H : (if (l0.length : Int) = (l1.length : Int) then (headgatekit_SameInts.l0 k l0 l1 0) else (some false)) = some r := h
 clear h
 by_cases c3 : (l0.length : Int) = (l1.length : Int)
 ·
  rw [if_pos c3] at H
  have c3b0 : ((l0.length : Int) == (l1.length : Int)) = true := beq_iff_eq.mpr c3
  have c3b1 : ((l0.length : Int) != (l1.length : Int)) = false := bne_eq_false_iff_eq.mpr c3
  have c3b2 : (l0.length == l1.length) = true := by first | simpa using c3 | (simp at c3 ⊢; omega)
  clear c3
  have H' := Aside0.mk H
  clear H
  go_enter Try.func49, Try.ntmps49
  go_wp2
  repeat (go_quiet (fail); try go_wp2)
  go_loopg [5] k (fun kq v5 w' => ∃ (x5_1 : Int), v5 = .int .i64 x5_1 ∧ Aside0 (headgatekit_SameInts.l0 kq l0 l1 x5_1 = some r) ∧ Aside0 (kq ≤ k) ∧ Drawn0 w w')
  case atStart => exact ⟨(0), (by first | rfl | (simp; done) | (simp [*]; done)), H', ⟨Nat.le_refl _⟩, by repeat (first | exact Drawn0.refl _ | apply Drawn0.step)⟩
  case round =>
   clear H'
   try clear c1
   try clear p2
   try clear c3
   try clear c3b0
   try clear c3b1
   try clear c3b2
   obtain ⟨x5_1, rfl, HA, HK1, ⟨m1, rfl⟩⟩ := hrel
   cases gk with
   | zero => exact absurd HA.out (by simp [headgatekit_SameInts.l0])
   | succ k1 =>
    have H := HA.out
    clear HA
    simp only [headgatekit_SameInts.l0] at H
    by_cases c4 : x5_1 < (l0.length : Int)
    ·
     rw [if_pos c4] at H
     have c4b0 : decide (x5_1 < (l0.length : Int)) = true := decide_eq_true c4
     clear c4
     by_cases c5 : 0 ≤ x5_1
     ·
      rw [if_pos c5] at H
      have c5b0 : decide (0 ≤ x5_1) = true := decide_eq_true c5
      clear c5
      by_cases c6 : x5_1 < (l1.length : Int)
      ·
       rw [if_pos c6] at H
       have c6b0 : decide (x5_1 < (l1.length : Int)) = true := decide_eq_true c6
       clear c6
       by_cases c7 : (rd l0 x5_1) = (rd l1 x5_1)
       ·
        rw [if_pos c7] at H
        have c7b0 : ((rd l0 x5_1) == (rd l1 x5_1)) = true := beq_iff_eq.mpr c7
        have c7b1 : ((rd l0 x5_1) != (rd l1 x5_1)) = false := bne_eq_false_iff_eq.mpr c7
        clear c7
        have H' := Aside0.mk H
        clear H
        have p428 : 0 ≤ (x5_1 : Int) := of_decide_eq_true (asm_ (p := _))
        have q428 : x5_1 < (l0.length : Int) := of_decide_eq_true (asm_ (p := _))
        obtain ⟨ad428, e428, hx428_0⟩ := Kd.at_int HR0.out x5_1 p428 q428
        cases e428
        replace p428 := eq_true p428
        replace q428 := eq_true q428
        have p429 : 0 ≤ (x5_1 : Int) := of_decide_eq_true (asm_ (p := _))
        have q429 : x5_1 < (l1.length : Int) := of_decide_eq_true (asm_ (p := _))
        obtain ⟨ad429, e429, hx429_0⟩ := Kd.at_int HR1.out x5_1 p429 q429
        cases e429
        replace p429 := eq_true p429
        replace q429 := eq_true q429
        go_wp2
        repeat (go_quiet (fail); try go_wp2)
        go_roundg k1
        case measure => have := HK1.out; omega
        case rel => exact ⟨(wrap64 (x5_1 + 1)), (by first | rfl | (simp; done) | (simp [*]; done)), H', ⟨by have := HK1.out; omega⟩, by repeat (first | exact Drawn0.refl _ | apply Drawn0.step)⟩
       ·
        rw [if_neg c7] at H
        have c7b0 : ((rd l0 x5_1) == (rd l1 x5_1)) = false := beq_eq_false_iff_ne.mpr c7
        have c7b1 : ((rd l0 x5_1) != (rd l1 x5_1)) = true := bne_iff_ne.mpr c7
        obtain rfl := Option.some.inj H
        have p428 : 0 ≤ (x5_1 : Int) := of_decide_eq_true (asm_ (p := _))
        have q428 : x5_1 < (l0.length : Int) := of_decide_eq_true (asm_ (p := _))
        obtain ⟨ad428, e428, hx428_0⟩ := Kd.at_int HR0.out x5_1 p428 q428
        cases e428
        replace p428 := eq_true p428
        replace q428 := eq_true q428
        have p429 : 0 ≤ (x5_1 : Int) := of_decide_eq_true (asm_ (p := _))
        have q429 : x5_1 < (l1.length : Int) := of_decide_eq_true (asm_ (p := _))
        obtain ⟨ad429, e429, hx429_0⟩ := Kd.at_int HR1.out x5_1 p429 q429
        cases e429
        replace p429 := eq_true p429
        replace q429 := eq_true q429
        go_wp2
        repeat (go_quiet (fail); try go_wp2)
        go_ret
        exact ⟨by first | rfl | (simp; done) | (simp [*]; done), by repeat (first | exact Drawn0.refl _ | apply Drawn0.step)⟩
      ·
       rw [if_neg c6] at H
       exact absurd H (by simp)
     ·
      rw [if_neg c5] at H
      exact absurd H (by simp)
    ·
     rw [if_neg c4] at H
     have c4b0 : decide (x5_1 < (l0.length : Int)) = false := decide_eq_false c4
     clear c4
     obtain rfl := Option.some.inj H
     go_wp2
     repeat (go_quiet (fail); try go_wp2)
     go_ret
     exact ⟨by first | rfl | (simp; done) | (simp [*]; done), by repeat (first | exact Drawn0.refl _ | apply Drawn0.step)⟩
 ·
  rw [if_neg c3] at H
  have c3b0 : ((l0.length : Int) == (l1.length : Int)) = false := beq_eq_false_iff_ne.mpr c3
  have c3b1 : ((l0.length : Int) != (l1.length : Int)) = true := bne_iff_ne.mpr c3
  have c3b2 : (l0.length == l1.length) = false := by first | simpa using c3 | (simp at c3 ⊢; omega)
  obtain rfl := Option.some.inj H
  go_enter Try.func49, Try.ntmps49
  go_wp2
  repeat (go_quiet (fail); try go_wp2)
  go_ret
  exact ⟨by first | rfl | (simp; done) | (simp [*]; done), by repeat (first | exact Drawn0.refl _ | apply Drawn0.step)⟩

end Go.Proofs.Ytnheknlmmmkbpaa.X

namespace Go.Proofs.Ytnheknlmmmkbpaa.X
open Go.RowKit Go.Proofs.YtnheknlmmmkbpaaW.PrintWords Go.Proofs.YtnheknlmmmkbpaaW.PrintLast Go.Proofs.YtnheknlmmmkbpaaW.PrintMore
attribute [local go_sem] max2_int min2_int max_two min_two max_three min_three max_four min_four   -- for this text's walks alone
set_option linter.unusedVariables false
set_option linter.unusedSimpArgs false

/-! ### headgatekit_SameBools: function 50 -/
def headgatekit_SameBools.l0 : Nat → List Bool → List Bool → Int → Option (Bool)
 | 0, _, _, _ => none
 | k + 1, x0, x1, x5 => if x5 < (x0.length : Int) then (if 0 ≤ x5 then (if x5 < (x1.length : Int) then (if ((rdOf false x0 x5) != (rdOf false x1 x5)) = true then (some false) else (headgatekit_SameBools.l0 k x0 x1 (wrap64 (x5 + 1)))) else (none)) else (none)) else (some true)
def headgatekit_SameBools.f (k : Nat) (l0 : List Bool) (l1 : List Bool) : Option (Bool) := if (l0.length : Int) = (l1.length : Int) then (headgatekit_SameBools.l0 k l0 l1 0) else (some false)
theorem headgatekit_SameBools.mono_l : ∀ k, (∀ y0 y1 y2, LeO (headgatekit_SameBools.l0 k y0 y1 y2) (headgatekit_SameBools.l0 (k + 1) y0 y1 y2))
 | 0 => fun _ _ _ r h => by simp [headgatekit_SameBools.l0] at h
 | k + 1 => by
  have ih0 := headgatekit_SameBools.mono_l k
  ·
   intro y0 y1 y2
   unfold headgatekit_SameBools.l0
   repeat' first
   | (with_reducible exact ih0 _ _ _)
   | (with_reducible exact LeO.refl _)
   | (with_reducible exact LeO.none _)
   | (with_reducible refine LeO.ite ?_ ?_)
   | (with_reducible refine LeO.bind ?_ (fun _ => ?_))
   | exact ih0 _ _ _
   | exact LeO.none _
   | refine LeO.ite ?_ ?_
   | refine LeO.bind ?_ (fun _ => ?_)
theorem headgatekit_SameBools.mono : ∀ a0 a1 k, LeO (headgatekit_SameBools.f k a0 a1) (headgatekit_SameBools.f (k + 1) a0 a1) := by
 intro a0 a1 k
 have ih0 := headgatekit_SameBools.mono_l k
 unfold headgatekit_SameBools.f
 repeat' first
   | (with_reducible exact ih0 _ _ _)
   | (with_reducible exact LeO.refl _)
   | (with_reducible exact LeO.none _)
   | (with_reducible refine LeO.ite ?_ ?_)
   | (with_reducible refine LeO.bind ?_ (fun _ => ?_))
   | exact ih0 _ _ _
   | exact LeO.none _
   | refine LeO.ite ?_ ?_
   | refine LeO.bind ?_ (fun _ => ?_)
set_option maxHeartbeats 2000000 in
set_option maxRecDepth 100000 in
theorem headgatekit_SameBools.calls (k : Nat) (A0 : Option Addr) (c0 : Nat) (l0 : List Bool) (A1 : Option Addr) (c1 : Nat) (l1 : List Bool) (r : Bool) (w : World) (hr0 : Kd.C Kd.bool w A0 l0.length l0) (hc0 : l0.length ≤ c0) (hr1 : Kd.C Kd.bool w A1 l1.length l1) (hc1 : l1.length ≤ c1) (h : headgatekit_SameBools.f k l0 l1 = some r) :
  Calls Try.prog 50 #[.slice A0 l0.length c0, .slice A1 l1.length c1] w fun e w' => e = .returned (.bool r) ∧ Drawn0 w w' := by
 have HR0 := Aside0.mk hr0
 have HC0 := Aside0.mk hc0
 clear hr0 hc0
 have HR1 := Aside0.mk hr1
 have HC1 := Aside0.mk hc1
 clear hr1 hc1
 have H : (if (l0.length : Int) = (l1.length : Int) then (headgatekit_SameBools.l0 k l0 l1 0) else (some false)) = some r := h
 clear h
 by_cases c3 : (l0.length : Int) = (l1.length : Int)
 ·
  rw [if_pos c3] at H
  have c3b0 : ((l0.length : Int) == (l1.length : Int)) = true := beq_iff_eq.mpr c3
  have c3b1 : ((l0.length : Int) != (l1.length : Int)) = false := bne_eq_false_iff_eq.mpr c3
  have c3b2 : (l0.length == l1.length) = true := by first | simpa using c3 | (simp at c3 ⊢; omega)
  clear c3
  have H' := Aside0.mk H
  clear H
  go_enter Try.func50, Try.ntmps50
  go_wp2
  repeat (go_quiet (fail); try go_wp2)
  go_loopg [5] k (fun kq v5 w' => ∃ (x5_1 : Int), v5 = .int .i64 x5_1 ∧ Aside0 (headgatekit_SameBools.l0 kq l0 l1 x5_1 = some r) ∧ Aside0 (kq ≤ k) ∧ Drawn0 w w')
  case atStart => exact ⟨(0), (by first | rfl | (simp; done) | (simp [*]; done)), H', ⟨Nat.le_refl _⟩, by repeat (first | exact Drawn0.refl _ | apply Drawn0.step)⟩
  case round =>
   clear H'
   try clear c1
   try clear p2
   try clear c3
   try clear c3b0
   try clear c3b1
   try clear c3b2
   obtain ⟨x5_1, rfl, HA, HK1, ⟨m1, rfl⟩⟩ := hrel
   cases gk with
   | zero => exact absurd HA.out (by simp [headgatekit_SameBools.l0])
   | succ k1 =>
    have H := HA.out
    clear HA
    simp only [headgatekit_SameBools.l0] at H
    by_cases c4 : x5_1 < (l0.length : Int)
    ·
     rw [if_pos c4] at H
     have c4b0 : decide (x5_1 < (l0.length : Int)) = true := decide_eq_true c4
     clear c4
     by_cases c5 : 0 ≤ x5_1
     ·
      rw [if_pos c5] at H
      have c5b0 : decide (0 ≤ x5_1) = true := decide_eq_true c5
      clear c5
      by_cases c6 : x5_1 < (l1.length : Int)
      ·
       rw [if_pos c6] at H
       have c6b0 : decide (x5_1 < (l1.length : Int)) = true := decide_eq_true c6
       clear c6
       by_cases c7 : ((rdOf false l0 x5_1) != (rdOf false l1 x5_1)) = true
       ·
        rw [if_pos c7] at H
        have c7b0 : ((rdOf false l0 x5_1) != (rdOf false l1 x5_1)) = true := c7
        (try (have c7b1 : decide ((rdOf false l0 x5_1) = (rdOf false l1 x5_1)) = false := by simpa using c7))
        (try (have c7b2 : ((rdOf false l0 x5_1) == (rdOf false l1 x5_1)) = false := by simpa using c7))
        (try (have c7b3 : ¬ ((rdOf false l0 x5_1) = (rdOf false l1 x5_1)) := by simpa using c7))
        clear c7
        obtain rfl := Option.some.inj H
        have p430 : 0 ≤ (x5_1 : Int) := of_decide_eq_true (asm_ (p := _))
        have q430 : x5_1 < (l0.length : Int) := of_decide_eq_true (asm_ (p := _))
        obtain ⟨ad430, e430, hx430_0⟩ := Kd.at_bool HR0.out x5_1 p430 q430
        cases e430
        replace p430 := eq_true p430
        replace q430 := eq_true q430
        have p431 : 0 ≤ (x5_1 : Int) := of_decide_eq_true (asm_ (p := _))
        have q431 : x5_1 < (l1.length : Int) := of_decide_eq_true (asm_ (p := _))
        obtain ⟨ad431, e431, hx431_0⟩ := Kd.at_bool HR1.out x5_1 p431 q431
        cases e431
        replace p431 := eq_true p431
        replace q431 := eq_true q431
        go_wp2
        repeat (go_quiet (fail); try go_wp2)
        go_ret
        exact ⟨by first | rfl | (simp; done) | (simp [*]; done), by repeat (first | exact Drawn0.refl _ | apply Drawn0.step)⟩
       ·
        rw [if_neg c7] at H
        have c7b0 : ((rdOf false l0 x5_1) != (rdOf false l1 x5_1)) = false := by simpa using c7
        (try (have c7b1 : decide ((rdOf false l0 x5_1) = (rdOf false l1 x5_1)) = true := by simpa using c7))
        (try (have c7b2 : ((rdOf false l0 x5_1) == (rdOf false l1 x5_1)) = true := by simpa using c7))
        clear c7
        have H' := Aside0.mk H
        clear H
        have p430 : 0 ≤ (x5_1 : Int) := of_decide_eq_true (asm_ (p := _))
        have q430 : x5_1 < (l0.length : Int) := of_decide_eq_true (asm_ (p := _))
        obtain ⟨ad430, e430, hx430_0⟩ := Kd.at_bool HR0.out x5_1 p430 q430
        cases e430
        replace p430 := eq_true p430
        replace q430 := eq_true q430
        have p431 : 0 ≤ (x5_1 : Int) := of_decide_eq_true (asm_ (p := _))
        have q431 : x5_1 < (l1.length : Int) := of_decide_eq_true (asm_ (p := _))
        obtain ⟨ad431, e431, hx431_0⟩ := Kd.at_bool HR1.out x5_1 p431 q431
        cases e431
        replace p431 := eq_true p431
        replace q431 := eq_true q431
        go_wp2
        repeat (go_quiet (fail); try go_wp2)
        go_roundg k1
        case measure => have := HK1.out; omega
        case rel => exact ⟨(wrap64 (x5_1 + 1)), (by first | rfl | (simp; done) | (simp [*]; done)), H', ⟨by have := HK1.out; omega⟩, by repeat (first | exact Drawn0.refl _ | apply Drawn0.step)⟩
      ·
       rw [if_neg c6] at H
       exact absurd H (by simp)
     ·
      rw [if_neg c5] at H
      exact absurd H (by simp)
    ·
     rw [if_neg c4] at H
     have c4b0 : decide (x5_1 < (l0.length : Int)) = false := decide_eq_false c4
     clear c4
     obtain rfl := Option.some.inj H
     go_wp2
     repeat (go_quiet (fail); try go_wp2)
     go_ret
     exact ⟨by first | rfl | (simp; done) | (simp [*]; done), by repeat (first | exact Drawn0.refl _ | apply Drawn0.step)⟩
 ·
  rw [if_neg c3] at H
  have c3b0 : ((l0.length : Int) == (l1.length : Int)) = false := beq_eq_false_iff_ne.mpr c3
  have c3b1 : ((l0.length : Int) != (l1.length : Int)) = true := bne_iff_ne.mpr c3
  have c3b2 : (l0.length == l1.length) = false := by first | simpa using c3 | (simp at c3 ⊢; omega)
  obtain rfl := Option.some.inj H
  go_enter Try.func50, Try.ntmps50
  go_wp2
  repeat (go_quiet (fail); try go_wp2)
  go_ret
  exact ⟨by first | rfl | (simp; done) | (simp [*]; done), by repeat (first | exact Drawn0.refl _ | apply Drawn0.step)⟩

end Go.Proofs.Ytnheknlmmmkbpaa.X
