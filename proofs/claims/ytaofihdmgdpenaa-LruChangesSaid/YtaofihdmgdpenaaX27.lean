/- What Go functions of this seat compute, told as Lean functions, and that each call of the Go code comes to that answer; for a law: its row, for every input. Written by a program of the session. -/
import Derived.Test.YtaofihdmgdpenaaX0
import Derived.Test.YtaofihdmgdpenaaX31
namespace Go.Proofs.Ytaofihdmgdpenaa.X
open Go.RowKit Go.Proofs.YtaofihdmgdpenaaW.PrintWords Go.Proofs.YtaofihdmgdpenaaW.PrintLast Go.Proofs.YtaofihdmgdpenaaW.PrintMore
attribute [local go_sem] max2_int min2_int max_two min_two max_three min_three max_four min_four   -- for this text's walks alone
set_option linter.unusedVariables false
set_option linter.unusedSimpArgs false

/-! ### headgateref07_New: function 14 -/
def headgateref07_New.f (a0 : Int) : Option (List Int × List Int × List Bool × Int) := if a0 < 1 then (some (([] : List Int), ([] : List Int), ([] : List Bool), 2)) else (if a0 > 256 then (some (([] : List Int), ([] : List Int), ([] : List Bool), 2)) else (if 0 ≤ a0 then (if (a0 : Int).toNat ≤ 281474976710656 then (some (([] : List Int), ([] : List Int), (List.replicate (a0 : Int).toNat false), 0)) else (none)) else (none)))
set_option maxHeartbeats 2000000 in
set_option maxRecDepth 100000 in
theorem headgateref07_New.calls (a0 : Int) (r1 : List Int) (r2 : List Int) (r3 : List Bool) (r4 : Int) (w : World) (h : headgateref07_New.f a0 = some (r1, r2, r3, r4)) :
  Calls Try.prog 14 #[.int .i64 a0] w fun e w' => ∃ v0_ v1_ v2_ : Value, e = .returned (.tuple #[.agg #[v0_, v1_, v2_], .int .i64 r4]) ∧ Kd.R (Kd.int .i64) 3 w' w.heap.size (fun k_ => some k_ ≠ (v1_ : Value).ownBlock) v0_ r1 ∧ Kd.R (Kd.int .i64) 3 w' w.heap.size (fun k_ => some k_ ≠ (v0_ : Value).ownBlock) v1_ r2 ∧ Kd.R Kd.bool 4 w' w.heap.size (fun _ => True) v2_ r3 ∧ Below w.heap.size w w' := by
 have hu25 := Try.underlying25
 have HB := Aside0.mk (Below.refl w.heap.size w)
 have H : (if a0 < 1 then (some (([] : List Int), ([] : List Int), ([] : List Bool), 2)) else (if a0 > 256 then (some (([] : List Int), ([] : List Int), ([] : List Bool), 2)) else (if 0 ≤ a0 then (if (a0 : Int).toNat ≤ 281474976710656 then (some (([] : List Int), ([] : List Int), (List.replicate (a0 : Int).toNat false), 0)) else (none)) else (none)))) = some (r1, r2, r3, r4) := h
 clear h
 by_cases c2 : a0 < 1
 ·
  rw [if_pos c2] at H
  have c2b0 : decide (a0 < 1) = true := decide_eq_true c2
  clear c2
  simp only [Option.some.injEq, Prod.mk.injEq] at H
  obtain ⟨rfl, rfl, rfl, rfl⟩ := H
  go_enter Try.func14, Try.ntmps14
  go_wp2_with (first | ((with_reducible refine gate_dst (N := 2) rfl ?_); refine box_event ?hg (N := 2) ?hd (cs := #[.slice none 0 0, .slice none 0 0, .slice none 0 0]) (t := 25) ?hr ?_; (case hd => rfl); (case hg => rfl); (case hr => first | (go_simp; done) | (go_simp; rfl)); intro gb178 hg w3 hbox hb; have n0_ := Aside0.mk (below_step (upH HB) hb); have n1_ := Aside0.mk (hbox); have n2_ := Aside0.mk ((by rw [hg]; exact (below_size (upH HB)) : w.heap.size ≤ gb178)); have n3_ := Aside0.mk ((by rw [hg]; exact (below_size (upH HB)) : w.heap.size ≤ gb178)); clear HB; have HB := n0_; have BK178 := n1_; have GW178 := n2_; have GE178 := n3_; clear n0_ n1_ n2_ n3_; clear hb hbox hg; have hcz4_0 := cell0 BK178; have hcz4_1 := cell1 BK178; have hcz4_2 := cell2 BK178; have hfz4_0 := blk_frozen BK178.out 0; have hfz4_1 := blk_frozen BK178.out 1; have hfz4_2 := blk_frozen BK178.out 2))
  refine bodyPost_ret (results_ct rfl _ _ gb178 25 #[.slice none 0 0, .slice none 0 0, .slice none 0 0] (0, 0) _ rfl (by (with_reducible repeat (first | refine blk_drewN ?_ _ | refine blk_drew ?_ | refine blk_alloc ?_ _)); refine blk_put (cs := #[.slice none 0 0, .slice none 0 0, .slice none 0 0]) ?_ 2 _ rfl; (with_reducible repeat (first | refine blk_drewN ?_ _ | refine blk_drew ?_ | refine blk_alloc ?_ _)); refine blk_put (cs := #[.slice none 0 0, .slice none 0 0, .slice none 0 0]) ?_ 1 _ rfl; (with_reducible repeat (first | refine blk_drewN ?_ _ | refine blk_drew ?_ | refine blk_alloc ?_ _)); refine blk_put (cs := #[.slice none 0 0, .slice none 0 0, .slice none 0 0]) ?_ 0 _ rfl; (with_reducible repeat (first | refine blk_drewN ?_ _ | refine blk_drew ?_ | refine blk_alloc ?_ _)); exact BK178.out) Try.underlying25 rfl (by kernel_rfl)) rfl ?_
  exact ⟨_, _, _, by first | rfl | (simp [errW_none, errW_some] <;> rfl) | (simp [*, errW_none, errW_some] <;> rfl), by first | exact Kd.R_nil _ _ _ _ _ | exact Kd.N_nil _ _ _ _ _ | exact Kd.V_nil _ _ _ _ _ | exact Kd.Q_nil _ _ _ _ _ | exact Kd.S_nil _ _ _ _ _, by first | exact Kd.R_nil _ _ _ _ _ | exact Kd.N_nil _ _ _ _ _ | exact Kd.V_nil _ _ _ _ _ | exact Kd.Q_nil _ _ _ _ _ | exact Kd.S_nil _ _ _ _ _, by first | exact Kd.R_nil _ _ _ _ _ | exact Kd.N_nil _ _ _ _ _ | exact Kd.V_nil _ _ _ _ _ | exact Kd.Q_nil _ _ _ _ _ | exact Kd.S_nil _ _ _ _ _, by repeat (first | (with_reducible first | exact HB.out | apply below_alloc | apply pw_below_drewN | apply below_drew1 | refine below_set ?_ GE178.out) | exact HB.out)⟩
 ·
  rw [if_neg c2] at H
  have c2b0 : decide (a0 < 1) = false := decide_eq_false c2
  clear c2
  by_cases c5 : a0 > 256
  ·
   rw [if_pos c5] at H
   have c5b0 : decide (256 < a0) = true := decide_eq_true c5
   clear c5
   simp only [Option.some.injEq, Prod.mk.injEq] at H
   obtain ⟨rfl, rfl, rfl, rfl⟩ := H
   go_enter Try.func14, Try.ntmps14
   go_wp2_with (first | ((with_reducible refine gate_dst (N := 2) rfl ?_); refine box_event ?hg (N := 2) ?hd (cs := #[.slice none 0 0, .slice none 0 0, .slice none 0 0]) (t := 25) ?hr ?_; (case hd => rfl); (case hg => rfl); (case hr => first | (go_simp; done) | (go_simp; rfl)); intro gb178 hg w6 hbox hb; have n0_ := Aside0.mk (below_step (upH HB) hb); have n1_ := Aside0.mk (hbox); have n2_ := Aside0.mk ((by rw [hg]; exact (below_size (upH HB)) : w.heap.size ≤ gb178)); have n3_ := Aside0.mk ((by rw [hg]; exact (below_size (upH HB)) : w.heap.size ≤ gb178)); clear HB; have HB := n0_; have BK178 := n1_; have GW178 := n2_; have GE178 := n3_; clear n0_ n1_ n2_ n3_; clear hb hbox hg; have hcz7_0 := cell0 BK178; have hcz7_1 := cell1 BK178; have hcz7_2 := cell2 BK178; have hfz7_0 := blk_frozen BK178.out 0; have hfz7_1 := blk_frozen BK178.out 1; have hfz7_2 := blk_frozen BK178.out 2))
   refine bodyPost_ret (results_ct rfl _ _ gb178 25 #[.slice none 0 0, .slice none 0 0, .slice none 0 0] (0, 0) _ rfl (by (with_reducible repeat (first | refine blk_drewN ?_ _ | refine blk_drew ?_ | refine blk_alloc ?_ _)); refine blk_put (cs := #[.slice none 0 0, .slice none 0 0, .slice none 0 0]) ?_ 2 _ rfl; (with_reducible repeat (first | refine blk_drewN ?_ _ | refine blk_drew ?_ | refine blk_alloc ?_ _)); refine blk_put (cs := #[.slice none 0 0, .slice none 0 0, .slice none 0 0]) ?_ 1 _ rfl; (with_reducible repeat (first | refine blk_drewN ?_ _ | refine blk_drew ?_ | refine blk_alloc ?_ _)); refine blk_put (cs := #[.slice none 0 0, .slice none 0 0, .slice none 0 0]) ?_ 0 _ rfl; (with_reducible repeat (first | refine blk_drewN ?_ _ | refine blk_drew ?_ | refine blk_alloc ?_ _)); exact BK178.out) Try.underlying25 rfl (by kernel_rfl)) rfl ?_
   exact ⟨_, _, _, by first | rfl | (simp [errW_none, errW_some] <;> rfl) | (simp [*, errW_none, errW_some] <;> rfl), by first | exact Kd.R_nil _ _ _ _ _ | exact Kd.N_nil _ _ _ _ _ | exact Kd.V_nil _ _ _ _ _ | exact Kd.Q_nil _ _ _ _ _ | exact Kd.S_nil _ _ _ _ _, by first | exact Kd.R_nil _ _ _ _ _ | exact Kd.N_nil _ _ _ _ _ | exact Kd.V_nil _ _ _ _ _ | exact Kd.Q_nil _ _ _ _ _ | exact Kd.S_nil _ _ _ _ _, by first | exact Kd.R_nil _ _ _ _ _ | exact Kd.N_nil _ _ _ _ _ | exact Kd.V_nil _ _ _ _ _ | exact Kd.Q_nil _ _ _ _ _ | exact Kd.S_nil _ _ _ _ _, by repeat (first | (with_reducible first | exact HB.out | apply below_alloc | apply pw_below_drewN | apply below_drew1 | refine below_set ?_ GE178.out) | exact HB.out)⟩
  ·
   rw [if_neg c5] at H
   have c5b0 : decide (256 < a0) = false := decide_eq_false c5
   clear c5
   by_cases c8 : 0 ≤ a0
   ·
    rw [if_pos c8] at H
    have c8b0 := eq_true c8
    have c8b1 : decide (0 ≤ a0) = true := decide_eq_true c8
    clear c8
    by_cases c9 : (a0 : Int).toNat ≤ 281474976710656
    ·
     rw [if_pos c9] at H
     have c9b0 := eq_true c9
     have c9b1 : decide ((a0 : Int).toNat ≤ 281474976710656) = true := decide_eq_true c9
     clear c9
     obtain ⟨y179, hy179⟩ : ∃ y_ : List Bool, y_ = (List.replicate (a0 : Int).toNat false) := ⟨_, rfl⟩
     replace H : (some (([] : List Int), ([] : List Int), y179, 0)) = some (r1, r2, r3, r4) := by first | (rw [hy179]; with_reducible exact H) | (have H2_ := (Option.bind_some _ _).symm.trans H; rw [hy179]; with_reducible exact H2_) | (have H2_ := (Option.bind_some _ _).symm.trans H; with_reducible exact H2_) | with_reducible exact H | (rw [hy179]; exact H) | exact H
     have Ny179 := Aside0.mk hy179
     clear hy179
     simp only [Option.some.injEq, Prod.mk.injEq] at H
     obtain ⟨rfl, rfl, rfl, rfl⟩ := H
     go_enter Try.func14, Try.ntmps14
     go_wp2_with (first | ((with_reducible refine gate_dst (N := 2) rfl ?_); refine box_event ?hg (N := 2) ?hd (cs := #[.slice none 0 0, .slice none 0 0, .slice none 0 0]) (t := 25) ?hr ?_; (case hd => rfl); (case hg => rfl); (case hr => first | (go_simp; done) | (go_simp; rfl)); intro gb178 hg w10 hbox hb; have n0_ := Aside0.mk (below_step (upH HB) hb); have n1_ := Aside0.mk (hbox); have n2_ := Aside0.mk ((by rw [hg]; exact (below_size (upH HB)) : w.heap.size ≤ gb178)); have n3_ := Aside0.mk ((by rw [hg]; exact (below_size (upH HB)) : w.heap.size ≤ gb178)); clear HB; have HB := n0_; have BK178 := n1_; have GW178 := n2_; have GE178 := n3_; clear n0_ n1_ n2_ n3_; clear hb hbox hg) | ((with_reducible refine gate_dst (N := 12) rfl ?_); refine Kd.R_make Kd.bool _ 4 rfl (N := 12) rfl 23 _ _ rfl a0 rfl rfl Try.underlying23 (.bool false) 1 info4 rfl (by decide) (by omega) false (ok := fun _ => True) (okp := fun _ => True) rfl (fun _ hk => hk) trivial (of_decide_eq_true (asm_ (p := _))) (Nat.le_trans (Nat.mul_le_mul_right _ (of_decide_eq_true (asm_ (p := _)) : a0.toNat ≤ 281474976710656)) (by omega)) (Below.refl _ _) (Nat.le_refl _) ?_; intro v180 w11 ho12 hb hg_ hnew_; clear hg_ hnew_; (first | rw [← Ny179.out] at ho12 | (simp only [Int.reduceToNat] at ho12; rw [← Ny179.out] at ho12)); have n0_ := Aside0.mk (Kd.R_lower ho12 (below_size (upH HB))); have n1_ := Aside0.mk (blkB BK178 hb); have n2_ := Aside0.mk (below_step (upH HB) hb); clear BK178; clear HB; have HO181 := n0_; have BK178 := n1_; have HB := n2_; clear n0_ n1_ n2_; clear hb ho12; obtain ⟨Ao13, co13, eo13⟩ := Kd.R_slice HO181.out; subst eo13; have hcz14_0 := cell0 BK178; have hcz14_1 := cell1 BK178; have hcz14_2 := cell2 BK178; have hfz14_0 := blk_frozen BK178.out 0; have hfz14_1 := blk_frozen BK178.out 1; have hfz14_2 := blk_frozen BK178.out 2))
     refine bodyPost_ret (results_ct rfl _ _ gb178 25 #[.slice none 0 0, .slice none 0 0, .slice Ao13 y179.length co13] (0, 0) _ rfl (by (with_reducible repeat (first | refine blk_drewN ?_ _ | refine blk_drew ?_ | refine blk_alloc ?_ _)); refine blk_put (cs := #[.slice none 0 0, .slice none 0 0, .slice none 0 0]) ?_ 2 _ rfl; (with_reducible repeat (first | refine blk_drewN ?_ _ | refine blk_drew ?_ | refine blk_alloc ?_ _)); refine blk_put (cs := #[.slice none 0 0, .slice none 0 0, .slice none 0 0]) ?_ 1 _ rfl; (with_reducible repeat (first | refine blk_drewN ?_ _ | refine blk_drew ?_ | refine blk_alloc ?_ _)); refine blk_put (cs := #[.slice none 0 0, .slice none 0 0, .slice none 0 0]) ?_ 0 _ rfl; (with_reducible repeat (first | refine blk_drewN ?_ _ | refine blk_drew ?_ | refine blk_alloc ?_ _)); exact BK178.out) Try.underlying25 rfl (by kernel_rfl)) rfl ?_
     exact ⟨_, _, _, by first | rfl | (simp [errW_none, errW_some] <;> rfl) | (simp [*, errW_none, errW_some] <;> rfl), by first | exact Kd.R_nil _ _ _ _ _ | exact Kd.N_nil _ _ _ _ _ | exact Kd.V_nil _ _ _ _ _ | exact Kd.Q_nil _ _ _ _ _ | exact Kd.S_nil _ _ _ _ _, by first | exact Kd.R_nil _ _ _ _ _ | exact Kd.N_nil _ _ _ _ _ | exact Kd.V_nil _ _ _ _ _ | exact Kd.Q_nil _ _ _ _ _ | exact Kd.S_nil _ _ _ _ _, by (with_reducible repeat (first | apply Kd.R_alloc | apply Kd.R_drewN | apply Kd.R_drew)); exact Kd.R_mono (far3 HO181.out BK178) (fun _ hk => trivial), by repeat (first | (with_reducible first | exact HB.out | apply below_alloc | apply pw_below_drewN | apply below_drew1 | refine below_set ?_ GE178.out) | exact HB.out)⟩
    ·
     rw [if_neg c9] at H
     exact absurd H (by simp)
   ·
    rw [if_neg c8] at H
    exact absurd H (by simp)

end Go.Proofs.Ytaofihdmgdpenaa.X

namespace Go.Proofs.Ytaofihdmgdpenaa.X
open Go.RowKit Go.Proofs.YtaofihdmgdpenaaW.PrintWords Go.Proofs.YtaofihdmgdpenaaW.PrintLast Go.Proofs.YtaofihdmgdpenaaW.PrintMore
attribute [local go_sem] max2_int min2_int max_two min_two max_three min_three max_four min_four   -- for this text's walks alone
set_option linter.unusedVariables false
set_option linter.unusedSimpArgs false

/-! ### headgateref07_Add: function 19 -/
def headgateref07_Add.j0 : Nat → Int → Int → Bool → List Int → List Int → List Bool → Option (List Int × List Int × List Bool × Int)
 | 0, _, _, _, _, _, _ => none
 | k + 1, x1, x7, x20, x190000, x190001, x190002 => if x20 = true then (if 7 = 0 then ((headgateref07_own.f x190000 x190001 x190002).bind fun bt193 => ((some (([x1] : List Int) : List Int)).bind fun y203 => (if y203.length + x190000.length < 17592186044416 then (some ((y203 ++ x190000), bt193.2.1, bt193.2.2, 0)) else (none)))) else (some (([] : List Int), ([] : List Int), ([] : List Bool), 7))) else (if x7 = 0 then ((headgateref07_own.f x190000 x190001 x190002).bind fun bt209 => ((some (([x1] : List Int) : List Int)).bind fun y219 => (if y219.length + x190000.length < 17592186044416 then (some ((y219 ++ x190000), bt209.2.1, bt209.2.2, 0)) else (none)))) else (some (([] : List Int), ([] : List Int), ([] : List Bool), x7)))
def headgateref07_Add.f (k : Nat) (l0_0 : List Int) (l0_1 : List Int) (l0_2 : List Bool) (a1 : Int) : Option (List Int × List Int × List Bool × Int) := (headgateref07_Where.f k l0_0 l0_1 l0_2 a1).bind fun bt191 => (if bt191.2 = 0 then (headgateref07_Add.j0 k a1 bt191.2 (bt191.1 != 0) l0_0 l0_1 l0_2) else (headgateref07_Add.j0 k a1 bt191.2 false l0_0 l0_1 l0_2))
theorem headgateref07_Add.mono_l : ∀ k, (∀ y0 y1 y2 y3 y4 y5, LeO (headgateref07_Add.j0 k y0 y1 y2 y3 y4 y5) (headgateref07_Add.j0 (k + 1) y0 y1 y2 y3 y4 y5))
 | 0 => fun _ _ _ _ _ _ r h => by simp [headgateref07_Add.j0] at h
 | k + 1 => by
  have ih0 := headgateref07_Add.mono_l k
  ·
   intro y0 y1 y2 y3 y4 y5
   unfold headgateref07_Add.j0
   repeat' first
   | (with_reducible exact ih0 _ _ _ _ _ _)
   | (with_reducible exact headgateref07_Where.mono _ _ _ _ _)
   | (with_reducible exact LeO.refl _)
   | (with_reducible exact LeO.none _)
   | (with_reducible refine LeO.ite ?_ ?_)
   | (with_reducible refine LeO.bind ?_ (fun _ => ?_))
   | exact ih0 _ _ _ _ _ _
   | exact headgateref07_Where.mono _ _ _ _ _
   | exact LeO.none _
   | refine LeO.ite ?_ ?_
   | refine LeO.bind ?_ (fun _ => ?_)
theorem headgateref07_Add.mono : ∀ a0 a1 a2 a3 k, LeO (headgateref07_Add.f k a0 a1 a2 a3) (headgateref07_Add.f (k + 1) a0 a1 a2 a3) := by
 intro a0 a1 a2 a3 k
 have ih0 := headgateref07_Add.mono_l k
 unfold headgateref07_Add.f
 repeat' first
   | (with_reducible exact ih0 _ _ _ _ _ _)
   | (with_reducible exact headgateref07_Where.mono _ _ _ _ _)
   | (with_reducible exact LeO.refl _)
   | (with_reducible exact LeO.none _)
   | (with_reducible refine LeO.ite ?_ ?_)
   | (with_reducible refine LeO.bind ?_ (fun _ => ?_))
   | exact ih0 _ _ _ _ _ _
   | exact headgateref07_Where.mono _ _ _ _ _
   | exact LeO.none _
   | refine LeO.ite ?_ ?_
   | refine LeO.bind ?_ (fun _ => ?_)
set_option maxHeartbeats 2000000 in
set_option maxRecDepth 100000 in
theorem headgateref07_Add.calls (k : Nat) (A0_0 : Option Addr) (c0_0 : Nat) (l0_0 : List Int) (A0_1 : Option Addr) (c0_1 : Nat) (l0_1 : List Int) (A0_2 : Option Addr) (c0_2 : Nat) (l0_2 : List Bool) (a1 : Int) (r1 : List Int) (r2 : List Int) (r3 : List Bool) (r4 : Int) (w : World) (hr0_0 : Kd.C (Kd.int .i64) w A0_0 l0_0.length l0_0) (hc0_0 : l0_0.length ≤ c0_0) (hr0_1 : Kd.C (Kd.int .i64) w A0_1 l0_1.length l0_1) (hc0_1 : l0_1.length ≤ c0_1) (hr0_2 : Kd.C Kd.bool w A0_2 l0_2.length l0_2) (hc0_2 : l0_2.length ≤ c0_2) (h : headgateref07_Add.f k l0_0 l0_1 l0_2 a1 = some (r1, r2, r3, r4)) :
  Calls Try.prog 19 #[.agg #[.slice A0_0 l0_0.length c0_0, .slice A0_1 l0_1.length c0_1, .slice A0_2 l0_2.length c0_2], .int .i64 a1] w fun e w' => ∃ v0_ v1_ v2_ : Value, e = .returned (.tuple #[.agg #[v0_, v1_, v2_], .int .i64 r4]) ∧ Kd.R (Kd.int .i64) 3 w' w.heap.size (fun k_ => some k_ ≠ (v1_ : Value).ownBlock) v0_ r1 ∧ Kd.R (Kd.int .i64) 3 w' w.heap.size (fun k_ => some k_ ≠ (v0_ : Value).ownBlock) v1_ r2 ∧ Kd.R Kd.bool 4 w' w.heap.size (fun _ => True) v2_ r3 ∧ Below w.heap.size w w' := by
 have hu25 := Try.underlying25
 have HR0_0 := Aside0.mk hr0_0
 have HC0_0 := Aside0.mk hc0_0
 clear hr0_0 hc0_0
 have HR0_1 := Aside0.mk hr0_1
 have HC0_1 := Aside0.mk hc0_1
 clear hr0_1 hc0_1
 have HR0_2 := Aside0.mk hr0_2
 have HC0_2 := Aside0.mk hc0_2
 clear hr0_2 hc0_2
 have HB := Aside0.mk (Below.refl w.heap.size w)
 have H : ((headgateref07_Where.f k l0_0 l0_1 l0_2 a1).bind fun bt191 => (if bt191.2 = 0 then (headgateref07_Add.j0 k a1 bt191.2 (bt191.1 != 0) l0_0 l0_1 l0_2) else (headgateref07_Add.j0 k a1 bt191.2 false l0_0 l0_1 l0_2))) = some (r1, r2, r3, r4) := h
 clear h
 replace H := Option.bind_eq_some_iff.mp H
 obtain ⟨⟨t191, t192⟩, A30, H⟩ := H
 replace H : (if t192 = 0 then (headgateref07_Add.j0 k a1 t192 (t191 != 0) l0_0 l0_1 l0_2) else (headgateref07_Add.j0 k a1 t192 false l0_0 l0_1 l0_2)) = some (r1, r2, r3, r4) := H
 have A3 := Aside0.mk A30
 clear A30
 have HC4 := Aside0.mk H
 clear H
 go_enter Try.func19, Try.ntmps19
 go_upto_region 2 with (first | ((with_reducible refine gate_dst (N := 2) rfl ?_); refine box_event ?hg (N := 2) ?hd (cs := #[.slice A0_0 l0_0.length c0_0, .slice A0_1 l0_1.length c0_1, .slice A0_2 l0_2.length c0_2]) (t := 25) ?hr ?_; (case hd => rfl); (case hg => rfl); (case hr => first | (go_simp; done) | (go_simp; rfl)); intro gb189 hg w5 hbox hb; have n0_ := Aside0.mk (below_step (upH HB) hb); have n1_ := Aside0.mk (hbox); have n2_ := Aside0.mk ((by rw [hg]; exact (below_size (upH HB)) : w.heap.size ≤ gb189)); have n3_ := Aside0.mk ((by rw [hg]; exact (below_size (upH HB)) : w.heap.size ≤ gb189)); clear HB; have HB := n0_; have BK189 := n1_; have GW189 := n2_; have GE189 := n3_; clear n0_ n1_ n2_ n3_; clear hb hbox hg) | ((with_reducible refine gate_dst (N := 4) rfl ?_); refine box_event ?hg (N := 4) ?hd (cs := #[.slice none 0 0, .slice none 0 0, .slice none 0 0]) (t := 25) ?hr ?_; (case hd => rfl); (case hg => rfl); (case hr => first | (go_simp; done) | (go_simp; rfl)); intro gb190 hg w6 hbox hb; have n0_ := Aside0.mk (blkB BK189 hb); have n1_ := Aside0.mk (below_step (upH HB) hb); have n2_ := Aside0.mk (hbox); have n3_ := Aside0.mk ((by rw [hg]; exact (below_size (upH HB)) : w.heap.size ≤ gb190)); have n4_ := Aside0.mk ((by rw [hg]; exact (below_size (upH HB)) : w.heap.size ≤ gb190)); have n5_ := Aside0.mk ((by rw [hg]; exact Nat.ne_of_lt (blk_lt (g := gb189) (o := .cells #[.slice A0_0 l0_0.length c0_0, .slice A0_1 l0_1.length c0_1, .slice A0_2 l0_2.length c0_2] 25 (0, 0)) (upB BK189)) : gb189 ≠ gb190)); have n6_ := Aside0.mk ((by rw [hg]; exact Nat.ne_of_gt (blk_lt (g := gb189) (o := .cells #[.slice A0_0 l0_0.length c0_0, .slice A0_1 l0_1.length c0_1, .slice A0_2 l0_2.length c0_2] 25 (0, 0)) (upB BK189)) : gb190 ≠ gb189)); clear BK189; clear HB; have BK189 := n0_; have HB := n1_; have BK190 := n2_; have GW190 := n3_; have GE190 := n4_; have NB189_190 := n5_; have NB190_189 := n6_; clear n0_ n1_ n2_ n3_ n4_ n5_ n6_; clear hb hbox hg; have hnb7 := NB189_190.out; have hnc7 := NB190_189.out; have hcz8_0 := cell0 BK189; have hcz8_1 := cell1 BK189; have hcz8_2 := cell2 BK189; have hfz8_0 := blk_frozen BK189.out 0; have hfz8_1 := blk_frozen BK189.out 1; have hfz8_2 := blk_frozen BK189.out 2) | ((with_reducible refine gate_callee (f := 25) rfl ?_); refine goesL_ (some 12) rfl rfl Try.func25 (by kernel_rfl) rfl #[.agg #[.slice A0_0 l0_0.length c0_0, .slice A0_1 l0_1.length c0_1, .slice A0_2 l0_2.length c0_2], .int .i64 a1] rfl (args_ (p := _)) ?_; (with_reducible refine (headgateref07_Where.calls k _ _ l0_0 _ _ l0_1 _ _ l0_2 a1 t191 t192 _ ?side1 ?side2 ?side3 ?side4 ?side5 ?side6 A3.out).mono ?_); (case side1 => exact upc (Kd.C_below HR0_0.out HB.out)); (case side2 => exact HC0_0.out); (case side3 => exact upc (Kd.C_below HR0_1.out HB.out)); (case side4 => exact HC0_1.out); (case side5 => exact upc (Kd.C_below HR0_2.out HB.out)); (case side6 => exact HC0_2.out); rintro e w9 ⟨rfl, hb⟩; refine ⟨_, rfl, ?_⟩; have n0_ := Aside0.mk (blkB BK189 hb); have n1_ := Aside0.mk (blkB BK190 hb); have n2_ := Aside0.mk (below_step (upH HB) hb); clear BK189; clear BK190; clear HB; have BK189 := n0_; have BK190 := n1_; have HB := n2_; clear n0_ n1_ n2_; (try clear hb); (try clear hb2); (try clear hk); (try clear hi)))
 (try simp only [Act.put, List.setIfInBounds_toArray, List.set_cons_zero, List.set_cons_succ])
 go_cut [20] (fun v20 wc => ∃ (kq : Nat) (x20_3 : Bool), v20 = .bool x20_3 ∧ Aside0 (headgateref07_Add.j0 kq a1 t192 x20_3 l0_0 l0_1 l0_2 = some (r1, r2, r3, r4)) ∧ Aside0 (kq ≤ k) ∧ Aside0 (wc.heap[gb189]? = some (.cells #[(.slice A0_0 l0_0.length c0_0), (.slice A0_1 l0_1.length c0_1), (.slice A0_2 l0_2.length c0_2)] 25 (0, 0))) ∧ Aside0 (wc.heap[gb190]? = some (.cells #[(.slice none 0 0), (.slice none 0 0), (.slice none 0 0)] 25 (0, 0))) ∧ Aside0 (Below w.heap.size w wc))
 case first =>
  have H := HC4.out
  clear HC4
  by_cases c10 : t192 = 0
  ·
   rw [if_pos c10] at H
   have c10b0 : (t192 == 0) = true := beq_iff_eq.mpr c10
   have c10b1 : (t192 != 0) = false := bne_eq_false_iff_eq.mpr c10
   clear c10
   (first | rw [c10b0] | (simp only [i64_w, i32_w]; rw [c10b0]) | skip)
   have H' := Aside0.mk H
   clear H
   go_wp2
   go_meet
   case rel => exact ⟨_, ((t191 != 0)), (by first | rfl | (simp; done) | (simp [*]; done)), H', ⟨by first | omega | exact Nat.le_refl _⟩, ⟨upB BK189⟩, ⟨upB BK190⟩, ⟨upH HB⟩⟩
  ·
   rw [if_neg c10] at H
   have c10b0 : (t192 == 0) = false := beq_eq_false_iff_ne.mpr c10
   have c10b1 : (t192 != 0) = true := bne_iff_ne.mpr c10
   (first | rw [c10b0] | (simp only [i64_w, i32_w]; rw [c10b0]) | skip)
   have H' := Aside0.mk H
   clear H
   go_wp2
   go_meet
   case rel => exact ⟨_, (false), (by first | rfl | (simp; done) | (simp [*]; done)), H', ⟨by first | omega | exact Nat.le_refl _⟩, ⟨upB BK189⟩, ⟨upB BK190⟩, ⟨upH HB⟩⟩
 case rest =>
  clear HC4
  try clear c1
  try clear c2
  try clear p2
  try clear c7
  try clear c10
  try clear c10b0
  try clear c10b1
  try clear hcz8_0
  try clear hcz8_1
  try clear hcz8_2
  try clear hfz8_0
  try clear hfz8_1
  try clear hfz8_2
  obtain ⟨kq, x20_3, rfl, HA, HJ3, BK189, BK190, HB⟩ := hcut
  cases kq with
  | zero => exact absurd HA.out (by simp [headgateref07_Add.j0])
  | succ kj3 =>
   have H := HA.out
   clear HA
   simp only [headgateref07_Add.j0] at H
   by_cases c11 : x20_3 = true
   ·
    subst c11
    have H1 : (if 7 = 0 then ((headgateref07_own.f l0_0 l0_1 l0_2).bind fun bt193 => ((some (([a1] : List Int) : List Int)).bind fun y203 => (if y203.length + l0_0.length < 17592186044416 then (some ((y203 ++ l0_0), bt193.2.1, bt193.2.2, 0)) else (none)))) else (some (([] : List Int), ([] : List Int), ([] : List Bool), 7))) = some (r1, r2, r3, r4) := by rw [if_pos rfl] at H; exact H
    clear H
    have H := H1
    clear H1
    by_cases c12 : 7 = 0
    ·
     exact absurd c12 (by decide)
    ·
     rw [if_neg c12] at H
     have c12b0 : (7 == 0) = false := beq_eq_false_iff_ne.mpr c12
     have c12b1 : (7 != 0) = true := bne_iff_ne.mpr c12
     simp only [Option.some.injEq, Prod.mk.injEq] at H
     obtain ⟨rfl, rfl, rfl, rfl⟩ := H
     have hnb32 := NB190_189.out
     have hnc32 := NB189_190.out
     have hcz33_0 := cell0 BK190
     have hcz33_1 := cell1 BK190
     have hcz33_2 := cell2 BK190
     have hfz33_0 := blk_frozen BK190.out 0
     have hfz33_1 := blk_frozen BK190.out 1
     have hfz33_2 := blk_frozen BK190.out 2
     go_wp2
     refine bodyPost_ret (results_ct rfl _ _ gb190 25 #[.slice none 0 0, .slice none 0 0, .slice none 0 0] (0, 0) _ rfl (by (with_reducible repeat (first | refine blk_drewN ?_ _ | refine blk_drew ?_ | refine blk_alloc ?_ _)); refine blk_put (cs := #[.slice none 0 0, .slice none 0 0, .slice none 0 0]) ?_ 2 _ rfl; (with_reducible repeat (first | refine blk_drewN ?_ _ | refine blk_drew ?_ | refine blk_alloc ?_ _)); refine blk_put (cs := #[.slice none 0 0, .slice none 0 0, .slice none 0 0]) ?_ 1 _ rfl; (with_reducible repeat (first | refine blk_drewN ?_ _ | refine blk_drew ?_ | refine blk_alloc ?_ _)); refine blk_put (cs := #[.slice none 0 0, .slice none 0 0, .slice none 0 0]) ?_ 0 _ rfl; (with_reducible repeat (first | refine blk_drewN ?_ _ | refine blk_drew ?_ | refine blk_alloc ?_ _)); exact BK190.out) Try.underlying25 rfl (by kernel_rfl)) rfl ?_
     exact ⟨_, _, _, by first | rfl | (simp [errW_none, errW_some] <;> rfl) | (simp [*, errW_none, errW_some] <;> rfl), by first | exact Kd.R_nil _ _ _ _ _ | exact Kd.N_nil _ _ _ _ _ | exact Kd.V_nil _ _ _ _ _ | exact Kd.Q_nil _ _ _ _ _ | exact Kd.S_nil _ _ _ _ _, by first | exact Kd.R_nil _ _ _ _ _ | exact Kd.N_nil _ _ _ _ _ | exact Kd.V_nil _ _ _ _ _ | exact Kd.Q_nil _ _ _ _ _ | exact Kd.S_nil _ _ _ _ _, by first | exact Kd.R_nil _ _ _ _ _ | exact Kd.N_nil _ _ _ _ _ | exact Kd.V_nil _ _ _ _ _ | exact Kd.Q_nil _ _ _ _ _ | exact Kd.S_nil _ _ _ _ _, by repeat (first | (with_reducible first | exact HB.out | apply below_alloc | apply pw_below_drewN | apply below_drew1 | refine below_set ?_ GE189.out | refine below_set ?_ GE190.out) | exact HB.out)⟩
   ·
    replace c11 := Bool.eq_false_iff.mpr c11
    subst c11
    have H1 : (if t192 = 0 then ((headgateref07_own.f l0_0 l0_1 l0_2).bind fun bt209 => ((some (([a1] : List Int) : List Int)).bind fun y219 => (if y219.length + l0_0.length < 17592186044416 then (some ((y219 ++ l0_0), bt209.2.1, bt209.2.2, 0)) else (none)))) else (some (([] : List Int), ([] : List Int), ([] : List Bool), t192))) = some (r1, r2, r3, r4) := by rw [if_neg (show ¬ (false = true) by decide)] at H; exact H
    clear H
    have H := H1
    clear H1
    by_cases c34 : t192 = 0
    ·
     rw [if_pos c34] at H
     have c34b0 : (t192 == 0) = true := beq_iff_eq.mpr c34
     have c34b1 : (t192 != 0) = false := bne_eq_false_iff_eq.mpr c34
     clear c34
     replace H := Option.bind_eq_some_iff.mp H
     obtain ⟨⟨t209, t212, t215⟩, A350, H⟩ := H
     replace H : ((some (([a1] : List Int) : List Int)).bind fun y219 => (if y219.length + l0_0.length < 17592186044416 then (some ((y219 ++ l0_0), t212, t215, 0)) else (none))) = some (r1, r2, r3, r4) := H
     have A35 := Aside0.mk A350
     clear A350
     obtain ⟨y219, hy219⟩ : ∃ y_ : List Int, y_ = (([a1] : List Int)) := ⟨_, rfl⟩
     replace H : (if y219.length + l0_0.length < 17592186044416 then (some ((y219 ++ l0_0), t212, t215, 0)) else (none)) = some (r1, r2, r3, r4) := by first | (rw [hy219]; with_reducible exact H) | (have H2_ := (Option.bind_some _ _).symm.trans H; rw [hy219]; with_reducible exact H2_) | (have H2_ := (Option.bind_some _ _).symm.trans H; with_reducible exact H2_) | with_reducible exact H | (rw [hy219]; exact H) | exact H
     have Ny219 := Aside0.mk hy219
     clear hy219
     by_cases c36 : y219.length + l0_0.length < 17592186044416
     ·
      rw [if_pos c36] at H
      have LMc36 := Aside0.mk c36
      clear c36
      obtain ⟨y222, hy222⟩ : ∃ y_ : List Int, y_ = (y219 ++ l0_0) := ⟨_, rfl⟩
      replace H : (some (y222, t212, t215, 0)) = some (r1, r2, r3, r4) := by first | (rw [hy222]; with_reducible exact H) | (have H2_ := (Option.bind_some _ _).symm.trans H; rw [hy222]; with_reducible exact H2_) | (have H2_ := (Option.bind_some _ _).symm.trans H; with_reducible exact H2_) | with_reducible exact H | (rw [hy222]; exact H) | exact H
      have Ny222 := Aside0.mk hy222
      clear hy222
      simp only [Option.some.injEq, Prod.mk.injEq] at H
      obtain ⟨rfl, rfl, rfl, rfl⟩ := H
      have hnb37 := NB189_190.out
      have hnc37 := NB190_189.out
      have hcz38_0 := cell0 BK189
      have hcz38_1 := cell1 BK189
      have hcz38_2 := cell2 BK189
      have hfz38_0 := blk_frozen BK189.out 0
      have hfz38_1 := blk_frozen BK189.out 1
      have hfz38_2 := blk_frozen BK189.out 2
      go_wp2_with (first | ((with_reducible refine gate_callee (f := 46) rfl ?_); refine goesL_ (some 26) rfl rfl Try.func46 (by kernel_rfl) rfl #[.agg #[.slice A0_0 l0_0.length c0_0, .slice A0_1 l0_1.length c0_1, .slice A0_2 l0_2.length c0_2]] rfl (args_ (p := _)) ?_; (with_reducible refine (headgateref07_own.calls _ _ l0_0 _ _ l0_1 _ _ l0_2 t209 t212 t215 _ ?side1 ?side2 ?side3 ?side4 ?side5 ?side6 A35.out).mono ?_); (case side1 => exact upc (Kd.C_below HR0_0.out HB.out)); (case side2 => exact HC0_0.out); (case side3 => exact upc (Kd.C_below HR0_1.out HB.out)); (case side4 => exact HC0_1.out); (case side5 => exact upc (Kd.C_below HR0_2.out HB.out)); (case side6 => exact HC0_2.out); rintro e w39 ⟨v210, v213, v216, rfl, ho0, ho1, ho2, hb⟩; refine ⟨_, rfl, ?_⟩; have n0_ := Aside0.mk (Kd.R_lower ho0 (below_size (upH HB))); have n1_ := Aside0.mk (Kd.R_lower ho1 (below_size (upH HB))); have n2_ := Aside0.mk (Kd.R_lower ho2 (below_size (upH HB))); have n3_ := Aside0.mk (blkB BK189 hb); have n4_ := Aside0.mk (blkB BK190 hb); have n5_ := Aside0.mk (below_step (upH HB) hb); clear BK189; clear BK190; clear HB; have HO211 := n0_; have HO214 := n1_; have HO217 := n2_; have BK189 := n3_; have BK190 := n4_; have HB := n5_; clear n0_ n1_ n2_ n3_ n4_ n5_; (try clear hb); (try clear hb2); (try clear hk); (try clear hi); (try clear ho0); (try clear ho1); (try clear ho2)) | ((with_reducible refine gate_dst (N := 8) rfl ?_); refine box_event ?hg (N := 8) ?hd (cs := #[.slice none 0 0, .slice none 0 0, .slice none 0 0]) (t := 25) ?hr ?_; (case hd => rfl); (case hg => rfl); (case hr => first | (go_simp; done) | (go_simp; rfl)); intro gb218 hg w40 hbox hb; have n0_ := Aside0.mk (Kd.R_below (upR HO211.out) hb); have n1_ := Aside0.mk (Kd.R_below (upR HO214.out) hb); have n2_ := Aside0.mk (Kd.R_below (upR HO217.out) hb); have n3_ := Aside0.mk (blkB BK189 hb); have n4_ := Aside0.mk (blkB BK190 hb); have n5_ := Aside0.mk (below_step (upH HB) hb); have n6_ := Aside0.mk (hbox); have n7_ := Aside0.mk ((by rw [hg]; exact (below_size (upH HB)) : w.heap.size ≤ gb218)); have n8_ := Aside0.mk ((by rw [hg]; exact (below_size (upH HB)) : w.heap.size ≤ gb218)); have n9_ := Aside0.mk ((by rw [hg]; exact Nat.ne_of_lt (blk_lt (g := gb189) (o := .cells #[.slice A0_0 l0_0.length c0_0, .slice A0_1 l0_1.length c0_1, .slice A0_2 l0_2.length c0_2] 25 (0, 0)) (upB BK189)) : gb189 ≠ gb218)); have n10_ := Aside0.mk ((by rw [hg]; exact Nat.ne_of_gt (blk_lt (g := gb189) (o := .cells #[.slice A0_0 l0_0.length c0_0, .slice A0_1 l0_1.length c0_1, .slice A0_2 l0_2.length c0_2] 25 (0, 0)) (upB BK189)) : gb218 ≠ gb189)); have n11_ := Aside0.mk ((by rw [hg]; exact Nat.ne_of_lt (blk_lt (g := gb190) (o := .cells #[.slice none 0 0, .slice none 0 0, .slice none 0 0] 25 (0, 0)) (upB BK190)) : gb190 ≠ gb218)); have n12_ := Aside0.mk ((by rw [hg]; exact Nat.ne_of_gt (blk_lt (g := gb190) (o := .cells #[.slice none 0 0, .slice none 0 0, .slice none 0 0] 25 (0, 0)) (upB BK190)) : gb218 ≠ gb190)); clear HO211; clear HO214; clear HO217; clear BK189; clear BK190; clear HB; have HO211 := n0_; have HO214 := n1_; have HO217 := n2_; have BK189 := n3_; have BK190 := n4_; have HB := n5_; have BK218 := n6_; have GW218 := n7_; have GE218 := n8_; have NB189_218 := n9_; have NB218_189 := n10_; have NB190_218 := n11_; have NB218_190 := n12_; clear n0_ n1_ n2_ n3_ n4_ n5_ n6_ n7_ n8_ n9_ n10_ n11_ n12_; clear hb hbox hg; obtain ⟨Ao41, co41, eo41⟩ := Kd.R_slice HO211.out; subst eo41; have hnb42 := NB218_189.out; have hnc42 := NB189_218.out; have hnb43 := NB218_190.out; have hnc43 := NB190_218.out; have hcz44_0 := cell0 BK218; have hcz44_1 := cell1 BK218; have hcz44_2 := cell2 BK218; have hfz44_0 := blk_frozen BK218.out 0; have hfz44_1 := blk_frozen BK218.out 1; have hfz44_2 := blk_frozen BK218.out 2; obtain ⟨Ao45, co45, eo45⟩ := Kd.R_slice HO214.out; subst eo45; obtain ⟨Ao46, co46, eo46⟩ := Kd.R_slice HO217.out; subst eo46) | ((with_reducible refine gate_dst (N := 28) rfl ?_); refine Kd.R_lit (Kd.int .i64) _ 3 ?hg (N := 28) ?hd (xs := ([a1] : List Int)) (inner := [.int .i64 a1]) (ok := fun _ => True) (okp := fun _ => True) ?hr ?hp (fun _ hk => hk) trivial (Below.refl _ _) (Nat.le_refl _) (by simp) ?_; (case hd => rfl); (case hg => rfl); (case hr => first | (go_simp; done) | (go_simp; rfl)); (case hp => exact (Reps.one (show Kd.M (Kd.int .i64) _ _ _ a1 [.int .i64 a1] from rfl) (Reps.none _ _))); intro v220 w47 ho48 hb hg_ hnew_; clear hg_ hnew_; (first | rw [← Ny219.out] at ho48 | (simp only [Int.reduceToNat] at ho48; rw [← Ny219.out] at ho48)); have n0_ := Aside0.mk (Kd.R_elder' (upR (Kd.R_mono (far3 HO211.out BK218) (fun _ h_ => h_.1))) (Kd.R_base ho48) hb); have n1_ := Aside0.mk (Kd.R_elder' (upR (Kd.R_mono (far3 HO214.out BK218) (fun _ h_ => h_.1))) (Kd.R_base ho48) hb); have n2_ := Aside0.mk (Kd.R_below (upR (Kd.R_mono (far3 HO217.out BK218) (fun _ h_ => h_.1))) hb); have n3_ := Aside0.mk (Kd.R_lower (Kd.R_new' (Kd.R_new' ho48 (Kd.R_lt (upR (Kd.R_mono (far3 HO211.out BK218) (fun _ h_ => h_.1))))) (Kd.R_lt (upR (Kd.R_mono (far3 HO214.out BK218) (fun _ h_ => h_.1))))) (below_size (upH HB))); have n4_ := Aside0.mk (blk_below (g := gb189) (o := .cells #[.slice A0_0 l0_0.length c0_0, .slice A0_1 l0_1.length c0_1, .slice A0_2 l0_2.length c0_2] 25 (0, 0)) (by (with_reducible repeat (first | refine blk_drewN ?_ _ | refine blk_drew ?_ | refine blk_alloc ?_ _)); refine blk_far ?_ NB189_218.out _; (with_reducible repeat (first | refine blk_drewN ?_ _ | refine blk_drew ?_ | refine blk_alloc ?_ _)); refine blk_far ?_ NB189_218.out _; (with_reducible repeat (first | refine blk_drewN ?_ _ | refine blk_drew ?_ | refine blk_alloc ?_ _)); refine blk_far ?_ NB189_218.out _; (with_reducible repeat (first | refine blk_drewN ?_ _ | refine blk_drew ?_ | refine blk_alloc ?_ _)); exact BK189.out) hb); have n5_ := Aside0.mk (blk_below (g := gb190) (o := .cells #[.slice none 0 0, .slice none 0 0, .slice none 0 0] 25 (0, 0)) (by (with_reducible repeat (first | refine blk_drewN ?_ _ | refine blk_drew ?_ | refine blk_alloc ?_ _)); refine blk_far ?_ NB190_218.out _; (with_reducible repeat (first | refine blk_drewN ?_ _ | refine blk_drew ?_ | refine blk_alloc ?_ _)); refine blk_far ?_ NB190_218.out _; (with_reducible repeat (first | refine blk_drewN ?_ _ | refine blk_drew ?_ | refine blk_alloc ?_ _)); refine blk_far ?_ NB190_218.out _; (with_reducible repeat (first | refine blk_drewN ?_ _ | refine blk_drew ?_ | refine blk_alloc ?_ _)); exact BK190.out) hb); have n6_ := Aside0.mk (blk_below (g := gb218) (o := .cells #[.slice Ao41 t209.length co41, .slice Ao45 t212.length co45, .slice Ao46 t215.length co46] 25 (0, 0)) (by (with_reducible repeat (first | refine blk_drewN ?_ _ | refine blk_drew ?_ | refine blk_alloc ?_ _)); refine blk_put (cs := #[.slice Ao41 t209.length co41, .slice Ao45 t212.length co45, .slice none 0 0]) ?_ 2 _ rfl; (with_reducible repeat (first | refine blk_drewN ?_ _ | refine blk_drew ?_ | refine blk_alloc ?_ _)); refine blk_put (cs := #[.slice Ao41 t209.length co41, .slice none 0 0, .slice none 0 0]) ?_ 1 _ rfl; (with_reducible repeat (first | refine blk_drewN ?_ _ | refine blk_drew ?_ | refine blk_alloc ?_ _)); refine blk_put (cs := #[.slice none 0 0, .slice none 0 0, .slice none 0 0]) ?_ 0 _ rfl; (with_reducible repeat (first | refine blk_drewN ?_ _ | refine blk_drew ?_ | refine blk_alloc ?_ _)); exact BK218.out) hb); have n7_ := Aside0.mk (below_step (upH HB) hb); clear HO211; clear HO214; clear HO217; clear BK189; clear BK190; clear BK218; clear HB; have HO211 := n0_; have HO214 := n1_; have HO217 := n2_; have HO221 := n3_; have BK189 := n4_; have BK190 := n5_; have BK218 := n6_; have HB := n7_; clear n0_ n1_ n2_ n3_ n4_ n5_ n6_ n7_; clear hb ho48; have hcz49_0 := cell0 BK189; have hcz49_1 := cell1 BK189; have hcz49_2 := cell2 BK189; have hfz49_0 := blk_frozen BK189.out 0; have hfz49_1 := blk_frozen BK189.out 1; have hfz49_2 := blk_frozen BK189.out 2) | ((with_reducible refine gate_builtin (b := .append) (xs := #[.tmp 28, .tmp 30]) rfl ?_); at_builtin; refine Kd.R_append_rows (Kd.int .i64) (w0 := w) w.heap.size rfl (.tmp 28) (.tmp 30) 22 3 (.int .i64 0) 8 rfl Try.underlying22 info3 rfl (by decide) (by omega) v220 y219 l0_0 _ _ _ (fun k_ => some k_ ≠ (.slice Ao41 t209.length co41 : Value).ownBlock ∧ some k_ ≠ (.slice Ao45 t212.length co45 : Value).ownBlock) (fun _ => False) rfl rfl ?aO ?aR (fun _ _ h => h) (fun _ h => h.elim) ?aF ?aB ?aS ?aL ?_; (case aR => repeat (first | exact (Kd.C_below HR0_0.out HB.out) | (with_reducible refine Kd.C_alloc ?_ _) | (with_reducible refine Kd.C_drewN ?_ _) | (with_reducible refine Kd.C_drew ?_))); (case aB => exact (upH HB)); (case aF => exact (fun k_ hk => ⟨Kd.fresh' (Kd.R_lt (upR HO211.out)) k_ hk, Kd.fresh' (Kd.R_lt (upR HO214.out)) k_ hk⟩)); (case aO => exact (by (with_reducible repeat (first | apply Kd.R_alloc | apply Kd.R_drewN | apply Kd.R_drew)); exact Kd.R_mono HO221.out (fun _ hk => ⟨hk.1.2, hk.2⟩))); (case aS => exact (below_size (upH HB))); (case aL => have := LMc36.out; omega); intro v223 w50 ho hb hg hat; rw [← Ny222.out] at ho; have n0_ := Aside0.mk (blk_grown (g := gb189) (o := .cells #[.slice A0_0 l0_0.length c0_0, .slice A0_1 l0_1.length c0_1, .slice A0_2 l0_2.length c0_2] 25 (0, 0)) (upB BK189) hg (Kd.R_ne HO221.out BK189.out (by decide))); have n1_ := Aside0.mk (blk_grown (g := gb190) (o := .cells #[.slice none 0 0, .slice none 0 0, .slice none 0 0] 25 (0, 0)) (upB BK190) hg (Kd.R_ne HO221.out BK190.out (by decide))); have n2_ := Aside0.mk (Kd.R_after (ok := (fun k_ => some k_ ≠ (.slice Ao45 t212.length co45 : Value).ownBlock)) (upR HO211.out) hg hat); have n3_ := Aside0.mk (Kd.R_after (ok := (fun k_ => some k_ ≠ (.slice Ao41 t209.length co41 : Value).ownBlock)) (upR HO214.out) hg hat); have n4_ := Aside0.mk (Kd.R_over' (upR HO217.out) (Kd.R_typed (upR HO221.out)) (by decide) hg); have n5_ := Aside0.mk (blk_grown (g := gb218) (o := .cells #[.slice Ao41 t209.length co41, .slice Ao45 t212.length co45, .slice Ao46 t215.length co46] 25 (0, 0)) (upB BK218) hg (Kd.R_ne HO221.out BK218.out (by decide))); have n6_ := Aside0.mk (hb); have n7_ := Aside0.mk (ho); clear BK189; clear BK190; clear HO211; clear HO214; clear HO217; clear BK218; clear HB; clear HO221; have BK189 := n0_; have BK190 := n1_; have HO211 := n2_; have HO214 := n3_; have HO217 := n4_; have BK218 := n5_; have HB := n6_; have HO224 := n7_; clear n0_ n1_ n2_ n3_ n4_ n5_ n6_ n7_; clear ho hb hg hat; obtain ⟨Ao51, co51, eo51⟩ := Kd.R_slice HO224.out; subst eo51; have hcz52_0 := cell0 BK218; have hcz52_1 := cell1 BK218; have hcz52_2 := cell2 BK218; have hfz52_0 := blk_frozen BK218.out 0; have hfz52_1 := blk_frozen BK218.out 1; have hfz52_2 := blk_frozen BK218.out 2; have hcz53_0 := cell0 BK190; have hcz53_1 := cell1 BK190; have hcz53_2 := cell2 BK190; have hfz53_0 := blk_frozen BK190.out 0; have hfz53_1 := blk_frozen BK190.out 1; have hfz53_2 := blk_frozen BK190.out 2))
      refine bodyPost_ret (results_ct rfl _ _ gb190 25 #[.slice Ao51 y222.length co51, .slice Ao45 t212.length co45, .slice Ao46 t215.length co46] (0, 0) _ rfl (by (with_reducible repeat (first | refine blk_drewN ?_ _ | refine blk_drew ?_ | refine blk_alloc ?_ _)); refine blk_put (cs := #[.slice Ao51 y222.length co51, .slice Ao45 t212.length co45, .slice none 0 0]) ?_ 2 _ rfl; (with_reducible repeat (first | refine blk_drewN ?_ _ | refine blk_drew ?_ | refine blk_alloc ?_ _)); refine blk_put (cs := #[.slice Ao51 y222.length co51, .slice none 0 0, .slice none 0 0]) ?_ 1 _ rfl; (with_reducible repeat (first | refine blk_drewN ?_ _ | refine blk_drew ?_ | refine blk_alloc ?_ _)); refine blk_put (cs := #[.slice none 0 0, .slice none 0 0, .slice none 0 0]) ?_ 0 _ rfl; (with_reducible repeat (first | refine blk_drewN ?_ _ | refine blk_drew ?_ | refine blk_alloc ?_ _)); refine blk_far ?_ NB190_218.out _; (with_reducible repeat (first | refine blk_drewN ?_ _ | refine blk_drew ?_ | refine blk_alloc ?_ _)); exact BK190.out) Try.underlying25 rfl (by kernel_rfl)) rfl ?_
      exact ⟨_, _, _, by first | rfl | (simp [errW_none, errW_some] <;> rfl) | (simp [*, errW_none, errW_some] <;> rfl), by (with_reducible repeat (first | apply Kd.R_alloc | apply Kd.R_drewN | apply Kd.R_drew)); exact Kd.R_mono (Kd.R_far (p := ⟨gb190, 2, none⟩) (Kd.R_far (p := ⟨gb190, 1, none⟩) (Kd.R_far (p := ⟨gb190, 0, none⟩) (Kd.R_far (p := ⟨gb218, 0, none⟩) (Kd.R_types (Kd.R_types HO224.out BK218.out (by decide)) BK190.out (by decide)) (fun _ hk => hk.1.2) (.slice Ao51 y222.length co51)) (fun _ hk => hk.2) (.slice Ao51 y222.length co51)) (fun _ hk => hk.2) (.slice Ao45 t212.length co45)) (fun _ hk => hk.2) (.slice Ao46 t215.length co46)) (fun _ hk => hk.1.1.2), by (with_reducible repeat (first | apply Kd.R_alloc | apply Kd.R_drewN | apply Kd.R_drew)); exact Kd.R_mono (Kd.R_far (p := ⟨gb190, 2, none⟩) (Kd.R_far (p := ⟨gb190, 1, none⟩) (Kd.R_far (p := ⟨gb190, 0, none⟩) (Kd.R_far (p := ⟨gb218, 0, none⟩) (Kd.R_types (Kd.R_types HO214.out BK218.out (by decide)) BK190.out (by decide)) (fun _ hk => hk.1.2) (.slice Ao51 y222.length co51)) (fun _ hk => hk.2) (.slice Ao51 y222.length co51)) (fun _ hk => hk.2) (.slice Ao45 t212.length co45)) (fun _ hk => hk.2) (.slice Ao46 t215.length co46)) (fun _ hk => hk.1.1.2), by (with_reducible repeat (first | apply Kd.R_alloc | apply Kd.R_drewN | apply Kd.R_drew)); exact Kd.R_mono (Kd.R_far (p := ⟨gb190, 2, none⟩) (Kd.R_far (p := ⟨gb190, 1, none⟩) (Kd.R_far (p := ⟨gb190, 0, none⟩) (Kd.R_far (p := ⟨gb218, 0, none⟩) (Kd.R_types (Kd.R_types HO217.out BK218.out (by decide)) BK190.out (by decide)) (fun _ hk => hk.1.2) (.slice Ao51 y222.length co51)) (fun _ hk => hk.2) (.slice Ao51 y222.length co51)) (fun _ hk => hk.2) (.slice Ao45 t212.length co45)) (fun _ hk => hk.2) (.slice Ao46 t215.length co46)) (fun _ hk => trivial), by repeat (first | (with_reducible first | exact HB.out | apply below_alloc | apply pw_below_drewN | apply below_drew1 | refine below_set ?_ GE189.out | refine below_set ?_ GE190.out | refine below_set ?_ GE218.out) | exact HB.out)⟩
     ·
      rw [if_neg c36] at H
      exact absurd H (by simp)
    ·
     rw [if_neg c34] at H
     have c34b0 : (t192 == 0) = false := beq_eq_false_iff_ne.mpr c34
     have c34b1 : (t192 != 0) = true := bne_iff_ne.mpr c34
     simp only [Option.some.injEq, Prod.mk.injEq] at H
     obtain ⟨rfl, rfl, rfl, rfl⟩ := H
     have hnb54 := NB190_189.out
     have hnc54 := NB189_190.out
     have hcz55_0 := cell0 BK190
     have hcz55_1 := cell1 BK190
     have hcz55_2 := cell2 BK190
     have hfz55_0 := blk_frozen BK190.out 0
     have hfz55_1 := blk_frozen BK190.out 1
     have hfz55_2 := blk_frozen BK190.out 2
     go_wp2
     refine bodyPost_ret (results_ct rfl _ _ gb190 25 #[.slice none 0 0, .slice none 0 0, .slice none 0 0] (0, 0) _ rfl (by (with_reducible repeat (first | refine blk_drewN ?_ _ | refine blk_drew ?_ | refine blk_alloc ?_ _)); refine blk_put (cs := #[.slice none 0 0, .slice none 0 0, .slice none 0 0]) ?_ 2 _ rfl; (with_reducible repeat (first | refine blk_drewN ?_ _ | refine blk_drew ?_ | refine blk_alloc ?_ _)); refine blk_put (cs := #[.slice none 0 0, .slice none 0 0, .slice none 0 0]) ?_ 1 _ rfl; (with_reducible repeat (first | refine blk_drewN ?_ _ | refine blk_drew ?_ | refine blk_alloc ?_ _)); refine blk_put (cs := #[.slice none 0 0, .slice none 0 0, .slice none 0 0]) ?_ 0 _ rfl; (with_reducible repeat (first | refine blk_drewN ?_ _ | refine blk_drew ?_ | refine blk_alloc ?_ _)); exact BK190.out) Try.underlying25 rfl (by kernel_rfl)) rfl ?_
     exact ⟨_, _, _, by first | rfl | (simp [errW_none, errW_some] <;> rfl) | (simp [*, errW_none, errW_some] <;> rfl), by first | exact Kd.R_nil _ _ _ _ _ | exact Kd.N_nil _ _ _ _ _ | exact Kd.V_nil _ _ _ _ _ | exact Kd.Q_nil _ _ _ _ _ | exact Kd.S_nil _ _ _ _ _, by first | exact Kd.R_nil _ _ _ _ _ | exact Kd.N_nil _ _ _ _ _ | exact Kd.V_nil _ _ _ _ _ | exact Kd.Q_nil _ _ _ _ _ | exact Kd.S_nil _ _ _ _ _, by first | exact Kd.R_nil _ _ _ _ _ | exact Kd.N_nil _ _ _ _ _ | exact Kd.V_nil _ _ _ _ _ | exact Kd.Q_nil _ _ _ _ _ | exact Kd.S_nil _ _ _ _ _, by repeat (first | (with_reducible first | exact HB.out | apply below_alloc | apply pw_below_drewN | apply below_drew1 | refine below_set ?_ GE189.out | refine below_set ?_ GE190.out) | exact HB.out)⟩

end Go.Proofs.Ytaofihdmgdpenaa.X

namespace Go.Proofs.Ytaofihdmgdpenaa.X
open Go.RowKit Go.Proofs.YtaofihdmgdpenaaW.PrintWords Go.Proofs.YtaofihdmgdpenaaW.PrintLast Go.Proofs.YtaofihdmgdpenaaW.PrintMore
attribute [local go_sem] max2_int min2_int max_two min_two max_three min_three max_four min_four   -- for this text's walks alone
set_option linter.unusedVariables false
set_option linter.unusedSimpArgs false

/-! ### headgateref07_Touch: function 23 -/
def headgateref07_Touch.j0 : Nat → Int → Int → Bool → List Int → List Int → List Bool → Option (List Int × List Int × List Bool × Int)
 | 0, _, _, _, _, _, _ => none
 | k + 1, x1, x7, x20, x252000, x252001, x252002 => if x20 = true then (if 6 = 0 then ((headgateref07_own.f x252000 x252001 x252002).bind fun bt255 => (if 0 ≤ x1 then (if x1 < (bt255.2.2.length : Int) then (some (bt255.1, bt255.2.1, (bt255.2.2.set (x1 : Int).toNat true), 0)) else (none)) else (none))) else (some (([] : List Int), ([] : List Int), ([] : List Bool), 6))) else (if x7 = 0 then ((headgateref07_own.f x252000 x252001 x252002).bind fun bt266 => (if 0 ≤ x1 then (if x1 < (bt266.2.2.length : Int) then (some (bt266.1, bt266.2.1, (bt266.2.2.set (x1 : Int).toNat true), 0)) else (none)) else (none))) else (some (([] : List Int), ([] : List Int), ([] : List Bool), x7)))
def headgateref07_Touch.f (k : Nat) (l0_0 : List Int) (l0_1 : List Int) (l0_2 : List Bool) (a1 : Int) : Option (List Int × List Int × List Bool × Int) := (headgateref07_Where.f k l0_0 l0_1 l0_2 a1).bind fun bt253 => (if bt253.2 = 0 then (headgateref07_Touch.j0 k a1 bt253.2 (bt253.1 == 0) l0_0 l0_1 l0_2) else (headgateref07_Touch.j0 k a1 bt253.2 false l0_0 l0_1 l0_2))
theorem headgateref07_Touch.mono_l : ∀ k, (∀ y0 y1 y2 y3 y4 y5, LeO (headgateref07_Touch.j0 k y0 y1 y2 y3 y4 y5) (headgateref07_Touch.j0 (k + 1) y0 y1 y2 y3 y4 y5))
 | 0 => fun _ _ _ _ _ _ r h => by simp [headgateref07_Touch.j0] at h
 | k + 1 => by
  have ih0 := headgateref07_Touch.mono_l k
  ·
   intro y0 y1 y2 y3 y4 y5
   unfold headgateref07_Touch.j0
   repeat' first
   | (with_reducible exact ih0 _ _ _ _ _ _)
   | (with_reducible exact headgateref07_Where.mono _ _ _ _ _)
   | (with_reducible exact LeO.refl _)
   | (with_reducible exact LeO.none _)
   | (with_reducible refine LeO.ite ?_ ?_)
   | (with_reducible refine LeO.bind ?_ (fun _ => ?_))
   | exact ih0 _ _ _ _ _ _
   | exact headgateref07_Where.mono _ _ _ _ _
   | exact LeO.none _
   | refine LeO.ite ?_ ?_
   | refine LeO.bind ?_ (fun _ => ?_)
theorem headgateref07_Touch.mono : ∀ a0 a1 a2 a3 k, LeO (headgateref07_Touch.f k a0 a1 a2 a3) (headgateref07_Touch.f (k + 1) a0 a1 a2 a3) := by
 intro a0 a1 a2 a3 k
 have ih0 := headgateref07_Touch.mono_l k
 unfold headgateref07_Touch.f
 repeat' first
   | (with_reducible exact ih0 _ _ _ _ _ _)
   | (with_reducible exact headgateref07_Where.mono _ _ _ _ _)
   | (with_reducible exact LeO.refl _)
   | (with_reducible exact LeO.none _)
   | (with_reducible refine LeO.ite ?_ ?_)
   | (with_reducible refine LeO.bind ?_ (fun _ => ?_))
   | exact ih0 _ _ _ _ _ _
   | exact headgateref07_Where.mono _ _ _ _ _
   | exact LeO.none _
   | refine LeO.ite ?_ ?_
   | refine LeO.bind ?_ (fun _ => ?_)
set_option maxHeartbeats 2000000 in
set_option maxRecDepth 100000 in
theorem headgateref07_Touch.calls (k : Nat) (A0_0 : Option Addr) (c0_0 : Nat) (l0_0 : List Int) (A0_1 : Option Addr) (c0_1 : Nat) (l0_1 : List Int) (A0_2 : Option Addr) (c0_2 : Nat) (l0_2 : List Bool) (a1 : Int) (r1 : List Int) (r2 : List Int) (r3 : List Bool) (r4 : Int) (w : World) (hr0_0 : Kd.C (Kd.int .i64) w A0_0 l0_0.length l0_0) (hc0_0 : l0_0.length ≤ c0_0) (hr0_1 : Kd.C (Kd.int .i64) w A0_1 l0_1.length l0_1) (hc0_1 : l0_1.length ≤ c0_1) (hr0_2 : Kd.C Kd.bool w A0_2 l0_2.length l0_2) (hc0_2 : l0_2.length ≤ c0_2) (h : headgateref07_Touch.f k l0_0 l0_1 l0_2 a1 = some (r1, r2, r3, r4)) :
  Calls Try.prog 23 #[.agg #[.slice A0_0 l0_0.length c0_0, .slice A0_1 l0_1.length c0_1, .slice A0_2 l0_2.length c0_2], .int .i64 a1] w fun e w' => ∃ v0_ v1_ v2_ : Value, e = .returned (.tuple #[.agg #[v0_, v1_, v2_], .int .i64 r4]) ∧ Kd.R (Kd.int .i64) 3 w' w.heap.size (fun k_ => some k_ ≠ (v1_ : Value).ownBlock) v0_ r1 ∧ Kd.R (Kd.int .i64) 3 w' w.heap.size (fun k_ => some k_ ≠ (v0_ : Value).ownBlock) v1_ r2 ∧ Kd.R Kd.bool 4 w' w.heap.size (fun _ => True) v2_ r3 ∧ Below w.heap.size w w' := by
 have hu25 := Try.underlying25
 have HR0_0 := Aside0.mk hr0_0
 have HC0_0 := Aside0.mk hc0_0
 clear hr0_0 hc0_0
 have HR0_1 := Aside0.mk hr0_1
 have HC0_1 := Aside0.mk hc0_1
 clear hr0_1 hc0_1
 have HR0_2 := Aside0.mk hr0_2
 have HC0_2 := Aside0.mk hc0_2
 clear hr0_2 hc0_2
 have HB := Aside0.mk (Below.refl w.heap.size w)
 have H : ((headgateref07_Where.f k l0_0 l0_1 l0_2 a1).bind fun bt253 => (if bt253.2 = 0 then (headgateref07_Touch.j0 k a1 bt253.2 (bt253.1 == 0) l0_0 l0_1 l0_2) else (headgateref07_Touch.j0 k a1 bt253.2 false l0_0 l0_1 l0_2))) = some (r1, r2, r3, r4) := h
 clear h
 replace H := Option.bind_eq_some_iff.mp H
 obtain ⟨⟨t253, t254⟩, A30, H⟩ := H
 replace H : (if t254 = 0 then (headgateref07_Touch.j0 k a1 t254 (t253 == 0) l0_0 l0_1 l0_2) else (headgateref07_Touch.j0 k a1 t254 false l0_0 l0_1 l0_2)) = some (r1, r2, r3, r4) := H
 have A3 := Aside0.mk A30
 clear A30
 have HC4 := Aside0.mk H
 clear H
 go_enter Try.func23, Try.ntmps23
 go_upto_region 2 with (first | ((with_reducible refine gate_dst (N := 2) rfl ?_); refine box_event ?hg (N := 2) ?hd (cs := #[.slice A0_0 l0_0.length c0_0, .slice A0_1 l0_1.length c0_1, .slice A0_2 l0_2.length c0_2]) (t := 25) ?hr ?_; (case hd => rfl); (case hg => rfl); (case hr => first | (go_simp; done) | (go_simp; rfl)); intro gb251 hg w5 hbox hb; have n0_ := Aside0.mk (below_step (upH HB) hb); have n1_ := Aside0.mk (hbox); have n2_ := Aside0.mk ((by rw [hg]; exact (below_size (upH HB)) : w.heap.size ≤ gb251)); have n3_ := Aside0.mk ((by rw [hg]; exact (below_size (upH HB)) : w.heap.size ≤ gb251)); clear HB; have HB := n0_; have BK251 := n1_; have GW251 := n2_; have GE251 := n3_; clear n0_ n1_ n2_ n3_; clear hb hbox hg) | ((with_reducible refine gate_dst (N := 4) rfl ?_); refine box_event ?hg (N := 4) ?hd (cs := #[.slice none 0 0, .slice none 0 0, .slice none 0 0]) (t := 25) ?hr ?_; (case hd => rfl); (case hg => rfl); (case hr => first | (go_simp; done) | (go_simp; rfl)); intro gb252 hg w6 hbox hb; have n0_ := Aside0.mk (blkB BK251 hb); have n1_ := Aside0.mk (below_step (upH HB) hb); have n2_ := Aside0.mk (hbox); have n3_ := Aside0.mk ((by rw [hg]; exact (below_size (upH HB)) : w.heap.size ≤ gb252)); have n4_ := Aside0.mk ((by rw [hg]; exact (below_size (upH HB)) : w.heap.size ≤ gb252)); have n5_ := Aside0.mk ((by rw [hg]; exact Nat.ne_of_lt (blk_lt (g := gb251) (o := .cells #[.slice A0_0 l0_0.length c0_0, .slice A0_1 l0_1.length c0_1, .slice A0_2 l0_2.length c0_2] 25 (0, 0)) (upB BK251)) : gb251 ≠ gb252)); have n6_ := Aside0.mk ((by rw [hg]; exact Nat.ne_of_gt (blk_lt (g := gb251) (o := .cells #[.slice A0_0 l0_0.length c0_0, .slice A0_1 l0_1.length c0_1, .slice A0_2 l0_2.length c0_2] 25 (0, 0)) (upB BK251)) : gb252 ≠ gb251)); clear BK251; clear HB; have BK251 := n0_; have HB := n1_; have BK252 := n2_; have GW252 := n3_; have GE252 := n4_; have NB251_252 := n5_; have NB252_251 := n6_; clear n0_ n1_ n2_ n3_ n4_ n5_ n6_; clear hb hbox hg; have hnb7 := NB251_252.out; have hnc7 := NB252_251.out; have hcz8_0 := cell0 BK251; have hcz8_1 := cell1 BK251; have hcz8_2 := cell2 BK251; have hfz8_0 := blk_frozen BK251.out 0; have hfz8_1 := blk_frozen BK251.out 1; have hfz8_2 := blk_frozen BK251.out 2) | ((with_reducible refine gate_callee (f := 25) rfl ?_); refine goesL_ (some 12) rfl rfl Try.func25 (by kernel_rfl) rfl #[.agg #[.slice A0_0 l0_0.length c0_0, .slice A0_1 l0_1.length c0_1, .slice A0_2 l0_2.length c0_2], .int .i64 a1] rfl (args_ (p := _)) ?_; (with_reducible refine (headgateref07_Where.calls k _ _ l0_0 _ _ l0_1 _ _ l0_2 a1 t253 t254 _ ?side1 ?side2 ?side3 ?side4 ?side5 ?side6 A3.out).mono ?_); (case side1 => exact upc (Kd.C_below HR0_0.out HB.out)); (case side2 => exact HC0_0.out); (case side3 => exact upc (Kd.C_below HR0_1.out HB.out)); (case side4 => exact HC0_1.out); (case side5 => exact upc (Kd.C_below HR0_2.out HB.out)); (case side6 => exact HC0_2.out); rintro e w9 ⟨rfl, hb⟩; refine ⟨_, rfl, ?_⟩; have n0_ := Aside0.mk (blkB BK251 hb); have n1_ := Aside0.mk (blkB BK252 hb); have n2_ := Aside0.mk (below_step (upH HB) hb); clear BK251; clear BK252; clear HB; have BK251 := n0_; have BK252 := n1_; have HB := n2_; clear n0_ n1_ n2_; (try clear hb); (try clear hb2); (try clear hk); (try clear hi)))
 (try simp only [Act.put, List.setIfInBounds_toArray, List.set_cons_zero, List.set_cons_succ])
 go_cut [20] (fun v20 wc => ∃ (kq : Nat) (x20_3 : Bool), v20 = .bool x20_3 ∧ Aside0 (headgateref07_Touch.j0 kq a1 t254 x20_3 l0_0 l0_1 l0_2 = some (r1, r2, r3, r4)) ∧ Aside0 (kq ≤ k) ∧ Aside0 (wc.heap[gb251]? = some (.cells #[(.slice A0_0 l0_0.length c0_0), (.slice A0_1 l0_1.length c0_1), (.slice A0_2 l0_2.length c0_2)] 25 (0, 0))) ∧ Aside0 (wc.heap[gb252]? = some (.cells #[(.slice none 0 0), (.slice none 0 0), (.slice none 0 0)] 25 (0, 0))) ∧ Aside0 (Below w.heap.size w wc))
 case first =>
  have H := HC4.out
  clear HC4
  by_cases c10 : t254 = 0
  ·
   rw [if_pos c10] at H
   have c10b0 : (t254 == 0) = true := beq_iff_eq.mpr c10
   have c10b1 : (t254 != 0) = false := bne_eq_false_iff_eq.mpr c10
   clear c10
   (first | rw [c10b0] | (simp only [i64_w, i32_w]; rw [c10b0]) | skip)
   have H' := Aside0.mk H
   clear H
   go_wp2
   go_meet
   case rel => exact ⟨_, ((t253 == 0)), (by first | rfl | (simp; done) | (simp [*]; done)), H', ⟨by first | omega | exact Nat.le_refl _⟩, ⟨upB BK251⟩, ⟨upB BK252⟩, ⟨upH HB⟩⟩
  ·
   rw [if_neg c10] at H
   have c10b0 : (t254 == 0) = false := beq_eq_false_iff_ne.mpr c10
   have c10b1 : (t254 != 0) = true := bne_iff_ne.mpr c10
   (first | rw [c10b0] | (simp only [i64_w, i32_w]; rw [c10b0]) | skip)
   have H' := Aside0.mk H
   clear H
   go_wp2
   go_meet
   case rel => exact ⟨_, (false), (by first | rfl | (simp; done) | (simp [*]; done)), H', ⟨by first | omega | exact Nat.le_refl _⟩, ⟨upB BK251⟩, ⟨upB BK252⟩, ⟨upH HB⟩⟩
 case rest =>
  clear HC4
  try clear c1
  try clear c2
  try clear p2
  try clear c7
  try clear c10
  try clear c10b0
  try clear c10b1
  try clear hcz8_0
  try clear hcz8_1
  try clear hcz8_2
  try clear hfz8_0
  try clear hfz8_1
  try clear hfz8_2
  obtain ⟨kq, x20_3, rfl, HA, HJ3, BK251, BK252, HB⟩ := hcut
  cases kq with
  | zero => exact absurd HA.out (by simp [headgateref07_Touch.j0])
  | succ kj3 =>
   have H := HA.out
   clear HA
   simp only [headgateref07_Touch.j0] at H
   by_cases c11 : x20_3 = true
   ·
    subst c11
    have H1 : (if 6 = 0 then ((headgateref07_own.f l0_0 l0_1 l0_2).bind fun bt255 => (if 0 ≤ a1 then (if a1 < (bt255.2.2.length : Int) then (some (bt255.1, bt255.2.1, (bt255.2.2.set (a1 : Int).toNat true), 0)) else (none)) else (none))) else (some (([] : List Int), ([] : List Int), ([] : List Bool), 6))) = some (r1, r2, r3, r4) := by rw [if_pos rfl] at H; exact H
    clear H
    have H := H1
    clear H1
    by_cases c12 : 6 = 0
    ·
     exact absurd c12 (by decide)
    ·
     rw [if_neg c12] at H
     have c12b0 : (6 == 0) = false := beq_eq_false_iff_ne.mpr c12
     have c12b1 : (6 != 0) = true := bne_iff_ne.mpr c12
     simp only [Option.some.injEq, Prod.mk.injEq] at H
     obtain ⟨rfl, rfl, rfl, rfl⟩ := H
     have hnb33 := NB252_251.out
     have hnc33 := NB251_252.out
     have hcz34_0 := cell0 BK252
     have hcz34_1 := cell1 BK252
     have hcz34_2 := cell2 BK252
     have hfz34_0 := blk_frozen BK252.out 0
     have hfz34_1 := blk_frozen BK252.out 1
     have hfz34_2 := blk_frozen BK252.out 2
     go_wp2
     refine bodyPost_ret (results_ct rfl _ _ gb252 25 #[.slice none 0 0, .slice none 0 0, .slice none 0 0] (0, 0) _ rfl (by (with_reducible repeat (first | refine blk_drewN ?_ _ | refine blk_drew ?_ | refine blk_alloc ?_ _)); refine blk_put (cs := #[.slice none 0 0, .slice none 0 0, .slice none 0 0]) ?_ 2 _ rfl; (with_reducible repeat (first | refine blk_drewN ?_ _ | refine blk_drew ?_ | refine blk_alloc ?_ _)); refine blk_put (cs := #[.slice none 0 0, .slice none 0 0, .slice none 0 0]) ?_ 1 _ rfl; (with_reducible repeat (first | refine blk_drewN ?_ _ | refine blk_drew ?_ | refine blk_alloc ?_ _)); refine blk_put (cs := #[.slice none 0 0, .slice none 0 0, .slice none 0 0]) ?_ 0 _ rfl; (with_reducible repeat (first | refine blk_drewN ?_ _ | refine blk_drew ?_ | refine blk_alloc ?_ _)); exact BK252.out) Try.underlying25 rfl (by kernel_rfl)) rfl ?_
     exact ⟨_, _, _, by first | rfl | (simp [errW_none, errW_some] <;> rfl) | (simp [*, errW_none, errW_some] <;> rfl), by first | exact Kd.R_nil _ _ _ _ _ | exact Kd.N_nil _ _ _ _ _ | exact Kd.V_nil _ _ _ _ _ | exact Kd.Q_nil _ _ _ _ _ | exact Kd.S_nil _ _ _ _ _, by first | exact Kd.R_nil _ _ _ _ _ | exact Kd.N_nil _ _ _ _ _ | exact Kd.V_nil _ _ _ _ _ | exact Kd.Q_nil _ _ _ _ _ | exact Kd.S_nil _ _ _ _ _, by first | exact Kd.R_nil _ _ _ _ _ | exact Kd.N_nil _ _ _ _ _ | exact Kd.V_nil _ _ _ _ _ | exact Kd.Q_nil _ _ _ _ _ | exact Kd.S_nil _ _ _ _ _, by repeat (first | (with_reducible first | exact HB.out | apply below_alloc | apply pw_below_drewN | apply below_drew1 | refine below_set ?_ GE251.out | refine below_set ?_ GE252.out) | exact HB.out)⟩
   ·
    replace c11 := Bool.eq_false_iff.mpr c11
    subst c11
    have H1 : (if t254 = 0 then ((headgateref07_own.f l0_0 l0_1 l0_2).bind fun bt266 => (if 0 ≤ a1 then (if a1 < (bt266.2.2.length : Int) then (some (bt266.1, bt266.2.1, (bt266.2.2.set (a1 : Int).toNat true), 0)) else (none)) else (none))) else (some (([] : List Int), ([] : List Int), ([] : List Bool), t254))) = some (r1, r2, r3, r4) := by rw [if_neg (show ¬ (false = true) by decide)] at H; exact H
    clear H
    have H := H1
    clear H1
    by_cases c35 : t254 = 0
    ·
     rw [if_pos c35] at H
     have c35b0 : (t254 == 0) = true := beq_iff_eq.mpr c35
     have c35b1 : (t254 != 0) = false := bne_eq_false_iff_eq.mpr c35
     clear c35
     replace H := Option.bind_eq_some_iff.mp H
     obtain ⟨⟨t266, t269, t272⟩, A360, H⟩ := H
     replace H : (if 0 ≤ a1 then (if a1 < (t272.length : Int) then (some (t266, t269, (t272.set (a1 : Int).toNat true), 0)) else (none)) else (none)) = some (r1, r2, r3, r4) := H
     have A36 := Aside0.mk A360
     clear A360
     by_cases c37 : 0 ≤ a1
     ·
      rw [if_pos c37] at H
      have c37b0 : decide (0 ≤ a1) = true := decide_eq_true c37
      clear c37
      by_cases c38 : a1 < (t272.length : Int)
      ·
       rw [if_pos c38] at H
       have c38b0 : decide (a1 < (t272.length : Int)) = true := decide_eq_true c38
       clear c38
       obtain ⟨y276, hy276⟩ : ∃ y_ : List Bool, y_ = (t272.set (a1 : Int).toNat true) := ⟨_, rfl⟩
       replace H : (some (t266, t269, y276, 0)) = some (r1, r2, r3, r4) := by first | (rw [hy276]; with_reducible exact H) | (have H2_ := (Option.bind_some _ _).symm.trans H; rw [hy276]; with_reducible exact H2_) | (have H2_ := (Option.bind_some _ _).symm.trans H; with_reducible exact H2_) | with_reducible exact H | (rw [hy276]; exact H) | exact H
       have Ny276 := Aside0.mk hy276
       clear hy276
       simp only [Option.some.injEq, Prod.mk.injEq] at H
       obtain ⟨rfl, rfl, rfl, rfl⟩ := H
       have hnb40 := NB251_252.out
       have hnc40 := NB252_251.out
       have hcz41_0 := cell0 BK251
       have hcz41_1 := cell1 BK251
       have hcz41_2 := cell2 BK251
       have hfz41_0 := blk_frozen BK251.out 0
       have hfz41_1 := blk_frozen BK251.out 1
       have hfz41_2 := blk_frozen BK251.out 2
       go_wp2_with (first | ((with_reducible refine gate_callee (f := 46) rfl ?_); refine goesL_ (some 26) rfl rfl Try.func46 (by kernel_rfl) rfl #[.agg #[.slice A0_0 l0_0.length c0_0, .slice A0_1 l0_1.length c0_1, .slice A0_2 l0_2.length c0_2]] rfl (args_ (p := _)) ?_; (with_reducible refine (headgateref07_own.calls _ _ l0_0 _ _ l0_1 _ _ l0_2 t266 t269 t272 _ ?side1 ?side2 ?side3 ?side4 ?side5 ?side6 A36.out).mono ?_); (case side1 => exact upc (Kd.C_below HR0_0.out HB.out)); (case side2 => exact HC0_0.out); (case side3 => exact upc (Kd.C_below HR0_1.out HB.out)); (case side4 => exact HC0_1.out); (case side5 => exact upc (Kd.C_below HR0_2.out HB.out)); (case side6 => exact HC0_2.out); rintro e w42 ⟨v267, v270, v273, rfl, ho0, ho1, ho2, hb⟩; refine ⟨_, rfl, ?_⟩; have n0_ := Aside0.mk (Kd.R_lower ho0 (below_size (upH HB))); have n1_ := Aside0.mk (Kd.R_lower ho1 (below_size (upH HB))); have n2_ := Aside0.mk (Kd.R_lower ho2 (below_size (upH HB))); have n3_ := Aside0.mk (blkB BK251 hb); have n4_ := Aside0.mk (blkB BK252 hb); have n5_ := Aside0.mk (below_step (upH HB) hb); clear BK251; clear BK252; clear HB; have HO268 := n0_; have HO271 := n1_; have HO274 := n2_; have BK251 := n3_; have BK252 := n4_; have HB := n5_; clear n0_ n1_ n2_ n3_ n4_ n5_; (try clear hb); (try clear hb2); (try clear hk); (try clear hi); (try clear ho0); (try clear ho1); (try clear ho2)) | ((with_reducible refine gate_dst (N := 8) rfl ?_); refine box_event ?hg (N := 8) ?hd (cs := #[.slice none 0 0, .slice none 0 0, .slice none 0 0]) (t := 25) ?hr ?_; (case hd => rfl); (case hg => rfl); (case hr => first | (go_simp; done) | (go_simp; rfl)); intro gb275 hg w43 hbox hb; have n0_ := Aside0.mk (Kd.R_below (upR HO268.out) hb); have n1_ := Aside0.mk (Kd.R_below (upR HO271.out) hb); have n2_ := Aside0.mk (Kd.R_below (upR HO274.out) hb); have n3_ := Aside0.mk (blkB BK251 hb); have n4_ := Aside0.mk (blkB BK252 hb); have n5_ := Aside0.mk (below_step (upH HB) hb); have n6_ := Aside0.mk (hbox); have n7_ := Aside0.mk ((by rw [hg]; exact (below_size (upH HB)) : w.heap.size ≤ gb275)); have n8_ := Aside0.mk ((by rw [hg]; exact (below_size (upH HB)) : w.heap.size ≤ gb275)); have n9_ := Aside0.mk ((by rw [hg]; exact Nat.ne_of_lt (blk_lt (g := gb251) (o := .cells #[.slice A0_0 l0_0.length c0_0, .slice A0_1 l0_1.length c0_1, .slice A0_2 l0_2.length c0_2] 25 (0, 0)) (upB BK251)) : gb251 ≠ gb275)); have n10_ := Aside0.mk ((by rw [hg]; exact Nat.ne_of_gt (blk_lt (g := gb251) (o := .cells #[.slice A0_0 l0_0.length c0_0, .slice A0_1 l0_1.length c0_1, .slice A0_2 l0_2.length c0_2] 25 (0, 0)) (upB BK251)) : gb275 ≠ gb251)); have n11_ := Aside0.mk ((by rw [hg]; exact Nat.ne_of_lt (blk_lt (g := gb252) (o := .cells #[.slice none 0 0, .slice none 0 0, .slice none 0 0] 25 (0, 0)) (upB BK252)) : gb252 ≠ gb275)); have n12_ := Aside0.mk ((by rw [hg]; exact Nat.ne_of_gt (blk_lt (g := gb252) (o := .cells #[.slice none 0 0, .slice none 0 0, .slice none 0 0] 25 (0, 0)) (upB BK252)) : gb275 ≠ gb252)); clear HO268; clear HO271; clear HO274; clear BK251; clear BK252; clear HB; have HO268 := n0_; have HO271 := n1_; have HO274 := n2_; have BK251 := n3_; have BK252 := n4_; have HB := n5_; have BK275 := n6_; have GW275 := n7_; have GE275 := n8_; have NB251_275 := n9_; have NB275_251 := n10_; have NB252_275 := n11_; have NB275_252 := n12_; clear n0_ n1_ n2_ n3_ n4_ n5_ n6_ n7_ n8_ n9_ n10_ n11_ n12_; clear hb hbox hg; obtain ⟨Ao44, co44, eo44⟩ := Kd.R_slice HO268.out; subst eo44; have hnb45 := NB275_251.out; have hnc45 := NB251_275.out; have hnb46 := NB275_252.out; have hnc46 := NB252_275.out; have hcz47_0 := cell0 BK275; have hcz47_1 := cell1 BK275; have hcz47_2 := cell2 BK275; have hfz47_0 := blk_frozen BK275.out 0; have hfz47_1 := blk_frozen BK275.out 1; have hfz47_2 := blk_frozen BK275.out 2; obtain ⟨Ao48, co48, eo48⟩ := Kd.R_slice HO271.out; subst eo48; obtain ⟨Ao49, co49, eo49⟩ := Kd.R_slice HO274.out; subst eo49) | ((with_reducible refine gate_store (t := 25) (p := 8) rfl ?_); refine store_event (t := 25) (p := 8) (v := ?vo_w50) (w1 := (((w43.setCell ⟨gb275, 0, none⟩ (.slice Ao44 t266.length co44)).setCell ⟨gb275, 1, none⟩ (.slice Ao48 t269.length co48)).setCell ⟨gb275, 2, none⟩ (.slice Ao49 t272.length co49))) ?hg ?ho ?hn ?hr ?_; (case ho => rfl); (case hg => rfl); (case hn => rfl); (case hr => first | (go_simp; done) | (go_simp; rfl)); intro w50 hw; have n0_ : Aside0 (Kd.R (Kd.int .i64) 3 w50 w.heap.size (fun k_ => some k_ ≠ (.slice Ao48 t269.length co48 : Value).ownBlock) (.slice Ao44 t266.length co44) t266) := ⟨(by rw [hw]; exact (by (with_reducible repeat (first | apply Kd.R_alloc | apply Kd.R_drewN | apply Kd.R_drew)); exact Kd.R_mono (far3 HO268.out BK275) (fun _ hk => hk.1)))⟩; have n1_ : Aside0 (Kd.R (Kd.int .i64) 3 w50 w.heap.size (fun k_ => some k_ ≠ (.slice Ao44 t266.length co44 : Value).ownBlock) (.slice Ao48 t269.length co48) t269) := ⟨(by rw [hw]; exact (by (with_reducible repeat (first | apply Kd.R_alloc | apply Kd.R_drewN | apply Kd.R_drew)); exact Kd.R_mono (far3 HO271.out BK275) (fun _ hk => hk.1)))⟩; have n2_ : Aside0 (Kd.R Kd.bool 4 w50 w.heap.size (fun _ => True) (.slice Ao49 t272.length co49) t272) := ⟨(by rw [hw]; exact (by (with_reducible repeat (first | apply Kd.R_alloc | apply Kd.R_drewN | apply Kd.R_drew)); exact Kd.R_mono (far3 HO274.out BK275) (fun _ hk => trivial)))⟩; have n3_ : Aside0 (w50.heap[gb251]? = some (.cells #[.slice A0_0 l0_0.length c0_0, .slice A0_1 l0_1.length c0_1, .slice A0_2 l0_2.length c0_2] 25 (0, 0))) := ⟨(by rw [hw]; exact (by (with_reducible repeat (first | refine blk_drewN ?_ _ | refine blk_drew ?_ | refine blk_alloc ?_ _)); refine blk_far ?_ NB251_275.out _; (with_reducible repeat (first | refine blk_drewN ?_ _ | refine blk_drew ?_ | refine blk_alloc ?_ _)); refine blk_far ?_ NB251_275.out _; (with_reducible repeat (first | refine blk_drewN ?_ _ | refine blk_drew ?_ | refine blk_alloc ?_ _)); refine blk_far ?_ NB251_275.out _; (with_reducible repeat (first | refine blk_drewN ?_ _ | refine blk_drew ?_ | refine blk_alloc ?_ _)); exact BK251.out))⟩; have n4_ : Aside0 (w50.heap[gb252]? = some (.cells #[.slice none 0 0, .slice none 0 0, .slice none 0 0] 25 (0, 0))) := ⟨(by rw [hw]; exact (by (with_reducible repeat (first | refine blk_drewN ?_ _ | refine blk_drew ?_ | refine blk_alloc ?_ _)); refine blk_far ?_ NB252_275.out _; (with_reducible repeat (first | refine blk_drewN ?_ _ | refine blk_drew ?_ | refine blk_alloc ?_ _)); refine blk_far ?_ NB252_275.out _; (with_reducible repeat (first | refine blk_drewN ?_ _ | refine blk_drew ?_ | refine blk_alloc ?_ _)); refine blk_far ?_ NB252_275.out _; (with_reducible repeat (first | refine blk_drewN ?_ _ | refine blk_drew ?_ | refine blk_alloc ?_ _)); exact BK252.out))⟩; have n5_ : Aside0 (w50.heap[gb275]? = some (.cells #[.slice Ao44 t266.length co44, .slice Ao48 t269.length co48, .slice Ao49 t272.length co49] 25 (0, 0))) := ⟨(by rw [hw]; exact (by (with_reducible repeat (first | refine blk_drewN ?_ _ | refine blk_drew ?_ | refine blk_alloc ?_ _)); refine blk_put (cs := #[.slice Ao44 t266.length co44, .slice Ao48 t269.length co48, .slice none 0 0]) ?_ 2 _ rfl; (with_reducible repeat (first | refine blk_drewN ?_ _ | refine blk_drew ?_ | refine blk_alloc ?_ _)); refine blk_put (cs := #[.slice Ao44 t266.length co44, .slice none 0 0, .slice none 0 0]) ?_ 1 _ rfl; (with_reducible repeat (first | refine blk_drewN ?_ _ | refine blk_drew ?_ | refine blk_alloc ?_ _)); refine blk_put (cs := #[.slice none 0 0, .slice none 0 0, .slice none 0 0]) ?_ 0 _ rfl; (with_reducible repeat (first | refine blk_drewN ?_ _ | refine blk_drew ?_ | refine blk_alloc ?_ _)); exact BK275.out))⟩; have n6_ : Aside0 (Below w.heap.size w w50) := ⟨(by rw [hw]; exact (upH HB))⟩; clear hw; clear HO268; clear HO271; clear HO274; clear BK251; clear BK252; clear BK275; clear HB; have HO268 := n0_; have HO271 := n1_; have HO274 := n2_; have BK251 := n3_; have BK252 := n4_; have BK275 := n5_; have HB := n6_; clear n0_ n1_ n2_ n3_ n4_ n5_ n6_; have hcz51_0 := cell0 BK275; have hcz51_1 := cell1 BK275; have hcz51_2 := cell2 BK275; have hfz51_0 := blk_frozen BK275.out 0; have hfz51_1 := blk_frozen BK275.out 1; have hfz51_2 := blk_frozen BK275.out 2; have p39 : 0 ≤ (a1 : Int) := of_decide_eq_true (asm_ (p := _)); have q39 : (a1 : Int) < ((t272.length : Int) : Int) := of_decide_eq_true (asm_ (p := _)); obtain ⟨go39, co39, eo39, gb39, gl39, cl39, HG39⟩ := Kd.R_form HO274.out (by omega); (first | cases eo39 | (injection eo39 with ea_ en_ ec_; (first | subst ea_ | (injection ea_ with ea_; subst ea_)); subst ec_; clear en_)); have GB39 := Aside0.mk gb39; have GG39 := Aside0.mk HG39; clear gb39 gl39 HG39; obtain ⟨hx39_0, hf39_0⟩ := Kd.R_celln false HO274.out (a1 : Int) p39 q39; replace p39 := eq_true p39; replace q39 := eq_true q39; obtain ⟨hy52_, hz52_⟩ := Kd.R_celln false HO274.out (a1 : Int) (of_decide_eq_true (asm_ (p := _))) (of_decide_eq_true (asm_ (p := _))); have HP52 := Kd.R_putg HO274.out (a1 : Int) true) | ((with_reducible refine gate_store (t := 4) (p := 30) rfl ?_); refine store_event (t := 4) (p := 30) (v := ?vo_w53) (w1 := (w50.setCell ⟨go39, (a1 : Int).toNat, none⟩ (.bool true))) ?hg ?ho ?hn ?hr ?_; (case ho => rfl); (case hg => rfl); (case hn => rfl); (case hr => first | (go_simp; done) | (go_simp; rfl)); intro w53 hw; have hg : w50.grownBy w53 (some go39) := (by rw [hw]; exact HP52.2); have hp_ : Kd.R Kd.bool 4 w53 w.heap.size (fun _ => True) (.slice (some ⟨go39, 0, none⟩) t272.length co49) y276 := (by rw [hw, Ny276.out]; exact HP52.1); clear HP52; have n0_ := Aside0.mk (blk_grown (g := gb251) (o := .cells #[.slice A0_0 l0_0.length c0_0, .slice A0_1 l0_1.length c0_1, .slice A0_2 l0_2.length c0_2] 25 (0, 0)) (upB BK251) hg (Kd.R_ne HO274.out BK251.out (by decide))); have n1_ := Aside0.mk (blk_grown (g := gb252) (o := .cells #[.slice none 0 0, .slice none 0 0, .slice none 0 0] 25 (0, 0)) (upB BK252) hg (Kd.R_ne HO274.out BK252.out (by decide))); have n2_ := Aside0.mk (Kd.R_over' (v := (.slice (some ⟨go39, 0, none⟩) t272.length co49)) (upR HO268.out) (Kd.R_typed HO274.out) (by decide) hg); have n3_ := Aside0.mk (Kd.R_over' (v := (.slice (some ⟨go39, 0, none⟩) t272.length co49)) (upR HO271.out) (Kd.R_typed HO274.out) (by decide) hg); have n4_ := Aside0.mk (hp_); have n5_ := Aside0.mk (blk_grown (g := gb275) (o := .cells #[.slice Ao44 t266.length co44, .slice Ao48 t269.length co48, .slice (some ⟨go39, 0, none⟩) t272.length co49] 25 (0, 0)) (upB BK275) hg (Kd.R_ne HO274.out BK275.out (by decide))); have n6_ := Aside0.mk ((by rw [hw]; exact below_set (HB.out) GB39.out : Below w.heap.size w w53)); clear BK251; clear BK252; clear HO268; clear HO271; clear HO274; clear BK275; clear HB; have BK251 := n0_; have BK252 := n1_; have HO268 := n2_; have HO271 := n3_; have HO274 := n4_; have BK275 := n5_; have HB := n6_; clear n0_ n1_ n2_ n3_ n4_ n5_ n6_; clear hg hw hp_; have hcz54_0 := cell0 BK275; have hcz54_1 := cell1 BK275; have hcz54_2 := cell2 BK275; have hfz54_0 := blk_frozen BK275.out 0; have hfz54_1 := blk_frozen BK275.out 1; have hfz54_2 := blk_frozen BK275.out 2; have hcz55_0 := cell0 BK252; have hcz55_1 := cell1 BK252; have hcz55_2 := cell2 BK252; have hfz55_0 := blk_frozen BK252.out 0; have hfz55_1 := blk_frozen BK252.out 1; have hfz55_2 := blk_frozen BK252.out 2))
       refine bodyPost_ret (results_ct rfl _ _ gb252 25 #[.slice Ao44 t266.length co44, .slice Ao48 t269.length co48, .slice (some ⟨go39, 0, none⟩) t272.length co49] (0, 0) _ rfl (by (with_reducible repeat (first | refine blk_drewN ?_ _ | refine blk_drew ?_ | refine blk_alloc ?_ _)); refine blk_put (cs := #[.slice Ao44 t266.length co44, .slice Ao48 t269.length co48, .slice none 0 0]) ?_ 2 _ rfl; (with_reducible repeat (first | refine blk_drewN ?_ _ | refine blk_drew ?_ | refine blk_alloc ?_ _)); refine blk_put (cs := #[.slice Ao44 t266.length co44, .slice none 0 0, .slice none 0 0]) ?_ 1 _ rfl; (with_reducible repeat (first | refine blk_drewN ?_ _ | refine blk_drew ?_ | refine blk_alloc ?_ _)); refine blk_put (cs := #[.slice none 0 0, .slice none 0 0, .slice none 0 0]) ?_ 0 _ rfl; (with_reducible repeat (first | refine blk_drewN ?_ _ | refine blk_drew ?_ | refine blk_alloc ?_ _)); exact BK252.out) Try.underlying25 rfl (by kernel_rfl)) rfl ?_
       exact ⟨_, _, _, by first | rfl | (simp [errW_none, errW_some] <;> rfl) | (simp [*, errW_none, errW_some] <;> rfl), by (with_reducible repeat (first | apply Kd.R_alloc | apply Kd.R_drewN | apply Kd.R_drew)); exact Kd.R_mono (Kd.R_far (p := ⟨gb252, 2, none⟩) (far2 HO268.out BK252) (fun _ hk => hk.2) (.slice (some ⟨go39, 0, none⟩) t272.length co49)) (fun _ hk => hk.1), by (with_reducible repeat (first | apply Kd.R_alloc | apply Kd.R_drewN | apply Kd.R_drew)); exact Kd.R_mono (Kd.R_far (p := ⟨gb252, 2, none⟩) (far2 HO271.out BK252) (fun _ hk => hk.2) (.slice (some ⟨go39, 0, none⟩) t272.length co49)) (fun _ hk => hk.1), by (with_reducible repeat (first | apply Kd.R_alloc | apply Kd.R_drewN | apply Kd.R_drew)); exact Kd.R_mono (Kd.R_far (p := ⟨gb252, 2, none⟩) (far2 HO274.out BK252) (fun _ hk => hk.2) (.slice (some ⟨go39, 0, none⟩) t272.length co49)) (fun _ hk => trivial), by repeat (first | (with_reducible first | exact HB.out | apply below_alloc | apply pw_below_drewN | apply below_drew1 | refine below_set ?_ GE251.out | refine below_set ?_ GE252.out | refine below_set ?_ GE275.out) | exact HB.out)⟩
      ·
       rw [if_neg c38] at H
       exact absurd H (by simp)
     ·
      rw [if_neg c37] at H
      exact absurd H (by simp)
    ·
     rw [if_neg c35] at H
     have c35b0 : (t254 == 0) = false := beq_eq_false_iff_ne.mpr c35
     have c35b1 : (t254 != 0) = true := bne_iff_ne.mpr c35
     simp only [Option.some.injEq, Prod.mk.injEq] at H
     obtain ⟨rfl, rfl, rfl, rfl⟩ := H
     have hnb56 := NB252_251.out
     have hnc56 := NB251_252.out
     have hcz57_0 := cell0 BK252
     have hcz57_1 := cell1 BK252
     have hcz57_2 := cell2 BK252
     have hfz57_0 := blk_frozen BK252.out 0
     have hfz57_1 := blk_frozen BK252.out 1
     have hfz57_2 := blk_frozen BK252.out 2
     go_wp2
     refine bodyPost_ret (results_ct rfl _ _ gb252 25 #[.slice none 0 0, .slice none 0 0, .slice none 0 0] (0, 0) _ rfl (by (with_reducible repeat (first | refine blk_drewN ?_ _ | refine blk_drew ?_ | refine blk_alloc ?_ _)); refine blk_put (cs := #[.slice none 0 0, .slice none 0 0, .slice none 0 0]) ?_ 2 _ rfl; (with_reducible repeat (first | refine blk_drewN ?_ _ | refine blk_drew ?_ | refine blk_alloc ?_ _)); refine blk_put (cs := #[.slice none 0 0, .slice none 0 0, .slice none 0 0]) ?_ 1 _ rfl; (with_reducible repeat (first | refine blk_drewN ?_ _ | refine blk_drew ?_ | refine blk_alloc ?_ _)); refine blk_put (cs := #[.slice none 0 0, .slice none 0 0, .slice none 0 0]) ?_ 0 _ rfl; (with_reducible repeat (first | refine blk_drewN ?_ _ | refine blk_drew ?_ | refine blk_alloc ?_ _)); exact BK252.out) Try.underlying25 rfl (by kernel_rfl)) rfl ?_
     exact ⟨_, _, _, by first | rfl | (simp [errW_none, errW_some] <;> rfl) | (simp [*, errW_none, errW_some] <;> rfl), by first | exact Kd.R_nil _ _ _ _ _ | exact Kd.N_nil _ _ _ _ _ | exact Kd.V_nil _ _ _ _ _ | exact Kd.Q_nil _ _ _ _ _ | exact Kd.S_nil _ _ _ _ _, by first | exact Kd.R_nil _ _ _ _ _ | exact Kd.N_nil _ _ _ _ _ | exact Kd.V_nil _ _ _ _ _ | exact Kd.Q_nil _ _ _ _ _ | exact Kd.S_nil _ _ _ _ _, by first | exact Kd.R_nil _ _ _ _ _ | exact Kd.N_nil _ _ _ _ _ | exact Kd.V_nil _ _ _ _ _ | exact Kd.Q_nil _ _ _ _ _ | exact Kd.S_nil _ _ _ _ _, by repeat (first | (with_reducible first | exact HB.out | apply below_alloc | apply pw_below_drewN | apply below_drew1 | refine below_set ?_ GE251.out | refine below_set ?_ GE252.out) | exact HB.out)⟩

end Go.Proofs.Ytaofihdmgdpenaa.X
