/- What Go functions of this seat compute, told as Lean functions, and that each call of the Go code comes to that answer; for a law: its row, for every input. Written by a program of the session. -/
import Derived.Test.YtaofihdmgdpenaaX0
import Derived.Test.YtaofihdmgdpenaaX1
import Derived.Test.YtaofihdmgdpenaaX38
namespace Go.Proofs.Ytaofihdmgdpenaa.X
open Go.RowKit Go.Proofs.YtaofihdmgdpenaaW.PrintWords Go.Proofs.YtaofihdmgdpenaaW.PrintLast Go.Proofs.YtaofihdmgdpenaaW.PrintMore
attribute [local go_sem] max2_int min2_int max_two min_two max_three min_three max_four min_four   -- for this text's walks alone
set_option linter.unusedVariables false
set_option linter.unusedSimpArgs false

/-! ### headgateref07_Last: function 38 -/
def headgateref07_Last.f (l0_0 : List Int) (l0_1 : List Int) (l0_2 : List Bool) : Option (Int × Int) := (headgateref07_Check.f l0_0 l0_1 l0_2).bind fun t642 => (if t642 = 0 then (if (l0_1.length : Int) > 0 then (if 0 ≤ (wrap64 ((l0_1.length : Int) - 1)) then (if (wrap64 ((l0_1.length : Int) - 1)) < (l0_1.length : Int) then (some (rd l0_1 (wrap64 ((l0_1.length : Int) - 1)), 0)) else (none)) else (none)) else (if (l0_0.length : Int) > 0 then (if 0 ≤ (wrap64 ((l0_0.length : Int) - 1)) then (if (wrap64 ((l0_0.length : Int) - 1)) < (l0_0.length : Int) then (some (rd l0_0 (wrap64 ((l0_0.length : Int) - 1)), 0)) else (none)) else (none)) else (some (0, 6)))) else (some (0, t642)))
set_option maxHeartbeats 2000000 in
set_option maxRecDepth 100000 in
theorem headgateref07_Last.calls (A0_0 : Option Addr) (c0_0 : Nat) (l0_0 : List Int) (A0_1 : Option Addr) (c0_1 : Nat) (l0_1 : List Int) (A0_2 : Option Addr) (c0_2 : Nat) (l0_2 : List Bool) (r1 : Int) (r2 : Int) (w : World) (hr0_0 : Kd.C (Kd.int .i64) w A0_0 l0_0.length l0_0) (hc0_0 : l0_0.length ≤ c0_0) (hr0_1 : Kd.C (Kd.int .i64) w A0_1 l0_1.length l0_1) (hc0_1 : l0_1.length ≤ c0_1) (hr0_2 : Kd.C Kd.bool w A0_2 l0_2.length l0_2) (hc0_2 : l0_2.length ≤ c0_2) (h : headgateref07_Last.f l0_0 l0_1 l0_2 = some (r1, r2)) :
  Calls Try.prog 38 #[.agg #[.slice A0_0 l0_0.length c0_0, .slice A0_1 l0_1.length c0_1, .slice A0_2 l0_2.length c0_2]] w fun e w' => e = .returned (.tuple #[.int .i64 r1, .int .i64 r2]) ∧ Below w.heap.size w w' := by
 have hu25 := Try.underlying25
 have HR0_0 := Aside0.mk hr0_0
 have HC0_0 := Aside0.mk hc0_0
 clear hr0_0 hc0_0
 have HR0_1 := Aside0.mk hr0_1
 have HC0_1 := Aside0.mk hc0_1
 clear hr0_1 hc0_1
 have HR0_2 := Aside0.mk hr0_2
 have HC0_2 := Aside0.mk hc0_2
 clear hr0_2 hc0_2
 have HB := Aside0.mk (Below.refl w.heap.size w)
 have H : ((headgateref07_Check.f l0_0 l0_1 l0_2).bind fun t642 => (if t642 = 0 then (if (l0_1.length : Int) > 0 then (if 0 ≤ (wrap64 ((l0_1.length : Int) - 1)) then (if (wrap64 ((l0_1.length : Int) - 1)) < (l0_1.length : Int) then (some (rd l0_1 (wrap64 ((l0_1.length : Int) - 1)), 0)) else (none)) else (none)) else (if (l0_0.length : Int) > 0 then (if 0 ≤ (wrap64 ((l0_0.length : Int) - 1)) then (if (wrap64 ((l0_0.length : Int) - 1)) < (l0_0.length : Int) then (some (rd l0_0 (wrap64 ((l0_0.length : Int) - 1)), 0)) else (none)) else (none)) else (some (0, 6)))) else (some (0, t642)))) = some (r1, r2) := h
 clear h
 replace H := Option.bind_eq_some_iff.mp H
 obtain ⟨t642, A20, H⟩ := H
 replace H : (if t642 = 0 then (if (l0_1.length : Int) > 0 then (if 0 ≤ (wrap64 ((l0_1.length : Int) - 1)) then (if (wrap64 ((l0_1.length : Int) - 1)) < (l0_1.length : Int) then (some (rd l0_1 (wrap64 ((l0_1.length : Int) - 1)), 0)) else (none)) else (none)) else (if (l0_0.length : Int) > 0 then (if 0 ≤ (wrap64 ((l0_0.length : Int) - 1)) then (if (wrap64 ((l0_0.length : Int) - 1)) < (l0_0.length : Int) then (some (rd l0_0 (wrap64 ((l0_0.length : Int) - 1)), 0)) else (none)) else (none)) else (some (0, 6)))) else (some (0, t642))) = some (r1, r2) := H
 have A2 := Aside0.mk A20
 clear A20
 by_cases c3 : t642 = 0
 ·
  rw [if_pos c3] at H
  have c3b0 : (t642 == 0) = true := beq_iff_eq.mpr c3
  have c3b1 : (t642 != 0) = false := bne_eq_false_iff_eq.mpr c3
  clear c3
  by_cases c4 : (l0_1.length : Int) > 0
  ·
   rw [if_pos c4] at H
   have c4b0 : decide (0 < (l0_1.length : Int)) = true := decide_eq_true c4
   have c4b1 : decide (0 < l0_1.length) = true := decide_eq_true (by omega)
   clear c4
   obtain ⟨ji5, hji5⟩ : ∃ j_ : Int, (wrap64 ((l0_1.length : Int) - 1)) = j_ := ⟨_, rfl⟩
   replace H : (if 0 ≤ (ji5) then (if (ji5) < (l0_1.length : Int) then (some (rd l0_1 (ji5), 0)) else (none)) else (none)) = some (r1, r2) := by first | (rw [hji5] at H; exact H) | (simp only [hji5] at H ⊢; exact H)
   (try rw [hji5] at A2)
   have hji5w : (IntKind.i64.wrap ((l0_1.length : Int) - 1)) = ji5 := (i64_w _).trans hji5
   by_cases c6 : 0 ≤ (ji5)
   ·
    rw [if_pos c6] at H
    have c6b0 : decide (0 ≤ (ji5)) = true := decide_eq_true c6
    clear c6
    by_cases c7 : (ji5) < (l0_1.length : Int)
    ·
     rw [if_pos c7] at H
     have c7b0 : decide ((ji5) < (l0_1.length : Int)) = true := decide_eq_true c7
     clear c7
     simp only [Option.some.injEq, Prod.mk.injEq] at H
     obtain ⟨rfl, rfl⟩ := H
     go_enter Try.func38, Try.ntmps38
     go_wp2_with (first | ((with_reducible refine gate_dst (N := 1) rfl ?_); refine box_event ?hg (N := 1) ?hd (cs := #[.slice A0_0 l0_0.length c0_0, .slice A0_1 l0_1.length c0_1, .slice A0_2 l0_2.length c0_2]) (t := 25) ?hr ?_; (case hd => rfl); (case hg => rfl); (case hr => first | (go_simp; done) | (go_simp; rfl)); intro gb641 hg w8 hbox hb; have n0_ := Aside0.mk (below_step (upH HB) hb); have n1_ := Aside0.mk (hbox); have n2_ := Aside0.mk ((by rw [hg]; exact (below_size (upH HB)) : w.heap.size ≤ gb641)); have n3_ := Aside0.mk ((by rw [hg]; exact (below_size (upH HB)) : w.heap.size ≤ gb641)); clear HB; have HB := n0_; have BK641 := n1_; have GW641 := n2_; have GE641 := n3_; clear n0_ n1_ n2_ n3_; clear hb hbox hg; have hcz9_0 := cell0 BK641; have hcz9_1 := cell1 BK641; have hcz9_2 := cell2 BK641; have hfz9_0 := blk_frozen BK641.out 0; have hfz9_1 := blk_frozen BK641.out 1; have hfz9_2 := blk_frozen BK641.out 2) | ((with_reducible refine gate_callee (f := 17) rfl ?_); refine goesL_ (some 6) rfl rfl Try.func17 (by kernel_rfl) rfl #[.agg #[.slice A0_0 l0_0.length c0_0, .slice A0_1 l0_1.length c0_1, .slice A0_2 l0_2.length c0_2]] rfl (args_ (p := _)) ?_; (with_reducible refine (headgateref07_Check.calls _ _ l0_0 _ _ l0_1 _ _ l0_2 t642 _ ?side1 ?side2 ?side3 ?side4 ?side5 ?side6 A2.out).mono ?_); (case side1 => exact upc (Kd.C_below HR0_0.out HB.out)); (case side2 => exact HC0_0.out); (case side3 => exact upc (Kd.C_below HR0_1.out HB.out)); (case side4 => exact HC0_1.out); (case side5 => exact upc (Kd.C_below HR0_2.out HB.out)); (case side6 => exact HC0_2.out); rintro e w10 ⟨rfl, hb⟩; refine ⟨_, rfl, ?_⟩; have n0_ := Aside0.mk (blkB BK641 hb); have n1_ := Aside0.mk (below_step (upH HB) hb); clear BK641; clear HB; have BK641 := n0_; have HB := n1_; clear n0_ n1_; (try clear hb); (try clear hb2); (try clear hk); (try clear hi); have hcz11_0 := cell0 BK641; have hcz11_1 := cell1 BK641; have hcz11_2 := cell2 BK641; have hfz11_0 := blk_frozen BK641.out 0; have hfz11_1 := blk_frozen BK641.out 1; have hfz11_2 := blk_frozen BK641.out 2; have p643 : 0 ≤ ((ji5) : Int) := of_decide_eq_true (asm_ (p := _)); have q643 : (ji5) < (l0_1.length : Int) := of_decide_eq_true (asm_ (p := _)); obtain ⟨ad643, e643, hx643_0⟩ := Kd.at_int HR0_1.out (ji5) p643 q643; cases e643; replace hx643_0 := (HB.out.cell (World.block_lt_of_cell? w _ hx643_0)).trans hx643_0; replace p643 := eq_true p643; replace q643 := eq_true q643))
     go_ret2
     exact ⟨by first | rfl | (simp [errW_none, errW_some] <;> rfl) | (simp only [← hji5]; first | rfl | (simp [errW_none, errW_some] <;> rfl)) | (simp [*, errW_none, errW_some] <;> rfl), by repeat (first | (with_reducible first | exact HB.out | apply below_alloc | apply pw_below_drewN | apply below_drew1 | refine below_set ?_ GE641.out) | exact HB.out)⟩
    ·
     rw [if_neg c7] at H
     exact absurd H (by simp)
   ·
    rw [if_neg c6] at H
    exact absurd H (by simp)
  ·
   rw [if_neg c4] at H
   have c4b0 : decide (0 < (l0_1.length : Int)) = false := decide_eq_false c4
   have c4b1 : decide (0 < l0_1.length) = false := decide_eq_false (by omega)
   clear c4
   by_cases c12 : (l0_0.length : Int) > 0
   ·
    rw [if_pos c12] at H
    have c12b0 : decide (0 < (l0_0.length : Int)) = true := decide_eq_true c12
    have c12b1 : decide (0 < l0_0.length) = true := decide_eq_true (by omega)
    clear c12
    obtain ⟨ji13, hji13⟩ : ∃ j_ : Int, (wrap64 ((l0_0.length : Int) - 1)) = j_ := ⟨_, rfl⟩
    replace H : (if 0 ≤ (ji13) then (if (ji13) < (l0_0.length : Int) then (some (rd l0_0 (ji13), 0)) else (none)) else (none)) = some (r1, r2) := by first | (rw [hji13] at H; exact H) | (simp only [hji13] at H ⊢; exact H)
    (try rw [hji13] at A2)
    have hji13w : (IntKind.i64.wrap ((l0_0.length : Int) - 1)) = ji13 := (i64_w _).trans hji13
    by_cases c14 : 0 ≤ (ji13)
    ·
     rw [if_pos c14] at H
     have c14b0 : decide (0 ≤ (ji13)) = true := decide_eq_true c14
     clear c14
     by_cases c15 : (ji13) < (l0_0.length : Int)
     ·
      rw [if_pos c15] at H
      have c15b0 : decide ((ji13) < (l0_0.length : Int)) = true := decide_eq_true c15
      clear c15
      simp only [Option.some.injEq, Prod.mk.injEq] at H
      obtain ⟨rfl, rfl⟩ := H
      go_enter Try.func38, Try.ntmps38
      go_wp2_with (first | ((with_reducible refine gate_dst (N := 1) rfl ?_); refine box_event ?hg (N := 1) ?hd (cs := #[.slice A0_0 l0_0.length c0_0, .slice A0_1 l0_1.length c0_1, .slice A0_2 l0_2.length c0_2]) (t := 25) ?hr ?_; (case hd => rfl); (case hg => rfl); (case hr => first | (go_simp; done) | (go_simp; rfl)); intro gb641 hg w16 hbox hb; have n0_ := Aside0.mk (below_step (upH HB) hb); have n1_ := Aside0.mk (hbox); have n2_ := Aside0.mk ((by rw [hg]; exact (below_size (upH HB)) : w.heap.size ≤ gb641)); have n3_ := Aside0.mk ((by rw [hg]; exact (below_size (upH HB)) : w.heap.size ≤ gb641)); clear HB; have HB := n0_; have BK641 := n1_; have GW641 := n2_; have GE641 := n3_; clear n0_ n1_ n2_ n3_; clear hb hbox hg; have hcz17_0 := cell0 BK641; have hcz17_1 := cell1 BK641; have hcz17_2 := cell2 BK641; have hfz17_0 := blk_frozen BK641.out 0; have hfz17_1 := blk_frozen BK641.out 1; have hfz17_2 := blk_frozen BK641.out 2) | ((with_reducible refine gate_callee (f := 17) rfl ?_); refine goesL_ (some 6) rfl rfl Try.func17 (by kernel_rfl) rfl #[.agg #[.slice A0_0 l0_0.length c0_0, .slice A0_1 l0_1.length c0_1, .slice A0_2 l0_2.length c0_2]] rfl (args_ (p := _)) ?_; (with_reducible refine (headgateref07_Check.calls _ _ l0_0 _ _ l0_1 _ _ l0_2 t642 _ ?side1 ?side2 ?side3 ?side4 ?side5 ?side6 A2.out).mono ?_); (case side1 => exact upc (Kd.C_below HR0_0.out HB.out)); (case side2 => exact HC0_0.out); (case side3 => exact upc (Kd.C_below HR0_1.out HB.out)); (case side4 => exact HC0_1.out); (case side5 => exact upc (Kd.C_below HR0_2.out HB.out)); (case side6 => exact HC0_2.out); rintro e w18 ⟨rfl, hb⟩; refine ⟨_, rfl, ?_⟩; have n0_ := Aside0.mk (blkB BK641 hb); have n1_ := Aside0.mk (below_step (upH HB) hb); clear BK641; clear HB; have BK641 := n0_; have HB := n1_; clear n0_ n1_; (try clear hb); (try clear hb2); (try clear hk); (try clear hi); have hcz19_0 := cell0 BK641; have hcz19_1 := cell1 BK641; have hcz19_2 := cell2 BK641; have hfz19_0 := blk_frozen BK641.out 0; have hfz19_1 := blk_frozen BK641.out 1; have hfz19_2 := blk_frozen BK641.out 2; have p644 : 0 ≤ ((ji13) : Int) := of_decide_eq_true (asm_ (p := _)); have q644 : (ji13) < (l0_0.length : Int) := of_decide_eq_true (asm_ (p := _)); obtain ⟨ad644, e644, hx644_0⟩ := Kd.at_int HR0_0.out (ji13) p644 q644; cases e644; replace hx644_0 := (HB.out.cell (World.block_lt_of_cell? w _ hx644_0)).trans hx644_0; replace p644 := eq_true p644; replace q644 := eq_true q644))
      go_ret2
      exact ⟨by first | rfl | (simp [errW_none, errW_some] <;> rfl) | (simp only [← hji13]; first | rfl | (simp [errW_none, errW_some] <;> rfl)) | (simp [*, errW_none, errW_some] <;> rfl), by repeat (first | (with_reducible first | exact HB.out | apply below_alloc | apply pw_below_drewN | apply below_drew1 | refine below_set ?_ GE641.out) | exact HB.out)⟩
     ·
      rw [if_neg c15] at H
      exact absurd H (by simp)
    ·
     rw [if_neg c14] at H
     exact absurd H (by simp)
   ·
    rw [if_neg c12] at H
    have c12b0 : decide (0 < (l0_0.length : Int)) = false := decide_eq_false c12
    have c12b1 : decide (0 < l0_0.length) = false := decide_eq_false (by omega)
    clear c12
    simp only [Option.some.injEq, Prod.mk.injEq] at H
    obtain ⟨rfl, rfl⟩ := H
    go_enter Try.func38, Try.ntmps38
    go_wp2_with (first | ((with_reducible refine gate_dst (N := 1) rfl ?_); refine box_event ?hg (N := 1) ?hd (cs := #[.slice A0_0 l0_0.length c0_0, .slice A0_1 l0_1.length c0_1, .slice A0_2 l0_2.length c0_2]) (t := 25) ?hr ?_; (case hd => rfl); (case hg => rfl); (case hr => first | (go_simp; done) | (go_simp; rfl)); intro gb641 hg w20 hbox hb; have n0_ := Aside0.mk (below_step (upH HB) hb); have n1_ := Aside0.mk (hbox); have n2_ := Aside0.mk ((by rw [hg]; exact (below_size (upH HB)) : w.heap.size ≤ gb641)); have n3_ := Aside0.mk ((by rw [hg]; exact (below_size (upH HB)) : w.heap.size ≤ gb641)); clear HB; have HB := n0_; have BK641 := n1_; have GW641 := n2_; have GE641 := n3_; clear n0_ n1_ n2_ n3_; clear hb hbox hg; have hcz21_0 := cell0 BK641; have hcz21_1 := cell1 BK641; have hcz21_2 := cell2 BK641; have hfz21_0 := blk_frozen BK641.out 0; have hfz21_1 := blk_frozen BK641.out 1; have hfz21_2 := blk_frozen BK641.out 2) | ((with_reducible refine gate_callee (f := 17) rfl ?_); refine goesL_ (some 6) rfl rfl Try.func17 (by kernel_rfl) rfl #[.agg #[.slice A0_0 l0_0.length c0_0, .slice A0_1 l0_1.length c0_1, .slice A0_2 l0_2.length c0_2]] rfl (args_ (p := _)) ?_; (with_reducible refine (headgateref07_Check.calls _ _ l0_0 _ _ l0_1 _ _ l0_2 t642 _ ?side1 ?side2 ?side3 ?side4 ?side5 ?side6 A2.out).mono ?_); (case side1 => exact upc (Kd.C_below HR0_0.out HB.out)); (case side2 => exact HC0_0.out); (case side3 => exact upc (Kd.C_below HR0_1.out HB.out)); (case side4 => exact HC0_1.out); (case side5 => exact upc (Kd.C_below HR0_2.out HB.out)); (case side6 => exact HC0_2.out); rintro e w22 ⟨rfl, hb⟩; refine ⟨_, rfl, ?_⟩; have n0_ := Aside0.mk (blkB BK641 hb); have n1_ := Aside0.mk (below_step (upH HB) hb); clear BK641; clear HB; have BK641 := n0_; have HB := n1_; clear n0_ n1_; (try clear hb); (try clear hb2); (try clear hk); (try clear hi); have hcz23_0 := cell0 BK641; have hcz23_1 := cell1 BK641; have hcz23_2 := cell2 BK641; have hfz23_0 := blk_frozen BK641.out 0; have hfz23_1 := blk_frozen BK641.out 1; have hfz23_2 := blk_frozen BK641.out 2))
    go_ret2
    exact ⟨by first | rfl | (simp [errW_none, errW_some] <;> rfl) | (simp [*, errW_none, errW_some] <;> rfl), by repeat (first | (with_reducible first | exact HB.out | apply below_alloc | apply pw_below_drewN | apply below_drew1 | refine below_set ?_ GE641.out) | exact HB.out)⟩
 ·
  rw [if_neg c3] at H
  have c3b0 : (t642 == 0) = false := beq_eq_false_iff_ne.mpr c3
  have c3b1 : (t642 != 0) = true := bne_iff_ne.mpr c3
  simp only [Option.some.injEq, Prod.mk.injEq] at H
  obtain ⟨rfl, rfl⟩ := H
  go_enter Try.func38, Try.ntmps38
  go_wp2_with (first | ((with_reducible refine gate_dst (N := 1) rfl ?_); refine box_event ?hg (N := 1) ?hd (cs := #[.slice A0_0 l0_0.length c0_0, .slice A0_1 l0_1.length c0_1, .slice A0_2 l0_2.length c0_2]) (t := 25) ?hr ?_; (case hd => rfl); (case hg => rfl); (case hr => first | (go_simp; done) | (go_simp; rfl)); intro gb641 hg w24 hbox hb; have n0_ := Aside0.mk (below_step (upH HB) hb); have n1_ := Aside0.mk (hbox); have n2_ := Aside0.mk ((by rw [hg]; exact (below_size (upH HB)) : w.heap.size ≤ gb641)); have n3_ := Aside0.mk ((by rw [hg]; exact (below_size (upH HB)) : w.heap.size ≤ gb641)); clear HB; have HB := n0_; have BK641 := n1_; have GW641 := n2_; have GE641 := n3_; clear n0_ n1_ n2_ n3_; clear hb hbox hg; have hcz25_0 := cell0 BK641; have hcz25_1 := cell1 BK641; have hcz25_2 := cell2 BK641; have hfz25_0 := blk_frozen BK641.out 0; have hfz25_1 := blk_frozen BK641.out 1; have hfz25_2 := blk_frozen BK641.out 2) | ((with_reducible refine gate_callee (f := 17) rfl ?_); refine goesL_ (some 6) rfl rfl Try.func17 (by kernel_rfl) rfl #[.agg #[.slice A0_0 l0_0.length c0_0, .slice A0_1 l0_1.length c0_1, .slice A0_2 l0_2.length c0_2]] rfl (args_ (p := _)) ?_; (with_reducible refine (headgateref07_Check.calls _ _ l0_0 _ _ l0_1 _ _ l0_2 t642 _ ?side1 ?side2 ?side3 ?side4 ?side5 ?side6 A2.out).mono ?_); (case side1 => exact upc (Kd.C_below HR0_0.out HB.out)); (case side2 => exact HC0_0.out); (case side3 => exact upc (Kd.C_below HR0_1.out HB.out)); (case side4 => exact HC0_1.out); (case side5 => exact upc (Kd.C_below HR0_2.out HB.out)); (case side6 => exact HC0_2.out); rintro e w26 ⟨rfl, hb⟩; refine ⟨_, rfl, ?_⟩; have n0_ := Aside0.mk (blkB BK641 hb); have n1_ := Aside0.mk (below_step (upH HB) hb); clear BK641; clear HB; have BK641 := n0_; have HB := n1_; clear n0_ n1_; (try clear hb); (try clear hb2); (try clear hk); (try clear hi)))
  go_ret2
  exact ⟨by first | rfl | (simp [errW_none, errW_some] <;> rfl) | (simp [*, errW_none, errW_some] <;> rfl), by repeat (first | (with_reducible first | exact HB.out | apply below_alloc | apply pw_below_drewN | apply below_drew1 | refine below_set ?_ GE641.out) | exact HB.out)⟩

end Go.Proofs.Ytaofihdmgdpenaa.X

namespace Go.Proofs.Ytaofihdmgdpenaa.X
open Go.RowKit Go.Proofs.YtaofihdmgdpenaaW.PrintWords Go.Proofs.YtaofihdmgdpenaaW.PrintLast Go.Proofs.YtaofihdmgdpenaaW.PrintMore
attribute [local go_sem] max2_int min2_int max_two min_two max_three min_three max_four min_four   -- for this text's walks alone
set_option linter.unusedVariables false
set_option linter.unusedSimpArgs false

/-! ### headgateref07_Demote: function 39 -/
def headgateref07_Demote.j0 : Nat → Int → Bool → List Int → List Int → List Bool → Option (List Int × List Int × List Bool × Int × Int)
 | 0, _, _, _, _, _ => none
 | k + 1, x5, x18, x646000, x646001, x646002 => if x18 = true then (if 6 = 0 then (if 0 ≤ (wrap64 ((x646000.length : Int) - 1)) then (if (wrap64 ((x646000.length : Int) - 1)) < (x646000.length : Int) then ((headgateref07_Remove.f k x646000 x646001 x646002 (rd x646000 (wrap64 ((x646000.length : Int) - 1)))).bind fun bt649 => ((some (([rd x646000 (wrap64 ((x646000.length : Int) - 1))] : List Int) : List Int)).bind fun y660 => (if y660.length + bt649.2.1.length < 17592186044416 then (some (bt649.1, (y660 ++ bt649.2.1), bt649.2.2.1, rd x646000 (wrap64 ((x646000.length : Int) - 1)), 0)) else (none)))) else (none)) else (none)) else (some (([] : List Int), ([] : List Int), ([] : List Bool), 0, 6))) else (if x5 = 0 then (if 0 ≤ (wrap64 ((x646000.length : Int) - 1)) then (if (wrap64 ((x646000.length : Int) - 1)) < (x646000.length : Int) then ((headgateref07_Remove.f k x646000 x646001 x646002 (rd x646000 (wrap64 ((x646000.length : Int) - 1)))).bind fun bt667 => ((some (([rd x646000 (wrap64 ((x646000.length : Int) - 1))] : List Int) : List Int)).bind fun y678 => (if y678.length + bt667.2.1.length < 17592186044416 then (some (bt667.1, (y678 ++ bt667.2.1), bt667.2.2.1, rd x646000 (wrap64 ((x646000.length : Int) - 1)), 0)) else (none)))) else (none)) else (none)) else (some (([] : List Int), ([] : List Int), ([] : List Bool), 0, x5)))
def headgateref07_Demote.f (k : Nat) (l0_0 : List Int) (l0_1 : List Int) (l0_2 : List Bool) : Option (List Int × List Int × List Bool × Int × Int) := (headgateref07_Check.f l0_0 l0_1 l0_2).bind fun t647 => (if t647 = 0 then (headgateref07_Demote.j0 k t647 ((l0_0.length : Int) == 0) l0_0 l0_1 l0_2) else (headgateref07_Demote.j0 k t647 false l0_0 l0_1 l0_2))
theorem headgateref07_Demote.mono_l : ∀ k, (∀ y0 y1 y2 y3 y4, LeO (headgateref07_Demote.j0 k y0 y1 y2 y3 y4) (headgateref07_Demote.j0 (k + 1) y0 y1 y2 y3 y4))
 | 0 => fun _ _ _ _ _ r h => by simp [headgateref07_Demote.j0] at h
 | k + 1 => by
  have ih0 := headgateref07_Demote.mono_l k
  ·
   intro y0 y1 y2 y3 y4
   unfold headgateref07_Demote.j0
   repeat' first
   | (with_reducible exact ih0 _ _ _ _ _)
   | (with_reducible exact headgateref07_Remove.mono _ _ _ _ _)
   | (with_reducible exact LeO.refl _)
   | (with_reducible exact LeO.none _)
   | (with_reducible refine LeO.ite ?_ ?_)
   | (with_reducible refine LeO.bind ?_ (fun _ => ?_))
   | exact ih0 _ _ _ _ _
   | exact headgateref07_Remove.mono _ _ _ _ _
   | exact LeO.none _
   | refine LeO.ite ?_ ?_
   | refine LeO.bind ?_ (fun _ => ?_)
theorem headgateref07_Demote.mono : ∀ a0 a1 a2 k, LeO (headgateref07_Demote.f k a0 a1 a2) (headgateref07_Demote.f (k + 1) a0 a1 a2) := by
 intro a0 a1 a2 k
 have ih0 := headgateref07_Demote.mono_l k
 unfold headgateref07_Demote.f
 repeat' first
   | (with_reducible exact ih0 _ _ _ _ _)
   | (with_reducible exact headgateref07_Remove.mono _ _ _ _ _)
   | (with_reducible exact LeO.refl _)
   | (with_reducible exact LeO.none _)
   | (with_reducible refine LeO.ite ?_ ?_)
   | (with_reducible refine LeO.bind ?_ (fun _ => ?_))
   | exact ih0 _ _ _ _ _
   | exact headgateref07_Remove.mono _ _ _ _ _
   | exact LeO.none _
   | refine LeO.ite ?_ ?_
   | refine LeO.bind ?_ (fun _ => ?_)
set_option maxHeartbeats 2000000 in
set_option maxRecDepth 100000 in
theorem headgateref07_Demote.calls (k : Nat) (A0_0 : Option Addr) (c0_0 : Nat) (l0_0 : List Int) (A0_1 : Option Addr) (c0_1 : Nat) (l0_1 : List Int) (A0_2 : Option Addr) (c0_2 : Nat) (l0_2 : List Bool) (r1 : List Int) (r2 : List Int) (r3 : List Bool) (r4 : Int) (r5 : Int) (w : World) (hr0_0 : Kd.C (Kd.int .i64) w A0_0 l0_0.length l0_0) (hc0_0 : l0_0.length ≤ c0_0) (hr0_1 : Kd.C (Kd.int .i64) w A0_1 l0_1.length l0_1) (hc0_1 : l0_1.length ≤ c0_1) (hr0_2 : Kd.C Kd.bool w A0_2 l0_2.length l0_2) (hc0_2 : l0_2.length ≤ c0_2) (h : headgateref07_Demote.f k l0_0 l0_1 l0_2 = some (r1, r2, r3, r4, r5)) :
  Calls Try.prog 39 #[.agg #[.slice A0_0 l0_0.length c0_0, .slice A0_1 l0_1.length c0_1, .slice A0_2 l0_2.length c0_2]] w fun e w' => ∃ v0_ v1_ v2_ : Value, e = .returned (.tuple #[.agg #[v0_, v1_, v2_], .int .i64 r4, .int .i64 r5]) ∧ Kd.R (Kd.int .i64) 3 w' w.heap.size (fun k_ => some k_ ≠ (v1_ : Value).ownBlock) v0_ r1 ∧ Kd.R (Kd.int .i64) 3 w' w.heap.size (fun k_ => some k_ ≠ (v0_ : Value).ownBlock) v1_ r2 ∧ Kd.R Kd.bool 4 w' w.heap.size (fun _ => True) v2_ r3 ∧ Below w.heap.size w w' := by
 have hu25 := Try.underlying25
 have HR0_0 := Aside0.mk hr0_0
 have HC0_0 := Aside0.mk hc0_0
 clear hr0_0 hc0_0
 have HR0_1 := Aside0.mk hr0_1
 have HC0_1 := Aside0.mk hc0_1
 clear hr0_1 hc0_1
 have HR0_2 := Aside0.mk hr0_2
 have HC0_2 := Aside0.mk hc0_2
 clear hr0_2 hc0_2
 have HB := Aside0.mk (Below.refl w.heap.size w)
 have H : ((headgateref07_Check.f l0_0 l0_1 l0_2).bind fun t647 => (if t647 = 0 then (headgateref07_Demote.j0 k t647 ((l0_0.length : Int) == 0) l0_0 l0_1 l0_2) else (headgateref07_Demote.j0 k t647 false l0_0 l0_1 l0_2))) = some (r1, r2, r3, r4, r5) := h
 clear h
 replace H := Option.bind_eq_some_iff.mp H
 obtain ⟨t647, A20, H⟩ := H
 replace H : (if t647 = 0 then (headgateref07_Demote.j0 k t647 ((l0_0.length : Int) == 0) l0_0 l0_1 l0_2) else (headgateref07_Demote.j0 k t647 false l0_0 l0_1 l0_2)) = some (r1, r2, r3, r4, r5) := H
 have A2 := Aside0.mk A20
 clear A20
 have HC3 := Aside0.mk H
 clear H
 go_enter Try.func39, Try.ntmps39
 go_upto_region 2 with (first | ((with_reducible refine gate_dst (N := 1) rfl ?_); (try (refine gate_guard (by rfl) ?_; dsimp only)); refine box_event ?hg (N := 1) ?hd (cs := #[.slice A0_0 l0_0.length c0_0, .slice A0_1 l0_1.length c0_1, .slice A0_2 l0_2.length c0_2]) (t := 25) ?hr ?_; (case hd => rfl); (case hg => rfl); (case hr => first | (go_simp; done) | (go_simp; rfl)); intro gb645 hg w4 hbox hb; have n0_ := Aside0.mk (below_step (upH HB) hb); have n1_ := Aside0.mk (hbox); have n2_ := Aside0.mk ((by rw [hg]; exact (below_size (upH HB)) : w.heap.size ≤ gb645)); have n3_ := Aside0.mk ((by rw [hg]; exact (below_size (upH HB)) : w.heap.size ≤ gb645)); clear HB; have HB := n0_; have BK645 := n1_; have GW645 := n2_; have GE645 := n3_; clear n0_ n1_ n2_ n3_; clear hb hbox hg) | ((with_reducible refine gate_dst (N := 2) rfl ?_); (try (refine gate_guard (by rfl) ?_; dsimp only)); refine box_event ?hg (N := 2) ?hd (cs := #[.slice none 0 0, .slice none 0 0, .slice none 0 0]) (t := 25) ?hr ?_; (case hd => rfl); (case hg => rfl); (case hr => first | (go_simp; done) | (go_simp; rfl)); intro gb646 hg w5 hbox hb; have n0_ := Aside0.mk (blkB BK645 hb); have n1_ := Aside0.mk (below_step (upH HB) hb); have n2_ := Aside0.mk (hbox); have n3_ := Aside0.mk ((by rw [hg]; exact (below_size (upH HB)) : w.heap.size ≤ gb646)); have n4_ := Aside0.mk ((by rw [hg]; exact (below_size (upH HB)) : w.heap.size ≤ gb646)); have n5_ := Aside0.mk ((by rw [hg]; exact Nat.ne_of_lt (blk_lt (g := gb645) (o := .cells #[.slice A0_0 l0_0.length c0_0, .slice A0_1 l0_1.length c0_1, .slice A0_2 l0_2.length c0_2] 25 (0, 0)) (upB BK645)) : gb645 ≠ gb646)); have n6_ := Aside0.mk ((by rw [hg]; exact Nat.ne_of_gt (blk_lt (g := gb645) (o := .cells #[.slice A0_0 l0_0.length c0_0, .slice A0_1 l0_1.length c0_1, .slice A0_2 l0_2.length c0_2] 25 (0, 0)) (upB BK645)) : gb646 ≠ gb645)); clear BK645; clear HB; have BK645 := n0_; have HB := n1_; have BK646 := n2_; have GW646 := n3_; have GE646 := n4_; have NB645_646 := n5_; have NB646_645 := n6_; clear n0_ n1_ n2_ n3_ n4_ n5_ n6_; clear hb hbox hg; have hnb6 := NB645_646.out; have hnc6 := NB646_645.out; have hcz7_0 := cell0 BK645; have hcz7_1 := cell1 BK645; have hcz7_2 := cell2 BK645; have hfz7_0 := blk_frozen BK645.out 0; have hfz7_1 := blk_frozen BK645.out 1; have hfz7_2 := blk_frozen BK645.out 2) | ((with_reducible refine gate_callee (f := 17) rfl ?_); refine goesL_ (some 10) rfl rfl Try.func17 (by kernel_rfl) rfl #[.agg #[.slice A0_0 l0_0.length c0_0, .slice A0_1 l0_1.length c0_1, .slice A0_2 l0_2.length c0_2]] rfl (args_ (p := _)) ?_; (with_reducible refine (headgateref07_Check.calls _ _ l0_0 _ _ l0_1 _ _ l0_2 t647 _ ?side1 ?side2 ?side3 ?side4 ?side5 ?side6 A2.out).mono ?_); (case side1 => exact upc (Kd.C_below HR0_0.out HB.out)); (case side2 => exact HC0_0.out); (case side3 => exact upc (Kd.C_below HR0_1.out HB.out)); (case side4 => exact HC0_1.out); (case side5 => exact upc (Kd.C_below HR0_2.out HB.out)); (case side6 => exact HC0_2.out); rintro e w8 ⟨rfl, hb⟩; refine ⟨_, rfl, ?_⟩; have n0_ := Aside0.mk (blkB BK645 hb); have n1_ := Aside0.mk (blkB BK646 hb); have n2_ := Aside0.mk (below_step (upH HB) hb); clear BK645; clear BK646; clear HB; have BK645 := n0_; have BK646 := n1_; have HB := n2_; clear n0_ n1_ n2_; (try clear hb); (try clear hb2); (try clear hk); (try clear hi)))
 (try simp only [Act.put, List.setIfInBounds_toArray, List.set_cons_zero, List.set_cons_succ])
 go_cut [18] (fun v18 wc => ∃ (kq : Nat) (x18_2 : Bool), v18 = .bool x18_2 ∧ Aside0 (headgateref07_Demote.j0 kq t647 x18_2 l0_0 l0_1 l0_2 = some (r1, r2, r3, r4, r5)) ∧ Aside0 (kq ≤ k) ∧ Aside0 (wc.heap[gb645]? = some (.cells #[(.slice A0_0 l0_0.length c0_0), (.slice A0_1 l0_1.length c0_1), (.slice A0_2 l0_2.length c0_2)] 25 (0, 0))) ∧ Aside0 (wc.heap[gb646]? = some (.cells #[(.slice none 0 0), (.slice none 0 0), (.slice none 0 0)] 25 (0, 0))) ∧ Aside0 (Below w.heap.size w wc))
 case first =>
  have H := HC3.out
  clear HC3
  by_cases c9 : t647 = 0
  ·
   rw [if_pos c9] at H
   have c9b0 : (t647 == 0) = true := beq_iff_eq.mpr c9
   have c9b1 : (t647 != 0) = false := bne_eq_false_iff_eq.mpr c9
   clear c9
   (first | rw [c9b0] | (simp only [i64_w, i32_w]; rw [c9b0]) | skip)
   have H' := Aside0.mk H
   clear H
   have hnb10 := NB645_646.out
   have hnc10 := NB646_645.out
   have hcz11_0 := cell0 BK645
   have hcz11_1 := cell1 BK645
   have hcz11_2 := cell2 BK645
   have hfz11_0 := blk_frozen BK645.out 0
   have hfz11_1 := blk_frozen BK645.out 1
   have hfz11_2 := blk_frozen BK645.out 2
   go_wp2
   go_meet
   case rel => exact ⟨_, (((l0_0.length : Int) == 0)), (by first | rfl | (simp; done) | (simp [*]; done)), H', ⟨by first | omega | exact Nat.le_refl _⟩, ⟨upB BK645⟩, ⟨upB BK646⟩, ⟨upH HB⟩⟩
  ·
   rw [if_neg c9] at H
   have c9b0 : (t647 == 0) = false := beq_eq_false_iff_ne.mpr c9
   have c9b1 : (t647 != 0) = true := bne_iff_ne.mpr c9
   (first | rw [c9b0] | (simp only [i64_w, i32_w]; rw [c9b0]) | skip)
   have H' := Aside0.mk H
   clear H
   go_wp2
   go_meet
   case rel => exact ⟨_, (false), (by first | rfl | (simp; done) | (simp [*]; done)), H', ⟨by first | omega | exact Nat.le_refl _⟩, ⟨upB BK645⟩, ⟨upB BK646⟩, ⟨upH HB⟩⟩
 case rest =>
  clear HC3
  try clear c1
  try clear p2
  try clear c3
  try clear c6
  try clear c9
  try clear c9b0
  try clear c9b1
  try clear c10
  try clear hcz11_0
  try clear hcz11_1
  try clear hcz11_2
  try clear hcz7_0
  try clear hcz7_1
  try clear hcz7_2
  try clear hfz11_0
  try clear hfz11_1
  try clear hfz11_2
  try clear hfz7_0
  try clear hfz7_1
  try clear hfz7_2
  obtain ⟨kq, x18_2, rfl, HA, HJ2, BK645, BK646, HB⟩ := hcut
  cases kq with
  | zero => exact absurd HA.out (by simp [headgateref07_Demote.j0])
  | succ kj2 =>
   have H := HA.out
   clear HA
   simp only [headgateref07_Demote.j0] at H
   by_cases c12 : x18_2 = true
   ·
    subst c12
    have H1 : (if 6 = 0 then (if 0 ≤ (wrap64 ((l0_0.length : Int) - 1)) then (if (wrap64 ((l0_0.length : Int) - 1)) < (l0_0.length : Int) then ((headgateref07_Remove.f kj2 l0_0 l0_1 l0_2 (rd l0_0 (wrap64 ((l0_0.length : Int) - 1)))).bind fun bt649 => ((some (([rd l0_0 (wrap64 ((l0_0.length : Int) - 1))] : List Int) : List Int)).bind fun y660 => (if y660.length + bt649.2.1.length < 17592186044416 then (some (bt649.1, (y660 ++ bt649.2.1), bt649.2.2.1, rd l0_0 (wrap64 ((l0_0.length : Int) - 1)), 0)) else (none)))) else (none)) else (none)) else (some (([] : List Int), ([] : List Int), ([] : List Bool), 0, 6))) = some (r1, r2, r3, r4, r5) := by rw [if_pos rfl] at H; exact H
    clear H
    have H := H1
    clear H1
    by_cases c13 : 6 = 0
    ·
     exact absurd c13 (by decide)
    ·
     rw [if_neg c13] at H
     have c13b0 : (6 == 0) = false := beq_eq_false_iff_ne.mpr c13
     have c13b1 : (6 != 0) = true := bne_iff_ne.mpr c13
     simp only [Option.some.injEq, Prod.mk.injEq] at H
     obtain ⟨rfl, rfl, rfl, rfl, rfl⟩ := H
     have hnb36 := NB646_645.out
     have hnc36 := NB645_646.out
     have hcz37_0 := cell0 BK646
     have hcz37_1 := cell1 BK646
     have hcz37_2 := cell2 BK646
     have hfz37_0 := blk_frozen BK646.out 0
     have hfz37_1 := blk_frozen BK646.out 1
     have hfz37_2 := blk_frozen BK646.out 2
     go_wp2
     refine bodyPost_ret (results_ctt rfl _ _ gb646 25 #[.slice none 0 0, .slice none 0 0, .slice none 0 0] (0, 0) _ rfl (by (with_reducible repeat (first | refine blk_drewN ?_ _ | refine blk_drew ?_ | refine blk_alloc ?_ _)); refine blk_put (cs := #[.slice none 0 0, .slice none 0 0, .slice none 0 0]) ?_ 2 _ rfl; (with_reducible repeat (first | refine blk_drewN ?_ _ | refine blk_drew ?_ | refine blk_alloc ?_ _)); refine blk_put (cs := #[.slice none 0 0, .slice none 0 0, .slice none 0 0]) ?_ 1 _ rfl; (with_reducible repeat (first | refine blk_drewN ?_ _ | refine blk_drew ?_ | refine blk_alloc ?_ _)); refine blk_put (cs := #[.slice none 0 0, .slice none 0 0, .slice none 0 0]) ?_ 0 _ rfl; (with_reducible repeat (first | refine blk_drewN ?_ _ | refine blk_drew ?_ | refine blk_alloc ?_ _)); exact BK646.out) Try.underlying25 rfl (by kernel_rfl)) rfl ?_
     exact ⟨_, _, _, by first | rfl | (simp [errW_none, errW_some] <;> rfl) | (simp [*, errW_none, errW_some] <;> rfl), by first | exact Kd.R_nil _ _ _ _ _ | exact Kd.N_nil _ _ _ _ _ | exact Kd.V_nil _ _ _ _ _ | exact Kd.Q_nil _ _ _ _ _ | exact Kd.S_nil _ _ _ _ _, by first | exact Kd.R_nil _ _ _ _ _ | exact Kd.N_nil _ _ _ _ _ | exact Kd.V_nil _ _ _ _ _ | exact Kd.Q_nil _ _ _ _ _ | exact Kd.S_nil _ _ _ _ _, by first | exact Kd.R_nil _ _ _ _ _ | exact Kd.N_nil _ _ _ _ _ | exact Kd.V_nil _ _ _ _ _ | exact Kd.Q_nil _ _ _ _ _ | exact Kd.S_nil _ _ _ _ _, by repeat (first | (with_reducible first | exact HB.out | apply below_alloc | apply pw_below_drewN | apply below_drew1 | refine below_set ?_ GE645.out | refine below_set ?_ GE646.out) | exact HB.out)⟩
   ·
    replace c12 := Bool.eq_false_iff.mpr c12
    subst c12
    have H1 : (if t647 = 0 then (if 0 ≤ (wrap64 ((l0_0.length : Int) - 1)) then (if (wrap64 ((l0_0.length : Int) - 1)) < (l0_0.length : Int) then ((headgateref07_Remove.f kj2 l0_0 l0_1 l0_2 (rd l0_0 (wrap64 ((l0_0.length : Int) - 1)))).bind fun bt667 => ((some (([rd l0_0 (wrap64 ((l0_0.length : Int) - 1))] : List Int) : List Int)).bind fun y678 => (if y678.length + bt667.2.1.length < 17592186044416 then (some (bt667.1, (y678 ++ bt667.2.1), bt667.2.2.1, rd l0_0 (wrap64 ((l0_0.length : Int) - 1)), 0)) else (none)))) else (none)) else (none)) else (some (([] : List Int), ([] : List Int), ([] : List Bool), 0, t647))) = some (r1, r2, r3, r4, r5) := by rw [if_neg (show ¬ (false = true) by decide)] at H; exact H
    clear H
    have H := H1
    clear H1
    by_cases c38 : t647 = 0
    ·
     rw [if_pos c38] at H
     have c38b0 : (t647 == 0) = true := beq_iff_eq.mpr c38
     have c38b1 : (t647 != 0) = false := bne_eq_false_iff_eq.mpr c38
     clear c38
     obtain ⟨ji39, hji39⟩ : ∃ j_ : Int, (wrap64 ((l0_0.length : Int) - 1)) = j_ := ⟨_, rfl⟩
     replace H : (if 0 ≤ (ji39) then (if (ji39) < (l0_0.length : Int) then ((headgateref07_Remove.f kj2 l0_0 l0_1 l0_2 (rd l0_0 (ji39))).bind fun bt667 => ((some (([rd l0_0 (ji39)] : List Int) : List Int)).bind fun y678 => (if y678.length + bt667.2.1.length < 17592186044416 then (some (bt667.1, (y678 ++ bt667.2.1), bt667.2.2.1, rd l0_0 (ji39), 0)) else (none)))) else (none)) else (none)) = some (r1, r2, r3, r4, r5) := by first | (rw [hji39] at H; exact H) | (simp only [hji39] at H ⊢; exact H)
     have hji39w : (IntKind.i64.wrap ((l0_0.length : Int) - 1)) = ji39 := (i64_w _).trans hji39
     by_cases c40 : 0 ≤ (ji39)
     ·
      rw [if_pos c40] at H
      have c40b0 : decide (0 ≤ (ji39)) = true := decide_eq_true c40
      clear c40
      by_cases c41 : (ji39) < (l0_0.length : Int)
      ·
       rw [if_pos c41] at H
       have c41b0 : decide ((ji39) < (l0_0.length : Int)) = true := decide_eq_true c41
       clear c41
       replace H := Option.bind_eq_some_iff.mp H
       obtain ⟨⟨t667, t670, t673, t676⟩, A420, H⟩ := H
       replace H : ((some (([rd l0_0 (ji39)] : List Int) : List Int)).bind fun y678 => (if y678.length + t670.length < 17592186044416 then (some (t667, (y678 ++ t670), t673, rd l0_0 (ji39), 0)) else (none))) = some (r1, r2, r3, r4, r5) := H
       have A42 := Aside0.mk A420
       clear A420
       obtain ⟨y678, hy678⟩ : ∃ y_ : List Int, y_ = (([rd l0_0 (ji39)] : List Int)) := ⟨_, rfl⟩
       replace H : (if y678.length + t670.length < 17592186044416 then (some (t667, (y678 ++ t670), t673, rd l0_0 (ji39), 0)) else (none)) = some (r1, r2, r3, r4, r5) := by first | (rw [hy678]; with_reducible exact H) | (have H2_ := (Option.bind_some _ _).symm.trans H; rw [hy678]; with_reducible exact H2_) | (have H2_ := (Option.bind_some _ _).symm.trans H; with_reducible exact H2_) | with_reducible exact H | (rw [hy678]; exact H) | exact H
       have Ny678 := Aside0.mk hy678
       clear hy678
       by_cases c43 : y678.length + t670.length < 17592186044416
       ·
        rw [if_pos c43] at H
        have LMc43 := Aside0.mk c43
        clear c43
        obtain ⟨y681, hy681⟩ : ∃ y_ : List Int, y_ = (y678 ++ t670) := ⟨_, rfl⟩
        replace H : (some (t667, y681, t673, rd l0_0 (ji39), 0)) = some (r1, r2, r3, r4, r5) := by first | (rw [hy681]; with_reducible exact H) | (have H2_ := (Option.bind_some _ _).symm.trans H; rw [hy681]; with_reducible exact H2_) | (have H2_ := (Option.bind_some _ _).symm.trans H; with_reducible exact H2_) | with_reducible exact H | (rw [hy681]; exact H) | exact H
        have Ny681 := Aside0.mk hy681
        clear hy681
        simp only [Option.some.injEq, Prod.mk.injEq] at H
        obtain ⟨rfl, rfl, rfl, rfl, rfl⟩ := H
        have hnb44 := NB645_646.out
        have hnc44 := NB646_645.out
        have hcz45_0 := cell0 BK645
        have hcz45_1 := cell1 BK645
        have hcz45_2 := cell2 BK645
        have hfz45_0 := blk_frozen BK645.out 0
        have hfz45_1 := blk_frozen BK645.out 1
        have hfz45_2 := blk_frozen BK645.out 2
        have p666 : 0 ≤ ((ji39) : Int) := of_decide_eq_true (asm_ (p := _))
        have q666 : (ji39) < (l0_0.length : Int) := of_decide_eq_true (asm_ (p := _))
        obtain ⟨ad666, e666, hx666_0⟩ := Kd.at_int HR0_0.out (ji39) p666 q666
        cases e666
        replace hx666_0 := (HB.out.cell (World.block_lt_of_cell? w _ hx666_0)).trans hx666_0
        replace p666 := eq_true p666
        replace q666 := eq_true q666
        go_wp2_with (first | ((with_reducible refine gate_callee (f := 21) rfl ?_); refine goesL_ (some 34) rfl rfl Try.func21 (by kernel_rfl) rfl #[.agg #[.slice (some ad666) l0_0.length c0_0, .slice A0_1 l0_1.length c0_1, .slice A0_2 l0_2.length c0_2], .int .i64 (rd l0_0 (ji39))] rfl (by (try simp only [List.map_toArray, List.map_cons, List.map_nil]); first | done | (simp only [hji39]; rfl) | rfl | (simp only [List.length_drop, List.length_take]; rfl)) ?_; (with_reducible refine (headgateref07_Remove.calls kj2 _ _ l0_0 _ _ l0_1 _ _ l0_2 (rd l0_0 (ji39)) t667 t670 t673 t676 _ ?side1 ?side2 ?side3 ?side4 ?side5 ?side6 A42.out).mono ?_); (case side1 => exact upc (Kd.C_below HR0_0.out HB.out)); (case side2 => exact HC0_0.out); (case side3 => exact upc (Kd.C_below HR0_1.out HB.out)); (case side4 => exact HC0_1.out); (case side5 => exact upc (Kd.C_below HR0_2.out HB.out)); (case side6 => exact HC0_2.out); rintro e w46 ⟨v668, v671, v674, rfl, ho0, ho1, ho2, hb⟩; refine ⟨_, rfl, ?_⟩; have n0_ := Aside0.mk (Kd.R_lower ho0 (below_size (upH HB))); have n1_ := Aside0.mk (Kd.R_lower ho1 (below_size (upH HB))); have n2_ := Aside0.mk (Kd.R_lower ho2 (below_size (upH HB))); have n3_ := Aside0.mk (blkB BK645 hb); have n4_ := Aside0.mk (blkB BK646 hb); have n5_ := Aside0.mk (below_step (upH HB) hb); clear BK645; clear BK646; clear HB; have HO669 := n0_; have HO672 := n1_; have HO675 := n2_; have BK645 := n3_; have BK646 := n4_; have HB := n5_; clear n0_ n1_ n2_ n3_ n4_ n5_; (try clear hb); (try clear hb2); (try clear hk); (try clear hi); (try clear ho0); (try clear ho1); (try clear ho2)) | ((with_reducible refine gate_dst (N := 7) rfl ?_); (try (refine gate_guard (by rfl) ?_; dsimp only)); refine box_event ?hg (N := 7) ?hd (cs := #[.slice none 0 0, .slice none 0 0, .slice none 0 0]) (t := 25) ?hr ?_; (case hd => rfl); (case hg => rfl); (case hr => first | (go_simp; done) | (go_simp; rfl)); intro gb677 hg w47 hbox hb; have n0_ := Aside0.mk (Kd.R_below (upR HO669.out) hb); have n1_ := Aside0.mk (Kd.R_below (upR HO672.out) hb); have n2_ := Aside0.mk (Kd.R_below (upR HO675.out) hb); have n3_ := Aside0.mk (blkB BK645 hb); have n4_ := Aside0.mk (blkB BK646 hb); have n5_ := Aside0.mk (below_step (upH HB) hb); have n6_ := Aside0.mk (hbox); have n7_ := Aside0.mk ((by rw [hg]; exact (below_size (upH HB)) : w.heap.size ≤ gb677)); have n8_ := Aside0.mk ((by rw [hg]; exact (below_size (upH HB)) : w.heap.size ≤ gb677)); have n9_ := Aside0.mk ((by rw [hg]; exact Nat.ne_of_lt (blk_lt (g := gb645) (o := .cells #[.slice (some ad666) l0_0.length c0_0, .slice A0_1 l0_1.length c0_1, .slice A0_2 l0_2.length c0_2] 25 (0, 0)) (upB BK645)) : gb645 ≠ gb677)); have n10_ := Aside0.mk ((by rw [hg]; exact Nat.ne_of_gt (blk_lt (g := gb645) (o := .cells #[.slice (some ad666) l0_0.length c0_0, .slice A0_1 l0_1.length c0_1, .slice A0_2 l0_2.length c0_2] 25 (0, 0)) (upB BK645)) : gb677 ≠ gb645)); have n11_ := Aside0.mk ((by rw [hg]; exact Nat.ne_of_lt (blk_lt (g := gb646) (o := .cells #[.slice none 0 0, .slice none 0 0, .slice none 0 0] 25 (0, 0)) (upB BK646)) : gb646 ≠ gb677)); have n12_ := Aside0.mk ((by rw [hg]; exact Nat.ne_of_gt (blk_lt (g := gb646) (o := .cells #[.slice none 0 0, .slice none 0 0, .slice none 0 0] 25 (0, 0)) (upB BK646)) : gb677 ≠ gb646)); clear HO669; clear HO672; clear HO675; clear BK645; clear BK646; clear HB; have HO669 := n0_; have HO672 := n1_; have HO675 := n2_; have BK645 := n3_; have BK646 := n4_; have HB := n5_; have BK677 := n6_; have GW677 := n7_; have GE677 := n8_; have NB645_677 := n9_; have NB677_645 := n10_; have NB646_677 := n11_; have NB677_646 := n12_; clear n0_ n1_ n2_ n3_ n4_ n5_ n6_ n7_ n8_ n9_ n10_ n11_ n12_; clear hb hbox hg; obtain ⟨Ao48, co48, eo48⟩ := Kd.R_slice HO669.out; subst eo48; have hnb49 := NB677_645.out; have hnc49 := NB645_677.out; have hnb50 := NB677_646.out; have hnc50 := NB646_677.out; have hcz51_0 := cell0 BK677; have hcz51_1 := cell1 BK677; have hcz51_2 := cell2 BK677; have hfz51_0 := blk_frozen BK677.out 0; have hfz51_1 := blk_frozen BK677.out 1; have hfz51_2 := blk_frozen BK677.out 2; obtain ⟨Ao52, co52, eo52⟩ := Kd.R_slice HO672.out; subst eo52; obtain ⟨Ao53, co53, eo53⟩ := Kd.R_slice HO675.out; subst eo53) | ((with_reducible refine gate_dst (N := 38) rfl ?_); (try (refine gate_guard (by rfl) ?_; dsimp only)); refine Kd.R_lit (Kd.int .i64) _ 3 ?hg (N := 38) ?hd (xs := ([rd l0_0 (ji39)] : List Int)) (inner := [.int .i64 (rd l0_0 (ji39))]) (ok := fun _ => True) (okp := fun _ => True) ?hr ?hp (fun _ hk => hk) trivial (Below.refl _ _) (Nat.le_refl _) (by simp) ?_; (case hd => rfl); (case hg => rfl); (case hr => first | (go_simp; done) | (go_simp; rfl)); (case hp => exact (Reps.one (show Kd.M (Kd.int .i64) _ _ _ (rd l0_0 (ji39)) [.int .i64 (rd l0_0 (ji39))] from rfl) (Reps.none _ _))); intro v679 w54 ho55 hb hg_ hnew_; clear hg_ hnew_; (first | rw [← Ny678.out] at ho55 | (simp only [Int.reduceToNat] at ho55; rw [← Ny678.out] at ho55)); have n0_ := Aside0.mk (Kd.R_elder' (upR (Kd.R_mono (far3 HO669.out BK677) (fun _ h_ => h_.1))) (Kd.R_base ho55) hb); have n1_ := Aside0.mk (Kd.R_elder' (upR (Kd.R_mono (far3 HO672.out BK677) (fun _ h_ => h_.1))) (Kd.R_base ho55) hb); have n2_ := Aside0.mk (Kd.R_below (upR (Kd.R_mono (far3 HO675.out BK677) (fun _ h_ => h_.1))) hb); have n3_ := Aside0.mk (Kd.R_lower (Kd.R_new' (Kd.R_new' ho55 (Kd.R_lt (upR (Kd.R_mono (far3 HO669.out BK677) (fun _ h_ => h_.1))))) (Kd.R_lt (upR (Kd.R_mono (far3 HO672.out BK677) (fun _ h_ => h_.1))))) (below_size (upH HB))); have n4_ := Aside0.mk (blk_below (g := gb645) (o := .cells #[.slice (some ad666) l0_0.length c0_0, .slice A0_1 l0_1.length c0_1, .slice A0_2 l0_2.length c0_2] 25 (0, 0)) (by (with_reducible repeat (first | refine blk_drewN ?_ _ | refine blk_drew ?_ | refine blk_alloc ?_ _)); refine blk_far ?_ NB645_677.out _; (with_reducible repeat (first | refine blk_drewN ?_ _ | refine blk_drew ?_ | refine blk_alloc ?_ _)); refine blk_far ?_ NB645_677.out _; (with_reducible repeat (first | refine blk_drewN ?_ _ | refine blk_drew ?_ | refine blk_alloc ?_ _)); refine blk_far ?_ NB645_677.out _; (with_reducible repeat (first | refine blk_drewN ?_ _ | refine blk_drew ?_ | refine blk_alloc ?_ _)); exact BK645.out) hb); have n5_ := Aside0.mk (blk_below (g := gb646) (o := .cells #[.slice none 0 0, .slice none 0 0, .slice none 0 0] 25 (0, 0)) (by (with_reducible repeat (first | refine blk_drewN ?_ _ | refine blk_drew ?_ | refine blk_alloc ?_ _)); refine blk_far ?_ NB646_677.out _; (with_reducible repeat (first | refine blk_drewN ?_ _ | refine blk_drew ?_ | refine blk_alloc ?_ _)); refine blk_far ?_ NB646_677.out _; (with_reducible repeat (first | refine blk_drewN ?_ _ | refine blk_drew ?_ | refine blk_alloc ?_ _)); refine blk_far ?_ NB646_677.out _; (with_reducible repeat (first | refine blk_drewN ?_ _ | refine blk_drew ?_ | refine blk_alloc ?_ _)); exact BK646.out) hb); have n6_ := Aside0.mk (blk_below (g := gb677) (o := .cells #[.slice Ao48 t667.length co48, .slice Ao52 t670.length co52, .slice Ao53 t673.length co53] 25 (0, 0)) (by (with_reducible repeat (first | refine blk_drewN ?_ _ | refine blk_drew ?_ | refine blk_alloc ?_ _)); refine blk_put (cs := #[.slice Ao48 t667.length co48, .slice Ao52 t670.length co52, .slice none 0 0]) ?_ 2 _ rfl; (with_reducible repeat (first | refine blk_drewN ?_ _ | refine blk_drew ?_ | refine blk_alloc ?_ _)); refine blk_put (cs := #[.slice Ao48 t667.length co48, .slice none 0 0, .slice none 0 0]) ?_ 1 _ rfl; (with_reducible repeat (first | refine blk_drewN ?_ _ | refine blk_drew ?_ | refine blk_alloc ?_ _)); refine blk_put (cs := #[.slice none 0 0, .slice none 0 0, .slice none 0 0]) ?_ 0 _ rfl; (with_reducible repeat (first | refine blk_drewN ?_ _ | refine blk_drew ?_ | refine blk_alloc ?_ _)); exact BK677.out) hb); have n7_ := Aside0.mk (below_step (upH HB) hb); clear HO669; clear HO672; clear HO675; clear BK645; clear BK646; clear BK677; clear HB; have HO669 := n0_; have HO672 := n1_; have HO675 := n2_; have HO680 := n3_; have BK645 := n4_; have BK646 := n5_; have BK677 := n6_; have HB := n7_; clear n0_ n1_ n2_ n3_ n4_ n5_ n6_ n7_; clear hb ho55; have hcz56_0 := cell0 BK677; have hcz56_1 := cell1 BK677; have hcz56_2 := cell2 BK677; have hfz56_0 := blk_frozen BK677.out 0; have hfz56_1 := blk_frozen BK677.out 1; have hfz56_2 := blk_frozen BK677.out 2) | ((with_reducible refine gate_builtin (b := .append) (xs := #[.tmp 38, .tmp 40]) rfl ?_); (try (refine gate_guard (by rfl) ?_; dsimp only)); at_builtin; refine Kd.R_append_rows (Kd.int .i64) (w0 := w) w.heap.size rfl (.tmp 38) (.tmp 40) 22 3 (.int .i64 0) 8 rfl Try.underlying22 info3 rfl (by decide) (by omega) v679 y678 t670 _ _ _ (fun k_ => some k_ ≠ (.slice Ao48 t667.length co48 : Value).ownBlock ∧ some k_ ≠ (.slice Ao52 t670.length co52 : Value).ownBlock) (fun _ => False) rfl rfl ?aO ?aR (fun _ _ h => h) (fun _ h => h.elim) ?aF ?aB ?aS ?aL ?_; (case aR => repeat (first | exact (Kd.R_reads' HO672.out).2.2 | (with_reducible refine Kd.C_alloc ?_ _) | (with_reducible refine Kd.C_drewN ?_ _) | (with_reducible refine Kd.C_drew ?_))); (case aB => exact (upH HB)); (case aF => exact (fun k_ hk => ⟨Kd.fresh' (Kd.R_lt (upR HO669.out)) k_ hk, Kd.fresh' (Kd.R_lt (upR HO672.out)) k_ hk⟩)); (case aO => exact (by (with_reducible repeat (first | apply Kd.R_alloc | apply Kd.R_drewN | apply Kd.R_drew)); exact Kd.R_mono HO680.out (fun _ hk => ⟨hk.1.2, hk.2⟩))); (case aS => exact (below_size (upH HB))); (case aL => have := LMc43.out; omega); intro v682 w57 ho hb hg hat; rw [← Ny681.out] at ho; have n0_ := Aside0.mk (blk_grown (g := gb645) (o := .cells #[.slice (some ad666) l0_0.length c0_0, .slice A0_1 l0_1.length c0_1, .slice A0_2 l0_2.length c0_2] 25 (0, 0)) (upB BK645) hg (Kd.R_ne HO680.out BK645.out (by decide))); have n1_ := Aside0.mk (blk_grown (g := gb646) (o := .cells #[.slice none 0 0, .slice none 0 0, .slice none 0 0] 25 (0, 0)) (upB BK646) hg (Kd.R_ne HO680.out BK646.out (by decide))); have n2_ := Aside0.mk (Kd.R_after (ok := (fun k_ => some k_ ≠ (.slice Ao52 t670.length co52 : Value).ownBlock)) (upR HO669.out) hg hat); have n3_ := Aside0.mk (Kd.R_after (ok := (fun k_ => some k_ ≠ (.slice Ao48 t667.length co48 : Value).ownBlock)) (upR HO672.out) hg hat); have n4_ := Aside0.mk (Kd.R_over' (upR HO675.out) (Kd.R_typed (upR HO680.out)) (by decide) hg); have n5_ := Aside0.mk (blk_grown (g := gb677) (o := .cells #[.slice Ao48 t667.length co48, .slice Ao52 t670.length co52, .slice Ao53 t673.length co53] 25 (0, 0)) (upB BK677) hg (Kd.R_ne HO680.out BK677.out (by decide))); have n6_ := Aside0.mk (hb); have n7_ := Aside0.mk (ho); clear BK645; clear BK646; clear HO669; clear HO672; clear HO675; clear BK677; clear HB; clear HO680; have BK645 := n0_; have BK646 := n1_; have HO669 := n2_; have HO672 := n3_; have HO675 := n4_; have BK677 := n5_; have HB := n6_; have HO683 := n7_; clear n0_ n1_ n2_ n3_ n4_ n5_ n6_ n7_; clear ho hb hg hat; obtain ⟨Ao58, co58, eo58⟩ := Kd.R_slice HO683.out; subst eo58; have hcz59_0 := cell0 BK677; have hcz59_1 := cell1 BK677; have hcz59_2 := cell2 BK677; have hfz59_0 := blk_frozen BK677.out 0; have hfz59_1 := blk_frozen BK677.out 1; have hfz59_2 := blk_frozen BK677.out 2; have hcz60_0 := cell0 BK646; have hcz60_1 := cell1 BK646; have hcz60_2 := cell2 BK646; have hfz60_0 := blk_frozen BK646.out 0; have hfz60_1 := blk_frozen BK646.out 1; have hfz60_2 := blk_frozen BK646.out 2))
        refine bodyPost_ret (results_ctt rfl _ _ gb646 25 #[.slice Ao48 t667.length co48, .slice Ao58 y681.length co58, .slice Ao53 t673.length co53] (0, 0) _ rfl (by (with_reducible repeat (first | refine blk_drewN ?_ _ | refine blk_drew ?_ | refine blk_alloc ?_ _)); refine blk_put (cs := #[.slice Ao48 t667.length co48, .slice Ao58 y681.length co58, .slice none 0 0]) ?_ 2 _ rfl; (with_reducible repeat (first | refine blk_drewN ?_ _ | refine blk_drew ?_ | refine blk_alloc ?_ _)); refine blk_put (cs := #[.slice Ao48 t667.length co48, .slice none 0 0, .slice none 0 0]) ?_ 1 _ rfl; (with_reducible repeat (first | refine blk_drewN ?_ _ | refine blk_drew ?_ | refine blk_alloc ?_ _)); refine blk_put (cs := #[.slice none 0 0, .slice none 0 0, .slice none 0 0]) ?_ 0 _ rfl; (with_reducible repeat (first | refine blk_drewN ?_ _ | refine blk_drew ?_ | refine blk_alloc ?_ _)); refine blk_far ?_ NB646_677.out _; (with_reducible repeat (first | refine blk_drewN ?_ _ | refine blk_drew ?_ | refine blk_alloc ?_ _)); exact BK646.out) Try.underlying25 rfl (by kernel_rfl)) rfl ?_
        exact ⟨_, _, _, by first | rfl | (simp [errW_none, errW_some] <;> rfl) | (simp only [← hji39]; first | rfl | (simp [errW_none, errW_some] <;> rfl)) | (simp [*, errW_none, errW_some] <;> rfl), by (with_reducible repeat (first | apply Kd.R_alloc | apply Kd.R_drewN | apply Kd.R_drew)); exact Kd.R_mono (Kd.R_far (p := ⟨gb646, 2, none⟩) (Kd.R_far (p := ⟨gb646, 1, none⟩) (Kd.R_far (p := ⟨gb646, 0, none⟩) (Kd.R_far (p := ⟨gb677, 1, none⟩) (Kd.R_types (Kd.R_types HO669.out BK677.out (by decide)) BK646.out (by decide)) (fun _ hk => hk.1.2) (.slice Ao58 y681.length co58)) (fun _ hk => hk.2) (.slice Ao48 t667.length co48)) (fun _ hk => hk.2) (.slice Ao58 y681.length co58)) (fun _ hk => hk.2) (.slice Ao53 t673.length co53)) (fun _ hk => hk.1.1.2), by (with_reducible repeat (first | apply Kd.R_alloc | apply Kd.R_drewN | apply Kd.R_drew)); exact Kd.R_mono (Kd.R_far (p := ⟨gb646, 2, none⟩) (Kd.R_far (p := ⟨gb646, 1, none⟩) (Kd.R_far (p := ⟨gb646, 0, none⟩) (Kd.R_far (p := ⟨gb677, 1, none⟩) (Kd.R_types (Kd.R_types HO683.out BK677.out (by decide)) BK646.out (by decide)) (fun _ hk => hk.1.2) (.slice Ao58 y681.length co58)) (fun _ hk => hk.2) (.slice Ao48 t667.length co48)) (fun _ hk => hk.2) (.slice Ao58 y681.length co58)) (fun _ hk => hk.2) (.slice Ao53 t673.length co53)) (fun _ hk => hk.1.1.1), by (with_reducible repeat (first | apply Kd.R_alloc | apply Kd.R_drewN | apply Kd.R_drew)); exact Kd.R_mono (Kd.R_far (p := ⟨gb646, 2, none⟩) (Kd.R_far (p := ⟨gb646, 1, none⟩) (Kd.R_far (p := ⟨gb646, 0, none⟩) (Kd.R_far (p := ⟨gb677, 1, none⟩) (Kd.R_types (Kd.R_types HO675.out BK677.out (by decide)) BK646.out (by decide)) (fun _ hk => hk.1.2) (.slice Ao58 y681.length co58)) (fun _ hk => hk.2) (.slice Ao48 t667.length co48)) (fun _ hk => hk.2) (.slice Ao58 y681.length co58)) (fun _ hk => hk.2) (.slice Ao53 t673.length co53)) (fun _ hk => trivial), by repeat (first | (with_reducible first | exact HB.out | apply below_alloc | apply pw_below_drewN | apply below_drew1 | refine below_set ?_ GE645.out | refine below_set ?_ GE646.out | refine below_set ?_ GE677.out) | exact HB.out)⟩
       ·
        rw [if_neg c43] at H
        exact absurd H (by simp)
      ·
       rw [if_neg c41] at H
       exact absurd H (by simp)
     ·
      rw [if_neg c40] at H
      exact absurd H (by simp)
    ·
     rw [if_neg c38] at H
     have c38b0 : (t647 == 0) = false := beq_eq_false_iff_ne.mpr c38
     have c38b1 : (t647 != 0) = true := bne_iff_ne.mpr c38
     simp only [Option.some.injEq, Prod.mk.injEq] at H
     obtain ⟨rfl, rfl, rfl, rfl, rfl⟩ := H
     have hnb61 := NB646_645.out
     have hnc61 := NB645_646.out
     have hcz62_0 := cell0 BK646
     have hcz62_1 := cell1 BK646
     have hcz62_2 := cell2 BK646
     have hfz62_0 := blk_frozen BK646.out 0
     have hfz62_1 := blk_frozen BK646.out 1
     have hfz62_2 := blk_frozen BK646.out 2
     go_wp2
     refine bodyPost_ret (results_ctt rfl _ _ gb646 25 #[.slice none 0 0, .slice none 0 0, .slice none 0 0] (0, 0) _ rfl (by (with_reducible repeat (first | refine blk_drewN ?_ _ | refine blk_drew ?_ | refine blk_alloc ?_ _)); refine blk_put (cs := #[.slice none 0 0, .slice none 0 0, .slice none 0 0]) ?_ 2 _ rfl; (with_reducible repeat (first | refine blk_drewN ?_ _ | refine blk_drew ?_ | refine blk_alloc ?_ _)); refine blk_put (cs := #[.slice none 0 0, .slice none 0 0, .slice none 0 0]) ?_ 1 _ rfl; (with_reducible repeat (first | refine blk_drewN ?_ _ | refine blk_drew ?_ | refine blk_alloc ?_ _)); refine blk_put (cs := #[.slice none 0 0, .slice none 0 0, .slice none 0 0]) ?_ 0 _ rfl; (with_reducible repeat (first | refine blk_drewN ?_ _ | refine blk_drew ?_ | refine blk_alloc ?_ _)); exact BK646.out) Try.underlying25 rfl (by kernel_rfl)) rfl ?_
     exact ⟨_, _, _, by first | rfl | (simp [errW_none, errW_some] <;> rfl) | (simp [*, errW_none, errW_some] <;> rfl), by first | exact Kd.R_nil _ _ _ _ _ | exact Kd.N_nil _ _ _ _ _ | exact Kd.V_nil _ _ _ _ _ | exact Kd.Q_nil _ _ _ _ _ | exact Kd.S_nil _ _ _ _ _, by first | exact Kd.R_nil _ _ _ _ _ | exact Kd.N_nil _ _ _ _ _ | exact Kd.V_nil _ _ _ _ _ | exact Kd.Q_nil _ _ _ _ _ | exact Kd.S_nil _ _ _ _ _, by first | exact Kd.R_nil _ _ _ _ _ | exact Kd.N_nil _ _ _ _ _ | exact Kd.V_nil _ _ _ _ _ | exact Kd.Q_nil _ _ _ _ _ | exact Kd.S_nil _ _ _ _ _, by repeat (first | (with_reducible first | exact HB.out | apply below_alloc | apply pw_below_drewN | apply below_drew1 | refine below_set ?_ GE645.out | refine below_set ?_ GE646.out) | exact HB.out)⟩

end Go.Proofs.Ytaofihdmgdpenaa.X
