/- What Go functions of this seat compute, told as Lean functions, and that each call of the Go code comes to that answer; for a law: its row, for every input. Written by a program of the session. -/
import Derived.Test.YtnheknlmmmkbpaaX0
import Derived.Test.YtnheknlmmmkbpaaX2
namespace Go.Proofs.Ytnheknlmmmkbpaa.X
open Go.RowKit Go.Proofs.YtnheknlmmmkbpaaW.PrintWords Go.Proofs.YtnheknlmmmkbpaaW.PrintLast Go.Proofs.YtnheknlmmmkbpaaW.PrintMore
attribute [local go_sem] max2_int min2_int max_two min_two max_three min_three max_four min_four   -- for this text's walks alone
set_option linter.unusedVariables false
set_option linter.unusedSimpArgs false

/-! ### headgatelaw31_lists: function 31 -/
def headgatelaw31_lists.l0 : Nat → List Int → Int → List Int → List Int → List Bool → Option (List Int × List Int × List Bool)
 | 0, _, _, _, _, _ => none
 | k + 1, x2, x8, x123000, x123001, x123002 => if x8 < (x2.length : Int) then (if 0 ≤ x8 then (if 0 ≤ (rd x2 x8) then (if (rd x2 x8) < (x123002.length : Int) then (headgatelaw31_lists.l0 k x2 (wrap64 (x8 + 1)) x123000 x123001 (x123002.set ((rd x2 x8) : Int).toNat true)) else (none)) else (none)) else (none)) else (some (x123000, x123001, x123002))
def headgatelaw31_lists.f (k : Nat) (l0 : List Int) (l1 : List Int) (l2 : List Int) : Option (List Int × List Int × List Bool) := if 8 ≤ 281474976710656 then (headgatelaw31_lists.l0 k l2 0 l0 l1 (List.replicate 8 false)) else (none)
theorem headgatelaw31_lists.mono_l : ∀ k, (∀ y0 y1 y2 y3 y4, LeO (headgatelaw31_lists.l0 k y0 y1 y2 y3 y4) (headgatelaw31_lists.l0 (k + 1) y0 y1 y2 y3 y4))
 | 0 => fun _ _ _ _ _ r h => by simp [headgatelaw31_lists.l0] at h
 | k + 1 => by
  have ih0 := headgatelaw31_lists.mono_l k
  ·
   intro y0 y1 y2 y3 y4
   unfold headgatelaw31_lists.l0
   repeat' first
   | (with_reducible exact ih0 _ _ _ _ _)
   | (with_reducible exact LeO.refl _)
   | (with_reducible exact LeO.none _)
   | (with_reducible refine LeO.ite ?_ ?_)
   | (with_reducible refine LeO.bind ?_ (fun _ => ?_))
   | exact ih0 _ _ _ _ _
   | exact LeO.none _
   | refine LeO.ite ?_ ?_
   | refine LeO.bind ?_ (fun _ => ?_)
theorem headgatelaw31_lists.mono : ∀ a0 a1 a2 k, LeO (headgatelaw31_lists.f k a0 a1 a2) (headgatelaw31_lists.f (k + 1) a0 a1 a2) := by
 intro a0 a1 a2 k
 have ih0 := headgatelaw31_lists.mono_l k
 unfold headgatelaw31_lists.f
 repeat' first
   | (with_reducible exact ih0 _ _ _ _ _)
   | (with_reducible exact LeO.refl _)
   | (with_reducible exact LeO.none _)
   | (with_reducible refine LeO.ite ?_ ?_)
   | (with_reducible refine LeO.bind ?_ (fun _ => ?_))
   | exact ih0 _ _ _ _ _
   | exact LeO.none _
   | refine LeO.ite ?_ ?_
   | refine LeO.bind ?_ (fun _ => ?_)
def headgatelaw31_lists.T5 : Bool × List (List Nat × List Nat) := (true, [([], []), ([0], [0]), ([], []), ([], []), ([2, 3], [2, 3]), ([4], [4]), ([1, 5, 0, 1, 2, 3, 4, 5], [1, 5]), ([6, 0, 1, 2, 3, 4, 5], [6])])
def headgatelaw31_lists.B5 : List Nat := [0, 1, 0, 0, 12, 28, 63, 127]
theorem headgatelaw31_lists.tab5 : rtab .any (opsOf Try.f31 5) = headgatelaw31_lists.T5 := by kernel_rfl
theorem headgatelaw31_lists.bits5 : waitsOk headgatelaw31_lists.T5.2 headgatelaw31_lists.B5 = true := by kernel_rfl
set_option maxHeartbeats 2000000 in
set_option maxRecDepth 100000 in
theorem headgatelaw31_lists.calls (k : Nat) (P0_ : Nat → Prop) (A0 : Option Addr) (c0 : Nat) (l0 : List Int) (P1_ : Nat → Prop) (A1 : Option Addr) (c1 : Nat) (l1 : List Int) (A2 : Option Addr) (c2 : Nat) (l2 : List Int) (r1 : List Int) (r2 : List Int) (r3 : List Bool) (w : World) (hs0 : Kd.V (Kd.int .i64) 3 w w.heap.size (fun k_ => P0_ k_) (.slice A0 l0.length c0) l0) (hs1 : Kd.V (Kd.int .i64) 3 w w.heap.size (fun k_ => P1_ k_) (.slice A1 l1.length c1) l1) (hr2 : Kd.C (Kd.int .i64) w A2 l2.length l2) (hc2 : l2.length ≤ c2) (h : headgatelaw31_lists.f k l0 l1 l2 = some (r1, r2, r3)) :
  Calls Try.prog 31 #[.slice A0 l0.length c0, .slice A1 l1.length c1, .slice A2 l2.length c2] w fun e w' => ∃ v0_ v1_ v2_ : Value, e = .returned (.agg #[v0_, v1_, v2_]) ∧ Kd.V (Kd.int .i64) 3 w' w.heap.size (fun k_ => ((P0_ k_ ∨ P1_ k_) ∨ w.heap.size ≤ k_) ∧ some k_ ≠ (v2_ : Value).ownBlock) v0_ r1 ∧ Kd.V (Kd.int .i64) 3 w' w.heap.size (fun k_ => ((P0_ k_ ∨ P1_ k_) ∨ w.heap.size ≤ k_) ∧ some k_ ≠ (v2_ : Value).ownBlock) v1_ r2 ∧ Kd.R Kd.bool 4 w' w.heap.size (fun k_ => (w.heap.size ≤ k_)) v2_ r3 ∧ Below w.heap.size w w' := by
 have hu33 := Try.underlying33
 have HO0 := Aside0.mk (show Kd.V (Kd.int .i64) 3 w w.heap.size (fun k_ => ((P0_ k_ ∨ P1_ k_) ∨ w.heap.size ≤ k_)) (.slice A0 l0.length c0) l0 from Kd.V_mono hs0 (fun k_ hk => .inl (.inl hk)))
 have HO1 := Aside0.mk (show Kd.V (Kd.int .i64) 3 w w.heap.size (fun k_ => ((P0_ k_ ∨ P1_ k_) ∨ w.heap.size ≤ k_)) (.slice A1 l1.length c1) l1 from Kd.V_mono hs1 (fun k_ hk => .inl (.inr hk)))
 have HR2 := Aside0.mk hr2
 have HC2 := Aside0.mk hc2
 clear hr2 hc2
 have HB := Aside0.mk (Below.refl w.heap.size w)
 have H : (if 8 ≤ 281474976710656 then (headgatelaw31_lists.l0 k l2 0 l0 l1 (List.replicate 8 false)) else (none)) = some (r1, r2, r3) := h
 clear h
 by_cases c4 : 8 ≤ 281474976710656
 ·
  rw [if_pos c4] at H
  have c4b0 := eq_true c4
  have c4b1 : decide (8 ≤ 281474976710656) = true := decide_eq_true c4
  clear c4
  obtain ⟨y119, hy119⟩ : ∃ y_ : List Bool, y_ = (List.replicate 8 false) := ⟨_, rfl⟩
  replace H : (headgatelaw31_lists.l0 k l2 0 l0 l1 y119) = some (r1, r2, r3) := by first | (rw [hy119]; with_reducible exact H) | (have H2_ := (Option.bind_some _ _).symm.trans H; rw [hy119]; with_reducible exact H2_) | (have H2_ := (Option.bind_some _ _).symm.trans H; with_reducible exact H2_) | with_reducible exact H | (rw [hy119]; exact H) | exact H
  have Ny119 := Aside0.mk hy119
  clear hy119
  have H' := Aside0.mk H
  clear H
  go_enter Try.func31, Try.ntmps31
  go_wp2_with (first | ((with_reducible refine gate_dst (N := 6) rfl ?_); refine box_event ?hg (N := 6) ?hd (cs := #[.slice none 0 0, .slice none 0 0, .slice none 0 0]) (t := 33) ?hr ?_; (case hd => rfl); (case hg => rfl); (case hr => first | (go_simp; done) | (go_simp; rfl)); intro gb118 hg w5 hbox hb; have n0_ := Aside0.mk (Kd.V_below (Kd.V_elderB (upV HO0.out) gb118 (Nat.le_of_eq hg.symm)) hb); have n1_ := Aside0.mk (Kd.V_below (Kd.V_elderB (upV HO1.out) gb118 (Nat.le_of_eq hg.symm)) hb); have n2_ := Aside0.mk (below_step (upH HB) hb); have n3_ := Aside0.mk (hbox); have n4_ := Aside0.mk ((by rw [hg]; exact (below_size (upH HB)) : w.heap.size ≤ gb118)); have n5_ := Aside0.mk ((by rw [hg]; exact (below_size (upH HB)) : w.heap.size ≤ gb118)); clear HO0; clear HO1; clear HB; have HO0 := n0_; have HO1 := n1_; have HB := n2_; have BK118 := n3_; have GW118 := n4_; have GE118 := n5_; clear n0_ n1_ n2_ n3_ n4_ n5_; clear hb hbox hg) | ((with_reducible refine gate_dst (N := 11) rfl ?_); refine Kd.R_make Kd.bool _ 4 rfl (N := 11) rfl 31 _ _ rfl 8 rfl rfl Try.underlying31 (.bool false) 1 info4 rfl (by decide) (by omega) false (ok := fun _ => True) (okp := fun _ => True) rfl (fun _ hk => hk) trivial (by omega) (by omega) (Below.refl _ _) (Nat.le_refl _) ?_; intro v120 w6 ho7 hb hg_ hnew_; clear hg_ hnew_; (first | rw [← Ny119.out] at ho7 | (simp only [Int.reduceToNat] at ho7; rw [← Ny119.out] at ho7)); have n0_ := Aside0.mk (Kd.V_elder' (upV HO0.out) (Kd.R_base ho7) hb); have n1_ := Aside0.mk (Kd.V_elder' (upV HO1.out) (Kd.R_base ho7) hb); have n2_ := Aside0.mk (Kd.R_lower (Kd.R_newM (M := fun k_ => (w.heap.size ≤ k_)) ho7 (below_size (upH HB)) (fun k_ h_ => h_)) (below_size (upH HB))); have n3_ := Aside0.mk (blkB BK118 hb); have n4_ := Aside0.mk (below_step (upH HB) hb); clear HO0; clear HO1; clear BK118; clear HB; have HO0 := n0_; have HO1 := n1_; have HO121 := n2_; have BK118 := n3_; have HB := n4_; clear n0_ n1_ n2_ n3_ n4_; clear hb ho7; obtain ⟨Ao8, co8, eo8⟩ := Kd.R_slice HO121.out; subst eo8) | ((with_reducible refine gate_dst (N := 7) rfl ?_); refine box_event ?hg (N := 7) ?hd (cs := #[.slice none 0 0, .slice none 0 0, .slice none 0 0]) (t := 33) ?hr ?_; (case hd => rfl); (case hg => rfl); (case hr => first | (go_simp; done) | (go_simp; rfl)); intro gb122 hg w9 hbox hb; have n0_ := Aside0.mk (Kd.V_below (Kd.V_elderB (upV HO0.out) gb122 (Nat.le_of_eq hg.symm)) hb); have n1_ := Aside0.mk (Kd.V_below (Kd.V_elderB (upV HO1.out) gb122 (Nat.le_of_eq hg.symm)) hb); have n2_ := Aside0.mk (Kd.R_below (upR HO121.out) hb); have n3_ := Aside0.mk (blkB BK118 hb); have n4_ := Aside0.mk (below_step (upH HB) hb); have n5_ := Aside0.mk (hbox); have n6_ := Aside0.mk ((by rw [hg]; exact (below_size (upH HB)) : w.heap.size ≤ gb122)); have n7_ := Aside0.mk ((by rw [hg]; exact (below_size (upH HB)) : w.heap.size ≤ gb122)); have n8_ := Aside0.mk ((by rw [hg]; exact Nat.ne_of_lt (blk_lt (g := gb118) (o := .cells #[.slice none 0 0, .slice none 0 0, .slice none 0 0] 33 (0, 0)) (upB BK118)) : gb118 ≠ gb122)); have n9_ := Aside0.mk ((by rw [hg]; exact Nat.ne_of_gt (blk_lt (g := gb118) (o := .cells #[.slice none 0 0, .slice none 0 0, .slice none 0 0] 33 (0, 0)) (upB BK118)) : gb122 ≠ gb118)); clear HO0; clear HO1; clear HO121; clear BK118; clear HB; have HO0 := n0_; have HO1 := n1_; have HO121 := n2_; have BK118 := n3_; have HB := n4_; have BK122 := n5_; have GW122 := n6_; have GE122 := n7_; have NB118_122 := n8_; have NB122_118 := n9_; clear n0_ n1_ n2_ n3_ n4_ n5_ n6_ n7_ n8_ n9_; clear hb hbox hg; have hnb10 := NB122_118.out; have hnc10 := NB118_122.out; have hcz11_0 := cell0 BK122; have hcz11_1 := cell1 BK122; have hcz11_2 := cell2 BK122; have hfz11_0 := blk_frozen BK122.out 0; have hfz11_1 := blk_frozen BK122.out 1; have hfz11_2 := blk_frozen BK122.out 2))
  go_loopg [8] k (fun kq v8 w' => ∃ (x8_1 : Int) (x123002_1 : List Bool) (u123002 : Value), v8 = .int .i64 x8_1 ∧ Aside0 (headgatelaw31_lists.l0 kq l2 x8_1 l0 l1 x123002_1 = some (r1, r2, r3)) ∧ Aside0 (kq ≤ k) ∧ Aside0 (Kd.V (Kd.int .i64) 3 w' w.heap.size (fun k_ => ((P0_ k_ ∨ P1_ k_) ∨ w.heap.size ≤ k_) ∧ some k_ ≠ (u123002 : Value).ownBlock ∧ k_ ≠ gb118 ∧ k_ ≠ gb122) (.slice A0 l0.length c0) l0) ∧ Aside0 (Kd.V (Kd.int .i64) 3 w' w.heap.size (fun k_ => ((P0_ k_ ∨ P1_ k_) ∨ w.heap.size ≤ k_) ∧ some k_ ≠ (u123002 : Value).ownBlock ∧ k_ ≠ gb118 ∧ k_ ≠ gb122) (.slice A1 l1.length c1) l1) ∧ Aside0 (Kd.R Kd.bool 4 w' w.heap.size (fun k_ => (w.heap.size ≤ k_)) u123002 x123002_1) ∧ Aside0 (w'.heap[gb118]? = some (.cells #[(.slice none 0 0), (.slice none 0 0), (.slice none 0 0)] 33 (0, 0))) ∧ Aside0 (w'.heap[gb122]? = some (.cells #[(.slice A0 l0.length c0), (.slice A1 l1.length c1), u123002] 33 (0, 0))) ∧ Aside0 (Below w.heap.size w w'))
  case atStart => exact ⟨(0), (y119), (.slice Ao8 y119.length co8), (by first | rfl | (simp; done) | (simp [*]; done)), H', ⟨Nat.le_refl _⟩, ⟨by (with_reducible repeat (first | apply Kd.V_alloc | apply Kd.V_drewN | apply Kd.V_drew)); exact Kd.V_mono (Kd.V_far (p := ⟨gb122, 2, none⟩) (Kd.V_far (p := ⟨gb122, 1, none⟩) (Kd.V_far (p := ⟨gb122, 0, none⟩) (Kd.V_mono HO0.out (fun k_ hk => (⟨hk, hk.2⟩ : _ ∧ k_ ≠ gb122))) (fun _ hk => hk.2) (.slice A0 l0.length c0)) (fun _ hk => hk.2) (.slice A1 l1.length c1)) (fun _ hk => hk.2) (.slice Ao8 y119.length co8)) (fun _ hk => ⟨hk.1.1.1.1, ⟨hk.1.1.2, ⟨hk.1.1.1.2, hk.1.2⟩⟩⟩)⟩, ⟨by (with_reducible repeat (first | apply Kd.V_alloc | apply Kd.V_drewN | apply Kd.V_drew)); exact Kd.V_mono (Kd.V_far (p := ⟨gb122, 2, none⟩) (Kd.V_far (p := ⟨gb122, 1, none⟩) (Kd.V_far (p := ⟨gb122, 0, none⟩) (Kd.V_mono HO1.out (fun k_ hk => (⟨hk, hk.2⟩ : _ ∧ k_ ≠ gb122))) (fun _ hk => hk.2) (.slice A0 l0.length c0)) (fun _ hk => hk.2) (.slice A1 l1.length c1)) (fun _ hk => hk.2) (.slice Ao8 y119.length co8)) (fun _ hk => ⟨hk.1.1.1.1, ⟨hk.1.1.2, ⟨hk.1.1.1.2, hk.1.2⟩⟩⟩)⟩, ⟨by (with_reducible repeat (first | apply Kd.R_alloc | apply Kd.R_drewN | apply Kd.R_drew)); exact Kd.R_mono (far3 HO121.out BK122) (fun _ hk => hk.1.1)⟩, ⟨by (with_reducible repeat (first | refine blk_drewN ?_ _ | refine blk_drew ?_ | refine blk_alloc ?_ _)); refine blk_far ?_ NB118_122.out _; (with_reducible repeat (first | refine blk_drewN ?_ _ | refine blk_drew ?_ | refine blk_alloc ?_ _)); refine blk_far ?_ NB118_122.out _; (with_reducible repeat (first | refine blk_drewN ?_ _ | refine blk_drew ?_ | refine blk_alloc ?_ _)); refine blk_far ?_ NB118_122.out _; (with_reducible repeat (first | refine blk_drewN ?_ _ | refine blk_drew ?_ | refine blk_alloc ?_ _)); exact BK118.out⟩, ⟨by (with_reducible repeat (first | refine blk_drewN ?_ _ | refine blk_drew ?_ | refine blk_alloc ?_ _)); refine blk_put (cs := #[.slice A0 l0.length c0, .slice A1 l1.length c1, .slice none 0 0]) ?_ 2 _ rfl; (with_reducible repeat (first | refine blk_drewN ?_ _ | refine blk_drew ?_ | refine blk_alloc ?_ _)); refine blk_put (cs := #[.slice A0 l0.length c0, .slice none 0 0, .slice none 0 0]) ?_ 1 _ rfl; (with_reducible repeat (first | refine blk_drewN ?_ _ | refine blk_drew ?_ | refine blk_alloc ?_ _)); refine blk_put (cs := #[.slice none 0 0, .slice none 0 0, .slice none 0 0]) ?_ 0 _ rfl; (with_reducible repeat (first | refine blk_drewN ?_ _ | refine blk_drew ?_ | refine blk_alloc ?_ _)); exact BK122.out⟩, ⟨upH HB⟩⟩
  case round =>
   clear H'
   try clear c1
   try clear c2
   try clear p2
   try clear c3
   try clear c4
   try clear c4b0
   try clear c4b1
   try clear c10
   try clear hcz11_0
   try clear hcz11_1
   try clear hcz11_2
   try clear hfz11_0
   try clear hfz11_1
   try clear hfz11_2
   obtain ⟨x8_1, x123002_1, u123002, rfl, HA, HK1, HO_123000, HO_123001, HO_123002, BK118, BK122, HB⟩ := hrel
   cases gk with
   | zero => exact absurd HA.out (by simp [headgatelaw31_lists.l0])
   | succ k1 =>
    have H := HA.out
    clear HA
    simp only [headgatelaw31_lists.l0] at H
    by_cases c12 : x8_1 < (l2.length : Int)
    ·
     rw [if_pos c12] at H
     have c12b0 : decide (x8_1 < (l2.length : Int)) = true := decide_eq_true c12
     clear c12
     by_cases c13 : 0 ≤ x8_1
     ·
      rw [if_pos c13] at H
      have c13b0 : decide (0 ≤ x8_1) = true := decide_eq_true c13
      clear c13
      by_cases c14 : 0 ≤ (rd l2 x8_1)
      ·
       rw [if_pos c14] at H
       have c14b0 : decide (0 ≤ (rd l2 x8_1)) = true := decide_eq_true c14
       clear c14
       by_cases c15 : (rd l2 x8_1) < (x123002_1.length : Int)
       ·
        rw [if_pos c15] at H
        have c15b0 : decide ((rd l2 x8_1) < (x123002_1.length : Int)) = true := decide_eq_true c15
        clear c15
        obtain ⟨y124, hy124⟩ : ∃ y_ : List Bool, y_ = (x123002_1.set ((rd l2 x8_1) : Int).toNat true) := ⟨_, rfl⟩
        replace H : (headgatelaw31_lists.l0 k1 l2 (wrap64 (x8_1 + 1)) l0 l1 y124) = some (r1, r2, r3) := by first | (rw [hy124]; with_reducible exact H) | (have H2_ := (Option.bind_some _ _).symm.trans H; rw [hy124]; with_reducible exact H2_) | (have H2_ := (Option.bind_some _ _).symm.trans H; with_reducible exact H2_) | with_reducible exact H | (rw [hy124]; exact H) | exact H
        have Ny124 := Aside0.mk hy124
        clear hy124
        have H' := Aside0.mk H
        clear H
        try go_wp2
        have n0_ := Aside0.mk (Kd.V_drew HO_123000.out)
        have n1_ := Aside0.mk (Kd.V_drew HO_123001.out)
        have n2_ := Aside0.mk (Kd.R_drew HO_123002.out)
        have n3_ := Aside0.mk (blk_drew BK118.out)
        have n4_ := Aside0.mk (blk_drew BK122.out)
        have n5_ := Aside0.mk (below_drew1 HB.out)
        clear HO_123000
        clear HO_123001
        clear HO_123002
        clear BK118
        clear BK122
        clear HB
        have HO_123000 := n0_
        have HO_123001 := n1_
        have HO_123002 := n2_
        have BK118 := n3_
        have BK122 := n4_
        have HB := n5_
        clear n0_ n1_ n2_ n3_ n4_ n5_
        have p123 : 0 ≤ (x8_1 : Int) := of_decide_eq_true (asm_ (p := _))
        have q123 : x8_1 < (l2.length : Int) := of_decide_eq_true (asm_ (p := _))
        obtain ⟨ad123, e123, hx123_0⟩ := Kd.at_int HR2.out x8_1 p123 q123
        have hw123_0 := hx123_0
        cases e123
        replace hx123_0 := (HB.out.cell (World.block_lt_of_cell? w _ hx123_0)).trans hx123_0
        replace p123 := eq_true p123
        replace q123 := eq_true q123
        have p16 : 0 ≤ ((rd l2 x8_1) : Int) := of_decide_eq_true (asm_ (p := _))
        have q16 : ((rd l2 x8_1) : Int) < ((x123002_1.length : Int) : Int) := of_decide_eq_true (asm_ (p := _))
        obtain ⟨go16, co16, eo16, gb16, gl16, cl16, HG16⟩ := Kd.R_form HO_123002.out (by omega)
        (first | cases eo16 | (injection eo16 with ea_ en_ ec_; (first | subst ea_ | (injection ea_ with ea_; subst ea_)); subst ec_; clear en_))
        have GB16 := Aside0.mk gb16
        have GG16 := Aside0.mk HG16
        clear gb16 gl16 HG16
        obtain ⟨hx16_0, hf16_0⟩ := Kd.R_celln false HO_123002.out ((rd l2 x8_1) : Int) p16 q16
        replace p16 := eq_true p16
        replace q16 := eq_true q16
        have HP18 := Kd.R_putn HO_123002.out ((rd l2 x8_1) : Int) true
        rw [← Ny124.out] at HP18
        have HQ18 := Aside0.mk HP18
        clear HP18
        refine start_ (n := 8) (S := fun w' => w'.cell? ⟨gb122, 0, none⟩ = some (.slice A0 l0.length c0) ∧ w'.cell? ⟨gb122, 1, none⟩ = some (.slice A1 l1.length c1) ∧ w'.cell? ⟨gb122, 2, none⟩ = some (.slice (some ⟨go16, 0, none⟩) x123002_1.length co16) ∧ w'.cell? (ad123.add (x8_1).toNat) = some (.int .i64 (rd l2 x8_1))) (ds := [7]) #[false, false, false, false, false, false, false, false] (by kernel_rfl) rfl rfl ⟨(blk_cell BK122.out 0).trans rfl, (blk_cell BK122.out 1).trans rfl, (blk_cell BK122.out 2).trans rfl, ((HB.out.cell (World.block_lt_of_cell? w _ hw123_0)).trans hw123_0)⟩ (fun hHeld => ?_); refine with_tabW headgatelaw31_lists.tab5 headgatelaw31_lists.bits5 (fun HT_ HW_ => ?_)
        generalize wr.drew = w17 at HO_123000 HO_123001 HO_123002 BK118 BK122 HB GG16 HQ18 hf16_0 hx123_0 hx16_0 hHeld ⊢
        refine pure_ (i := 0) (N := some 19) (v := ?_) (a' := ?_) #[true, false, false, false, false, false, false, false] rfl rfl (any_of HT_.out (by kernel_rfl)) (fun _ _ _ h => h) (Or.inl ⟨by rfl, ?_⟩) ?_ ?_
        rotate_left
        ·
         intro w'
         go_simp
         with_reducible rfl
        rotate_left
        ·
         simp only [Act.put, List.setIfInBounds_toArray, List.set_cons_zero, List.set_cons_succ, i64_w, i32_w]
         rfl
        refine pure_ (i := 2) (N := some 21) (v := ?_) (a' := ?_) #[true, false, true, false, false, false, false, false] rfl rfl (any_of HT_.out (by kernel_rfl)) (fun _ _ _ h => h) (Or.inl ⟨by rfl, ?_⟩) ?_ ?_
        rotate_left
        ·
         intro w'
         go_simp
         with_reducible rfl
        rotate_left
        ·
         simp only [Act.put, List.setIfInBounds_toArray, List.set_cons_zero, List.set_cons_succ, i64_w, i32_w]
         rfl
        refine pure_ (i := 3) (N := some 22) (v := ?_) (a' := ?_) #[true, false, true, true, false, false, false, false] rfl rfl (any_of HT_.out (by kernel_rfl)) (fun _ _ _ h => h) (Or.inl ⟨by rfl, ?_⟩) ?_ ?_
        rotate_left
        ·
         intro w'
         go_simp
         with_reducible rfl
        rotate_left
        ·
         simp only [Act.put, List.setIfInBounds_toArray, List.set_cons_zero, List.set_cons_succ, i64_w, i32_w]
         rfl
        refine pure_ (i := 4) (N := some 23) (v := ?_) (a' := ?_) #[true, false, true, true, true, false, false, false] rfl rfl (any_of HT_.out (by kernel_rfl)) (fun _ _ _ h => h) (Or.inl ⟨by rfl, ?_⟩) ?_ ?_
        rotate_left
        ·
         intro w'
         go_simp
         with_reducible rfl
        rotate_left
        ·
         simp only [Act.put, List.setIfInBounds_toArray, List.set_cons_zero, List.set_cons_succ, i64_w, i32_w]
         rfl
        refine take_ (i := 1) (N := some 20) (v := ?_) (a' := ?_) #[true, true, true, true, true, false, false, false] rfl rfl (take_ofW HT_.out HW_.out (by kernel_rfl)) (fun _ _ _ h => h) (Or.inl ⟨by rfl, ?_⟩) hHeld ?_ ?_
        rotate_left
        ·
         rintro w' ⟨s0, s1, s2, s3⟩
         go_simp
         with_reducible rfl
        rotate_left
        ·
         simp only [Act.put, List.setIfInBounds_toArray, List.set_cons_zero, List.set_cons_succ, i64_w, i32_w]
         rfl
        refine take_ (i := 5) (N := some 24) (v := ?_) (a' := ?_) #[true, true, true, true, true, true, false, false] rfl rfl (take_ofW HT_.out HW_.out (by kernel_rfl)) (fun _ _ _ h => h) (Or.inl ⟨by rfl, ?_⟩) hHeld ?_ ?_
        rotate_left
        ·
         rintro w' ⟨s0, s1, s2, s3⟩
         go_simp
         with_reducible rfl
        rotate_left
        ·
         simp only [Act.put, List.setIfInBounds_toArray, List.set_cons_zero, List.set_cons_succ, i64_w, i32_w]
         rfl
        refine pure_ (i := 6) (N := some 25) (v := ?_) (a' := ?_) #[true, true, true, true, true, true, true, false] rfl rfl (any_of HT_.out (by kernel_rfl)) (fun _ _ _ h => h) (Or.inl ⟨by rfl, ?_⟩) ?_ ?_
        rotate_left
        ·
         intro w'
         go_simp
         with_reducible rfl
        rotate_left
        ·
         simp only [Act.put, List.setIfInBounds_toArray, List.set_cons_zero, List.set_cons_succ, i64_w, i32_w]
         rfl
        refine last_ (i := 7) (N := none) #[true, true, true, true, true, true, true, true] rfl rfl (one_of HT_.out (by kernel_rfl)) (by decide) (fun K hK => ?_)
        refine skip_ (w1 := ?_) (by rfl) rfl ?_ ?_
        rotate_left
        ·
         go_simp
         rfl
        refine hK.out _ _ ?_
        clear hK K
        refine done_ (done_of HT_.out (by kernel_rfl)) ?_
        try go_wp2
        go_roundg k1
        case measure => have := HK1.out; omega
        case rel => exact ⟨(wrap64 (x8_1 + 1)), (y124), (.slice (some ⟨go16, 0, none⟩) x123002_1.length co16), (by first | rfl | (simp; done) | (simp [*]; done)), H', ⟨by have := HK1.out; omega⟩, ⟨by (with_reducible repeat (first | apply Kd.V_alloc | apply Kd.V_drewN | apply Kd.V_drew)); exact Kd.V_mono (Kd.V_far (p := ⟨go16, ((rd l2 x8_1) : Int).toNat, none⟩) (Kd.V_mono HO_123000.out (fun k_ hk => (⟨hk, fun e_ => hk.2.1 (by rw [e_]; rfl)⟩ : _ ∧ k_ ≠ go16))) (fun _ hk => hk.2) (.bool true)) (fun _ hk => ⟨hk.1.1, ⟨hk.1.2.1, ⟨hk.1.2.2.1, hk.1.2.2.2⟩⟩⟩)⟩, ⟨by (with_reducible repeat (first | apply Kd.V_alloc | apply Kd.V_drewN | apply Kd.V_drew)); exact Kd.V_mono (Kd.V_far (p := ⟨go16, ((rd l2 x8_1) : Int).toNat, none⟩) (Kd.V_mono HO_123001.out (fun k_ hk => (⟨hk, fun e_ => hk.2.1 (by rw [e_]; rfl)⟩ : _ ∧ k_ ≠ go16))) (fun _ hk => hk.2) (.bool true)) (fun _ hk => ⟨hk.1.1, ⟨hk.1.2.1, ⟨hk.1.2.2.1, hk.1.2.2.2⟩⟩⟩)⟩, ⟨upR HQ18.out⟩, ⟨by (with_reducible repeat (first | refine blk_drewN ?_ _ | refine blk_drew ?_ | refine blk_alloc ?_ _)); refine blk_far ?_ (by have h_ := Kd.R_ne HO_123002.out BK118.out (by decide); intro e_; exact h_ (by rw [e_]; rfl)) _; (with_reducible repeat (first | refine blk_drewN ?_ _ | refine blk_drew ?_ | refine blk_alloc ?_ _)); exact BK118.out⟩, ⟨by (with_reducible repeat (first | refine blk_drewN ?_ _ | refine blk_drew ?_ | refine blk_alloc ?_ _)); refine blk_far ?_ (by have h_ := Kd.R_ne HO_123002.out BK122.out (by decide); intro e_; exact h_ (by rw [e_]; rfl)) _; (with_reducible repeat (first | refine blk_drewN ?_ _ | refine blk_drew ?_ | refine blk_alloc ?_ _)); exact BK122.out⟩, ⟨upH HB⟩⟩
       ·
        rw [if_neg c15] at H
        exact absurd H (by simp)
      ·
       rw [if_neg c14] at H
       exact absurd H (by simp)
     ·
      rw [if_neg c13] at H
      exact absurd H (by simp)
    ·
     rw [if_neg c12] at H
     have c12b0 : decide (x8_1 < (l2.length : Int)) = false := decide_eq_false c12
     clear c12
     simp only [Option.some.injEq, Prod.mk.injEq] at H
     obtain ⟨rfl, rfl, rfl⟩ := H
     have hnb19 := NB122_118.out
     have hnc19 := NB118_122.out
     have hcz20_0 := cell0 BK122
     have hcz20_1 := cell1 BK122
     have hcz20_2 := cell2 BK122
     have hfz20_0 := blk_frozen BK122.out 0
     have hfz20_1 := blk_frozen BK122.out 1
     have hfz20_2 := blk_frozen BK122.out 2
     have hcz21_0 := cell0 BK118
     have hcz21_1 := cell1 BK118
     have hcz21_2 := cell2 BK118
     have hfz21_0 := blk_frozen BK118.out 0
     have hfz21_1 := blk_frozen BK118.out 1
     have hfz21_2 := blk_frozen BK118.out 2
     obtain ⟨Ao22, co22, eo22⟩ := Kd.R_slice HO_123002.out
     subst eo22
     go_wp2
     refine bodyPost_ret (results_cell_row rfl _ _ gb118 33 #[.slice A0 l0.length c0, .slice A1 l1.length c1, .slice Ao22 x123002_1.length co22] (0, 0) _ rfl (by (with_reducible repeat (first | refine blk_drewN ?_ _ | refine blk_drew ?_ | refine blk_alloc ?_ _)); refine blk_put (cs := #[.slice A0 l0.length c0, .slice A1 l1.length c1, .slice none 0 0]) ?_ 2 _ rfl; (with_reducible repeat (first | refine blk_drewN ?_ _ | refine blk_drew ?_ | refine blk_alloc ?_ _)); refine blk_put (cs := #[.slice A0 l0.length c0, .slice none 0 0, .slice none 0 0]) ?_ 1 _ rfl; (with_reducible repeat (first | refine blk_drewN ?_ _ | refine blk_drew ?_ | refine blk_alloc ?_ _)); refine blk_put (cs := #[.slice none 0 0, .slice none 0 0, .slice none 0 0]) ?_ 0 _ rfl; (with_reducible repeat (first | refine blk_drewN ?_ _ | refine blk_drew ?_ | refine blk_alloc ?_ _)); exact BK118.out) Try.underlying33 rfl (by kernel_rfl)) rfl ?_
     exact ⟨_, _, _, by first | rfl | (simp [errW_none, errW_some] <;> rfl) | (simp [*, errW_none, errW_some] <;> rfl), by (with_reducible repeat (first | apply Kd.V_alloc | apply Kd.V_drewN | apply Kd.V_drew)); exact Kd.V_mono (Kd.V_far (p := ⟨gb118, 2, none⟩) (Kd.V_far (p := ⟨gb118, 1, none⟩) (Kd.V_far (p := ⟨gb118, 0, none⟩) (Kd.V_mono HO_123000.out (fun k_ hk => (⟨hk, hk.2.2.1⟩ : _ ∧ k_ ≠ gb118))) (fun _ hk => hk.2) (.slice A0 l0.length c0)) (fun _ hk => hk.2) (.slice A1 l1.length c1)) (fun _ hk => hk.2) (.slice Ao22 x123002_1.length co22)) (fun _ hk => ⟨hk.1.1, hk.1.2.1⟩), by (with_reducible repeat (first | apply Kd.V_alloc | apply Kd.V_drewN | apply Kd.V_drew)); exact Kd.V_mono (Kd.V_far (p := ⟨gb118, 2, none⟩) (Kd.V_far (p := ⟨gb118, 1, none⟩) (Kd.V_far (p := ⟨gb118, 0, none⟩) (Kd.V_mono HO_123001.out (fun k_ hk => (⟨hk, hk.2.2.1⟩ : _ ∧ k_ ≠ gb118))) (fun _ hk => hk.2) (.slice A0 l0.length c0)) (fun _ hk => hk.2) (.slice A1 l1.length c1)) (fun _ hk => hk.2) (.slice Ao22 x123002_1.length co22)) (fun _ hk => ⟨hk.1.1, hk.1.2.1⟩), by (with_reducible repeat (first | apply Kd.R_alloc | apply Kd.R_drewN | apply Kd.R_drew)); exact Kd.R_mono (far3 HO_123002.out BK118) (fun _ hk => hk.1), by repeat (first | (with_reducible first | exact HB.out | apply below_alloc | apply pw_below_drewN | apply below_drew1 | refine below_set ?_ GE118.out | refine below_set ?_ GE122.out) | exact HB.out)⟩
 ·
  rw [if_neg c4] at H
  exact absurd H (by simp)

end Go.Proofs.Ytnheknlmmmkbpaa.X

namespace Go.Proofs.Ytnheknlmmmkbpaa.X
open Go.RowKit Go.Proofs.YtnheknlmmmkbpaaW.PrintWords Go.Proofs.YtnheknlmmmkbpaaW.PrintLast Go.Proofs.YtnheknlmmmkbpaaW.PrintMore
attribute [local go_sem] max2_int min2_int max_two min_two max_three min_three max_four min_four   -- for this text's walks alone
set_option linter.unusedVariables false
set_option linter.unusedSimpArgs false

/-! ### headgatelaw31_awake: function 12 -/
def headgatelaw31_awake.f (k : Nat)  : Option (Bool) := (balance_Target.f k 48).bind fun bt125 => (if bt125.1 = 12 then (if bt125.2 = 0 then ((headgatelaw31_lists.f k (([3] : List Int)) (([2, 1] : List Int)) ([] : List Int)).bind fun bt133 => ((headgatelaw31_which.f k bt133.1 bt133.2.1 bt133.2.2 3).bind fun t142 => (if t142 = true then ((headgatelaw31_lists.f k (([3, 2] : List Int)) (([1] : List Int)) ([] : List Int)).bind fun bt149 => ((headgatelaw31_which.f k bt149.1 bt149.2.1 bt149.2.2 1).bind fun t158 => (some t158))) else (some false)))) else (some false)) else (some false))
theorem headgatelaw31_awake.mono : ∀ k, LeO (headgatelaw31_awake.f k ) (headgatelaw31_awake.f (k + 1) ) := by
 intro  k
 unfold headgatelaw31_awake.f
 repeat' first
   | (with_reducible exact balance_Target.mono _ _)
   | (with_reducible exact headgatelaw31_lists.mono _ _ _ _)
   | (with_reducible exact headgatelaw31_which.mono _ _ _ _ _)
   | (with_reducible exact LeO.refl _)
   | (with_reducible exact LeO.none _)
   | (with_reducible refine LeO.ite ?_ ?_)
   | (with_reducible refine LeO.bind ?_ (fun _ => ?_))
   | exact balance_Target.mono _ _
   | exact headgatelaw31_lists.mono _ _ _ _
   | exact headgatelaw31_which.mono _ _ _ _ _
   | exact LeO.none _
   | refine LeO.ite ?_ ?_
   | refine LeO.bind ?_ (fun _ => ?_)
set_option maxHeartbeats 2000000 in
set_option maxRecDepth 100000 in
theorem headgatelaw31_awake.calls (k : Nat)  (r : Bool) (w : World) (h : headgatelaw31_awake.f k  = some r) :
  Calls Try.prog 12 #[] w fun e w' => e = .returned (.bool r) ∧ Below w.heap.size w w' := by
 have HB := Aside0.mk (Below.refl w.heap.size w)
 have H : ((balance_Target.f k 48).bind fun bt125 => (if bt125.1 = 12 then (if bt125.2 = 0 then ((headgatelaw31_lists.f k (([3] : List Int)) (([2, 1] : List Int)) ([] : List Int)).bind fun bt133 => ((headgatelaw31_which.f k bt133.1 bt133.2.1 bt133.2.2 3).bind fun t142 => (if t142 = true then ((headgatelaw31_lists.f k (([3, 2] : List Int)) (([1] : List Int)) ([] : List Int)).bind fun bt149 => ((headgatelaw31_which.f k bt149.1 bt149.2.1 bt149.2.2 1).bind fun t158 => (some t158))) else (some false)))) else (some false)) else (some false))) = some r := h
 clear h
 replace H := Option.bind_eq_some_iff.mp H
 obtain ⟨⟨t125, t126⟩, A10, H⟩ := H
 replace H : (if t125 = 12 then (if t126 = 0 then ((headgatelaw31_lists.f k (([3] : List Int)) (([2, 1] : List Int)) ([] : List Int)).bind fun bt133 => ((headgatelaw31_which.f k bt133.1 bt133.2.1 bt133.2.2 3).bind fun t142 => (if t142 = true then ((headgatelaw31_lists.f k (([3, 2] : List Int)) (([1] : List Int)) ([] : List Int)).bind fun bt149 => ((headgatelaw31_which.f k bt149.1 bt149.2.1 bt149.2.2 1).bind fun t158 => (some t158))) else (some false)))) else (some false)) else (some false)) = some r := H
 have A1 := Aside0.mk A10
 clear A10
 by_cases c2 : t125 = 12
 ·
  rw [if_pos c2] at H
  have c2b0 : (t125 == 12) = true := beq_iff_eq.mpr c2
  have c2b1 : (t125 != 12) = false := bne_eq_false_iff_eq.mpr c2
  clear c2
  by_cases c3 : t126 = 0
  ·
   rw [if_pos c3] at H
   have c3b0 : (t126 == 0) = true := beq_iff_eq.mpr c3
   have c3b1 : (t126 != 0) = false := bne_eq_false_iff_eq.mpr c3
   clear c3
   obtain ⟨y127, hy127⟩ : ∃ y_ : List Int, y_ = (([3] : List Int)) := ⟨_, rfl⟩
   replace H : ((headgatelaw31_lists.f k y127 (([2, 1] : List Int)) ([] : List Int)).bind fun bt133 => ((headgatelaw31_which.f k bt133.1 bt133.2.1 bt133.2.2 3).bind fun t142 => (if t142 = true then ((headgatelaw31_lists.f k (([3, 2] : List Int)) (([1] : List Int)) ([] : List Int)).bind fun bt149 => ((headgatelaw31_which.f k bt149.1 bt149.2.1 bt149.2.2 1).bind fun t158 => (some t158))) else (some false)))) = some r := by first | (rw [hy127]; with_reducible exact H) | (have H2_ := (Option.bind_some _ _).symm.trans H; rw [hy127]; with_reducible exact H2_) | (have H2_ := (Option.bind_some _ _).symm.trans H; with_reducible exact H2_) | with_reducible exact H | (rw [hy127]; exact H) | exact H
   have Ny127 := Aside0.mk hy127
   clear hy127
   obtain ⟨y130, hy130⟩ : ∃ y_ : List Int, y_ = (([2, 1] : List Int)) := ⟨_, rfl⟩
   replace H : ((headgatelaw31_lists.f k y127 y130 ([] : List Int)).bind fun bt133 => ((headgatelaw31_which.f k bt133.1 bt133.2.1 bt133.2.2 3).bind fun t142 => (if t142 = true then ((headgatelaw31_lists.f k (([3, 2] : List Int)) (([1] : List Int)) ([] : List Int)).bind fun bt149 => ((headgatelaw31_which.f k bt149.1 bt149.2.1 bt149.2.2 1).bind fun t158 => (some t158))) else (some false)))) = some r := by first | (rw [hy130]; with_reducible exact H) | (have H2_ := (Option.bind_some _ _).symm.trans H; rw [hy130]; with_reducible exact H2_) | (have H2_ := (Option.bind_some _ _).symm.trans H; with_reducible exact H2_) | with_reducible exact H | (rw [hy130]; exact H) | exact H
   have Ny130 := Aside0.mk hy130
   clear hy130
   replace H := Option.bind_eq_some_iff.mp H
   obtain ⟨⟨t133, t136, t139⟩, A40, H⟩ := H
   replace H : ((headgatelaw31_which.f k t133 t136 t139 3).bind fun t142 => (if t142 = true then ((headgatelaw31_lists.f k (([3, 2] : List Int)) (([1] : List Int)) ([] : List Int)).bind fun bt149 => ((headgatelaw31_which.f k bt149.1 bt149.2.1 bt149.2.2 1).bind fun t158 => (some t158))) else (some false))) = some r := H
   have A4 := Aside0.mk A40
   clear A40
   replace H := Option.bind_eq_some_iff.mp H
   obtain ⟨t142, A50, H⟩ := H
   replace H : (if t142 = true then ((headgatelaw31_lists.f k (([3, 2] : List Int)) (([1] : List Int)) ([] : List Int)).bind fun bt149 => ((headgatelaw31_which.f k bt149.1 bt149.2.1 bt149.2.2 1).bind fun t158 => (some t158))) else (some false)) = some r := H
   have A5 := Aside0.mk A50
   clear A50
   by_cases c6 : t142 = true
   ·
    subst c6
    have H1 : ((headgatelaw31_lists.f k (([3, 2] : List Int)) (([1] : List Int)) ([] : List Int)).bind fun bt149 => ((headgatelaw31_which.f k bt149.1 bt149.2.1 bt149.2.2 1).bind fun t158 => (some t158))) = some r := by rw [if_pos rfl] at H; exact H
    clear H
    have H := H1
    clear H1
    obtain ⟨y143, hy143⟩ : ∃ y_ : List Int, y_ = (([3, 2] : List Int)) := ⟨_, rfl⟩
    replace H : ((headgatelaw31_lists.f k y143 (([1] : List Int)) ([] : List Int)).bind fun bt149 => ((headgatelaw31_which.f k bt149.1 bt149.2.1 bt149.2.2 1).bind fun t158 => (some t158))) = some r := by first | (rw [hy143]; with_reducible exact H) | (have H2_ := (Option.bind_some _ _).symm.trans H; rw [hy143]; with_reducible exact H2_) | (have H2_ := (Option.bind_some _ _).symm.trans H; with_reducible exact H2_) | with_reducible exact H | (rw [hy143]; exact H) | exact H
    have Ny143 := Aside0.mk hy143
    clear hy143
    obtain ⟨y146, hy146⟩ : ∃ y_ : List Int, y_ = (([1] : List Int)) := ⟨_, rfl⟩
    replace H : ((headgatelaw31_lists.f k y143 y146 ([] : List Int)).bind fun bt149 => ((headgatelaw31_which.f k bt149.1 bt149.2.1 bt149.2.2 1).bind fun t158 => (some t158))) = some r := by first | (rw [hy146]; with_reducible exact H) | (have H2_ := (Option.bind_some _ _).symm.trans H; rw [hy146]; with_reducible exact H2_) | (have H2_ := (Option.bind_some _ _).symm.trans H; with_reducible exact H2_) | with_reducible exact H | (rw [hy146]; exact H) | exact H
    have Ny146 := Aside0.mk hy146
    clear hy146
    replace H := Option.bind_eq_some_iff.mp H
    obtain ⟨⟨t149, t152, t155⟩, A70, H⟩ := H
    replace H : ((headgatelaw31_which.f k t149 t152 t155 1).bind fun t158 => (some t158)) = some r := H
    have A7 := Aside0.mk A70
    clear A70
    replace H := Option.bind_eq_some_iff.mp H
    obtain ⟨t158, A80, H⟩ := H
    replace H : (some t158) = some r := H
    have A8 := Aside0.mk A80
    clear A80
    obtain rfl := Option.some.inj H
    go_enter Try.func12, Try.ntmps12
    go_wp2_with (first | ((with_reducible refine gate_callee (f := 11) rfl ?_); refine goesL_ (some 4) rfl rfl Try.func11 (by kernel_rfl) rfl #[.int .i64 48] rfl (args_ (p := _)) ?_; (with_reducible refine (balance_Target.calls k 48 t125 t126 _ A1.out).mono ?_); rintro e w' ⟨rfl, ⟨nd, rfl⟩⟩; refine ⟨_, rfl, ?_⟩) | ((with_reducible refine gate_dst (N := 14) rfl ?_); (try (refine gate_guard (by rfl) ?_; dsimp only)); refine Kd.R_lit (Kd.int .i64) _ 3 ?hg (N := 14) ?hd (xs := ([3] : List Int)) (inner := [.int .i64 3]) (ok := fun _ => True) (okp := fun _ => True) ?hr ?hp (fun _ hk => hk) trivial (Below.refl _ _) (Nat.le_refl _) (by simp) ?_; (case hd => rfl); (case hg => rfl); (case hr => first | (go_simp; done) | (go_simp; rfl)); (case hp => exact (Reps.one (show Kd.M (Kd.int .i64) _ _ _ 3 [.int .i64 3] from rfl) (Reps.none _ _))); intro v128 w9 ho10 hb hg_ hnew_; clear hg_ hnew_; (first | rw [← Ny127.out] at ho10 | (simp only [Int.reduceToNat] at ho10; rw [← Ny127.out] at ho10)); have n0_ := Aside0.mk (Kd.R_lower ho10 (below_size (upH HB))); have n1_ := Aside0.mk (below_step (upH HB) hb); clear HB; have HO129 := n0_; have HB := n1_; clear n0_ n1_; clear hb ho10) | ((with_reducible refine gate_dst (N := 15) rfl ?_); (try (refine gate_guard (by rfl) ?_; dsimp only)); refine Kd.R_lit (Kd.int .i64) _ 3 ?hg (N := 15) ?hd (xs := ([2, 1] : List Int)) (inner := [.int .i64 2, .int .i64 1]) (ok := fun _ => True) (okp := fun _ => True) ?hr ?hp (fun _ hk => hk) trivial (Below.refl _ _) (Nat.le_refl _) (by simp) ?_; (case hd => rfl); (case hg => rfl); (case hr => first | (go_simp; done) | (go_simp; rfl)); (case hp => exact (Reps.one (show Kd.M (Kd.int .i64) _ _ _ 2 [.int .i64 2] from rfl) (Reps.one (show Kd.M (Kd.int .i64) _ _ _ 1 [.int .i64 1] from rfl) (Reps.none _ _)))); intro v131 w11 ho12 hb hg_ hnew_; clear hg_ hnew_; (first | rw [← Ny130.out] at ho12 | (simp only [Int.reduceToNat] at ho12; rw [← Ny130.out] at ho12)); have n0_ := Aside0.mk (Kd.R_elder' (upR HO129.out) (Kd.R_base ho12) hb); have n1_ := Aside0.mk (Kd.R_lower (Kd.R_new' ho12 (Kd.R_lt (upR HO129.out))) (below_size (upH HB))); have n2_ := Aside0.mk (below_step (upH HB) hb); clear HO129; clear HB; have HO129 := n0_; have HO132 := n1_; have HB := n2_; clear n0_ n1_ n2_; clear hb ho12; obtain ⟨Ao13, co13, eo13⟩ := Kd.R_slice HO129.out; subst eo13; obtain ⟨Ao14, co14, eo14⟩ := Kd.R_slice HO132.out; subst eo14) | (go_at_call 31; refine calls_of_args (args' := #[.slice Ao13 y127.length co13, .slice Ao14 y130.length co14, .slice none ([] : List Int).length 0]) (by first | rfl) ?_; (with_reducible refine (headgatelaw31_lists.calls k (fun k_ => some k_ = (.slice Ao13 y127.length co13 : Value).ownBlock) _ _ y127 (fun k_ => some k_ = (.slice Ao14 y130.length co14 : Value).ownBlock) _ _ y130 _ _ ([] : List Int) t133 t136 t139 _ ?side1 ?side2 ?side3 ?side4 A4.out).mono ?_); (case side1 => exact Kd.R_V (Kd.R_tight rfl (HO129.out))); (case side2 => exact Kd.R_V (Kd.R_tight rfl (HO132.out))); (case side3 => exact Kd.C_nil _ _); (case side4 => exact Nat.le_refl _); rintro e w15 ⟨v134, v137, v140, rfl, ho0, ho1, ho2, hb⟩; have n0_ := Aside0.mk (Kd.R_below (upR HO129.out) hb); have n1_ := Aside0.mk (Kd.R_below (upR HO132.out) hb); have n2_ := Aside0.mk (Kd.V_lower (Kd.V_mono (ok' := fun k_ => some k_ ≠ (v140 : Value).ownBlock) ho0 (fun k_ hk_ => hk_.2)) (below_size (upH HB))); have n3_ := Aside0.mk (Kd.V_lower (Kd.V_mono (ok' := fun k_ => some k_ ≠ (v140 : Value).ownBlock) ho1 (fun k_ hk_ => hk_.2)) (below_size (upH HB))); have n4_ := Aside0.mk (Kd.R_lower (Kd.R_mono (ok' := fun k_ => True) ho2 (fun _ hk_ => trivial)) (below_size (upH HB))); have n5_ := Aside0.mk (below_step (upH HB) hb); clear HO129; clear HO132; clear HB; have HO129 := n0_; have HO132 := n1_; have HO135 := n2_; have HO138 := n3_; have HO141 := n4_; have HB := n5_; clear n0_ n1_ n2_ n3_ n4_ n5_; (try clear hb); (try clear hb2); (try clear hk); (try clear hi); (try clear ho0); (try clear ho1); (try clear ho2); obtain ⟨Ao16, co16, eo16⟩ := Kd.V_slice HO135.out; subst eo16; obtain ⟨Ao17, co17, eo17⟩ := Kd.V_slice HO138.out; subst eo17; obtain ⟨Ao18, co18, eo18⟩ := Kd.R_slice HO141.out; subst eo18) | (go_at_call 22; refine calls_of_args (args' := #[.agg #[.slice Ao16 t133.length co16, .slice Ao17 t136.length co17, .slice Ao18 t139.length co18], .int .i64 3]) (by first | rfl) ?_; (with_reducible refine (headgatelaw31_which.calls k _ _ t133 _ _ t136 _ _ t139 3 true _ ?side1 ?side2 ?side3 ?side4 ?side5 ?side6 A5.out).mono ?_); (case side1 => exact upc (Kd.V_reads' HO135.out).2.2); (case side2 => exact (Kd.V_reads' HO135.out).2.1); (case side3 => exact upc (Kd.V_reads' HO138.out).2.2); (case side4 => exact (Kd.V_reads' HO138.out).2.1); (case side5 => exact upc (Kd.R_reads' HO141.out).2.2); (case side6 => exact (Kd.R_reads' HO141.out).2.1); rintro e w19 ⟨rfl, hb⟩; have n0_ := Aside0.mk (Kd.R_below (upR HO129.out) hb); have n1_ := Aside0.mk (Kd.R_below (upR HO132.out) hb); have n2_ := Aside0.mk (Kd.V_below (upV HO135.out) hb); have n3_ := Aside0.mk (Kd.V_below (upV HO138.out) hb); have n4_ := Aside0.mk (Kd.R_below (upR HO141.out) hb); have n5_ := Aside0.mk (below_step (upH HB) hb); clear HO129; clear HO132; clear HO135; clear HO138; clear HO141; clear HB; have HO129 := n0_; have HO132 := n1_; have HO135 := n2_; have HO138 := n3_; have HO141 := n4_; have HB := n5_; clear n0_ n1_ n2_ n3_ n4_ n5_; (try clear hb); (try clear hb2); (try clear hk); (try clear hi)) | ((with_reducible refine gate_dst (N := 20) rfl ?_); (try (refine gate_guard (by rfl) ?_; dsimp only)); refine Kd.R_lit (Kd.int .i64) _ 3 ?hg (N := 20) ?hd (xs := ([3, 2] : List Int)) (inner := [.int .i64 3, .int .i64 2]) (ok := fun _ => True) (okp := fun _ => True) ?hr ?hp (fun _ hk => hk) trivial (Below.refl _ _) (Nat.le_refl _) (by simp) ?_; (case hd => rfl); (case hg => rfl); (case hr => first | (go_simp; done) | (go_simp; rfl)); (case hp => exact (Reps.one (show Kd.M (Kd.int .i64) _ _ _ 3 [.int .i64 3] from rfl) (Reps.one (show Kd.M (Kd.int .i64) _ _ _ 2 [.int .i64 2] from rfl) (Reps.none _ _)))); intro v144 w20 ho21 hb hg_ hnew_; clear hg_ hnew_; (first | rw [← Ny143.out] at ho21 | (simp only [Int.reduceToNat] at ho21; rw [← Ny143.out] at ho21)); have n0_ := Aside0.mk (Kd.R_elder' (upR HO129.out) (Kd.R_base ho21) hb); have n1_ := Aside0.mk (Kd.R_elder' (upR HO132.out) (Kd.R_base ho21) hb); have n2_ := Aside0.mk (Kd.V_elder' (upV HO135.out) (Kd.R_base ho21) hb); have n3_ := Aside0.mk (Kd.V_elder' (upV HO138.out) (Kd.R_base ho21) hb); have n4_ := Aside0.mk (Kd.R_below (upR HO141.out) hb); have n5_ := Aside0.mk (Kd.R_lower (Kd.R_new' (Kd.R_new' ho21 (Kd.R_lt (upR HO129.out))) (Kd.R_lt (upR HO132.out))) (below_size (upH HB))); have n6_ := Aside0.mk (below_step (upH HB) hb); clear HO129; clear HO132; clear HO135; clear HO138; clear HO141; clear HB; have HO129 := n0_; have HO132 := n1_; have HO135 := n2_; have HO138 := n3_; have HO141 := n4_; have HO145 := n5_; have HB := n6_; clear n0_ n1_ n2_ n3_ n4_ n5_ n6_; clear hb ho21) | ((with_reducible refine gate_dst (N := 21) rfl ?_); (try (refine gate_guard (by rfl) ?_; dsimp only)); refine Kd.R_lit (Kd.int .i64) _ 3 ?hg (N := 21) ?hd (xs := ([1] : List Int)) (inner := [.int .i64 1]) (ok := fun _ => True) (okp := fun _ => True) ?hr ?hp (fun _ hk => hk) trivial (Below.refl _ _) (Nat.le_refl _) (by simp) ?_; (case hd => rfl); (case hg => rfl); (case hr => first | (go_simp; done) | (go_simp; rfl)); (case hp => exact (Reps.one (show Kd.M (Kd.int .i64) _ _ _ 1 [.int .i64 1] from rfl) (Reps.none _ _))); intro v147 w22 ho23 hb hg_ hnew_; clear hg_ hnew_; (first | rw [← Ny146.out] at ho23 | (simp only [Int.reduceToNat] at ho23; rw [← Ny146.out] at ho23)); have n0_ := Aside0.mk (Kd.R_elder' (upR HO129.out) (Kd.R_base ho23) hb); have n1_ := Aside0.mk (Kd.R_elder' (upR HO132.out) (Kd.R_base ho23) hb); have n2_ := Aside0.mk (Kd.V_elder' (upV HO135.out) (Kd.R_base ho23) hb); have n3_ := Aside0.mk (Kd.V_elder' (upV HO138.out) (Kd.R_base ho23) hb); have n4_ := Aside0.mk (Kd.R_below (upR HO141.out) hb); have n5_ := Aside0.mk (Kd.R_elder' (upR HO145.out) (Kd.R_base ho23) hb); have n6_ := Aside0.mk (Kd.R_lower (Kd.R_new' (Kd.R_new' (Kd.R_new' ho23 (Kd.R_lt (upR HO129.out))) (Kd.R_lt (upR HO132.out))) (Kd.R_lt (upR HO145.out))) (below_size (upH HB))); have n7_ := Aside0.mk (below_step (upH HB) hb); clear HO129; clear HO132; clear HO135; clear HO138; clear HO141; clear HO145; clear HB; have HO129 := n0_; have HO132 := n1_; have HO135 := n2_; have HO138 := n3_; have HO141 := n4_; have HO145 := n5_; have HO148 := n6_; have HB := n7_; clear n0_ n1_ n2_ n3_ n4_ n5_ n6_ n7_; clear hb ho23; obtain ⟨Ao24, co24, eo24⟩ := Kd.R_slice HO145.out; subst eo24; obtain ⟨Ao25, co25, eo25⟩ := Kd.R_slice HO148.out; subst eo25) | (go_at_call 31; refine calls_of_args (args' := #[.slice Ao24 y143.length co24, .slice Ao25 y146.length co25, .slice none ([] : List Int).length 0]) (by first | rfl) ?_; (with_reducible refine (headgatelaw31_lists.calls k (fun k_ => some k_ = (.slice Ao24 y143.length co24 : Value).ownBlock) _ _ y143 (fun k_ => some k_ = (.slice Ao25 y146.length co25 : Value).ownBlock) _ _ y146 _ _ ([] : List Int) t149 t152 t155 _ ?side1 ?side2 ?side3 ?side4 A7.out).mono ?_); (case side1 => exact Kd.R_V (Kd.R_tight rfl (Kd.R_apart' (HO145.out) (Kd.R_typed HO141.out) (by decide)))); (case side2 => exact Kd.R_V (Kd.R_tight rfl (Kd.R_apart' (HO148.out) (Kd.R_typed HO141.out) (by decide)))); (case side3 => exact Kd.C_nil _ _); (case side4 => exact Nat.le_refl _); rintro e w26 ⟨v150, v153, v156, rfl, ho0, ho1, ho2, hb⟩; have n0_ := Aside0.mk (Kd.R_below (upR HO129.out) hb); have n1_ := Aside0.mk (Kd.R_below (upR HO132.out) hb); have n2_ := Aside0.mk (Kd.V_elder' (upV HO135.out) (Kd.R_base ho2) hb); have n3_ := Aside0.mk (Kd.V_elder' (upV HO138.out) (Kd.R_base ho2) hb); have n4_ := Aside0.mk (Kd.R_elder' (upR HO141.out) (Kd.R_base ho2) hb); have n5_ := Aside0.mk (Kd.R_below (upR HO145.out) hb); have n6_ := Aside0.mk (Kd.R_below (upR HO148.out) hb); have n7_ := Aside0.mk (Kd.V_lower (Kd.V_mono (ok' := fun k_ => some k_ ≠ (v156 : Value).ownBlock ∧ some k_ ≠ (.slice Ao13 y127.length co13 : Value).ownBlock ∧ some k_ ≠ (.slice Ao14 y130.length co14 : Value).ownBlock ∧ some k_ ≠ (.slice Ao18 t139.length co18 : Value).ownBlock) ho0 (fun k_ hk_ => ⟨hk_.2, Or.elim hk_.1 (fun hs_ => Or.elim hs_ (fun hs_ => ((Kd.R_apart' (HO145.out) (Kd.R_typed HO141.out) (by decide)).1 k_ hs_.symm).1.1.1.2) (fun hs_ => ((Kd.R_apart' (HO148.out) (Kd.R_typed HO141.out) (by decide)).1 k_ hs_.symm).1.1.1.2)) (fun hn_ => (Kd.fresh' (Kd.R_lt (upR HO129.out)) k_ hn_)), Or.elim hk_.1 (fun hs_ => Or.elim hs_ (fun hs_ => ((Kd.R_apart' (HO145.out) (Kd.R_typed HO141.out) (by decide)).1 k_ hs_.symm).1.1.2) (fun hs_ => ((Kd.R_apart' (HO148.out) (Kd.R_typed HO141.out) (by decide)).1 k_ hs_.symm).1.1.2)) (fun hn_ => (Kd.fresh' (Kd.R_lt (upR HO132.out)) k_ hn_)), Or.elim hk_.1 (fun hs_ => Or.elim hs_ (fun hs_ => ((Kd.R_apart' (HO145.out) (Kd.R_typed HO141.out) (by decide)).1 k_ hs_.symm).2) (fun hs_ => ((Kd.R_apart' (HO148.out) (Kd.R_typed HO141.out) (by decide)).1 k_ hs_.symm).2)) (fun hn_ => (Kd.fresh' (Kd.R_lt (upR HO141.out)) k_ hn_))⟩)) (below_size (upH HB))); have n8_ := Aside0.mk (Kd.V_lower (Kd.V_mono (ok' := fun k_ => some k_ ≠ (v156 : Value).ownBlock ∧ some k_ ≠ (.slice Ao13 y127.length co13 : Value).ownBlock ∧ some k_ ≠ (.slice Ao14 y130.length co14 : Value).ownBlock ∧ some k_ ≠ (.slice Ao18 t139.length co18 : Value).ownBlock) ho1 (fun k_ hk_ => ⟨hk_.2, Or.elim hk_.1 (fun hs_ => Or.elim hs_ (fun hs_ => ((Kd.R_apart' (HO145.out) (Kd.R_typed HO141.out) (by decide)).1 k_ hs_.symm).1.1.1.2) (fun hs_ => ((Kd.R_apart' (HO148.out) (Kd.R_typed HO141.out) (by decide)).1 k_ hs_.symm).1.1.1.2)) (fun hn_ => (Kd.fresh' (Kd.R_lt (upR HO129.out)) k_ hn_)), Or.elim hk_.1 (fun hs_ => Or.elim hs_ (fun hs_ => ((Kd.R_apart' (HO145.out) (Kd.R_typed HO141.out) (by decide)).1 k_ hs_.symm).1.1.2) (fun hs_ => ((Kd.R_apart' (HO148.out) (Kd.R_typed HO141.out) (by decide)).1 k_ hs_.symm).1.1.2)) (fun hn_ => (Kd.fresh' (Kd.R_lt (upR HO132.out)) k_ hn_)), Or.elim hk_.1 (fun hs_ => Or.elim hs_ (fun hs_ => ((Kd.R_apart' (HO145.out) (Kd.R_typed HO141.out) (by decide)).1 k_ hs_.symm).2) (fun hs_ => ((Kd.R_apart' (HO148.out) (Kd.R_typed HO141.out) (by decide)).1 k_ hs_.symm).2)) (fun hn_ => (Kd.fresh' (Kd.R_lt (upR HO141.out)) k_ hn_))⟩)) (below_size (upH HB))); have n9_ := Aside0.mk (Kd.R_lower (Kd.R_new' (Kd.R_mono (ok' := fun k_ => True) ho2 (fun _ hk_ => trivial)) (Kd.R_lt (upR HO141.out))) (below_size (upH HB))); have n10_ := Aside0.mk (below_step (upH HB) hb); clear HO129; clear HO132; clear HO135; clear HO138; clear HO141; clear HO145; clear HO148; clear HB; have HO129 := n0_; have HO132 := n1_; have HO135 := n2_; have HO138 := n3_; have HO141 := n4_; have HO145 := n5_; have HO148 := n6_; have HO151 := n7_; have HO154 := n8_; have HO157 := n9_; have HB := n10_; clear n0_ n1_ n2_ n3_ n4_ n5_ n6_ n7_ n8_ n9_ n10_; (try clear hb); (try clear hb2); (try clear hk); (try clear hi); (try clear ho0); (try clear ho1); (try clear ho2); obtain ⟨Ao27, co27, eo27⟩ := Kd.V_slice HO151.out; subst eo27; obtain ⟨Ao28, co28, eo28⟩ := Kd.V_slice HO154.out; subst eo28; obtain ⟨Ao29, co29, eo29⟩ := Kd.R_slice HO157.out; subst eo29) | (go_at_call 22; refine calls_of_args (args' := #[.agg #[.slice Ao27 t149.length co27, .slice Ao28 t152.length co28, .slice Ao29 t155.length co29], .int .i64 1]) (by first | rfl) ?_; (with_reducible refine (headgatelaw31_which.calls k _ _ t149 _ _ t152 _ _ t155 1 t158 _ ?side1 ?side2 ?side3 ?side4 ?side5 ?side6 A8.out).mono ?_); (case side1 => exact upc (Kd.V_reads' HO151.out).2.2); (case side2 => exact (Kd.V_reads' HO151.out).2.1); (case side3 => exact upc (Kd.V_reads' HO154.out).2.2); (case side4 => exact (Kd.V_reads' HO154.out).2.1); (case side5 => exact upc (Kd.R_reads' HO157.out).2.2); (case side6 => exact (Kd.R_reads' HO157.out).2.1); rintro e w30 ⟨rfl, hb⟩; have n0_ := Aside0.mk (Kd.R_below (upR HO129.out) hb); have n1_ := Aside0.mk (Kd.R_below (upR HO132.out) hb); have n2_ := Aside0.mk (Kd.V_below (upV HO135.out) hb); have n3_ := Aside0.mk (Kd.V_below (upV HO138.out) hb); have n4_ := Aside0.mk (Kd.R_below (upR HO141.out) hb); have n5_ := Aside0.mk (Kd.R_below (upR HO145.out) hb); have n6_ := Aside0.mk (Kd.R_below (upR HO148.out) hb); have n7_ := Aside0.mk (Kd.V_below (upV HO151.out) hb); have n8_ := Aside0.mk (Kd.V_below (upV HO154.out) hb); have n9_ := Aside0.mk (Kd.R_below (upR HO157.out) hb); have n10_ := Aside0.mk (below_step (upH HB) hb); clear HO129; clear HO132; clear HO135; clear HO138; clear HO141; clear HO145; clear HO148; clear HO151; clear HO154; clear HO157; clear HB; have HO129 := n0_; have HO132 := n1_; have HO135 := n2_; have HO138 := n3_; have HO141 := n4_; have HO145 := n5_; have HO148 := n6_; have HO151 := n7_; have HO154 := n8_; have HO157 := n9_; have HB := n10_; clear n0_ n1_ n2_ n3_ n4_ n5_ n6_ n7_ n8_ n9_ n10_; (try clear hb); (try clear hb2); (try clear hk); (try clear hi)))
    go_ret
    exact ⟨by first | rfl | (simp [errW_none, errW_some] <;> rfl) | (simp [*, errW_none, errW_some] <;> rfl), by repeat (first | (with_reducible first | exact HB.out | apply below_alloc | apply pw_below_drewN | apply below_drew1) | exact HB.out)⟩
   ·
    replace c6 := Bool.eq_false_iff.mpr c6
    subst c6
    have H1 : (some false) = some r := by rw [if_neg (show ¬ (false = true) by decide)] at H; exact H
    clear H
    have H := H1
    clear H1
    obtain rfl := Option.some.inj H
    go_enter Try.func12, Try.ntmps12
    go_wp2_with (first | ((with_reducible refine gate_callee (f := 11) rfl ?_); refine goesL_ (some 4) rfl rfl Try.func11 (by kernel_rfl) rfl #[.int .i64 48] rfl (args_ (p := _)) ?_; (with_reducible refine (balance_Target.calls k 48 t125 t126 _ A1.out).mono ?_); rintro e w' ⟨rfl, ⟨nd, rfl⟩⟩; refine ⟨_, rfl, ?_⟩) | ((with_reducible refine gate_dst (N := 14) rfl ?_); (try (refine gate_guard (by rfl) ?_; dsimp only)); refine Kd.R_lit (Kd.int .i64) _ 3 ?hg (N := 14) ?hd (xs := ([3] : List Int)) (inner := [.int .i64 3]) (ok := fun _ => True) (okp := fun _ => True) ?hr ?hp (fun _ hk => hk) trivial (Below.refl _ _) (Nat.le_refl _) (by simp) ?_; (case hd => rfl); (case hg => rfl); (case hr => first | (go_simp; done) | (go_simp; rfl)); (case hp => exact (Reps.one (show Kd.M (Kd.int .i64) _ _ _ 3 [.int .i64 3] from rfl) (Reps.none _ _))); intro v128 w31 ho32 hb hg_ hnew_; clear hg_ hnew_; (first | rw [← Ny127.out] at ho32 | (simp only [Int.reduceToNat] at ho32; rw [← Ny127.out] at ho32)); have n0_ := Aside0.mk (Kd.R_lower ho32 (below_size (upH HB))); have n1_ := Aside0.mk (below_step (upH HB) hb); clear HB; have HO129 := n0_; have HB := n1_; clear n0_ n1_; clear hb ho32) | ((with_reducible refine gate_dst (N := 15) rfl ?_); (try (refine gate_guard (by rfl) ?_; dsimp only)); refine Kd.R_lit (Kd.int .i64) _ 3 ?hg (N := 15) ?hd (xs := ([2, 1] : List Int)) (inner := [.int .i64 2, .int .i64 1]) (ok := fun _ => True) (okp := fun _ => True) ?hr ?hp (fun _ hk => hk) trivial (Below.refl _ _) (Nat.le_refl _) (by simp) ?_; (case hd => rfl); (case hg => rfl); (case hr => first | (go_simp; done) | (go_simp; rfl)); (case hp => exact (Reps.one (show Kd.M (Kd.int .i64) _ _ _ 2 [.int .i64 2] from rfl) (Reps.one (show Kd.M (Kd.int .i64) _ _ _ 1 [.int .i64 1] from rfl) (Reps.none _ _)))); intro v131 w33 ho34 hb hg_ hnew_; clear hg_ hnew_; (first | rw [← Ny130.out] at ho34 | (simp only [Int.reduceToNat] at ho34; rw [← Ny130.out] at ho34)); have n0_ := Aside0.mk (Kd.R_elder' (upR HO129.out) (Kd.R_base ho34) hb); have n1_ := Aside0.mk (Kd.R_lower (Kd.R_new' ho34 (Kd.R_lt (upR HO129.out))) (below_size (upH HB))); have n2_ := Aside0.mk (below_step (upH HB) hb); clear HO129; clear HB; have HO129 := n0_; have HO132 := n1_; have HB := n2_; clear n0_ n1_ n2_; clear hb ho34; obtain ⟨Ao35, co35, eo35⟩ := Kd.R_slice HO129.out; subst eo35; obtain ⟨Ao36, co36, eo36⟩ := Kd.R_slice HO132.out; subst eo36) | (go_at_call 31; refine calls_of_args (args' := #[.slice Ao35 y127.length co35, .slice Ao36 y130.length co36, .slice none ([] : List Int).length 0]) (by first | rfl) ?_; (with_reducible refine (headgatelaw31_lists.calls k (fun k_ => some k_ = (.slice Ao35 y127.length co35 : Value).ownBlock) _ _ y127 (fun k_ => some k_ = (.slice Ao36 y130.length co36 : Value).ownBlock) _ _ y130 _ _ ([] : List Int) t133 t136 t139 _ ?side1 ?side2 ?side3 ?side4 A4.out).mono ?_); (case side1 => exact Kd.R_V (Kd.R_tight rfl (HO129.out))); (case side2 => exact Kd.R_V (Kd.R_tight rfl (HO132.out))); (case side3 => exact Kd.C_nil _ _); (case side4 => exact Nat.le_refl _); rintro e w37 ⟨v134, v137, v140, rfl, ho0, ho1, ho2, hb⟩; have n0_ := Aside0.mk (Kd.R_below (upR HO129.out) hb); have n1_ := Aside0.mk (Kd.R_below (upR HO132.out) hb); have n2_ := Aside0.mk (Kd.V_lower (Kd.V_mono (ok' := fun k_ => some k_ ≠ (v140 : Value).ownBlock) ho0 (fun k_ hk_ => hk_.2)) (below_size (upH HB))); have n3_ := Aside0.mk (Kd.V_lower (Kd.V_mono (ok' := fun k_ => some k_ ≠ (v140 : Value).ownBlock) ho1 (fun k_ hk_ => hk_.2)) (below_size (upH HB))); have n4_ := Aside0.mk (Kd.R_lower (Kd.R_mono (ok' := fun k_ => True) ho2 (fun _ hk_ => trivial)) (below_size (upH HB))); have n5_ := Aside0.mk (below_step (upH HB) hb); clear HO129; clear HO132; clear HB; have HO129 := n0_; have HO132 := n1_; have HO135 := n2_; have HO138 := n3_; have HO141 := n4_; have HB := n5_; clear n0_ n1_ n2_ n3_ n4_ n5_; (try clear hb); (try clear hb2); (try clear hk); (try clear hi); (try clear ho0); (try clear ho1); (try clear ho2); obtain ⟨Ao38, co38, eo38⟩ := Kd.V_slice HO135.out; subst eo38; obtain ⟨Ao39, co39, eo39⟩ := Kd.V_slice HO138.out; subst eo39; obtain ⟨Ao40, co40, eo40⟩ := Kd.R_slice HO141.out; subst eo40) | (go_at_call 22; refine calls_of_args (args' := #[.agg #[.slice Ao38 t133.length co38, .slice Ao39 t136.length co39, .slice Ao40 t139.length co40], .int .i64 3]) (by first | rfl) ?_; (with_reducible refine (headgatelaw31_which.calls k _ _ t133 _ _ t136 _ _ t139 3 false _ ?side1 ?side2 ?side3 ?side4 ?side5 ?side6 A5.out).mono ?_); (case side1 => exact upc (Kd.V_reads' HO135.out).2.2); (case side2 => exact (Kd.V_reads' HO135.out).2.1); (case side3 => exact upc (Kd.V_reads' HO138.out).2.2); (case side4 => exact (Kd.V_reads' HO138.out).2.1); (case side5 => exact upc (Kd.R_reads' HO141.out).2.2); (case side6 => exact (Kd.R_reads' HO141.out).2.1); rintro e w41 ⟨rfl, hb⟩; have n0_ := Aside0.mk (Kd.R_below (upR HO129.out) hb); have n1_ := Aside0.mk (Kd.R_below (upR HO132.out) hb); have n2_ := Aside0.mk (Kd.V_below (upV HO135.out) hb); have n3_ := Aside0.mk (Kd.V_below (upV HO138.out) hb); have n4_ := Aside0.mk (Kd.R_below (upR HO141.out) hb); have n5_ := Aside0.mk (below_step (upH HB) hb); clear HO129; clear HO132; clear HO135; clear HO138; clear HO141; clear HB; have HO129 := n0_; have HO132 := n1_; have HO135 := n2_; have HO138 := n3_; have HO141 := n4_; have HB := n5_; clear n0_ n1_ n2_ n3_ n4_ n5_; (try clear hb); (try clear hb2); (try clear hk); (try clear hi)))
    go_ret
    exact ⟨by first | rfl | (simp [errW_none, errW_some] <;> rfl) | (simp [*, errW_none, errW_some] <;> rfl), by repeat (first | (with_reducible first | exact HB.out | apply below_alloc | apply pw_below_drewN | apply below_drew1) | exact HB.out)⟩
  ·
   rw [if_neg c3] at H
   have c3b0 : (t126 == 0) = false := beq_eq_false_iff_ne.mpr c3
   have c3b1 : (t126 != 0) = true := bne_iff_ne.mpr c3
   obtain rfl := Option.some.inj H
   go_enter Try.func12, Try.ntmps12
   go_wp2_with (first | ((with_reducible refine gate_callee (f := 11) rfl ?_); refine goesL_ (some 4) rfl rfl Try.func11 (by kernel_rfl) rfl #[.int .i64 48] rfl (args_ (p := _)) ?_; (with_reducible refine (balance_Target.calls k 48 t125 t126 _ A1.out).mono ?_); rintro e w' ⟨rfl, ⟨nd, rfl⟩⟩; refine ⟨_, rfl, ?_⟩))
   go_ret
   exact ⟨by first | rfl | (simp [errW_none, errW_some] <;> rfl) | (simp [*, errW_none, errW_some] <;> rfl), by repeat (first | (with_reducible first | exact HB.out | apply below_alloc | apply pw_below_drewN | apply below_drew1) | exact HB.out)⟩
 ·
  rw [if_neg c2] at H
  have c2b0 : (t125 == 12) = false := beq_eq_false_iff_ne.mpr c2
  have c2b1 : (t125 != 12) = true := bne_iff_ne.mpr c2
  obtain rfl := Option.some.inj H
  go_enter Try.func12, Try.ntmps12
  go_wp2_with (first | ((with_reducible refine gate_callee (f := 11) rfl ?_); refine goesL_ (some 4) rfl rfl Try.func11 (by kernel_rfl) rfl #[.int .i64 48] rfl (args_ (p := _)) ?_; (with_reducible refine (balance_Target.calls k 48 t125 t126 _ A1.out).mono ?_); rintro e w' ⟨rfl, ⟨nd, rfl⟩⟩; refine ⟨_, rfl, ?_⟩))
  go_ret
  exact ⟨by first | rfl | (simp [errW_none, errW_some] <;> rfl) | (simp [*, errW_none, errW_some] <;> rfl), by repeat (first | (with_reducible first | exact HB.out | apply below_alloc | apply pw_below_drewN | apply below_drew1) | exact HB.out)⟩

end Go.Proofs.Ytnheknlmmmkbpaa.X
