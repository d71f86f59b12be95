/- What Go functions of this seat compute, told as Lean functions, and that each call of the Go code comes to that answer; for a law: its row, for every input. Written by a program of the session. -/
import Derived.Test.YtaofihdmgdpenaaX0
import Derived.Test.YtaofihdmgdpenaaX2
import Derived.Test.YtaofihdmgdpenaaX17
namespace Go.Proofs.Ytaofihdmgdpenaa.X
open Go.RowKit Go.Proofs.YtaofihdmgdpenaaW.PrintWords Go.Proofs.YtaofihdmgdpenaaW.PrintLast Go.Proofs.YtaofihdmgdpenaaW.PrintMore
attribute [local go_sem] max2_int min2_int max_two min_two max_three min_three max_four min_four   -- for this text's walks alone
set_option linter.unusedVariables false
set_option linter.unusedSimpArgs false

/-! ### headgatelaw07_lists: function 42 -/
def headgatelaw07_lists.l0 : Nat → List Int → Int → List Int → List Int → List Bool → Option (List Int × List Int × List Bool)
 | 0, _, _, _, _, _ => none
 | k + 1, x2, x8, x176000, x176001, x176002 => if x8 < (x2.length : Int) then (if 0 ≤ x8 then (if 0 ≤ (rd x2 x8) then (if (rd x2 x8) < (x176002.length : Int) then (headgatelaw07_lists.l0 k x2 (wrap64 (x8 + 1)) x176000 x176001 (x176002.set ((rd x2 x8) : Int).toNat true)) else (none)) else (none)) else (none)) else (some (x176000, x176001, x176002))
def headgatelaw07_lists.f (k : Nat) (l0 : List Int) (l1 : List Int) (l2 : List Int) : Option (List Int × List Int × List Bool) := if 8 ≤ 281474976710656 then (headgatelaw07_lists.l0 k l2 0 l0 l1 (List.replicate 8 false)) else (none)
theorem headgatelaw07_lists.mono_l : ∀ k, (∀ y0 y1 y2 y3 y4, LeO (headgatelaw07_lists.l0 k y0 y1 y2 y3 y4) (headgatelaw07_lists.l0 (k + 1) y0 y1 y2 y3 y4))
 | 0 => fun _ _ _ _ _ r h => by simp [headgatelaw07_lists.l0] at h
 | k + 1 => by
  have ih0 := headgatelaw07_lists.mono_l k
  ·
   intro y0 y1 y2 y3 y4
   unfold headgatelaw07_lists.l0
   repeat' first
   | (with_reducible exact ih0 _ _ _ _ _)
   | (with_reducible exact LeO.refl _)
   | (with_reducible exact LeO.none _)
   | (with_reducible refine LeO.ite ?_ ?_)
   | (with_reducible refine LeO.bind ?_ (fun _ => ?_))
   | exact ih0 _ _ _ _ _
   | exact LeO.none _
   | refine LeO.ite ?_ ?_
   | refine LeO.bind ?_ (fun _ => ?_)
theorem headgatelaw07_lists.mono : ∀ a0 a1 a2 k, LeO (headgatelaw07_lists.f k a0 a1 a2) (headgatelaw07_lists.f (k + 1) a0 a1 a2) := by
 intro a0 a1 a2 k
 have ih0 := headgatelaw07_lists.mono_l k
 unfold headgatelaw07_lists.f
 repeat' first
   | (with_reducible exact ih0 _ _ _ _ _)
   | (with_reducible exact LeO.refl _)
   | (with_reducible exact LeO.none _)
   | (with_reducible refine LeO.ite ?_ ?_)
   | (with_reducible refine LeO.bind ?_ (fun _ => ?_))
   | exact ih0 _ _ _ _ _
   | exact LeO.none _
   | refine LeO.ite ?_ ?_
   | refine LeO.bind ?_ (fun _ => ?_)
def headgatelaw07_lists.T5 : Bool × List (List Nat × List Nat) := (true, [([], []), ([0], [0]), ([], []), ([], []), ([2, 3], [2, 3]), ([4], [4]), ([1, 5, 0, 1, 2, 3, 4, 5], [1, 5]), ([6, 0, 1, 2, 3, 4, 5], [6])])
def headgatelaw07_lists.B5 : List Nat := [0, 1, 0, 0, 12, 28, 63, 127]
theorem headgatelaw07_lists.tab5 : rtab .any (opsOf Try.f42 5) = headgatelaw07_lists.T5 := by kernel_rfl
theorem headgatelaw07_lists.bits5 : waitsOk headgatelaw07_lists.T5.2 headgatelaw07_lists.B5 = true := by kernel_rfl
set_option maxHeartbeats 2000000 in
set_option maxRecDepth 100000 in
theorem headgatelaw07_lists.calls (k : Nat) (P0_ : Nat → Prop) (A0 : Option Addr) (c0 : Nat) (l0 : List Int) (P1_ : Nat → Prop) (A1 : Option Addr) (c1 : Nat) (l1 : List Int) (A2 : Option Addr) (c2 : Nat) (l2 : List Int) (r1 : List Int) (r2 : List Int) (r3 : List Bool) (w : World) (hs0 : Kd.V (Kd.int .i64) 3 w w.heap.size (fun k_ => P0_ k_) (.slice A0 l0.length c0) l0) (hs1 : Kd.V (Kd.int .i64) 3 w w.heap.size (fun k_ => P1_ k_) (.slice A1 l1.length c1) l1) (hr2 : Kd.C (Kd.int .i64) w A2 l2.length l2) (hc2 : l2.length ≤ c2) (h : headgatelaw07_lists.f k l0 l1 l2 = some (r1, r2, r3)) :
  Calls Try.prog 42 #[.slice A0 l0.length c0, .slice A1 l1.length c1, .slice A2 l2.length c2] w fun e w' => ∃ v0_ v1_ v2_ : Value, e = .returned (.agg #[v0_, v1_, v2_]) ∧ Kd.V (Kd.int .i64) 3 w' w.heap.size (fun k_ => ((P0_ k_ ∨ P1_ k_) ∨ w.heap.size ≤ k_) ∧ some k_ ≠ (v2_ : Value).ownBlock) v0_ r1 ∧ Kd.V (Kd.int .i64) 3 w' w.heap.size (fun k_ => ((P0_ k_ ∨ P1_ k_) ∨ w.heap.size ≤ k_) ∧ some k_ ≠ (v2_ : Value).ownBlock) v1_ r2 ∧ Kd.R Kd.bool 4 w' w.heap.size (fun k_ => (w.heap.size ≤ k_)) v2_ r3 ∧ Below w.heap.size w w' := by
 have hu25 := Try.underlying25
 have HO0 := Aside0.mk (show Kd.V (Kd.int .i64) 3 w w.heap.size (fun k_ => ((P0_ k_ ∨ P1_ k_) ∨ w.heap.size ≤ k_)) (.slice A0 l0.length c0) l0 from Kd.V_mono hs0 (fun k_ hk => .inl (.inl hk)))
 have HO1 := Aside0.mk (show Kd.V (Kd.int .i64) 3 w w.heap.size (fun k_ => ((P0_ k_ ∨ P1_ k_) ∨ w.heap.size ≤ k_)) (.slice A1 l1.length c1) l1 from Kd.V_mono hs1 (fun k_ hk => .inl (.inr hk)))
 have HR2 := Aside0.mk hr2
 have HC2 := Aside0.mk hc2
 clear hr2 hc2
 have HB := Aside0.mk (Below.refl w.heap.size w)
 have H : (if 8 ≤ 281474976710656 then (headgatelaw07_lists.l0 k l2 0 l0 l1 (List.replicate 8 false)) else (none)) = some (r1, r2, r3) := h
 clear h
 by_cases c4 : 8 ≤ 281474976710656
 ·
  rw [if_pos c4] at H
  have c4b0 := eq_true c4
  have c4b1 : decide (8 ≤ 281474976710656) = true := decide_eq_true c4
  clear c4
  obtain ⟨y172, hy172⟩ : ∃ y_ : List Bool, y_ = (List.replicate 8 false) := ⟨_, rfl⟩
  replace H : (headgatelaw07_lists.l0 k l2 0 l0 l1 y172) = some (r1, r2, r3) := by first | (rw [hy172]; with_reducible exact H) | (have H2_ := (Option.bind_some _ _).symm.trans H; rw [hy172]; with_reducible exact H2_) | (have H2_ := (Option.bind_some _ _).symm.trans H; with_reducible exact H2_) | with_reducible exact H | (rw [hy172]; exact H) | exact H
  have Ny172 := Aside0.mk hy172
  clear hy172
  have H' := Aside0.mk H
  clear H
  go_enter Try.func42, Try.ntmps42
  go_wp2_with (first | ((with_reducible refine gate_dst (N := 6) rfl ?_); refine box_event ?hg (N := 6) ?hd (cs := #[.slice none 0 0, .slice none 0 0, .slice none 0 0]) (t := 25) ?hr ?_; (case hd => rfl); (case hg => rfl); (case hr => first | (go_simp; done) | (go_simp; rfl)); intro gb171 hg w5 hbox hb; have n0_ := Aside0.mk (Kd.V_below (Kd.V_elderB (upV HO0.out) gb171 (Nat.le_of_eq hg.symm)) hb); have n1_ := Aside0.mk (Kd.V_below (Kd.V_elderB (upV HO1.out) gb171 (Nat.le_of_eq hg.symm)) hb); have n2_ := Aside0.mk (below_step (upH HB) hb); have n3_ := Aside0.mk (hbox); have n4_ := Aside0.mk ((by rw [hg]; exact (below_size (upH HB)) : w.heap.size ≤ gb171)); have n5_ := Aside0.mk ((by rw [hg]; exact (below_size (upH HB)) : w.heap.size ≤ gb171)); clear HO0; clear HO1; clear HB; have HO0 := n0_; have HO1 := n1_; have HB := n2_; have BK171 := n3_; have GW171 := n4_; have GE171 := n5_; clear n0_ n1_ n2_ n3_ n4_ n5_; clear hb hbox hg) | ((with_reducible refine gate_dst (N := 11) rfl ?_); refine Kd.R_make Kd.bool _ 4 rfl (N := 11) rfl 23 _ _ rfl 8 rfl rfl Try.underlying23 (.bool false) 1 info4 rfl (by decide) (by omega) false (ok := fun _ => True) (okp := fun _ => True) rfl (fun _ hk => hk) trivial (by omega) (by omega) (Below.refl _ _) (Nat.le_refl _) ?_; intro v173 w6 ho7 hb hg_ hnew_; clear hg_ hnew_; (first | rw [← Ny172.out] at ho7 | (simp only [Int.reduceToNat] at ho7; rw [← Ny172.out] at ho7)); have n0_ := Aside0.mk (Kd.V_elder' (upV HO0.out) (Kd.R_base ho7) hb); have n1_ := Aside0.mk (Kd.V_elder' (upV HO1.out) (Kd.R_base ho7) hb); have n2_ := Aside0.mk (Kd.R_lower (Kd.R_newM (M := fun k_ => (w.heap.size ≤ k_)) ho7 (below_size (upH HB)) (fun k_ h_ => h_)) (below_size (upH HB))); have n3_ := Aside0.mk (blkB BK171 hb); have n4_ := Aside0.mk (below_step (upH HB) hb); clear HO0; clear HO1; clear BK171; clear HB; have HO0 := n0_; have HO1 := n1_; have HO174 := n2_; have BK171 := n3_; have HB := n4_; clear n0_ n1_ n2_ n3_ n4_; clear hb ho7; obtain ⟨Ao8, co8, eo8⟩ := Kd.R_slice HO174.out; subst eo8) | ((with_reducible refine gate_dst (N := 7) rfl ?_); refine box_event ?hg (N := 7) ?hd (cs := #[.slice none 0 0, .slice none 0 0, .slice none 0 0]) (t := 25) ?hr ?_; (case hd => rfl); (case hg => rfl); (case hr => first | (go_simp; done) | (go_simp; rfl)); intro gb175 hg w9 hbox hb; have n0_ := Aside0.mk (Kd.V_below (Kd.V_elderB (upV HO0.out) gb175 (Nat.le_of_eq hg.symm)) hb); have n1_ := Aside0.mk (Kd.V_below (Kd.V_elderB (upV HO1.out) gb175 (Nat.le_of_eq hg.symm)) hb); have n2_ := Aside0.mk (Kd.R_below (upR HO174.out) hb); have n3_ := Aside0.mk (blkB BK171 hb); have n4_ := Aside0.mk (below_step (upH HB) hb); have n5_ := Aside0.mk (hbox); have n6_ := Aside0.mk ((by rw [hg]; exact (below_size (upH HB)) : w.heap.size ≤ gb175)); have n7_ := Aside0.mk ((by rw [hg]; exact (below_size (upH HB)) : w.heap.size ≤ gb175)); have n8_ := Aside0.mk ((by rw [hg]; exact Nat.ne_of_lt (blk_lt (g := gb171) (o := .cells #[.slice none 0 0, .slice none 0 0, .slice none 0 0] 25 (0, 0)) (upB BK171)) : gb171 ≠ gb175)); have n9_ := Aside0.mk ((by rw [hg]; exact Nat.ne_of_gt (blk_lt (g := gb171) (o := .cells #[.slice none 0 0, .slice none 0 0, .slice none 0 0] 25 (0, 0)) (upB BK171)) : gb175 ≠ gb171)); clear HO0; clear HO1; clear HO174; clear BK171; clear HB; have HO0 := n0_; have HO1 := n1_; have HO174 := n2_; have BK171 := n3_; have HB := n4_; have BK175 := n5_; have GW175 := n6_; have GE175 := n7_; have NB171_175 := n8_; have NB175_171 := n9_; clear n0_ n1_ n2_ n3_ n4_ n5_ n6_ n7_ n8_ n9_; clear hb hbox hg; have hnb10 := NB175_171.out; have hnc10 := NB171_175.out; have hcz11_0 := cell0 BK175; have hcz11_1 := cell1 BK175; have hcz11_2 := cell2 BK175; have hfz11_0 := blk_frozen BK175.out 0; have hfz11_1 := blk_frozen BK175.out 1; have hfz11_2 := blk_frozen BK175.out 2))
  go_loopg [8] k (fun kq v8 w' => ∃ (x8_1 : Int) (x176002_1 : List Bool) (u176002 : Value), v8 = .int .i64 x8_1 ∧ Aside0 (headgatelaw07_lists.l0 kq l2 x8_1 l0 l1 x176002_1 = some (r1, r2, r3)) ∧ Aside0 (kq ≤ k) ∧ Aside0 (Kd.V (Kd.int .i64) 3 w' w.heap.size (fun k_ => ((P0_ k_ ∨ P1_ k_) ∨ w.heap.size ≤ k_) ∧ some k_ ≠ (u176002 : Value).ownBlock ∧ k_ ≠ gb171 ∧ k_ ≠ gb175) (.slice A0 l0.length c0) l0) ∧ Aside0 (Kd.V (Kd.int .i64) 3 w' w.heap.size (fun k_ => ((P0_ k_ ∨ P1_ k_) ∨ w.heap.size ≤ k_) ∧ some k_ ≠ (u176002 : Value).ownBlock ∧ k_ ≠ gb171 ∧ k_ ≠ gb175) (.slice A1 l1.length c1) l1) ∧ Aside0 (Kd.R Kd.bool 4 w' w.heap.size (fun k_ => (w.heap.size ≤ k_)) u176002 x176002_1) ∧ Aside0 (w'.heap[gb171]? = some (.cells #[(.slice none 0 0), (.slice none 0 0), (.slice none 0 0)] 25 (0, 0))) ∧ Aside0 (w'.heap[gb175]? = some (.cells #[(.slice A0 l0.length c0), (.slice A1 l1.length c1), u176002] 25 (0, 0))) ∧ Aside0 (Below w.heap.size w w'))
  case atStart => exact ⟨(0), (y172), (.slice Ao8 y172.length co8), (by first | rfl | (simp; done) | (simp [*]; done)), H', ⟨Nat.le_refl _⟩, ⟨by (with_reducible repeat (first | apply Kd.V_alloc | apply Kd.V_drewN | apply Kd.V_drew)); exact Kd.V_mono (Kd.V_far (p := ⟨gb175, 2, none⟩) (Kd.V_far (p := ⟨gb175, 1, none⟩) (Kd.V_far (p := ⟨gb175, 0, none⟩) (Kd.V_mono HO0.out (fun k_ hk => (⟨hk, hk.2⟩ : _ ∧ k_ ≠ gb175))) (fun _ hk => hk.2) (.slice A0 l0.length c0)) (fun _ hk => hk.2) (.slice A1 l1.length c1)) (fun _ hk => hk.2) (.slice Ao8 y172.length co8)) (fun _ hk => ⟨hk.1.1.1.1, ⟨hk.1.1.2, ⟨hk.1.1.1.2, hk.1.2⟩⟩⟩)⟩, ⟨by (with_reducible repeat (first | apply Kd.V_alloc | apply Kd.V_drewN | apply Kd.V_drew)); exact Kd.V_mono (Kd.V_far (p := ⟨gb175, 2, none⟩) (Kd.V_far (p := ⟨gb175, 1, none⟩) (Kd.V_far (p := ⟨gb175, 0, none⟩) (Kd.V_mono HO1.out (fun k_ hk => (⟨hk, hk.2⟩ : _ ∧ k_ ≠ gb175))) (fun _ hk => hk.2) (.slice A0 l0.length c0)) (fun _ hk => hk.2) (.slice A1 l1.length c1)) (fun _ hk => hk.2) (.slice Ao8 y172.length co8)) (fun _ hk => ⟨hk.1.1.1.1, ⟨hk.1.1.2, ⟨hk.1.1.1.2, hk.1.2⟩⟩⟩)⟩, ⟨by (with_reducible repeat (first | apply Kd.R_alloc | apply Kd.R_drewN | apply Kd.R_drew)); exact Kd.R_mono (far3 HO174.out BK175) (fun _ hk => hk.1.1)⟩, ⟨by (with_reducible repeat (first | refine blk_drewN ?_ _ | refine blk_drew ?_ | refine blk_alloc ?_ _)); refine blk_far ?_ NB171_175.out _; (with_reducible repeat (first | refine blk_drewN ?_ _ | refine blk_drew ?_ | refine blk_alloc ?_ _)); refine blk_far ?_ NB171_175.out _; (with_reducible repeat (first | refine blk_drewN ?_ _ | refine blk_drew ?_ | refine blk_alloc ?_ _)); refine blk_far ?_ NB171_175.out _; (with_reducible repeat (first | refine blk_drewN ?_ _ | refine blk_drew ?_ | refine blk_alloc ?_ _)); exact BK171.out⟩, ⟨by (with_reducible repeat (first | refine blk_drewN ?_ _ | refine blk_drew ?_ | refine blk_alloc ?_ _)); refine blk_put (cs := #[.slice A0 l0.length c0, .slice A1 l1.length c1, .slice none 0 0]) ?_ 2 _ rfl; (with_reducible repeat (first | refine blk_drewN ?_ _ | refine blk_drew ?_ | refine blk_alloc ?_ _)); refine blk_put (cs := #[.slice A0 l0.length c0, .slice none 0 0, .slice none 0 0]) ?_ 1 _ rfl; (with_reducible repeat (first | refine blk_drewN ?_ _ | refine blk_drew ?_ | refine blk_alloc ?_ _)); refine blk_put (cs := #[.slice none 0 0, .slice none 0 0, .slice none 0 0]) ?_ 0 _ rfl; (with_reducible repeat (first | refine blk_drewN ?_ _ | refine blk_drew ?_ | refine blk_alloc ?_ _)); exact BK175.out⟩, ⟨upH HB⟩⟩
  case round =>
   clear H'
   try clear c1
   try clear c2
   try clear p2
   try clear c4
   try clear c4b0
   try clear c4b1
   try clear c10
   try clear hcz11_0
   try clear hcz11_1
   try clear hcz11_2
   try clear hfz11_0
   try clear hfz11_1
   try clear hfz11_2
   obtain ⟨x8_1, x176002_1, u176002, rfl, HA, HK1, HO_176000, HO_176001, HO_176002, BK171, BK175, HB⟩ := hrel
   cases gk with
   | zero => exact absurd HA.out (by simp [headgatelaw07_lists.l0])
   | succ k1 =>
    have H := HA.out
    clear HA
    simp only [headgatelaw07_lists.l0] at H
    by_cases c12 : x8_1 < (l2.length : Int)
    ·
     rw [if_pos c12] at H
     have c12b0 : decide (x8_1 < (l2.length : Int)) = true := decide_eq_true c12
     clear c12
     by_cases c13 : 0 ≤ x8_1
     ·
      rw [if_pos c13] at H
      have c13b0 : decide (0 ≤ x8_1) = true := decide_eq_true c13
      clear c13
      by_cases c14 : 0 ≤ (rd l2 x8_1)
      ·
       rw [if_pos c14] at H
       have c14b0 : decide (0 ≤ (rd l2 x8_1)) = true := decide_eq_true c14
       clear c14
       by_cases c15 : (rd l2 x8_1) < (x176002_1.length : Int)
       ·
        rw [if_pos c15] at H
        have c15b0 : decide ((rd l2 x8_1) < (x176002_1.length : Int)) = true := decide_eq_true c15
        clear c15
        obtain ⟨y177, hy177⟩ : ∃ y_ : List Bool, y_ = (x176002_1.set ((rd l2 x8_1) : Int).toNat true) := ⟨_, rfl⟩
        replace H : (headgatelaw07_lists.l0 k1 l2 (wrap64 (x8_1 + 1)) l0 l1 y177) = some (r1, r2, r3) := by first | (rw [hy177]; with_reducible exact H) | (have H2_ := (Option.bind_some _ _).symm.trans H; rw [hy177]; with_reducible exact H2_) | (have H2_ := (Option.bind_some _ _).symm.trans H; with_reducible exact H2_) | with_reducible exact H | (rw [hy177]; exact H) | exact H
        have Ny177 := Aside0.mk hy177
        clear hy177
        have H' := Aside0.mk H
        clear H
        try go_wp2
        have n0_ := Aside0.mk (Kd.V_drew HO_176000.out)
        have n1_ := Aside0.mk (Kd.V_drew HO_176001.out)
        have n2_ := Aside0.mk (Kd.R_drew HO_176002.out)
        have n3_ := Aside0.mk (blk_drew BK171.out)
        have n4_ := Aside0.mk (blk_drew BK175.out)
        have n5_ := Aside0.mk (below_drew1 HB.out)
        clear HO_176000
        clear HO_176001
        clear HO_176002
        clear BK171
        clear BK175
        clear HB
        have HO_176000 := n0_
        have HO_176001 := n1_
        have HO_176002 := n2_
        have BK171 := n3_
        have BK175 := n4_
        have HB := n5_
        clear n0_ n1_ n2_ n3_ n4_ n5_
        have p176 : 0 ≤ (x8_1 : Int) := of_decide_eq_true (asm_ (p := _))
        have q176 : x8_1 < (l2.length : Int) := of_decide_eq_true (asm_ (p := _))
        obtain ⟨ad176, e176, hx176_0⟩ := Kd.at_int HR2.out x8_1 p176 q176
        have hw176_0 := hx176_0
        cases e176
        replace hx176_0 := (HB.out.cell (World.block_lt_of_cell? w _ hx176_0)).trans hx176_0
        replace p176 := eq_true p176
        replace q176 := eq_true q176
        have p16 : 0 ≤ ((rd l2 x8_1) : Int) := of_decide_eq_true (asm_ (p := _))
        have q16 : ((rd l2 x8_1) : Int) < ((x176002_1.length : Int) : Int) := of_decide_eq_true (asm_ (p := _))
        obtain ⟨go16, co16, eo16, gb16, gl16, cl16, HG16⟩ := Kd.R_form HO_176002.out (by omega)
        (first | cases eo16 | (injection eo16 with ea_ en_ ec_; (first | subst ea_ | (injection ea_ with ea_; subst ea_)); subst ec_; clear en_))
        have GB16 := Aside0.mk gb16
        have GG16 := Aside0.mk HG16
        clear gb16 gl16 HG16
        obtain ⟨hx16_0, hf16_0⟩ := Kd.R_celln false HO_176002.out ((rd l2 x8_1) : Int) p16 q16
        replace p16 := eq_true p16
        replace q16 := eq_true q16
        have HP18 := Kd.R_putn HO_176002.out ((rd l2 x8_1) : Int) true
        rw [← Ny177.out] at HP18
        have HQ18 := Aside0.mk HP18
        clear HP18
        refine start_ (n := 8) (S := fun w' => w'.cell? ⟨gb175, 0, none⟩ = some (.slice A0 l0.length c0) ∧ w'.cell? ⟨gb175, 1, none⟩ = some (.slice A1 l1.length c1) ∧ w'.cell? ⟨gb175, 2, none⟩ = some (.slice (some ⟨go16, 0, none⟩) x176002_1.length co16) ∧ w'.cell? (ad176.add (x8_1).toNat) = some (.int .i64 (rd l2 x8_1))) (ds := [7]) #[false, false, false, false, false, false, false, false] (by kernel_rfl) rfl rfl ⟨(blk_cell BK175.out 0).trans rfl, (blk_cell BK175.out 1).trans rfl, (blk_cell BK175.out 2).trans rfl, ((HB.out.cell (World.block_lt_of_cell? w _ hw176_0)).trans hw176_0)⟩ (fun hHeld => ?_); refine with_tabW headgatelaw07_lists.tab5 headgatelaw07_lists.bits5 (fun HT_ HW_ => ?_)
        generalize wr.drew = w17 at HO_176000 HO_176001 HO_176002 BK171 BK175 HB GG16 HQ18 hf16_0 hx16_0 hx176_0 hHeld ⊢
        refine pure_ (i := 0) (N := some 19) (v := ?_) (a' := ?_) #[true, false, false, false, false, false, false, false] rfl rfl (any_of HT_.out (by kernel_rfl)) (fun _ _ _ h => h) (Or.inl ⟨by rfl, ?_⟩) ?_ ?_
        rotate_left
        ·
         intro w'
         go_simp
         with_reducible rfl
        rotate_left
        ·
         simp only [Act.put, List.setIfInBounds_toArray, List.set_cons_zero, List.set_cons_succ, i64_w, i32_w]
         rfl
        refine pure_ (i := 2) (N := some 21) (v := ?_) (a' := ?_) #[true, false, true, false, false, false, false, false] rfl rfl (any_of HT_.out (by kernel_rfl)) (fun _ _ _ h => h) (Or.inl ⟨by rfl, ?_⟩) ?_ ?_
        rotate_left
        ·
         intro w'
         go_simp
         with_reducible rfl
        rotate_left
        ·
         simp only [Act.put, List.setIfInBounds_toArray, List.set_cons_zero, List.set_cons_succ, i64_w, i32_w]
         rfl
        refine pure_ (i := 3) (N := some 22) (v := ?_) (a' := ?_) #[true, false, true, true, false, false, false, false] rfl rfl (any_of HT_.out (by kernel_rfl)) (fun _ _ _ h => h) (Or.inl ⟨by rfl, ?_⟩) ?_ ?_
        rotate_left
        ·
         intro w'
         go_simp
         with_reducible rfl
        rotate_left
        ·
         simp only [Act.put, List.setIfInBounds_toArray, List.set_cons_zero, List.set_cons_succ, i64_w, i32_w]
         rfl
        refine pure_ (i := 4) (N := some 23) (v := ?_) (a' := ?_) #[true, false, true, true, true, false, false, false] rfl rfl (any_of HT_.out (by kernel_rfl)) (fun _ _ _ h => h) (Or.inl ⟨by rfl, ?_⟩) ?_ ?_
        rotate_left
        ·
         intro w'
         go_simp
         with_reducible rfl
        rotate_left
        ·
         simp only [Act.put, List.setIfInBounds_toArray, List.set_cons_zero, List.set_cons_succ, i64_w, i32_w]
         rfl
        refine take_ (i := 1) (N := some 20) (v := ?_) (a' := ?_) #[true, true, true, true, true, false, false, false] rfl rfl (take_ofW HT_.out HW_.out (by kernel_rfl)) (fun _ _ _ h => h) (Or.inl ⟨by rfl, ?_⟩) hHeld ?_ ?_
        rotate_left
        ·
         rintro w' ⟨s0, s1, s2, s3⟩
         go_simp
         with_reducible rfl
        rotate_left
        ·
         simp only [Act.put, List.setIfInBounds_toArray, List.set_cons_zero, List.set_cons_succ, i64_w, i32_w]
         rfl
        refine take_ (i := 5) (N := some 24) (v := ?_) (a' := ?_) #[true, true, true, true, true, true, false, false] rfl rfl (take_ofW HT_.out HW_.out (by kernel_rfl)) (fun _ _ _ h => h) (Or.inl ⟨by rfl, ?_⟩) hHeld ?_ ?_
        rotate_left
        ·
         rintro w' ⟨s0, s1, s2, s3⟩
         go_simp
         with_reducible rfl
        rotate_left
        ·
         simp only [Act.put, List.setIfInBounds_toArray, List.set_cons_zero, List.set_cons_succ, i64_w, i32_w]
         rfl
        refine pure_ (i := 6) (N := some 25) (v := ?_) (a' := ?_) #[true, true, true, true, true, true, true, false] rfl rfl (any_of HT_.out (by kernel_rfl)) (fun _ _ _ h => h) (Or.inl ⟨by rfl, ?_⟩) ?_ ?_
        rotate_left
        ·
         intro w'
         go_simp
         with_reducible rfl
        rotate_left
        ·
         simp only [Act.put, List.setIfInBounds_toArray, List.set_cons_zero, List.set_cons_succ, i64_w, i32_w]
         rfl
        refine last_ (i := 7) (N := none) #[true, true, true, true, true, true, true, true] rfl rfl (one_of HT_.out (by kernel_rfl)) (by decide) (fun K hK => ?_)
        refine skip_ (w1 := ?_) (by rfl) rfl ?_ ?_
        rotate_left
        ·
         go_simp
         rfl
        refine hK.out _ _ ?_
        clear hK K
        refine done_ (done_of HT_.out (by kernel_rfl)) ?_
        try go_wp2
        go_roundg k1
        case measure => have := HK1.out; omega
        case rel => exact ⟨(wrap64 (x8_1 + 1)), (y177), (.slice (some ⟨go16, 0, none⟩) x176002_1.length co16), (by first | rfl | (simp; done) | (simp [*]; done)), H', ⟨by have := HK1.out; omega⟩, ⟨by (with_reducible repeat (first | apply Kd.V_alloc | apply Kd.V_drewN | apply Kd.V_drew)); exact Kd.V_mono (Kd.V_far (p := ⟨go16, ((rd l2 x8_1) : Int).toNat, none⟩) (Kd.V_mono HO_176000.out (fun k_ hk => (⟨hk, fun e_ => hk.2.1 (by rw [e_]; rfl)⟩ : _ ∧ k_ ≠ go16))) (fun _ hk => hk.2) (.bool true)) (fun _ hk => ⟨hk.1.1, ⟨hk.1.2.1, ⟨hk.1.2.2.1, hk.1.2.2.2⟩⟩⟩)⟩, ⟨by (with_reducible repeat (first | apply Kd.V_alloc | apply Kd.V_drewN | apply Kd.V_drew)); exact Kd.V_mono (Kd.V_far (p := ⟨go16, ((rd l2 x8_1) : Int).toNat, none⟩) (Kd.V_mono HO_176001.out (fun k_ hk => (⟨hk, fun e_ => hk.2.1 (by rw [e_]; rfl)⟩ : _ ∧ k_ ≠ go16))) (fun _ hk => hk.2) (.bool true)) (fun _ hk => ⟨hk.1.1, ⟨hk.1.2.1, ⟨hk.1.2.2.1, hk.1.2.2.2⟩⟩⟩)⟩, ⟨upR HQ18.out⟩, ⟨by (with_reducible repeat (first | refine blk_drewN ?_ _ | refine blk_drew ?_ | refine blk_alloc ?_ _)); refine blk_far ?_ (by have h_ := Kd.R_ne HO_176002.out BK171.out (by decide); intro e_; exact h_ (by rw [e_]; rfl)) _; (with_reducible repeat (first | refine blk_drewN ?_ _ | refine blk_drew ?_ | refine blk_alloc ?_ _)); exact BK171.out⟩, ⟨by (with_reducible repeat (first | refine blk_drewN ?_ _ | refine blk_drew ?_ | refine blk_alloc ?_ _)); refine blk_far ?_ (by have h_ := Kd.R_ne HO_176002.out BK175.out (by decide); intro e_; exact h_ (by rw [e_]; rfl)) _; (with_reducible repeat (first | refine blk_drewN ?_ _ | refine blk_drew ?_ | refine blk_alloc ?_ _)); exact BK175.out⟩, ⟨upH HB⟩⟩
       ·
        rw [if_neg c15] at H
        exact absurd H (by simp)
      ·
       rw [if_neg c14] at H
       exact absurd H (by simp)
     ·
      rw [if_neg c13] at H
      exact absurd H (by simp)
    ·
     rw [if_neg c12] at H
     have c12b0 : decide (x8_1 < (l2.length : Int)) = false := decide_eq_false c12
     clear c12
     simp only [Option.some.injEq, Prod.mk.injEq] at H
     obtain ⟨rfl, rfl, rfl⟩ := H
     have hnb19 := NB175_171.out
     have hnc19 := NB171_175.out
     have hcz20_0 := cell0 BK175
     have hcz20_1 := cell1 BK175
     have hcz20_2 := cell2 BK175
     have hfz20_0 := blk_frozen BK175.out 0
     have hfz20_1 := blk_frozen BK175.out 1
     have hfz20_2 := blk_frozen BK175.out 2
     have hcz21_0 := cell0 BK171
     have hcz21_1 := cell1 BK171
     have hcz21_2 := cell2 BK171
     have hfz21_0 := blk_frozen BK171.out 0
     have hfz21_1 := blk_frozen BK171.out 1
     have hfz21_2 := blk_frozen BK171.out 2
     obtain ⟨Ao22, co22, eo22⟩ := Kd.R_slice HO_176002.out
     subst eo22
     go_wp2
     refine bodyPost_ret (results_cell_row rfl _ _ gb171 25 #[.slice A0 l0.length c0, .slice A1 l1.length c1, .slice Ao22 x176002_1.length co22] (0, 0) _ rfl (by (with_reducible repeat (first | refine blk_drewN ?_ _ | refine blk_drew ?_ | refine blk_alloc ?_ _)); refine blk_put (cs := #[.slice A0 l0.length c0, .slice A1 l1.length c1, .slice none 0 0]) ?_ 2 _ rfl; (with_reducible repeat (first | refine blk_drewN ?_ _ | refine blk_drew ?_ | refine blk_alloc ?_ _)); refine blk_put (cs := #[.slice A0 l0.length c0, .slice none 0 0, .slice none 0 0]) ?_ 1 _ rfl; (with_reducible repeat (first | refine blk_drewN ?_ _ | refine blk_drew ?_ | refine blk_alloc ?_ _)); refine blk_put (cs := #[.slice none 0 0, .slice none 0 0, .slice none 0 0]) ?_ 0 _ rfl; (with_reducible repeat (first | refine blk_drewN ?_ _ | refine blk_drew ?_ | refine blk_alloc ?_ _)); exact BK171.out) Try.underlying25 rfl (by kernel_rfl)) rfl ?_
     exact ⟨_, _, _, by first | rfl | (simp [errW_none, errW_some] <;> rfl) | (simp [*, errW_none, errW_some] <;> rfl), by (with_reducible repeat (first | apply Kd.V_alloc | apply Kd.V_drewN | apply Kd.V_drew)); exact Kd.V_mono (Kd.V_far (p := ⟨gb171, 2, none⟩) (Kd.V_far (p := ⟨gb171, 1, none⟩) (Kd.V_far (p := ⟨gb171, 0, none⟩) (Kd.V_mono HO_176000.out (fun k_ hk => (⟨hk, hk.2.2.1⟩ : _ ∧ k_ ≠ gb171))) (fun _ hk => hk.2) (.slice A0 l0.length c0)) (fun _ hk => hk.2) (.slice A1 l1.length c1)) (fun _ hk => hk.2) (.slice Ao22 x176002_1.length co22)) (fun _ hk => ⟨hk.1.1, hk.1.2.1⟩), by (with_reducible repeat (first | apply Kd.V_alloc | apply Kd.V_drewN | apply Kd.V_drew)); exact Kd.V_mono (Kd.V_far (p := ⟨gb171, 2, none⟩) (Kd.V_far (p := ⟨gb171, 1, none⟩) (Kd.V_far (p := ⟨gb171, 0, none⟩) (Kd.V_mono HO_176001.out (fun k_ hk => (⟨hk, hk.2.2.1⟩ : _ ∧ k_ ≠ gb171))) (fun _ hk => hk.2) (.slice A0 l0.length c0)) (fun _ hk => hk.2) (.slice A1 l1.length c1)) (fun _ hk => hk.2) (.slice Ao22 x176002_1.length co22)) (fun _ hk => ⟨hk.1.1, hk.1.2.1⟩), by (with_reducible repeat (first | apply Kd.R_alloc | apply Kd.R_drewN | apply Kd.R_drew)); exact Kd.R_mono (far3 HO_176002.out BK171) (fun _ hk => hk.1), by repeat (first | (with_reducible first | exact HB.out | apply below_alloc | apply pw_below_drewN | apply below_drew1 | refine below_set ?_ GE171.out | refine below_set ?_ GE175.out) | exact HB.out)⟩
 ·
  rw [if_neg c4] at H
  exact absurd H (by simp)

end Go.Proofs.Ytaofihdmgdpenaa.X

namespace Go.Proofs.Ytaofihdmgdpenaa.X
open Go.RowKit Go.Proofs.YtaofihdmgdpenaaW.PrintWords Go.Proofs.YtaofihdmgdpenaaW.PrintLast Go.Proofs.YtaofihdmgdpenaaW.PrintMore
attribute [local go_sem] max2_int min2_int max_two min_two max_three min_three max_four min_four   -- for this text's walks alone
set_option linter.unusedVariables false
set_option linter.unusedSimpArgs false

/-! ### A region of open order whose operations make memory at most: each operation is shown once, in any world that has grown -/
/-- What is known of a value, and stays known when the world grows. -/
structure PFact where
 p : Value → World → Prop
 stays : ∀ v w w', p v w → Below w.heap.size w w' → p v w'
def litF (x : Value) : PFact := ⟨fun v _ => v = x, fun _ _ _ h _ => h⟩
def IsRow {α : Type} (d : Kd α) (l : List α) (v : Value) (w : World) : Prop := ∃ (A : Option Addr) (c : Nat), v = .slice A l.length c ∧ l.length ≤ c ∧ d.C w A l.length l
theorem IsRow.below {α : Type} {d : Kd α} {l : List α} {v : Value} {w w' : World} (h : IsRow d l v w) (hb : Below w.heap.size w w') : IsRow d l v w' := by
 obtain ⟨A, c, rfl, h1, h2⟩ := h
 exact ⟨A, c, rfl, h1, Kd.C_below h2 hb⟩
theorem IsRow.of {α : Type} {d : Kd α} {l : List α} {v : Value} {w : World} {e base : Nat} {ok : Nat → Prop} (h : d.R e w base ok v l) : IsRow d l v w := by
 obtain ⟨A, c, rfl⟩ := Kd.R_slice h
 exact ⟨A, c, rfl, (Kd.R_reads' h).2.1, (Kd.R_reads' h).2.2⟩
def rowF {α : Type} (d : Kd α) (l : List α) : PFact := ⟨IsRow d l, fun _ _ _ h hb => h.below hb⟩
/-- Cells one after the other, from an address on. -/
def atCells (p : Addr) : Nat → List Value → World → Prop
 | _, [], _ => True
 | 0, c :: cs, w => w.cell? p = some c ∧ atCells p 1 cs w
 | n + 1, c :: cs, w => w.cell? ⟨p.block, p.off + (n + 1), none⟩ = some c ∧ atCells p (n + 2) cs w
theorem atCells_stays {p : Addr} : ∀ {n : Nat} {cs : List Value} {w w' : World}, atCells p n cs w → Below w.heap.size w w' → atCells p n cs w'
 | _, [], _, _, _, _ => trivial
 | 0, _ :: _, _, _, h, hb => ⟨pw_cell_below hb h.1, atCells_stays h.2 hb⟩
 | _ + 1, _ :: _, _, _, h, hb => ⟨pw_cell_below hb h.1, atCells_stays h.2 hb⟩
def elemF (cs : List Value) : PFact := ⟨fun v w => ∃ p, v = .pointer (some p) ∧ atCells p 0 cs w, fun _ _ _ h hb => by obtain ⟨p, e, h⟩ := h; exact ⟨p, e, atCells_stays h hb⟩⟩
def aggP : List PFact → List Value → World → Prop
 | [], vs, _ => vs = []
 | f :: fs, vs, w => ∃ v r, vs = v :: r ∧ f.p v w ∧ aggP fs r w
theorem aggP_stays : ∀ (fs : List PFact) (vs : List Value) (w w' : World), aggP fs vs w → Below w.heap.size w w' → aggP fs vs w'
 | [], _, _, _, h, _ => h
 | f :: fs, _, w, w', ⟨v, r, e, h1, h2⟩, hb => ⟨v, r, e, f.stays v w w' h1 hb, aggP_stays fs r w w' h2 hb⟩
def aggF (fs : List PFact) : PFact := ⟨fun v w => ∃ vs, v = .agg vs.toArray ∧ aggP fs vs w, by rintro v w w' ⟨vs, e, h⟩ hb; exact ⟨vs, e, aggP_stays fs vs _ _ h hb⟩⟩
def tupF (fs : List PFact) : PFact := ⟨fun v w => ∃ vs, v = .tuple vs.toArray ∧ aggP fs vs w, by rintro v w w' ⟨vs, e, h⟩ hb; exact ⟨vs, e, aggP_stays fs vs _ _ h hb⟩⟩
def selOf (ds : List Tmp) (vals : Nat → Value) : List (Nat × Tmp × Value) := ds.zipIdx.map fun e => (e.2, e.1, vals e.2)
theorem selOf_length (ds : List Tmp) (vals : Nat → Value) : (selOf ds vals).length = ds.length := by simp [selOf]
theorem selOf_get (ds : List Tmp) (vals : Nat → Value) (i : Nat) : (selOf ds vals)[i]? = ds[i]?.map fun t => (i, t, vals i) := by
 simp only [selOf, List.getElem?_map, List.getElem?_zipIdx]
 cases ds[i]? <;> simp
theorem selOf_mem {ds : List Tmp} {vals : Nat → Value} {e : Nat × Tmp × Value} (h : e ∈ selOf ds vals) : ds[e.1]? = some e.2.1 := by
 obtain ⟨k, hk⟩ := List.mem_iff_getElem?.1 h
 rw [selOf_get] at hk
 obtain ⟨t, h1, h2⟩ := Option.map_eq_some_iff.1 hk
 subst h2
 exact h1
theorem selOf_set (ds : List Tmp) (vals : Nat → Value) (i : Nat) (t : Tmp) (v : Value) (hi : ds[i]? = some t) : (selOf ds vals).set i (i, t, v) = selOf ds (fun j => if j = i then v else vals j) := by
 apply List.ext_getElem?
 intro j
 by_cases hij : i = j
 ·
  subst hij
  have hl : i < (selOf ds vals).length := by rw [selOf_length]; exact (List.getElem?_eq_some_iff.1 hi).1
  rw [List.getElem?_set_self hl, selOf_get, hi]
  simp
 ·
  rw [List.getElem?_set_ne hij, selOf_get, selOf_get]
  simp [Ne.symm hij]
section
variable {P : Program} {ops : Array Oper} {Q : Exit → Act → World → Prop} {md : Region.Mode} {T : Bool × List (List Nat × List Nat)} {B : List Nat}
/-- What is asked of operation i, in any world that has grown. -/
def OpLaw (P : Program) (ops : Array Oper) (Q : Exit → Act → World → Prop) (B : List Nat) (ds : List Tmp) (F : List PFact) (a0 : Act) (w0 : World) (i : Nat) : Prop :=
 ∀ (a : Act) (w : World), Below w0.heap.size w0 w → (∀ t, ds.contains t = false → a.tmps[t]? = a0.tmps[t]?) →
  (∀ (j : Nat) (t : Tmp) (f : PFact), (B.getD i 0).testBit j = true → ds[j]? = some t → F[j]? = some f → ∃ v, a.tmps[t]? = some v ∧ f.p v w) →
  ∃ oi, ops[i]? = some oi ∧ ∀ K : Act → World → Prop, Shut (∀ (v : Value) (w' : World) (f : PFact), F[i]? = some f → f.p v w' → Below w.heap.size w w' → K (a.put oi.dst v) w') → if Region.wanted oi (yielded ops a.tmps) = true then Oper.wp P oi a w K Q else K (a.put oi.dst undef) w
/-- The numbers and the destinations of a region, looked through. -/
def selOk (ops : Array Oper) (ds : List Tmp) (n : Nat) : Bool := ds.length == n && decide ds.Nodup && (List.range n).all fun i => match ops[i]?, ds[i]? with
 | some o, some t => o.dst == some t
 | _, _ => false
theorem selOk_dst {ds : List Tmp} {n i : Nat} {o : Oper} {t : Tmp} (h : selOk ops ds n = true) (ho : ops[i]? = some o) (ht : ds[i]? = some t) : o.dst = some t := by
 simp only [selOk, Bool.and_eq_true] at h
 have hi : i < n := by
  have := (List.getElem?_eq_some_iff.1 ht).1
  have h2 := beq_iff_eq.1 h.1.1
  omega
 have := List.all_eq_true.1 h.2 i (List.mem_range.2 hi)
 rw [ho, ht] at this
 simpa using this
theorem nodup_get {ds : List Tmp} (h : ds.Nodup) {i j : Nat} {t : Tmp} (hi : ds[i]? = some t) (hj : ds[j]? = some t) : i = j := by
 obtain ⟨h1, e1⟩ := List.getElem?_eq_some_iff.1 hi
 obtain ⟨h2, e2⟩ := List.getElem?_eq_some_iff.1 hj
 exact (List.getElem_inj h).1 (e1.trans e2.symm)
theorem shut_region {l : Array Bool} {fuel : Nat} {a : Act} {w : World} (n : Nat) (ds : List Tmp) (F : List PFact) (hT : rtab md ops = T) (hw : waitsOk T.2 B = true) (hk : baseOk T.2 (List.range n) = true)
  (hl : (lof T.2.length (List.range n) (fun _ => false) == l.toList && (List.range n).length == fuel) = true) (hsel : selOk ops ds n = true) (hF : F.length = n) (hsz : (ds.all fun t => decide (t < a.tmps.size)) = true)
  (hs : ∀ i ∈ List.range n, OpLaw P ops Q B ds F a w i)
  (hend : ∀ (vals : Nat → Value) (w' : World), Below w.heap.size w w' → (∀ (i : Nat) (f : PFact), F[i]? = some f → f.p (vals i) w') → Q .normal (putSel a (fun _ => true) (selOf ds vals)) w') :
  wpAnyLast P md ops Q (fun _ => True) [] fuel l a w := by
 have hlen : ds.length = n := by
  simp only [selOk, Bool.and_eq_true] at hsel
  exact beq_iff_eq.1 hsel.1.1
 have hnd : ds.Nodup := by
  simp only [selOk, Bool.and_eq_true] at hsel
  simpa using hsel.1.2
 refine inv_ (List.range n) (fun b a' w' => Below w.heap.size w w' ∧ ∃ vals : Nat → Value, a' = putSel a b (selOf ds vals) ∧ ∀ (i : Nat) (f : PFact), b i = true → F[i]? = some f → f.p (vals i) w') hT hw hk hl ?_ ?_ ?_
 ·
  refine ⟨Below.refl _ _, fun _ => undef, ?_, fun i f h => by cases h⟩
  have : ∀ L : List (Nat × Tmp × Value), putSel a (fun _ => false) L = a := by
   intro L
   induction L with
   | nil => rfl
   | cons e r ih => unfold putSel; rw [if_neg (by decide)]; exact ih
  exact (this _).symm
 ·
  intro i hi b a' w' ⟨hB, vals, ha, hv⟩ hbi hon hoff
  have hin : i < n := List.mem_range.1 hi
  obtain ⟨ti, hti⟩ : ∃ t, ds[i]? = some t := ⟨ds[i]'(by omega), List.getElem?_eq_getElem (by omega)⟩
  obtain ⟨oi, hoi, hK⟩ := hs i hi a' w' hB (fun t ht => by
   rw [ha]
   refine putSel_off (List.all_eq_true.2 fun e he => ?_)
   have h1 := selOf_mem he
   have h2 : e.2.1 ≠ t := by
    rintro rfl
    have := List.mem_of_getElem? h1
    simp [List.contains_iff_mem, this] at ht
   simpa using h2) (fun j t f hj ht hf => by
   have hjn : j < n := by have := (List.getElem?_eq_some_iff.1 ht).1; omega
   have hbj := hon j (by rw [hj, Bool.and_true, List.contains_iff_mem]; exact List.mem_range.2 hjn)
   refine ⟨vals j, ?_, hv j f hbj hf⟩
   rw [ha]
   have hts : t < a.tmps.size := by simpa using List.all_eq_true.1 hsz t (List.mem_of_getElem? ht)
   refine putSel_on (e := (j, t, vals j)) j (by rw [selOf_get, ht]; rfl) (List.all_eq_true.2 fun e he => ?_) hbj (Nat.ble_eq_true_of_le hts)
   obtain ⟨k, hk⟩ := List.mem_iff_getElem?.1 he
   rw [List.getElem?_drop, selOf_get] at hk
   obtain ⟨t', h1, h2⟩ := Option.map_eq_some_iff.1 hk
   subst h2
   have : t' ≠ t := by
    rintro rfl
    have := nodup_get hnd h1 ht
    omega
   simpa using this)
  refine ⟨oi, hoi, fun K hKK => hK K (show Shut _ from fun v w2 f hf hp hb2 => hKK.out _ _ ⟨below_then hB hB.size hb2, fun j => if j = i then v else vals j, ?_, fun j g hj hg => ?_⟩)⟩
  ·
   rw [selOk_dst hsel hoi hti, ha]
   rw [← selOf_set ds vals i ti v hti]
   refine putSel_upk i hbi (by rw [selOf_get, hti]; rfl) rfl (List.all_eq_true.2 fun e he => ?_)
   have key : ∀ k, k ≠ i → (selOf ds vals)[k]? = some e → (!(e.1 == i) && !(e.2.1 == ti)) = true := by
    intro k hki hk
    rw [selOf_get] at hk
    obtain ⟨t', h1, h2⟩ := Option.map_eq_some_iff.1 hk
    subst h2
    have : t' ≠ ti := by
     rintro rfl
     exact hki (nodup_get hnd h1 hti)
    simp [hki, this]
   rcases List.mem_append.1 he with h | h
   ·
    obtain ⟨k, hk⟩ := List.mem_iff_getElem?.1 h
    rw [List.getElem?_take] at hk
    by_cases hki : k < i
    ·
     rw [if_pos hki] at hk
     exact key k (by omega) hk
    ·
     rw [if_neg hki] at hk
     cases hk
   ·
    obtain ⟨k, hk⟩ := List.mem_iff_getElem?.1 h
    rw [List.getElem?_drop] at hk
    exact key (i + 1 + k) (by omega) hk
  ·
   by_cases hji : j = i
   ·
    subst hji
    dsimp only
    rw [if_pos rfl]
    rw [hf] at hg
    cases hg
    exact hp
   ·
    dsimp only
    rw [if_neg hji]
    rw [up_ne hji] at hj
    exact g.stays _ _ _ (hv j g hj hg) hb2
 ·
  intro b a' w' hall ⟨hB, vals, ha, hv⟩
  have hbt : ∀ j, j < n → b j = true := fun j hj => hall j (by simp [hj])
  have h1 : ∀ L : List (Nat × Tmp × Value), (∀ e ∈ L, b e.1 = true) → ∀ a1, putSel a1 b L = putSel a1 (fun _ => true) L := by
   intro L
   induction L with
   | nil => intro _ a1; rfl
   | cons e r ih =>
    intro hL a1
    unfold putSel
    rw [if_pos (hL e (by simp)), if_pos rfl]
    exact ih (fun e he => hL e (by simp [he])) _
  rw [ha, h1 _ (fun e he => hbt _ (by have := (List.getElem?_eq_some_iff.1 (selOf_mem he)).1; omega))]
  exact hend vals w' hB (fun i f hf => hv i f (hbt i (by have := (List.getElem?_eq_some_iff.1 hf).1; omega)) hf)
theorem opLaws_nil {I : Nat → Prop} : ∀ i ∈ ([] : List Nat), I i := fun _ h => by cases h
end
theorem opLaws_cons {I : Nat → Prop} {i : Nat} {rs : List Nat} (h : I i) (hs : ∀ j ∈ rs, I j) : ∀ j ∈ i :: rs, I j := fun j hj => by
 rcases List.mem_cons.1 hj with rfl | hj
 ·
  exact h
 ·
  exact hs j hj
/-- The whole region, its draw ahead. -/
theorem shut_code {P : Program} {ops : Array Oper} {Q : Exit → Act → World → Prop} {T : Bool × List (List Nat × List Nat)} {B : List Nat} {id : Nat} {a : Act} {w : World} (n : Nat) (ds : List Tmp) (F : List PFact) (hm : P.follows .mixedOrders = true) (hn : ops.size = n)
  (hT : rtab .any ops = T) (hw : waitsOk T.2 B = true) (hk : baseOk T.2 (List.range n) = true) (hl : (lof T.2.length (List.range n) (fun _ => false) == List.replicate n false && (List.range n).length == n) = true) (hsel : selOk ops ds n = true) (hF : F.length = n) (hsz : (ds.all fun t => decide (t < a.tmps.size)) = true)
  (hs : ∀ i ∈ List.range n, OpLaw P ops Q B ds F a w i)
  (hend : ∀ (vals : Nat → Value) (w' : World), Below w.heap.size w w' → (∀ (i : Nat) (f : PFact), F[i]? = some f → f.p (vals i) w') → Q .normal (putSel a (fun _ => true) (selOf ds vals)) w') :
  (Code.region id ops true).wp P Q a w := by
 have hbd : Below w.heap.size w w.drew := below_drew (Below.refl _ _)
 refine start_ (S := fun _ => True) (ds := []) (Array.replicate n false) hm hn rfl trivial (fun _ => ?_)
 refine shut_region n ds F hT hw hk (by rw [Array.toList_replicate]; exact hl) hsel hF hsz (fun i hi a' w' hB => hs i hi a' w' (below_then hbd hbd.size hB)) (fun vals w' hB => hend vals w' (below_then hbd hbd.size hB))
theorem blk_newb (w : World) (o : Obj) (b : Nat) (hb : b = w.heap.size) : (w.alloc o).heap[b]? = some o := by
 subst hb
 exact blk_new w o

theorem IsRow.ofV {α : Type} {d : Kd α} {l : List α} {v : Value} {w : World} {e base : Nat} {ok : Nat → Prop} (h : Kd.V d e w base ok v l) : IsRow d l v w := by
 obtain ⟨A, c, rfl⟩ := Kd.V_slice h
 obtain ⟨_, h1, h2⟩ := Kd.V_reads' h
 exact ⟨A, c, rfl, h1, h2⟩


end Go.Proofs.Ytaofihdmgdpenaa.X

namespace Go.Proofs.Ytaofihdmgdpenaa.X
open Go.RowKit Go.Proofs.YtaofihdmgdpenaaW.PrintWords Go.Proofs.YtaofihdmgdpenaaW.PrintLast Go.Proofs.YtaofihdmgdpenaaW.PrintMore
attribute [local go_sem] max2_int min2_int max_two min_two max_three min_three max_four min_four   -- for this text's walks alone
set_option linter.unusedVariables false
set_option linter.unusedSimpArgs false

/-! ### headgatelaw07_awake: function 11 -/
def headgatelaw07_awake.f : Option (Bool) := some true
def headgatelaw07_awake.T5 : Bool × List (List Nat × List Nat) := (true, [([], []), ([0], [0]), ([1], [1]), ([2], [2]), ([3, 2], [2, 3]), ([2, 4], [2, 4]), ([5, 2], [5]), ([6], [6]), ([7, 6], [6, 7]), ([6, 8], [6, 8]), ([9, 6], [9]), ([10], [10]), ([10], [10]), ([10], [10]), ([12, 13, 10, 10], [10, 12, 13]), ([10], [10]), ([11, 14, 15, 14, 10], [10, 11, 14, 15]), ([10, 16], [10, 16]), ([17, 16, 0, 1, 2, 3, 4, 5, 6, 7, 8, 9, 10, 11, 12, 13, 14, 15, 16, 17], [17])])
def headgatelaw07_awake.B5 : List Nat := [0, 1, 3, 7, 15, 31, 63, 127, 255, 511, 1023, 2047, 2047, 2047, 14335, 2047, 65535, 131071, 262143]
theorem headgatelaw07_awake.tab5 : rtab .any (opsOf Try.f11 5) = headgatelaw07_awake.T5 := by kernel_rfl
theorem headgatelaw07_awake.bits5 : waitsOk headgatelaw07_awake.T5.2 headgatelaw07_awake.B5 = true := by kernel_rfl
set_option maxHeartbeats 4000000 in
set_option maxRecDepth 100000 in
theorem headgatelaw07_awake.calls (r : Bool) (w : World) (h : headgatelaw07_awake.f = some r) :
  Calls Try.prog 11 #[] w fun e w' => e = .returned (.bool r) ∧ Below w.heap.size w w' := by
 obtain rfl := Option.some.inj h
 have HB := Aside0.mk (Below.refl w.heap.size w)
 have hu25 := Try.underlying25
 go_enter Try.func11, Try.ntmps11
 go_wp2_with fail
 refine (lru_New.calls 8 ([] : List Int) ([] : List Int) ([false, false, false, false, false, false, false, false] : List Bool) 0 _ (by first | decide +kernel | kernel_rfl)).mono ?_
 rintro e w1 ⟨v1, v2, v3, rfl, ho1, ho2, ho3, hb⟩
 replace HB := Aside0.mk (below_step (upH HB) hb)
 obtain ⟨A1, c1, rfl, l1, h1⟩ := IsRow.of ho1
 have HO1 := Aside0.mk ho1
 have H1 := Aside0.mk h1
 clear h1 ho1
 obtain ⟨A2, c2, rfl, l2, h2⟩ := IsRow.of ho2
 have HO2 := Aside0.mk ho2
 have H2 := Aside0.mk h2
 clear h2 ho2
 obtain ⟨A3, c3, rfl, l3, h3⟩ := IsRow.of ho3
 have HO3 := Aside0.mk ho3
 have H3 := Aside0.mk h3
 clear h3 ho3
 clear hb
 go_wp2_with fail
 refine (lru_Add.calls 60 _ _ ([] : List Int) _ _ ([] : List Int) _ _ ([false, false, false, false, false, false, false, false] : List Bool) 1 ([1] : List Int) ([] : List Int) ([false, false, false, false, false, false, false, false] : List Bool) 0 _ ?s0 ?t0 ?s1 ?t1 ?s2 ?t2 (by first | decide +kernel | kernel_rfl)).mono ?_
 case s0 => repeat (first | exact H1.out | (with_reducible refine Kd.C_alloc ?_ _) | (with_reducible refine Kd.C_drewN ?_ _) | (with_reducible refine Kd.C_drew ?_))
 case t0 => exact l1
 case s1 => repeat (first | exact H2.out | (with_reducible refine Kd.C_alloc ?_ _) | (with_reducible refine Kd.C_drewN ?_ _) | (with_reducible refine Kd.C_drew ?_))
 case t1 => exact l2
 case s2 => repeat (first | exact H3.out | (with_reducible refine Kd.C_alloc ?_ _) | (with_reducible refine Kd.C_drewN ?_ _) | (with_reducible refine Kd.C_drew ?_))
 case t2 => exact l3
 rintro e w2 ⟨v5, v6, v7, rfl, ho5, ho6, ho7, hb⟩
 clear H1
 clear H2
 clear H3
 replace HB := Aside0.mk (below_step (upH HB) hb)
 obtain ⟨A5, c5, rfl, l5, h5⟩ := IsRow.of ho5
 have HO5 := Aside0.mk ho5
 have H5 := Aside0.mk h5
 clear h5 ho5
 obtain ⟨A6, c6, rfl, l6, h6⟩ := IsRow.of ho6
 have HO6 := Aside0.mk ho6
 have H6 := Aside0.mk h6
 clear h6 ho6
 obtain ⟨A7, c7, rfl, l7, h7⟩ := IsRow.of ho7
 have HO7 := Aside0.mk ho7
 have H7 := Aside0.mk h7
 clear h7 ho7
 clear hb
 go_wp2_with fail
 refine (lru_Add.calls 60 _ _ ([1] : List Int) _ _ ([] : List Int) _ _ ([false, false, false, false, false, false, false, false] : List Bool) 2 ([2, 1] : List Int) ([] : List Int) ([false, false, false, false, false, false, false, false] : List Bool) 0 _ ?s0 ?t0 ?s1 ?t1 ?s2 ?t2 (by first | decide +kernel | kernel_rfl)).mono ?_
 case s0 => repeat (first | exact H5.out | (with_reducible refine Kd.C_alloc ?_ _) | (with_reducible refine Kd.C_drewN ?_ _) | (with_reducible refine Kd.C_drew ?_))
 case t0 => exact l5
 case s1 => repeat (first | exact H6.out | (with_reducible refine Kd.C_alloc ?_ _) | (with_reducible refine Kd.C_drewN ?_ _) | (with_reducible refine Kd.C_drew ?_))
 case t1 => exact l6
 case s2 => repeat (first | exact H7.out | (with_reducible refine Kd.C_alloc ?_ _) | (with_reducible refine Kd.C_drewN ?_ _) | (with_reducible refine Kd.C_drew ?_))
 case t2 => exact l7
 rintro e w3 ⟨v9, v10, v11, rfl, ho9, ho10, ho11, hb⟩
 clear H5
 clear H6
 clear H7
 replace HB := Aside0.mk (below_step (upH HB) hb)
 obtain ⟨A9, c9, rfl, l9, h9⟩ := IsRow.of ho9
 have HO9 := Aside0.mk ho9
 have H9 := Aside0.mk h9
 clear h9 ho9
 obtain ⟨A10, c10, rfl, l10, h10⟩ := IsRow.of ho10
 have HO10 := Aside0.mk ho10
 have H10 := Aside0.mk h10
 clear h10 ho10
 obtain ⟨A11, c11, rfl, l11, h11⟩ := IsRow.of ho11
 have HO11 := Aside0.mk ho11
 have H11 := Aside0.mk h11
 clear h11 ho11
 clear hb
 go_wp2_with fail
 refine (lru_Touch.calls 60 _ _ ([2, 1] : List Int) _ _ ([] : List Int) _ _ ([false, false, false, false, false, false, false, false] : List Bool) 1 ([2, 1] : List Int) ([] : List Int) ([false, true, false, false, false, false, false, false] : List Bool) 0 _ ?s0 ?t0 ?s1 ?t1 ?s2 ?t2 (by first | decide +kernel | kernel_rfl)).mono ?_
 case s0 => repeat (first | exact H9.out | (with_reducible refine Kd.C_alloc ?_ _) | (with_reducible refine Kd.C_drewN ?_ _) | (with_reducible refine Kd.C_drew ?_))
 case t0 => exact l9
 case s1 => repeat (first | exact H10.out | (with_reducible refine Kd.C_alloc ?_ _) | (with_reducible refine Kd.C_drewN ?_ _) | (with_reducible refine Kd.C_drew ?_))
 case t1 => exact l10
 case s2 => repeat (first | exact H11.out | (with_reducible refine Kd.C_alloc ?_ _) | (with_reducible refine Kd.C_drewN ?_ _) | (with_reducible refine Kd.C_drew ?_))
 case t2 => exact l11
 rintro e w4 ⟨v13, v14, v15, rfl, ho13, ho14, ho15, hb⟩
 clear H9
 clear H10
 clear H11
 replace HB := Aside0.mk (below_step (upH HB) hb)
 obtain ⟨A13, c13, rfl, l13, h13⟩ := IsRow.of ho13
 have HO13 := Aside0.mk ho13
 have H13 := Aside0.mk h13
 clear h13 ho13
 obtain ⟨A14, c14, rfl, l14, h14⟩ := IsRow.of ho14
 have HO14 := Aside0.mk ho14
 have H14 := Aside0.mk h14
 clear h14 ho14
 obtain ⟨A15, c15, rfl, l15, h15⟩ := IsRow.of ho15
 have HO15 := Aside0.mk ho15
 have H15 := Aside0.mk h15
 clear h15 ho15
 clear hb
 go_wp2_with fail
 have BK16 := Aside0.mk (blk_newb w4 (.cells #[.slice A13 ([2, 1] : List Int).length c13, .slice A14 ([] : List Int).length c14, .slice A15 ([false, true, false, false, false, false, false, false] : List Bool).length c15] 25) (w4.heap.size) (by simp))
 refine shut_code 19 [28, 29, 30, 31, 32, 33, 34, 35, 36, 37, 38, 39, 40, 41, 42, 43, 44, 45, 0] [litF (.int .i64 0), litF (.bool true), litF (.bool true), litF (.int .i64 0), litF (.bool true), litF (.bool true), litF (.bool true), litF (.int .i64 0), litF (.bool true), litF (.bool true), litF (.bool true), aggF [rowF (Kd.int .i64) ([2, 1] : List Int), rowF (Kd.int .i64) ([] : List Int), rowF Kd.bool ([false, true, false, false, false, false, false, false] : List Bool)], rowF (Kd.int .i64) ([2, 1] : List Int), rowF (Kd.int .i64) ([1] : List Int), aggF [rowF (Kd.int .i64) ([2, 1] : List Int), rowF (Kd.int .i64) ([] : List Int), rowF Kd.bool ([false, true, false, false, false, false, false, false] : List Bool)], litF (.int .i64 0), litF (.bool true), litF (.bool true), litF (.bool true)] (by kernel_rfl) rfl headgatelaw07_awake.tab5 headgatelaw07_awake.bits5 (by kernel_rfl) (by kernel_rfl) (by kernel_rfl) rfl (by kernel_rfl) ?_ ?_
 ·
  rw [show List.range 19 = [0, 1, 2, 3, 4, 5, 6, 7, 8, 9, 10, 11, 12, 13, 14, 15, 16, 17, 18] from rfl]
  refine opLaws_cons ?_ ?_
  ·
   intro a w' hB hoff hon
   refine ⟨_, rfl, fun K hK => ?_⟩
   have e2 : a.tmps[2]? = some (.int .i64 0) := (hoff 2 (by kernel_rfl)).trans rfl
   refine value_ (w1 := w') (v := .int .i64 0) (by rfl) rfl ?_ ?_
   ·
    go_simp; try rfl
   exact hK.out _ _ _ rfl rfl (Below.refl _ _)
  refine opLaws_cons ?_ ?_
  ·
   intro a w' hB hoff hon
   refine ⟨_, rfl, fun K hK => ?_⟩
   obtain ⟨x28, e28, f28⟩ := hon 0 28 _ (by kernel_rfl) rfl rfl
   replace f28 : x28 = .int .i64 0 := f28
   subst f28
   refine value_ (w1 := w') (v := .bool true) (by rfl) rfl ?_ ?_
   ·
    go_simp; try rfl
   exact hK.out _ _ _ rfl rfl (Below.refl _ _)
  refine opLaws_cons ?_ ?_
  ·
   intro a w' hB hoff hon
   refine ⟨_, rfl, fun K hK => ?_⟩
   obtain ⟨x29, e29, f29⟩ := hon 1 29 _ (by kernel_rfl) rfl rfl
   replace f29 : x29 = .bool true := f29
   subst f29
   refine value_ (w1 := w') (v := .bool true) (by rfl) rfl ?_ ?_
   ·
    go_simp; try rfl
   exact hK.out _ _ _ rfl rfl (Below.refl _ _)
  refine opLaws_cons ?_ ?_
  ·
   intro a w' hB hoff hon
   refine ⟨_, rfl, fun K hK => ?_⟩
   have e4 : a.tmps[4]? = some (.int .i64 0) := (hoff 4 (by kernel_rfl)).trans rfl
   obtain ⟨x30, e30, f30⟩ := hon 2 30 _ (by kernel_rfl) rfl rfl
   replace f30 : x30 = .bool true := f30
   subst f30
   refine value_ (w1 := w') (v := .int .i64 0) (wanted_on rfl rfl rfl e30) rfl ?_ ?_
   ·
    go_simp; try rfl
   exact hK.out _ _ _ rfl rfl (Below.refl _ _)
  refine opLaws_cons ?_ ?_
  ·
   intro a w' hB hoff hon
   refine ⟨_, rfl, fun K hK => ?_⟩
   obtain ⟨x31, e31, f31⟩ := hon 3 31 _ (by kernel_rfl) rfl rfl
   replace f31 : x31 = .int .i64 0 := f31
   subst f31
   obtain ⟨x30, e30, f30⟩ := hon 2 30 _ (by kernel_rfl) rfl rfl
   replace f30 : x30 = .bool true := f30
   subst f30
   refine value_ (w1 := w') (v := .bool true) (wanted_on rfl rfl rfl e30) rfl ?_ ?_
   ·
    go_simp; try rfl
   exact hK.out _ _ _ rfl rfl (Below.refl _ _)
  refine opLaws_cons ?_ ?_
  ·
   intro a w' hB hoff hon
   refine ⟨_, rfl, fun K hK => ?_⟩
   obtain ⟨x30, e30, f30⟩ := hon 2 30 _ (by kernel_rfl) rfl rfl
   replace f30 : x30 = .bool true := f30
   subst f30
   obtain ⟨x32, e32, f32⟩ := hon 4 32 _ (by kernel_rfl) rfl rfl
   replace f32 : x32 = .bool true := f32
   subst f32
   refine value_ (w1 := w') (v := .bool true) (by rfl) rfl ?_ ?_
   ·
    go_simp; try rfl
   exact hK.out _ _ _ rfl rfl (Below.refl _ _)
  refine opLaws_cons ?_ ?_
  ·
   intro a w' hB hoff hon
   refine ⟨_, rfl, fun K hK => ?_⟩
   obtain ⟨x33, e33, f33⟩ := hon 5 33 _ (by kernel_rfl) rfl rfl
   replace f33 : x33 = .bool true := f33
   subst f33
   refine value_ (w1 := w') (v := .bool true) (by rfl) rfl ?_ ?_
   ·
    go_simp; try rfl
   exact hK.out _ _ _ rfl rfl (Below.refl _ _)
  refine opLaws_cons ?_ ?_
  ·
   intro a w' hB hoff hon
   refine ⟨_, rfl, fun K hK => ?_⟩
   have e6 : a.tmps[6]? = some (.int .i64 0) := (hoff 6 (by kernel_rfl)).trans rfl
   obtain ⟨x34, e34, f34⟩ := hon 6 34 _ (by kernel_rfl) rfl rfl
   replace f34 : x34 = .bool true := f34
   subst f34
   refine value_ (w1 := w') (v := .int .i64 0) (wanted_on rfl rfl rfl e34) rfl ?_ ?_
   ·
    go_simp; try rfl
   exact hK.out _ _ _ rfl rfl (Below.refl _ _)
  refine opLaws_cons ?_ ?_
  ·
   intro a w' hB hoff hon
   refine ⟨_, rfl, fun K hK => ?_⟩
   obtain ⟨x35, e35, f35⟩ := hon 7 35 _ (by kernel_rfl) rfl rfl
   replace f35 : x35 = .int .i64 0 := f35
   subst f35
   obtain ⟨x34, e34, f34⟩ := hon 6 34 _ (by kernel_rfl) rfl rfl
   replace f34 : x34 = .bool true := f34
   subst f34
   refine value_ (w1 := w') (v := .bool true) (wanted_on rfl rfl rfl e34) rfl ?_ ?_
   ·
    go_simp; try rfl
   exact hK.out _ _ _ rfl rfl (Below.refl _ _)
  refine opLaws_cons ?_ ?_
  ·
   intro a w' hB hoff hon
   refine ⟨_, rfl, fun K hK => ?_⟩
   obtain ⟨x34, e34, f34⟩ := hon 6 34 _ (by kernel_rfl) rfl rfl
   replace f34 : x34 = .bool true := f34
   subst f34
   obtain ⟨x36, e36, f36⟩ := hon 8 36 _ (by kernel_rfl) rfl rfl
   replace f36 : x36 = .bool true := f36
   subst f36
   refine value_ (w1 := w') (v := .bool true) (by rfl) rfl ?_ ?_
   ·
    go_simp; try rfl
   exact hK.out _ _ _ rfl rfl (Below.refl _ _)
  refine opLaws_cons ?_ ?_
  ·
   intro a w' hB hoff hon
   refine ⟨_, rfl, fun K hK => ?_⟩
   obtain ⟨x37, e37, f37⟩ := hon 9 37 _ (by kernel_rfl) rfl rfl
   replace f37 : x37 = .bool true := f37
   subst f37
   refine value_ (w1 := w') (v := .bool true) (by rfl) rfl ?_ ?_
   ·
    go_simp; try rfl
   exact hK.out _ _ _ rfl rfl (Below.refl _ _)
  refine opLaws_cons ?_ ?_
  ·
   intro a w' hB hoff hon
   refine ⟨_, rfl, fun K hK => ?_⟩
   have e7 : a.tmps[7]? = some (.pointer (some ⟨w4.heap.size, 0, none⟩)) := (hoff 7 (by kernel_rfl)).trans rfl
   obtain ⟨x38, e38, f38⟩ := hon 10 38 _ (by kernel_rfl) rfl rfl
   replace f38 : x38 = .bool true := f38
   subst f38
   have bk : w'.heap[w4.heap.size]? = some (.cells #[.slice A13 ([2, 1] : List Int).length c13, .slice A14 ([] : List Int).length c14, .slice A15 ([false, true, false, false, false, false, false, false] : List Bool).length c15] 25 (0, 0)) := blk_below (by repeat (first | exact BK16.out | refine blk_alloc ?_ _)) hB
   have z0 : w'.cell? ⟨_, 0, none⟩ = some (.slice A13 ([2, 1] : List Int).length c13) := (blk_cell bk 0).trans rfl
   have z1 : w'.cell? ⟨_, 1, none⟩ = some (.slice A14 ([] : List Int).length c14) := (blk_cell bk 1).trans rfl
   have z2 : w'.cell? ⟨_, 2, none⟩ = some (.slice A15 ([false, true, false, false, false, false, false, false] : List Bool).length c15) := (blk_cell bk 2).trans rfl
   refine value_ (w1 := w') (v := .agg #[.slice A13 ([2, 1] : List Int).length c13, .slice A14 ([] : List Int).length c14, .slice A15 ([false, true, false, false, false, false, false, false] : List Bool).length c15]) (wanted_on rfl rfl rfl e38) rfl ?_ ?_
   ·
    go_simp; try rfl
   exact hK.out _ _ _ rfl ⟨_, rfl, ⟨_, _, rfl, ⟨_, _, rfl, l13, Kd.C_below (by repeat (first | exact H13.out | (with_reducible refine Kd.C_alloc ?_ _))) hB⟩, ⟨_, _, rfl, ⟨_, _, rfl, l14, Kd.C_below (by repeat (first | exact H14.out | (with_reducible refine Kd.C_alloc ?_ _))) hB⟩, ⟨_, _, rfl, ⟨_, _, rfl, l15, Kd.C_below (by repeat (first | exact H15.out | (with_reducible refine Kd.C_alloc ?_ _))) hB⟩, rfl⟩⟩⟩⟩ (Below.refl _ _)
  refine opLaws_cons ?_ ?_
  ·
   intro a w' hB hoff hon
   refine ⟨_, rfl, fun K hK => ?_⟩
   obtain ⟨x38, e38, f38⟩ := hon 10 38 _ (by kernel_rfl) rfl rfl
   replace f38 : x38 = .bool true := f38
   subst f38
   refine Kd.R_lit_step (Kd.int .i64) _ 3 ?hg (N := 40) ?hd (xs := ([2, 1] : List Int)) (inner := [.int .i64 2, .int .i64 1]) (ok := fun _ => True) (okp := fun _ => True) ?hr ?hp (fun _ hk => hk) trivial (Below.refl _ _) (Nat.le_refl _) (by simp) ?_
   case hd => rfl
   case hg => exact (wanted_on rfl rfl rfl e38)
   case hr => first | (go_simp; done) | (go_simp; rfl)
   case hp => exact (Reps.one (show Kd.M (Kd.int .i64) _ _ _ 2 [.int .i64 2] from rfl) (Reps.one (show Kd.M (Kd.int .i64) _ _ _ 1 [.int .i64 1] from rfl) (Reps.none _ _)))
   intro v w2 ho hb _ _
   exact hK.out _ _ _ rfl (IsRow.of ho) hb
  refine opLaws_cons ?_ ?_
  ·
   intro a w' hB hoff hon
   refine ⟨_, rfl, fun K hK => ?_⟩
   obtain ⟨x38, e38, f38⟩ := hon 10 38 _ (by kernel_rfl) rfl rfl
   replace f38 : x38 = .bool true := f38
   subst f38
   refine Kd.R_lit_step (Kd.int .i64) _ 3 ?hg (N := 41) ?hd (xs := ([1] : List Int)) (inner := [.int .i64 1]) (ok := fun _ => True) (okp := fun _ => True) ?hr ?hp (fun _ hk => hk) trivial (Below.refl _ _) (Nat.le_refl _) (by simp) ?_
   case hd => rfl
   case hg => exact (wanted_on rfl rfl rfl e38)
   case hr => first | (go_simp; done) | (go_simp; rfl)
   case hp => exact (Reps.one (show Kd.M (Kd.int .i64) _ _ _ 1 [.int .i64 1] from rfl) (Reps.none _ _))
   intro v w2 ho hb _ _
   exact hK.out _ _ _ rfl (IsRow.of ho) hb
  refine opLaws_cons ?_ ?_
  ·
   intro a w' hB hoff hon
   refine ⟨_, rfl, fun K hK => ?_⟩
   obtain ⟨x40, e40, f40⟩ := hon 12 40 _ (by kernel_rfl) rfl rfl
   obtain ⟨A17x, c17x, rfl, l17x, h17x⟩ := f40
   obtain ⟨x41, e41, f41⟩ := hon 13 41 _ (by kernel_rfl) rfl rfl
   obtain ⟨A18x, c18x, rfl, l18x, h18x⟩ := f41
   obtain ⟨x38, e38, f38⟩ := hon 10 38 _ (by kernel_rfl) rfl rfl
   replace f38 : x38 = .bool true := f38
   subst f38
   refine goes_ Try.func42 (by kernel_rfl) rfl #[.slice A17x ([2, 1] : List Int).length c17x, .slice none 0 0, .slice A18x ([1] : List Int).length c18x] (wanted_on rfl rfl rfl e38) rfl rfl (by first | (simp only [List.map_toArray, List.map_cons, List.map_nil, Act.eval, Array.getD_eq_getD_getElem?, Option.getD_some, e40, e41, e38]; done) | (simp only [List.map_toArray, List.map_cons, List.map_nil, Act.eval, Array.getD_eq_getD_getElem?, Option.getD_some, e40, e41, e38]; rfl) | rfl) ?_
   refine (headgatelaw07_lists.calls 60 _ _ _ ([2, 1] : List Int) _ _ _ ([] : List Int) _ _ ([1] : List Int) ([2, 1] : List Int) ([] : List Int) ([false, true, false, false, false, false, false, false] : List Bool) _ (Kd.V_mk l17x (Kd.C_F (Kd.heap_int .i64) h17x)) (Kd.V_mk (c := 0) (Nat.zero_le _) (Kd.C_F (Kd.heap_int .i64) (Kd.C_nil _ _))) h18x l18x (by first | decide +kernel | kernel_rfl)).mono ?_
   rintro e w2 ⟨v19, v20, v21, rfl, ho19, ho20, ho21, hb⟩
   exact ⟨_, rfl, hK.out _ _ _ rfl ⟨_, rfl, ⟨_, _, rfl, (by first | exact IsRow.of ho19 | exact IsRow.ofV ho19), ⟨_, _, rfl, (by first | exact IsRow.of ho20 | exact IsRow.ofV ho20), ⟨_, _, rfl, (by first | exact IsRow.of ho21 | exact IsRow.ofV ho21), rfl⟩⟩⟩⟩ hb⟩
  refine opLaws_cons ?_ ?_
  ·
   intro a w' hB hoff hon
   refine ⟨_, rfl, fun K hK => ?_⟩
   have e8 : a.tmps[8]? = some (.int .i64 0) := (hoff 8 (by kernel_rfl)).trans rfl
   obtain ⟨x38, e38, f38⟩ := hon 10 38 _ (by kernel_rfl) rfl rfl
   replace f38 : x38 = .bool true := f38
   subst f38
   refine value_ (w1 := w') (v := .int .i64 0) (wanted_on rfl rfl rfl e38) rfl ?_ ?_
   ·
    go_simp; try rfl
   exact hK.out _ _ _ rfl rfl (Below.refl _ _)
  refine opLaws_cons ?_ ?_
  ·
   intro a w' hB hoff hon
   refine ⟨_, rfl, fun K hK => ?_⟩
   obtain ⟨x39, e39, f39⟩ := hon 11 39 _ (by kernel_rfl) rfl rfl
   obtain ⟨_, rfl, ⟨_, _, rfl, ⟨A13x, c13x, rfl, l13x, h13x⟩, ⟨_, _, rfl, ⟨A14x, c14x, rfl, l14x, h14x⟩, ⟨_, _, rfl, ⟨A15x, c15x, rfl, l15x, h15x⟩, rfl⟩⟩⟩⟩ := f39
   obtain ⟨x42, e42, f42⟩ := hon 14 42 _ (by kernel_rfl) rfl rfl
   obtain ⟨_, rfl, ⟨_, _, rfl, ⟨A19x, c19x, rfl, l19x, h19x⟩, ⟨_, _, rfl, ⟨A20x, c20x, rfl, l20x, h20x⟩, ⟨_, _, rfl, ⟨A21x, c21x, rfl, l21x, h21x⟩, rfl⟩⟩⟩⟩ := f42
   obtain ⟨x43, e43, f43⟩ := hon 15 43 _ (by kernel_rfl) rfl rfl
   replace f43 : x43 = .int .i64 0 := f43
   subst f43
   obtain ⟨x38, e38, f38⟩ := hon 10 38 _ (by kernel_rfl) rfl rfl
   replace f38 : x38 = .bool true := f38
   subst f38
   refine goes_ Try.func28 (by kernel_rfl) rfl #[.agg #[.slice A13x ([2, 1] : List Int).length c13x, .slice A14x ([] : List Int).length c14x, .slice A15x ([false, true, false, false, false, false, false, false] : List Bool).length c15x], .agg #[.slice A19x ([2, 1] : List Int).length c19x, .slice A20x ([] : List Int).length c20x, .slice A21x ([false, true, false, false, false, false, false, false] : List Bool).length c21x], .int .i64 0] (wanted_on rfl rfl rfl e38) rfl rfl (by first | (simp only [List.map_toArray, List.map_cons, List.map_nil, Act.eval, Array.getD_eq_getD_getElem?, Option.getD_some, e39, e42, e43, e38]; done) | (simp only [List.map_toArray, List.map_cons, List.map_nil, Act.eval, Array.getD_eq_getD_getElem?, Option.getD_some, e39, e42, e43, e38]; rfl) | rfl) ?_
   refine (headgatelaw07_is.calls 60 _ _ ([2, 1] : List Int) _ _ ([] : List Int) _ _ ([false, true, false, false, false, false, false, false] : List Bool) _ _ ([2, 1] : List Int) _ _ ([] : List Int) _ _ ([false, true, false, false, false, false, false, false] : List Bool) 0 true _ h13x l13x h14x l14x h15x l15x h19x l19x h20x l20x h21x l21x (by first | decide +kernel | kernel_rfl)).mono ?_
   rintro e w2 ⟨rfl, hb⟩
   exact ⟨_, rfl, hK.out _ _ _ rfl rfl hb⟩
  refine opLaws_cons ?_ ?_
  ·
   intro a w' hB hoff hon
   refine ⟨_, rfl, fun K hK => ?_⟩
   obtain ⟨x38, e38, f38⟩ := hon 10 38 _ (by kernel_rfl) rfl rfl
   replace f38 : x38 = .bool true := f38
   subst f38
   obtain ⟨x44, e44, f44⟩ := hon 16 44 _ (by kernel_rfl) rfl rfl
   replace f44 : x44 = .bool true := f44
   subst f44
   refine value_ (w1 := w') (v := .bool true) (by rfl) rfl ?_ ?_
   ·
    go_simp; try rfl
   exact hK.out _ _ _ rfl rfl (Below.refl _ _)
  refine opLaws_cons ?_ ?_
  ·
   intro a w' hB hoff hon
   refine ⟨_, rfl, fun K hK => ?_⟩
   obtain ⟨x45, e45, f45⟩ := hon 17 45 _ (by kernel_rfl) rfl rfl
   replace f45 : x45 = .bool true := f45
   subst f45
   refine value_ (w1 := w') (v := .bool true) (by rfl) rfl ?_ ?_
   ·
    go_simp; try rfl
   exact hK.out _ _ _ rfl rfl (Below.refl _ _)
  exact opLaws_nil
 intro vals w5 hb hv
 have q18 : vals 18 = .bool true := hv 18 _ rfl
 simp only [selOf, List.zipIdx_cons, List.zipIdx_nil, List.map_cons, List.map_nil, Nat.zero_add, Nat.reduceAdd, putSel, if_true, Act.put, List.setIfInBounds_toArray, List.set_cons_zero, List.set_cons_succ, q18]
 clear hv q18
 clear H13
 clear H14
 clear H15
 clear BK16
 replace HB := Aside0.mk (below_step (upH HB) hb)
 clear hb
 go_wp2
 go_ret
 exact ⟨rfl, by repeat (first | (with_reducible first | exact HB.out | apply below_alloc | apply pw_below_drewN | apply below_drew1) | exact HB.out)⟩


end Go.Proofs.Ytaofihdmgdpenaa.X
