/- What Go functions of this seat compute, told as Lean functions, and that each call of the Go code comes to that answer; for a law: its row, for every input. Written by a program of the session. -/
import Derived.Test.YtfnhoncpaheejaaX0
import Derived.Test.YtfnhoncpaheejaaX2
namespace Go.Proofs.Ytfnhoncpaheejaa.X
open Go.RowKit Go.Proofs.YtfnhoncpaheejaaW.PrintWords Go.Proofs.YtfnhoncpaheejaaW.PrintLast Go.Proofs.YtfnhoncpaheejaaW.PrintMore
attribute [local go_sem] max2_int min2_int max_two min_two max_three min_three max_four min_four   -- for this text's walks alone
set_option linter.unusedVariables false
set_option linter.unusedSimpArgs false

/-! ### headgatelaw19_made: function 9 -/
mutual
def headgatelaw19_made.l0 : Nat → List Int → List (S32) → Int → Option ((List (S32)))
 | 0, _, _, _ => none
 | k + 1, x0, x3, x4 => if x4 < (x0.length : Int) then (headgatelaw19_made.j1 k x0 x3 x4 (decide (x4 < 16))) else (headgatelaw19_made.j1 k x0 x3 x4 false)
def headgatelaw19_made.j1 : Nat → List Int → List (S32) → Int → Bool → Option ((List (S32)))
 | 0, _, _, _, _ => none
 | k + 1, x0, x3, x4, x14 => if x14 = true then (if 0 ≤ x4 then (if x4 < (x0.length : Int) then ((headgatekit_Mod.f (rd x0 x4) 1048576).bind fun t102 => (if (Int.tmod t102 3) = 0 then (if x4 < 8 then (if x3.length < 5864062014805 then (headgatelaw19_made.l0 k x0 (x3 ++ [(⟨Int.tmod (wrap64 ((wrap64 (11 * x4)) + 3)) 48, Int.tmod (wrap64 ((wrap64 (13 * x4)) + 7)) 64, wrap64 (1 + (Int.tmod (wrap64 ((wrap64 (3 * x4)) + 1)) 8))⟩ : S32)]) (wrap64 (x4 + 1))) else (none)) else (if x3.length < 5864062014805 then (headgatelaw19_made.l0 k x0 (x3 ++ [(⟨Int.tmod (wrap64 ((wrap64 (11 * x4)) + 3)) 48, Int.tmod (wrap64 ((wrap64 (13 * x4)) + 7)) 64, 0⟩ : S32)]) (wrap64 (x4 + 1))) else (none))) else (if x3.length < 5864062014805 then (headgatelaw19_made.l0 k x0 (x3 ++ [(⟨Int.tmod (wrap64 ((wrap64 (11 * x4)) + 3)) 48, Int.tmod (wrap64 ((wrap64 (13 * x4)) + 7)) 64, 0⟩ : S32)]) (wrap64 (x4 + 1))) else (none)))) else (none)) else (none)) else (some x3)
end
def headgatelaw19_made.f (k : Nat) (l0 : List Int) : Option ((List (S32))) := headgatelaw19_made.l0 k l0 ([] : List (S32)) 0
theorem headgatelaw19_made.mono_l : ∀ k, (∀ y0 y1 y2, LeO (headgatelaw19_made.l0 k y0 y1 y2) (headgatelaw19_made.l0 (k + 1) y0 y1 y2)) ∧ (∀ y0 y1 y2 y3, LeO (headgatelaw19_made.j1 k y0 y1 y2 y3) (headgatelaw19_made.j1 (k + 1) y0 y1 y2 y3))
 | 0 => ⟨fun _ _ _ r h => by simp [headgatelaw19_made.l0] at h, fun _ _ _ _ r h => by simp [headgatelaw19_made.j1] at h⟩
 | k + 1 => by
  obtain ⟨ih0, ih1⟩ := headgatelaw19_made.mono_l k
  refine ⟨?_, ?_⟩
  ·
   intro y0 y1 y2
   unfold headgatelaw19_made.l0
   repeat' first
   | (with_reducible exact ih0 _ _ _)
   | (with_reducible exact ih1 _ _ _ _)
   | (with_reducible exact LeO.refl _)
   | (with_reducible exact LeO.none _)
   | (with_reducible refine LeO.ite ?_ ?_)
   | (with_reducible refine LeO.bind ?_ (fun _ => ?_))
   | exact ih0 _ _ _
   | exact ih1 _ _ _ _
   | exact LeO.none _
   | refine LeO.ite ?_ ?_
   | refine LeO.bind ?_ (fun _ => ?_)
  ·
   intro y0 y1 y2 y3
   unfold headgatelaw19_made.j1
   repeat' first
   | (with_reducible exact ih0 _ _ _)
   | (with_reducible exact ih1 _ _ _ _)
   | (with_reducible exact LeO.refl _)
   | (with_reducible exact LeO.none _)
   | (with_reducible refine LeO.ite ?_ ?_)
   | (with_reducible refine LeO.bind ?_ (fun _ => ?_))
   | exact ih0 _ _ _
   | exact ih1 _ _ _ _
   | exact LeO.none _
   | refine LeO.ite ?_ ?_
   | refine LeO.bind ?_ (fun _ => ?_)
theorem headgatelaw19_made.mono : ∀ a0 k, LeO (headgatelaw19_made.f k a0) (headgatelaw19_made.f (k + 1) a0) := by
 intro a0 k
 obtain ⟨ih0, ih1⟩ := headgatelaw19_made.mono_l k
 unfold headgatelaw19_made.f
 repeat' first
   | (with_reducible exact ih0 _ _ _)
   | (with_reducible exact ih1 _ _ _ _)
   | (with_reducible exact LeO.refl _)
   | (with_reducible exact LeO.none _)
   | (with_reducible refine LeO.ite ?_ ?_)
   | (with_reducible refine LeO.bind ?_ (fun _ => ?_))
   | exact ih0 _ _ _
   | exact ih1 _ _ _ _
   | exact LeO.none _
   | refine LeO.ite ?_ ?_
   | refine LeO.bind ?_ (fun _ => ?_)
set_option maxHeartbeats 2000000 in
set_option maxRecDepth 100000 in
theorem headgatelaw19_made.calls (k : Nat) (A0 : Option Addr) (c0 : Nat) (l0 : List Int) (r : List (S32)) (w : World) (hr0 : Kd.C (Kd.int .i64) w A0 l0.length l0) (hc0 : l0.length ≤ c0) (h : headgatelaw19_made.f k l0 = some r) :
  Calls Try.prog 9 #[.slice A0 l0.length c0] w fun e w' => ∃ v0_ : Value, e = .returned (v0_) ∧ Kd.R k32 32 w' w.heap.size (fun _ => True) v0_ r ∧ Below w.heap.size w w' := by
 have hu32 := Try.underlying32
 have HR0 := Aside0.mk hr0
 have HC0 := Aside0.mk hc0
 clear hr0 hc0
 have HB := Aside0.mk (Below.refl w.heap.size w)
 have H : (headgatelaw19_made.l0 k l0 ([] : List (S32)) 0) = some r := h
 clear h
 have H' := Aside0.mk H
 clear H
 go_enter Try.func9, Try.ntmps9
 go_wp2
 go_loopg [3, 4] k (fun kq v3 v4 w' => ∃ (x3_1 : List (S32)) (x4_1 : Int), v4 = .int .i64 x4_1 ∧ Aside0 (headgatelaw19_made.l0 kq l0 x3_1 x4_1 = some r) ∧ Aside0 (kq ≤ k) ∧ Aside0 (Kd.R k32 32 w' w.heap.size (fun _ => True) v3 x3_1) ∧ Aside0 (Below w.heap.size w w'))
 case atStart => exact ⟨(([] : List (S32))), (0), (by first | rfl | (simp; done) | (simp [*]; done)), H', ⟨Nat.le_refl _⟩, ⟨by first | exact Kd.R_nil _ _ _ _ _ | exact Kd.N_nil _ _ _ _ _ | exact Kd.V_nil _ _ _ _ _ | exact Kd.Q_nil _ _ _ _ _ | exact Kd.S_nil _ _ _ _ _⟩, ⟨by repeat (first | (with_reducible first | exact HB.out | apply below_alloc | apply pw_below_drewN | apply below_drew1) | exact HB.out)⟩⟩
 case round =>
  clear H'
  obtain ⟨x3_1, x4_1, rfl, HA, HK1, HO_3, HB⟩ := hrel
  cases gk with
  | zero => exact absurd HA.out (by simp [headgatelaw19_made.l0])
  | succ k1 =>
   have H := HA.out
   clear HA
   simp only [headgatelaw19_made.l0] at H
   have HC2 := Aside0.mk H
   clear H
   go_upto_region 3 with (fail)
   go_cut [14] (fun v14 wc => ∃ (kq : Nat) (x14_1 : Bool), v14 = .bool x14_1 ∧ Aside0 (headgatelaw19_made.j1 kq l0 x3_1 x4_1 x14_1 = some r) ∧ Aside0 (kq ≤ k1) ∧ Aside0 (Kd.R k32 32 wc w.heap.size (fun _ => True) u3 x3_1) ∧ Aside0 (Below w.heap.size w wc))
   case first =>
    have H := HC2.out
    clear HC2
    by_cases c3 : x4_1 < (l0.length : Int)
    ·
     rw [if_pos c3] at H
     have c3b0 : decide (x4_1 < (l0.length : Int)) = true := decide_eq_true c3
     clear c3
     (first | rw [c3b0] | (simp only [i64_w, i32_w]; rw [c3b0]) | skip)
     have H' := Aside0.mk H
     clear H
     go_wp2
     go_meet
     case rel => exact ⟨_, (decide (x4_1 < 16)), (by first | rfl | (simp; done) | (simp [*]; done)), H', ⟨by have := HK1.out; first | omega | exact Nat.le_refl _⟩, ⟨by (with_reducible repeat (first | apply Kd.R_alloc | apply Kd.R_drewN | apply Kd.R_drew)); exact HO_3.out⟩, ⟨by repeat (first | (with_reducible first | exact HB.out | apply below_alloc | apply pw_below_drewN | apply below_drew1) | exact HB.out)⟩⟩
    ·
     rw [if_neg c3] at H
     have c3b0 : decide (x4_1 < (l0.length : Int)) = false := decide_eq_false c3
     clear c3
     (first | rw [c3b0] | (simp only [i64_w, i32_w]; rw [c3b0]) | skip)
     have H' := Aside0.mk H
     clear H
     go_wp2
     go_meet
     case rel => exact ⟨_, (false), (by first | rfl | (simp; done) | (simp [*]; done)), H', ⟨by have := HK1.out; first | omega | exact Nat.le_refl _⟩, ⟨by (with_reducible repeat (first | apply Kd.R_alloc | apply Kd.R_drewN | apply Kd.R_drew)); exact HO_3.out⟩, ⟨by repeat (first | (with_reducible first | exact HB.out | apply below_alloc | apply pw_below_drewN | apply below_drew1) | exact HB.out)⟩⟩
   case rest =>
    clear HC2
    try clear p2
    try clear c3
    try clear c3b0
    obtain ⟨kq, x14_1, rfl, HA, HJ1, HO_3, HB⟩ := hcut
    cases kq with
    | zero => exact absurd HA.out (by simp [headgatelaw19_made.j1])
    | succ kj1 =>
     have H := HA.out
     clear HA
     simp only [headgatelaw19_made.j1] at H
     by_cases c4 : x14_1 = true
     ·
      subst c4
      have H1 : (if 0 ≤ x4_1 then (if x4_1 < (l0.length : Int) then ((headgatekit_Mod.f (rd l0 x4_1) 1048576).bind fun t102 => (if (Int.tmod t102 3) = 0 then (if x4_1 < 8 then (if x3_1.length < 5864062014805 then (headgatelaw19_made.l0 kj1 l0 (x3_1 ++ [(⟨Int.tmod (wrap64 ((wrap64 (11 * x4_1)) + 3)) 48, Int.tmod (wrap64 ((wrap64 (13 * x4_1)) + 7)) 64, wrap64 (1 + (Int.tmod (wrap64 ((wrap64 (3 * x4_1)) + 1)) 8))⟩ : S32)]) (wrap64 (x4_1 + 1))) else (none)) else (if x3_1.length < 5864062014805 then (headgatelaw19_made.l0 kj1 l0 (x3_1 ++ [(⟨Int.tmod (wrap64 ((wrap64 (11 * x4_1)) + 3)) 48, Int.tmod (wrap64 ((wrap64 (13 * x4_1)) + 7)) 64, 0⟩ : S32)]) (wrap64 (x4_1 + 1))) else (none))) else (if x3_1.length < 5864062014805 then (headgatelaw19_made.l0 kj1 l0 (x3_1 ++ [(⟨Int.tmod (wrap64 ((wrap64 (11 * x4_1)) + 3)) 48, Int.tmod (wrap64 ((wrap64 (13 * x4_1)) + 7)) 64, 0⟩ : S32)]) (wrap64 (x4_1 + 1))) else (none)))) else (none)) else (none)) = some r := by rw [if_pos rfl] at H; exact H
      clear H
      have H := H1
      clear H1
      by_cases c5 : 0 ≤ x4_1
      ·
       rw [if_pos c5] at H
       have c5b0 : decide (0 ≤ x4_1) = true := decide_eq_true c5
       clear c5
       by_cases c6 : x4_1 < (l0.length : Int)
       ·
        rw [if_pos c6] at H
        have c6b0 : decide (x4_1 < (l0.length : Int)) = true := decide_eq_true c6
        clear c6
        replace H := Option.bind_eq_some_iff.mp H
        obtain ⟨t102, A70, H⟩ := H
        replace H : (if (Int.tmod t102 3) = 0 then (if x4_1 < 8 then (if x3_1.length < 5864062014805 then (headgatelaw19_made.l0 kj1 l0 (x3_1 ++ [(⟨Int.tmod (wrap64 ((wrap64 (11 * x4_1)) + 3)) 48, Int.tmod (wrap64 ((wrap64 (13 * x4_1)) + 7)) 64, wrap64 (1 + (Int.tmod (wrap64 ((wrap64 (3 * x4_1)) + 1)) 8))⟩ : S32)]) (wrap64 (x4_1 + 1))) else (none)) else (if x3_1.length < 5864062014805 then (headgatelaw19_made.l0 kj1 l0 (x3_1 ++ [(⟨Int.tmod (wrap64 ((wrap64 (11 * x4_1)) + 3)) 48, Int.tmod (wrap64 ((wrap64 (13 * x4_1)) + 7)) 64, 0⟩ : S32)]) (wrap64 (x4_1 + 1))) else (none))) else (if x3_1.length < 5864062014805 then (headgatelaw19_made.l0 kj1 l0 (x3_1 ++ [(⟨Int.tmod (wrap64 ((wrap64 (11 * x4_1)) + 3)) 48, Int.tmod (wrap64 ((wrap64 (13 * x4_1)) + 7)) 64, 0⟩ : S32)]) (wrap64 (x4_1 + 1))) else (none))) = some r := H
        have A7 := Aside0.mk A70
        clear A70
        by_cases c8 : (Int.tmod t102 3) = 0
        ·
         rw [if_pos c8] at H
         have c8b0 : ((Int.tmod t102 3) == 0) = true := beq_iff_eq.mpr c8
         have c8b1 : ((Int.tmod t102 3) != 0) = false := bne_eq_false_iff_eq.mpr c8
         clear c8
         by_cases c9 : x4_1 < 8
         ·
          rw [if_pos c9] at H
          have c9b0 : decide (x4_1 < 8) = true := decide_eq_true c9
          clear c9
          by_cases c10 : x3_1.length < 5864062014805
          ·
           rw [if_pos c10] at H
           have LMc10 := Aside0.mk c10
           clear c10
           obtain ⟨y104, hy104⟩ : ∃ y_ : List (S32), y_ = (x3_1 ++ [(⟨Int.tmod (wrap64 ((wrap64 (11 * x4_1)) + 3)) 48, Int.tmod (wrap64 ((wrap64 (13 * x4_1)) + 7)) 64, wrap64 (1 + (Int.tmod (wrap64 ((wrap64 (3 * x4_1)) + 1)) 8))⟩ : S32)]) := ⟨_, rfl⟩
           replace H : (headgatelaw19_made.l0 kj1 l0 y104 (wrap64 (x4_1 + 1))) = some r := by first | (rw [hy104]; with_reducible exact H) | (have H2_ := (Option.bind_some _ _).symm.trans H; rw [hy104]; with_reducible exact H2_) | (have H2_ := (Option.bind_some _ _).symm.trans H; with_reducible exact H2_) | with_reducible exact H | (rw [hy104]; exact H) | exact H
           have Ny104 := Aside0.mk hy104
           clear hy104
           have H' := Aside0.mk H
           clear H
           have p101 : 0 ≤ (x4_1 : Int) := of_decide_eq_true (by first | (with_reducible assumption) | assumption)
           have q101 : x4_1 < (l0.length : Int) := of_decide_eq_true (by first | (with_reducible assumption) | assumption)
           obtain ⟨ad101, e101, hx101_0⟩ := Kd.at_int HR0.out x4_1 p101 q101
           cases e101
           replace hx101_0 := (HB.out.cell (World.block_lt_of_cell? w _ hx101_0)).trans hx101_0
           replace p101 := eq_true p101
           replace q101 := eq_true q101
           go_wp2_with (first | ((with_reducible refine gate_callee (f := 11) rfl ?_); refine goesL_ (some 21) rfl rfl Try.func11 (by kernel_rfl) rfl #[.int .i64 (rd l0 x4_1), .int .i64 1048576] rfl (by (try simp only [List.map_toArray, List.map_cons, List.map_nil]); first | done | rfl | (simp only [List.length_drop, List.length_take]; rfl)) ?_; (with_reducible refine (headgatekit_Mod.calls (rd l0 x4_1) 1048576 t102 _ A7.out).mono ?_); rintro e w' ⟨rfl, ⟨nd, rfl⟩⟩; refine ⟨_, rfl, ?_⟩; (try (rw [drewN_self wc]; generalize hq_ : World.drewN wc _ = wc; have n0_ : Aside0 (Kd.R k32 32 wc w.heap.size (fun _ => True) u3 x3_1) := ⟨by rw [← hq_]; exact (by (with_reducible repeat (first | apply Kd.R_alloc | apply Kd.R_drewN | apply Kd.R_drew)); exact HO_3.out)⟩; have n1_ : Aside0 (Below w.heap.size w wc) := ⟨by rw [← hq_]; exact (by repeat (first | (with_reducible first | exact HB.out | apply below_alloc | apply pw_below_drewN | apply below_drew1) | exact HB.out))⟩; clear HO_3 HB hq_; have HO_3 := n0_; have HB := n1_; clear n0_ n1_))) | ((with_reducible refine gate_dst (N := 6) rfl ?_); refine box_event ?hg (N := 6) ?hd (cs := #[.int .i64 0, .int .i64 0, .int .i64 0]) (t := 32) ?hr ?_; (case hd => rfl); (case hg => rfl); (case hr => first | (go_simp; done) | (go_simp; rfl)); intro gb103 hg w11 hbox hb; have n0_ := Aside0.mk (Kd.R_below (Kd.R_elderB (by (with_reducible repeat (first | apply Kd.R_alloc | apply Kd.R_drewN | apply Kd.R_drew)); exact HO_3.out) gb103 (Nat.le_of_eq hg.symm)) hb); have n1_ := Aside0.mk (below_step (by repeat (first | (with_reducible first | exact HB.out | apply below_alloc | apply pw_below_drewN | apply below_drew1) | exact HB.out)) hb); have n2_ := Aside0.mk (hbox); have n3_ := Aside0.mk ((by rw [hg]; exact (below_size (by repeat (first | (with_reducible first | exact HB.out | apply below_alloc | apply pw_below_drewN | apply below_drew1) | exact HB.out))) : w.heap.size ≤ gb103)); have n4_ := Aside0.mk ((by rw [hg]; exact (below_size (by repeat (first | (with_reducible first | exact HB.out | apply below_alloc | apply pw_below_drewN | apply below_drew1) | exact HB.out))) : w.heap.size ≤ gb103)); clear HO_3; clear HB; have HO_3 := n0_; have HB := n1_; have BK103 := n2_; have GW103 := n3_; have GE103 := n4_; clear n0_ n1_ n2_ n3_ n4_; clear hb hbox hg; have hcz12_0 : w11.cell? ⟨gb103, 0, none⟩ = some (.int .i64 0) := (blk_cell BK103.out 0).trans rfl; have hcz12_1 : w11.cell? ⟨gb103, 1, none⟩ = some (.int .i64 0) := (blk_cell BK103.out 1).trans rfl; have hcz12_2 : w11.cell? ⟨gb103, 2, none⟩ = some (.int .i64 0) := (blk_cell BK103.out 2).trans rfl; have hss12_0 : ∀ (u0_ u1_ u2_ v_ : Value), ((((w11.setCell ⟨gb103, 0, none⟩ u0_).setCell ⟨gb103, 1, none⟩ u1_).setCell ⟨gb103, 2, none⟩ u2_).setCell ⟨gb103, 0, none⟩ v_).cell? ⟨gb103, 0, none⟩ = some v_ := (fun u0_ u1_ u2_ v_ => World.cell?_setCell_same _ _ _ ((World.cell?_setCell_other _ _ _ _ (by simp)).trans ((World.cell?_setCell_other _ _ _ _ (by simp)).trans (World.cell?_setCell_same _ _ _ hcz12_0)))); have hss12_1 : ∀ (u0_ u1_ u2_ v_ : Value), ((((w11.setCell ⟨gb103, 0, none⟩ u0_).setCell ⟨gb103, 1, none⟩ u1_).setCell ⟨gb103, 2, none⟩ u2_).setCell ⟨gb103, 1, none⟩ v_).cell? ⟨gb103, 1, none⟩ = some v_ := (fun u0_ u1_ u2_ v_ => World.cell?_setCell_same _ _ _ ((World.cell?_setCell_other _ _ _ _ (by simp)).trans (World.cell?_setCell_same _ _ _ ((World.cell?_setCell_other _ _ _ _ (by simp)).trans hcz12_1)))); have hss12_2 : ∀ (u0_ u1_ u2_ v_ : Value), ((((w11.setCell ⟨gb103, 0, none⟩ u0_).setCell ⟨gb103, 1, none⟩ u1_).setCell ⟨gb103, 2, none⟩ u2_).setCell ⟨gb103, 2, none⟩ v_).cell? ⟨gb103, 2, none⟩ = some v_ := (fun u0_ u1_ u2_ v_ => World.cell?_setCell_same _ _ _ (World.cell?_setCell_same _ _ _ ((World.cell?_setCell_other _ _ _ _ (by simp)).trans ((World.cell?_setCell_other _ _ _ _ (by simp)).trans hcz12_2)))); have hfz12_0 := blk_frozen BK103.out 0; have hfz12_1 := blk_frozen BK103.out 1; have hfz12_2 := blk_frozen BK103.out 2) | ((with_reducible refine gate_builtin (b := .append) (xs := #[.tmp 44, .tmp 46]) rfl ?_); at_builtin; refine Kd.R_append k32 (w0 := w) w.heap.size rfl (.tmp 44) (.tmp 46) 23 32 (.agg #[(.int .i64 0), (.int .i64 0), (.int .i64 0)]) 24 rfl Try.underlying23 info32 rfl (by decide) (by omega) u3 x3_1 (⟨Int.tmod (wrap64 ((wrap64 (11 * x4_1)) + 3)) 48, Int.tmod (wrap64 ((wrap64 (13 * x4_1)) + 7)) 64, wrap64 (1 + (Int.tmod (wrap64 ((wrap64 (3 * x4_1)) + 1)) 8))⟩ : S32) [.int .i64 (Int.tmod (wrap64 ((wrap64 (11 * x4_1)) + 3)) 48), .int .i64 (Int.tmod (wrap64 ((wrap64 (13 * x4_1)) + 7)) 64), .int .i64 (wrap64 (1 + (Int.tmod (wrap64 ((wrap64 (3 * x4_1)) + 1)) 8)))] (fun k_ => k_ ≠ gb103) (fun _ => False) rfl (by first | (go_simp; done) | (go_simp; rfl)) ?aP (fun _ hk => hk.elim) ?aF ?aO ?aB ?aS ?aL ?_; (case aP => exact k32_mkM _ _ _ (⟨Int.tmod (wrap64 ((wrap64 (11 * x4_1)) + 3)) 48, Int.tmod (wrap64 ((wrap64 (13 * x4_1)) + 7)) 64, wrap64 (1 + (Int.tmod (wrap64 ((wrap64 (3 * x4_1)) + 1)) 8))⟩ : S32)); (case aB => exact (by repeat (first | (with_reducible first | exact HB.out | apply below_alloc | apply pw_below_drewN | apply below_drew1 | refine below_set ?_ GE103.out) | exact HB.out))); (case aF => exact (fun k_ hk => Kd.freshB (g := gb103) (o := .cells #[.int .i64 (Int.tmod (wrap64 ((wrap64 (11 * x4_1)) + 3)) 48), .int .i64 (Int.tmod (wrap64 ((wrap64 (13 * x4_1)) + 7)) 64), .int .i64 (wrap64 (1 + (Int.tmod (wrap64 ((wrap64 (3 * x4_1)) + 1)) 8)))] 32 (0, 0)) (by (with_reducible repeat (first | refine blk_drewN ?_ _ | refine blk_drew ?_ | refine blk_alloc ?_ _)); refine blk_put (cs := #[.int .i64 (Int.tmod (wrap64 ((wrap64 (11 * x4_1)) + 3)) 48), .int .i64 (Int.tmod (wrap64 ((wrap64 (13 * x4_1)) + 7)) 64), .int .i64 0]) ?_ 2 _ rfl; (with_reducible repeat (first | refine blk_drewN ?_ _ | refine blk_drew ?_ | refine blk_alloc ?_ _)); refine blk_put (cs := #[.int .i64 (Int.tmod (wrap64 ((wrap64 (11 * x4_1)) + 3)) 48), .int .i64 (Int.tmod (wrap64 ((wrap64 (13 * x4_1)) + 7)) 64), .int .i64 0]) ?_ 2 _ rfl; (with_reducible repeat (first | refine blk_drewN ?_ _ | refine blk_drew ?_ | refine blk_alloc ?_ _)); refine blk_put (cs := #[.int .i64 (Int.tmod (wrap64 ((wrap64 (11 * x4_1)) + 3)) 48), .int .i64 0, .int .i64 0]) ?_ 1 _ rfl; (with_reducible repeat (first | refine blk_drewN ?_ _ | refine blk_drew ?_ | refine blk_alloc ?_ _)); refine blk_put (cs := #[.int .i64 0, .int .i64 0, .int .i64 0]) ?_ 0 _ rfl; (with_reducible repeat (first | refine blk_drewN ?_ _ | refine blk_drew ?_ | refine blk_alloc ?_ _)); exact BK103.out) k_ hk)); (case aO => exact (by (with_reducible repeat (first | apply Kd.R_alloc | apply Kd.R_drewN | apply Kd.R_drew)); exact Kd.R_mono (Kd.R_far (p := ⟨gb103, 2, none⟩) (Kd.R_far (p := ⟨gb103, 2, none⟩) (Kd.R_far (p := ⟨gb103, 1, none⟩) (Kd.R_far (p := ⟨gb103, 0, none⟩) (Kd.R_mono HO_3.out (fun k_ hk => (⟨hk, hk.2⟩ : _ ∧ k_ ≠ gb103))) (fun _ hk => hk.2) (.int .i64 (Int.tmod (wrap64 ((wrap64 (11 * x4_1)) + 3)) 48))) (fun _ hk => hk.2) (.int .i64 (Int.tmod (wrap64 ((wrap64 (13 * x4_1)) + 7)) 64))) (fun _ hk => hk.2) (.int .i64 0)) (fun _ hk => hk.2) (.int .i64 (wrap64 (1 + (Int.tmod (wrap64 ((wrap64 (3 * x4_1)) + 1)) 8))))) (fun _ hk => hk.1.2))); (case aS => exact (below_size (by repeat (first | (with_reducible first | exact HB.out | apply below_alloc | apply pw_below_drewN | apply below_drew1 | refine below_set ?_ GE103.out) | exact HB.out)))); (case aL => have := LMc10.out; omega); intro v105 w13 ho hb hg hat; rw [← Ny104.out] at ho; have n0_ := Aside0.mk (blk_grown (g := gb103) (o := .cells #[.int .i64 (Int.tmod (wrap64 ((wrap64 (11 * x4_1)) + 3)) 48), .int .i64 (Int.tmod (wrap64 ((wrap64 (13 * x4_1)) + 7)) 64), .int .i64 (wrap64 (1 + (Int.tmod (wrap64 ((wrap64 (3 * x4_1)) + 1)) 8)))] 32 (0, 0)) (by (with_reducible repeat (first | refine blk_drewN ?_ _ | refine blk_drew ?_ | refine blk_alloc ?_ _)); refine blk_put (cs := #[.int .i64 (Int.tmod (wrap64 ((wrap64 (11 * x4_1)) + 3)) 48), .int .i64 (Int.tmod (wrap64 ((wrap64 (13 * x4_1)) + 7)) 64), .int .i64 0]) ?_ 2 _ rfl; (with_reducible repeat (first | refine blk_drewN ?_ _ | refine blk_drew ?_ | refine blk_alloc ?_ _)); refine blk_put (cs := #[.int .i64 (Int.tmod (wrap64 ((wrap64 (11 * x4_1)) + 3)) 48), .int .i64 (Int.tmod (wrap64 ((wrap64 (13 * x4_1)) + 7)) 64), .int .i64 0]) ?_ 2 _ rfl; (with_reducible repeat (first | refine blk_drewN ?_ _ | refine blk_drew ?_ | refine blk_alloc ?_ _)); refine blk_put (cs := #[.int .i64 (Int.tmod (wrap64 ((wrap64 (11 * x4_1)) + 3)) 48), .int .i64 0, .int .i64 0]) ?_ 1 _ rfl; (with_reducible repeat (first | refine blk_drewN ?_ _ | refine blk_drew ?_ | refine blk_alloc ?_ _)); refine blk_put (cs := #[.int .i64 0, .int .i64 0, .int .i64 0]) ?_ 0 _ rfl; (with_reducible repeat (first | refine blk_drewN ?_ _ | refine blk_drew ?_ | refine blk_alloc ?_ _)); exact BK103.out) hg (Kd.R_away HO_3.out (fun _ hk => hk.2))); have n1_ := Aside0.mk (hb); have n2_ := Aside0.mk (ho); clear BK103; clear HB; clear HO_3; have BK103 := n0_; have HB := n1_; have HO106 := n2_; clear n0_ n1_ n2_; clear ho hb hg hat))
           go_roundg kj1
           case measure => have := HK1.out; have := HJ1.out; omega
           case rel => exact ⟨(y104), (wrap64 (x4_1 + 1)), (by first | rfl | (simp; done) | (simp [*]; done)), H', ⟨by have := HK1.out; have := HJ1.out; omega⟩, ⟨by (with_reducible repeat (first | apply Kd.R_alloc | apply Kd.R_drewN | apply Kd.R_drew)); exact Kd.R_mono HO106.out (fun _ hk => trivial)⟩, ⟨by repeat (first | (with_reducible first | exact HB.out | apply below_alloc | apply pw_below_drewN | apply below_drew1 | refine below_set ?_ GE103.out) | exact HB.out)⟩⟩
          ·
           rw [if_neg c10] at H
           exact absurd H (by simp)
         ·
          rw [if_neg c9] at H
          have c9b0 : decide (x4_1 < 8) = false := decide_eq_false c9
          clear c9
          by_cases c14 : x3_1.length < 5864062014805
          ·
           rw [if_pos c14] at H
           have LMc14 := Aside0.mk c14
           clear c14
           obtain ⟨y107, hy107⟩ : ∃ y_ : List (S32), y_ = (x3_1 ++ [(⟨Int.tmod (wrap64 ((wrap64 (11 * x4_1)) + 3)) 48, Int.tmod (wrap64 ((wrap64 (13 * x4_1)) + 7)) 64, 0⟩ : S32)]) := ⟨_, rfl⟩
           replace H : (headgatelaw19_made.l0 kj1 l0 y107 (wrap64 (x4_1 + 1))) = some r := by first | (rw [hy107]; with_reducible exact H) | (have H2_ := (Option.bind_some _ _).symm.trans H; rw [hy107]; with_reducible exact H2_) | (have H2_ := (Option.bind_some _ _).symm.trans H; with_reducible exact H2_) | with_reducible exact H | (rw [hy107]; exact H) | exact H
           have Ny107 := Aside0.mk hy107
           clear hy107
           have H' := Aside0.mk H
           clear H
           have p101 : 0 ≤ (x4_1 : Int) := of_decide_eq_true (by first | (with_reducible assumption) | assumption)
           have q101 : x4_1 < (l0.length : Int) := of_decide_eq_true (by first | (with_reducible assumption) | assumption)
           obtain ⟨ad101, e101, hx101_0⟩ := Kd.at_int HR0.out x4_1 p101 q101
           cases e101
           replace hx101_0 := (HB.out.cell (World.block_lt_of_cell? w _ hx101_0)).trans hx101_0
           replace p101 := eq_true p101
           replace q101 := eq_true q101
           go_wp2_with (first | ((with_reducible refine gate_callee (f := 11) rfl ?_); refine goesL_ (some 21) rfl rfl Try.func11 (by kernel_rfl) rfl #[.int .i64 (rd l0 x4_1), .int .i64 1048576] rfl (by (try simp only [List.map_toArray, List.map_cons, List.map_nil]); first | done | rfl | (simp only [List.length_drop, List.length_take]; rfl)) ?_; (with_reducible refine (headgatekit_Mod.calls (rd l0 x4_1) 1048576 t102 _ A7.out).mono ?_); rintro e w' ⟨rfl, ⟨nd, rfl⟩⟩; refine ⟨_, rfl, ?_⟩; (try (rw [drewN_self wc]; generalize hq_ : World.drewN wc _ = wc; have n0_ : Aside0 (Kd.R k32 32 wc w.heap.size (fun _ => True) u3 x3_1) := ⟨by rw [← hq_]; exact (by (with_reducible repeat (first | apply Kd.R_alloc | apply Kd.R_drewN | apply Kd.R_drew)); exact HO_3.out)⟩; have n1_ : Aside0 (Below w.heap.size w wc) := ⟨by rw [← hq_]; exact (by repeat (first | (with_reducible first | exact HB.out | apply below_alloc | apply pw_below_drewN | apply below_drew1) | exact HB.out))⟩; clear HO_3 HB hq_; have HO_3 := n0_; have HB := n1_; clear n0_ n1_))) | ((with_reducible refine gate_dst (N := 6) rfl ?_); refine box_event ?hg (N := 6) ?hd (cs := #[.int .i64 0, .int .i64 0, .int .i64 0]) (t := 32) ?hr ?_; (case hd => rfl); (case hg => rfl); (case hr => first | (go_simp; done) | (go_simp; rfl)); intro gb103 hg w15 hbox hb; have n0_ := Aside0.mk (Kd.R_below (Kd.R_elderB (by (with_reducible repeat (first | apply Kd.R_alloc | apply Kd.R_drewN | apply Kd.R_drew)); exact HO_3.out) gb103 (Nat.le_of_eq hg.symm)) hb); have n1_ := Aside0.mk (below_step (by repeat (first | (with_reducible first | exact HB.out | apply below_alloc | apply pw_below_drewN | apply below_drew1) | exact HB.out)) hb); have n2_ := Aside0.mk (hbox); have n3_ := Aside0.mk ((by rw [hg]; exact (below_size (by repeat (first | (with_reducible first | exact HB.out | apply below_alloc | apply pw_below_drewN | apply below_drew1) | exact HB.out))) : w.heap.size ≤ gb103)); have n4_ := Aside0.mk ((by rw [hg]; exact (below_size (by repeat (first | (with_reducible first | exact HB.out | apply below_alloc | apply pw_below_drewN | apply below_drew1) | exact HB.out))) : w.heap.size ≤ gb103)); clear HO_3; clear HB; have HO_3 := n0_; have HB := n1_; have BK103 := n2_; have GW103 := n3_; have GE103 := n4_; clear n0_ n1_ n2_ n3_ n4_; clear hb hbox hg; have hcz16_0 : w15.cell? ⟨gb103, 0, none⟩ = some (.int .i64 0) := (blk_cell BK103.out 0).trans rfl; have hcz16_1 : w15.cell? ⟨gb103, 1, none⟩ = some (.int .i64 0) := (blk_cell BK103.out 1).trans rfl; have hcz16_2 : w15.cell? ⟨gb103, 2, none⟩ = some (.int .i64 0) := (blk_cell BK103.out 2).trans rfl; have hss16_0 : ∀ (u0_ u1_ u2_ v_ : Value), ((((w15.setCell ⟨gb103, 0, none⟩ u0_).setCell ⟨gb103, 1, none⟩ u1_).setCell ⟨gb103, 2, none⟩ u2_).setCell ⟨gb103, 0, none⟩ v_).cell? ⟨gb103, 0, none⟩ = some v_ := (fun u0_ u1_ u2_ v_ => World.cell?_setCell_same _ _ _ ((World.cell?_setCell_other _ _ _ _ (by simp)).trans ((World.cell?_setCell_other _ _ _ _ (by simp)).trans (World.cell?_setCell_same _ _ _ hcz16_0)))); have hss16_1 : ∀ (u0_ u1_ u2_ v_ : Value), ((((w15.setCell ⟨gb103, 0, none⟩ u0_).setCell ⟨gb103, 1, none⟩ u1_).setCell ⟨gb103, 2, none⟩ u2_).setCell ⟨gb103, 1, none⟩ v_).cell? ⟨gb103, 1, none⟩ = some v_ := (fun u0_ u1_ u2_ v_ => World.cell?_setCell_same _ _ _ ((World.cell?_setCell_other _ _ _ _ (by simp)).trans (World.cell?_setCell_same _ _ _ ((World.cell?_setCell_other _ _ _ _ (by simp)).trans hcz16_1)))); have hss16_2 : ∀ (u0_ u1_ u2_ v_ : Value), ((((w15.setCell ⟨gb103, 0, none⟩ u0_).setCell ⟨gb103, 1, none⟩ u1_).setCell ⟨gb103, 2, none⟩ u2_).setCell ⟨gb103, 2, none⟩ v_).cell? ⟨gb103, 2, none⟩ = some v_ := (fun u0_ u1_ u2_ v_ => World.cell?_setCell_same _ _ _ (World.cell?_setCell_same _ _ _ ((World.cell?_setCell_other _ _ _ _ (by simp)).trans ((World.cell?_setCell_other _ _ _ _ (by simp)).trans hcz16_2)))); have hfz16_0 := blk_frozen BK103.out 0; have hfz16_1 := blk_frozen BK103.out 1; have hfz16_2 := blk_frozen BK103.out 2) | ((with_reducible refine gate_builtin (b := .append) (xs := #[.tmp 44, .tmp 46]) rfl ?_); at_builtin; refine Kd.R_append k32 (w0 := w) w.heap.size rfl (.tmp 44) (.tmp 46) 23 32 (.agg #[(.int .i64 0), (.int .i64 0), (.int .i64 0)]) 24 rfl Try.underlying23 info32 rfl (by decide) (by omega) u3 x3_1 (⟨Int.tmod (wrap64 ((wrap64 (11 * x4_1)) + 3)) 48, Int.tmod (wrap64 ((wrap64 (13 * x4_1)) + 7)) 64, 0⟩ : S32) [.int .i64 (Int.tmod (wrap64 ((wrap64 (11 * x4_1)) + 3)) 48), .int .i64 (Int.tmod (wrap64 ((wrap64 (13 * x4_1)) + 7)) 64), .int .i64 0] (fun k_ => k_ ≠ gb103) (fun _ => False) rfl (by first | (go_simp; done) | (go_simp; rfl)) ?aP (fun _ hk => hk.elim) ?aF ?aO ?aB ?aS ?aL ?_; (case aP => exact k32_mkM _ _ _ (⟨Int.tmod (wrap64 ((wrap64 (11 * x4_1)) + 3)) 48, Int.tmod (wrap64 ((wrap64 (13 * x4_1)) + 7)) 64, 0⟩ : S32)); (case aB => exact (by repeat (first | (with_reducible first | exact HB.out | apply below_alloc | apply pw_below_drewN | apply below_drew1 | refine below_set ?_ GE103.out) | exact HB.out))); (case aF => exact (fun k_ hk => Kd.freshB (g := gb103) (o := .cells #[.int .i64 (Int.tmod (wrap64 ((wrap64 (11 * x4_1)) + 3)) 48), .int .i64 (Int.tmod (wrap64 ((wrap64 (13 * x4_1)) + 7)) 64), .int .i64 0] 32 (0, 0)) (by (with_reducible repeat (first | refine blk_drewN ?_ _ | refine blk_drew ?_ | refine blk_alloc ?_ _)); refine blk_put (cs := #[.int .i64 (Int.tmod (wrap64 ((wrap64 (11 * x4_1)) + 3)) 48), .int .i64 (Int.tmod (wrap64 ((wrap64 (13 * x4_1)) + 7)) 64), .int .i64 0]) ?_ 2 _ rfl; (with_reducible repeat (first | refine blk_drewN ?_ _ | refine blk_drew ?_ | refine blk_alloc ?_ _)); refine blk_put (cs := #[.int .i64 (Int.tmod (wrap64 ((wrap64 (11 * x4_1)) + 3)) 48), .int .i64 0, .int .i64 0]) ?_ 1 _ rfl; (with_reducible repeat (first | refine blk_drewN ?_ _ | refine blk_drew ?_ | refine blk_alloc ?_ _)); refine blk_put (cs := #[.int .i64 0, .int .i64 0, .int .i64 0]) ?_ 0 _ rfl; (with_reducible repeat (first | refine blk_drewN ?_ _ | refine blk_drew ?_ | refine blk_alloc ?_ _)); exact BK103.out) k_ hk)); (case aO => exact (by (with_reducible repeat (first | apply Kd.R_alloc | apply Kd.R_drewN | apply Kd.R_drew)); exact Kd.R_mono (Kd.R_far (p := ⟨gb103, 2, none⟩) (Kd.R_far (p := ⟨gb103, 1, none⟩) (Kd.R_far (p := ⟨gb103, 0, none⟩) (Kd.R_mono HO_3.out (fun k_ hk => (⟨hk, hk.2⟩ : _ ∧ k_ ≠ gb103))) (fun _ hk => hk.2) (.int .i64 (Int.tmod (wrap64 ((wrap64 (11 * x4_1)) + 3)) 48))) (fun _ hk => hk.2) (.int .i64 (Int.tmod (wrap64 ((wrap64 (13 * x4_1)) + 7)) 64))) (fun _ hk => hk.2) (.int .i64 0)) (fun _ hk => hk.1.2))); (case aS => exact (below_size (by repeat (first | (with_reducible first | exact HB.out | apply below_alloc | apply pw_below_drewN | apply below_drew1 | refine below_set ?_ GE103.out) | exact HB.out)))); (case aL => have := LMc14.out; omega); intro v108 w17 ho hb hg hat; rw [← Ny107.out] at ho; have n0_ := Aside0.mk (blk_grown (g := gb103) (o := .cells #[.int .i64 (Int.tmod (wrap64 ((wrap64 (11 * x4_1)) + 3)) 48), .int .i64 (Int.tmod (wrap64 ((wrap64 (13 * x4_1)) + 7)) 64), .int .i64 0] 32 (0, 0)) (by (with_reducible repeat (first | refine blk_drewN ?_ _ | refine blk_drew ?_ | refine blk_alloc ?_ _)); refine blk_put (cs := #[.int .i64 (Int.tmod (wrap64 ((wrap64 (11 * x4_1)) + 3)) 48), .int .i64 (Int.tmod (wrap64 ((wrap64 (13 * x4_1)) + 7)) 64), .int .i64 0]) ?_ 2 _ rfl; (with_reducible repeat (first | refine blk_drewN ?_ _ | refine blk_drew ?_ | refine blk_alloc ?_ _)); refine blk_put (cs := #[.int .i64 (Int.tmod (wrap64 ((wrap64 (11 * x4_1)) + 3)) 48), .int .i64 0, .int .i64 0]) ?_ 1 _ rfl; (with_reducible repeat (first | refine blk_drewN ?_ _ | refine blk_drew ?_ | refine blk_alloc ?_ _)); refine blk_put (cs := #[.int .i64 0, .int .i64 0, .int .i64 0]) ?_ 0 _ rfl; (with_reducible repeat (first | refine blk_drewN ?_ _ | refine blk_drew ?_ | refine blk_alloc ?_ _)); exact BK103.out) hg (Kd.R_away HO_3.out (fun _ hk => hk.2))); have n1_ := Aside0.mk (hb); have n2_ := Aside0.mk (ho); clear BK103; clear HB; clear HO_3; have BK103 := n0_; have HB := n1_; have HO109 := n2_; clear n0_ n1_ n2_; clear ho hb hg hat))
           go_roundg kj1
           case measure => have := HK1.out; have := HJ1.out; omega
           case rel => exact ⟨(y107), (wrap64 (x4_1 + 1)), (by first | rfl | (simp; done) | (simp [*]; done)), H', ⟨by have := HK1.out; have := HJ1.out; omega⟩, ⟨by (with_reducible repeat (first | apply Kd.R_alloc | apply Kd.R_drewN | apply Kd.R_drew)); exact Kd.R_mono HO109.out (fun _ hk => trivial)⟩, ⟨by repeat (first | (with_reducible first | exact HB.out | apply below_alloc | apply pw_below_drewN | apply below_drew1 | refine below_set ?_ GE103.out) | exact HB.out)⟩⟩
          ·
           rw [if_neg c14] at H
           exact absurd H (by simp)
        ·
         rw [if_neg c8] at H
         have c8b0 : ((Int.tmod t102 3) == 0) = false := beq_eq_false_iff_ne.mpr c8
         have c8b1 : ((Int.tmod t102 3) != 0) = true := bne_iff_ne.mpr c8
         by_cases c18 : x3_1.length < 5864062014805
         ·
          rw [if_pos c18] at H
          have LMc18 := Aside0.mk c18
          clear c18
          obtain ⟨y110, hy110⟩ : ∃ y_ : List (S32), y_ = (x3_1 ++ [(⟨Int.tmod (wrap64 ((wrap64 (11 * x4_1)) + 3)) 48, Int.tmod (wrap64 ((wrap64 (13 * x4_1)) + 7)) 64, 0⟩ : S32)]) := ⟨_, rfl⟩
          replace H : (headgatelaw19_made.l0 kj1 l0 y110 (wrap64 (x4_1 + 1))) = some r := by first | (rw [hy110]; with_reducible exact H) | (have H2_ := (Option.bind_some _ _).symm.trans H; rw [hy110]; with_reducible exact H2_) | (have H2_ := (Option.bind_some _ _).symm.trans H; with_reducible exact H2_) | with_reducible exact H | (rw [hy110]; exact H) | exact H
          have Ny110 := Aside0.mk hy110
          clear hy110
          have H' := Aside0.mk H
          clear H
          have p101 : 0 ≤ (x4_1 : Int) := of_decide_eq_true (by first | (with_reducible assumption) | assumption)
          have q101 : x4_1 < (l0.length : Int) := of_decide_eq_true (by first | (with_reducible assumption) | assumption)
          obtain ⟨ad101, e101, hx101_0⟩ := Kd.at_int HR0.out x4_1 p101 q101
          cases e101
          replace hx101_0 := (HB.out.cell (World.block_lt_of_cell? w _ hx101_0)).trans hx101_0
          replace p101 := eq_true p101
          replace q101 := eq_true q101
          go_wp2_with (first | ((with_reducible refine gate_callee (f := 11) rfl ?_); refine goesL_ (some 21) rfl rfl Try.func11 (by kernel_rfl) rfl #[.int .i64 (rd l0 x4_1), .int .i64 1048576] rfl (by (try simp only [List.map_toArray, List.map_cons, List.map_nil]); first | done | rfl | (simp only [List.length_drop, List.length_take]; rfl)) ?_; (with_reducible refine (headgatekit_Mod.calls (rd l0 x4_1) 1048576 t102 _ A7.out).mono ?_); rintro e w' ⟨rfl, ⟨nd, rfl⟩⟩; refine ⟨_, rfl, ?_⟩; (try (rw [drewN_self wc]; generalize hq_ : World.drewN wc _ = wc; have n0_ : Aside0 (Kd.R k32 32 wc w.heap.size (fun _ => True) u3 x3_1) := ⟨by rw [← hq_]; exact (by (with_reducible repeat (first | apply Kd.R_alloc | apply Kd.R_drewN | apply Kd.R_drew)); exact HO_3.out)⟩; have n1_ : Aside0 (Below w.heap.size w wc) := ⟨by rw [← hq_]; exact (by repeat (first | (with_reducible first | exact HB.out | apply below_alloc | apply pw_below_drewN | apply below_drew1) | exact HB.out))⟩; clear HO_3 HB hq_; have HO_3 := n0_; have HB := n1_; clear n0_ n1_))) | ((with_reducible refine gate_dst (N := 6) rfl ?_); refine box_event ?hg (N := 6) ?hd (cs := #[.int .i64 0, .int .i64 0, .int .i64 0]) (t := 32) ?hr ?_; (case hd => rfl); (case hg => rfl); (case hr => first | (go_simp; done) | (go_simp; rfl)); intro gb103 hg w19 hbox hb; have n0_ := Aside0.mk (Kd.R_below (Kd.R_elderB (by (with_reducible repeat (first | apply Kd.R_alloc | apply Kd.R_drewN | apply Kd.R_drew)); exact HO_3.out) gb103 (Nat.le_of_eq hg.symm)) hb); have n1_ := Aside0.mk (below_step (by repeat (first | (with_reducible first | exact HB.out | apply below_alloc | apply pw_below_drewN | apply below_drew1) | exact HB.out)) hb); have n2_ := Aside0.mk (hbox); have n3_ := Aside0.mk ((by rw [hg]; exact (below_size (by repeat (first | (with_reducible first | exact HB.out | apply below_alloc | apply pw_below_drewN | apply below_drew1) | exact HB.out))) : w.heap.size ≤ gb103)); have n4_ := Aside0.mk ((by rw [hg]; exact (below_size (by repeat (first | (with_reducible first | exact HB.out | apply below_alloc | apply pw_below_drewN | apply below_drew1) | exact HB.out))) : w.heap.size ≤ gb103)); clear HO_3; clear HB; have HO_3 := n0_; have HB := n1_; have BK103 := n2_; have GW103 := n3_; have GE103 := n4_; clear n0_ n1_ n2_ n3_ n4_; clear hb hbox hg; have hcz20_0 : w19.cell? ⟨gb103, 0, none⟩ = some (.int .i64 0) := (blk_cell BK103.out 0).trans rfl; have hcz20_1 : w19.cell? ⟨gb103, 1, none⟩ = some (.int .i64 0) := (blk_cell BK103.out 1).trans rfl; have hcz20_2 : w19.cell? ⟨gb103, 2, none⟩ = some (.int .i64 0) := (blk_cell BK103.out 2).trans rfl; have hss20_0 : ∀ (u0_ u1_ u2_ v_ : Value), ((((w19.setCell ⟨gb103, 0, none⟩ u0_).setCell ⟨gb103, 1, none⟩ u1_).setCell ⟨gb103, 2, none⟩ u2_).setCell ⟨gb103, 0, none⟩ v_).cell? ⟨gb103, 0, none⟩ = some v_ := (fun u0_ u1_ u2_ v_ => World.cell?_setCell_same _ _ _ ((World.cell?_setCell_other _ _ _ _ (by simp)).trans ((World.cell?_setCell_other _ _ _ _ (by simp)).trans (World.cell?_setCell_same _ _ _ hcz20_0)))); have hss20_1 : ∀ (u0_ u1_ u2_ v_ : Value), ((((w19.setCell ⟨gb103, 0, none⟩ u0_).setCell ⟨gb103, 1, none⟩ u1_).setCell ⟨gb103, 2, none⟩ u2_).setCell ⟨gb103, 1, none⟩ v_).cell? ⟨gb103, 1, none⟩ = some v_ := (fun u0_ u1_ u2_ v_ => World.cell?_setCell_same _ _ _ ((World.cell?_setCell_other _ _ _ _ (by simp)).trans (World.cell?_setCell_same _ _ _ ((World.cell?_setCell_other _ _ _ _ (by simp)).trans hcz20_1)))); have hss20_2 : ∀ (u0_ u1_ u2_ v_ : Value), ((((w19.setCell ⟨gb103, 0, none⟩ u0_).setCell ⟨gb103, 1, none⟩ u1_).setCell ⟨gb103, 2, none⟩ u2_).setCell ⟨gb103, 2, none⟩ v_).cell? ⟨gb103, 2, none⟩ = some v_ := (fun u0_ u1_ u2_ v_ => World.cell?_setCell_same _ _ _ (World.cell?_setCell_same _ _ _ ((World.cell?_setCell_other _ _ _ _ (by simp)).trans ((World.cell?_setCell_other _ _ _ _ (by simp)).trans hcz20_2)))); have hfz20_0 := blk_frozen BK103.out 0; have hfz20_1 := blk_frozen BK103.out 1; have hfz20_2 := blk_frozen BK103.out 2) | ((with_reducible refine gate_builtin (b := .append) (xs := #[.tmp 44, .tmp 46]) rfl ?_); at_builtin; refine Kd.R_append k32 (w0 := w) w.heap.size rfl (.tmp 44) (.tmp 46) 23 32 (.agg #[(.int .i64 0), (.int .i64 0), (.int .i64 0)]) 24 rfl Try.underlying23 info32 rfl (by decide) (by omega) u3 x3_1 (⟨Int.tmod (wrap64 ((wrap64 (11 * x4_1)) + 3)) 48, Int.tmod (wrap64 ((wrap64 (13 * x4_1)) + 7)) 64, 0⟩ : S32) [.int .i64 (Int.tmod (wrap64 ((wrap64 (11 * x4_1)) + 3)) 48), .int .i64 (Int.tmod (wrap64 ((wrap64 (13 * x4_1)) + 7)) 64), .int .i64 0] (fun k_ => k_ ≠ gb103) (fun _ => False) rfl (by first | (go_simp; done) | (go_simp; rfl)) ?aP (fun _ hk => hk.elim) ?aF ?aO ?aB ?aS ?aL ?_; (case aP => exact k32_mkM _ _ _ (⟨Int.tmod (wrap64 ((wrap64 (11 * x4_1)) + 3)) 48, Int.tmod (wrap64 ((wrap64 (13 * x4_1)) + 7)) 64, 0⟩ : S32)); (case aB => exact (by repeat (first | (with_reducible first | exact HB.out | apply below_alloc | apply pw_below_drewN | apply below_drew1 | refine below_set ?_ GE103.out) | exact HB.out))); (case aF => exact (fun k_ hk => Kd.freshB (g := gb103) (o := .cells #[.int .i64 (Int.tmod (wrap64 ((wrap64 (11 * x4_1)) + 3)) 48), .int .i64 (Int.tmod (wrap64 ((wrap64 (13 * x4_1)) + 7)) 64), .int .i64 0] 32 (0, 0)) (by (with_reducible repeat (first | refine blk_drewN ?_ _ | refine blk_drew ?_ | refine blk_alloc ?_ _)); refine blk_put (cs := #[.int .i64 (Int.tmod (wrap64 ((wrap64 (11 * x4_1)) + 3)) 48), .int .i64 (Int.tmod (wrap64 ((wrap64 (13 * x4_1)) + 7)) 64), .int .i64 0]) ?_ 2 _ rfl; (with_reducible repeat (first | refine blk_drewN ?_ _ | refine blk_drew ?_ | refine blk_alloc ?_ _)); refine blk_put (cs := #[.int .i64 (Int.tmod (wrap64 ((wrap64 (11 * x4_1)) + 3)) 48), .int .i64 0, .int .i64 0]) ?_ 1 _ rfl; (with_reducible repeat (first | refine blk_drewN ?_ _ | refine blk_drew ?_ | refine blk_alloc ?_ _)); refine blk_put (cs := #[.int .i64 0, .int .i64 0, .int .i64 0]) ?_ 0 _ rfl; (with_reducible repeat (first | refine blk_drewN ?_ _ | refine blk_drew ?_ | refine blk_alloc ?_ _)); exact BK103.out) k_ hk)); (case aO => exact (by (with_reducible repeat (first | apply Kd.R_alloc | apply Kd.R_drewN | apply Kd.R_drew)); exact Kd.R_mono (Kd.R_far (p := ⟨gb103, 2, none⟩) (Kd.R_far (p := ⟨gb103, 1, none⟩) (Kd.R_far (p := ⟨gb103, 0, none⟩) (Kd.R_mono HO_3.out (fun k_ hk => (⟨hk, hk.2⟩ : _ ∧ k_ ≠ gb103))) (fun _ hk => hk.2) (.int .i64 (Int.tmod (wrap64 ((wrap64 (11 * x4_1)) + 3)) 48))) (fun _ hk => hk.2) (.int .i64 (Int.tmod (wrap64 ((wrap64 (13 * x4_1)) + 7)) 64))) (fun _ hk => hk.2) (.int .i64 0)) (fun _ hk => hk.1.2))); (case aS => exact (below_size (by repeat (first | (with_reducible first | exact HB.out | apply below_alloc | apply pw_below_drewN | apply below_drew1 | refine below_set ?_ GE103.out) | exact HB.out)))); (case aL => have := LMc18.out; omega); intro v111 w21 ho hb hg hat; rw [← Ny110.out] at ho; have n0_ := Aside0.mk (blk_grown (g := gb103) (o := .cells #[.int .i64 (Int.tmod (wrap64 ((wrap64 (11 * x4_1)) + 3)) 48), .int .i64 (Int.tmod (wrap64 ((wrap64 (13 * x4_1)) + 7)) 64), .int .i64 0] 32 (0, 0)) (by (with_reducible repeat (first | refine blk_drewN ?_ _ | refine blk_drew ?_ | refine blk_alloc ?_ _)); refine blk_put (cs := #[.int .i64 (Int.tmod (wrap64 ((wrap64 (11 * x4_1)) + 3)) 48), .int .i64 (Int.tmod (wrap64 ((wrap64 (13 * x4_1)) + 7)) 64), .int .i64 0]) ?_ 2 _ rfl; (with_reducible repeat (first | refine blk_drewN ?_ _ | refine blk_drew ?_ | refine blk_alloc ?_ _)); refine blk_put (cs := #[.int .i64 (Int.tmod (wrap64 ((wrap64 (11 * x4_1)) + 3)) 48), .int .i64 0, .int .i64 0]) ?_ 1 _ rfl; (with_reducible repeat (first | refine blk_drewN ?_ _ | refine blk_drew ?_ | refine blk_alloc ?_ _)); refine blk_put (cs := #[.int .i64 0, .int .i64 0, .int .i64 0]) ?_ 0 _ rfl; (with_reducible repeat (first | refine blk_drewN ?_ _ | refine blk_drew ?_ | refine blk_alloc ?_ _)); exact BK103.out) hg (Kd.R_away HO_3.out (fun _ hk => hk.2))); have n1_ := Aside0.mk (hb); have n2_ := Aside0.mk (ho); clear BK103; clear HB; clear HO_3; have BK103 := n0_; have HB := n1_; have HO112 := n2_; clear n0_ n1_ n2_; clear ho hb hg hat))
          go_roundg kj1
          case measure => have := HK1.out; have := HJ1.out; omega
          case rel => exact ⟨(y110), (wrap64 (x4_1 + 1)), (by first | rfl | (simp; done) | (simp [*]; done)), H', ⟨by have := HK1.out; have := HJ1.out; omega⟩, ⟨by (with_reducible repeat (first | apply Kd.R_alloc | apply Kd.R_drewN | apply Kd.R_drew)); exact Kd.R_mono HO112.out (fun _ hk => trivial)⟩, ⟨by repeat (first | (with_reducible first | exact HB.out | apply below_alloc | apply pw_below_drewN | apply below_drew1 | refine below_set ?_ GE103.out) | exact HB.out)⟩⟩
         ·
          rw [if_neg c18] at H
          exact absurd H (by simp)
       ·
        rw [if_neg c6] at H
        exact absurd H (by simp)
      ·
       rw [if_neg c5] at H
       exact absurd H (by simp)
     ·
      replace c4 := Bool.eq_false_iff.mpr c4
      subst c4
      have H1 : (some x3_1) = some r := by rw [if_neg (show ¬ (false = true) by decide)] at H; exact H
      clear H
      have H := H1
      clear H1
      obtain rfl := Option.some.inj H
      go_wp2
      go_ret
      exact ⟨_, by first | rfl | (simp [errW_none, errW_some] <;> rfl) | (simp [*, errW_none, errW_some] <;> rfl), by (with_reducible repeat (first | apply Kd.R_alloc | apply Kd.R_drewN | apply Kd.R_drew)); exact HO_3.out, by repeat (first | (with_reducible first | exact HB.out | apply below_alloc | apply pw_below_drewN | apply below_drew1) | exact HB.out)⟩

end Go.Proofs.Ytfnhoncpaheejaa.X
