/- What Go functions of this seat compute, told as Lean functions, and that each call of the Go code comes to that answer; for a law: its row, for every input. Written by a program of the session. -/
import Derived.Test.YtnheknlmmmkbpaaX0
import Derived.Test.YtnheknlmmmkbpaaX56
namespace Go.Proofs.Ytnheknlmmmkbpaa.X
open Go.RowKit Go.Proofs.YtnheknlmmmkbpaaW.PrintWords Go.Proofs.YtnheknlmmmkbpaaW.PrintLast Go.Proofs.YtnheknlmmmkbpaaW.PrintMore
attribute [local go_sem] max2_int min2_int max_two min_two max_three min_three max_four min_four   -- for this text's walks alone
set_option linter.unusedVariables false
set_option linter.unusedSimpArgs false

/-! ### headgatekit_SameLists: function 28 -/
def headgatekit_SameLists.f (k : Nat) (l0_0 : List Int) (l0_1 : List Int) (l0_2 : List Bool) (l1_0 : List Int) (l1_1 : List Int) (l1_2 : List Bool) : Option (Bool) := (headgatekit_SameInts.f k l0_0 l1_0).bind fun t434 => (if t434 = true then ((headgatekit_SameInts.f k l0_1 l1_1).bind fun t435 => (if t435 = true then ((headgatekit_SameBools.f k l0_2 l1_2).bind fun t436 => (some t436)) else (some false))) else (some false))
theorem headgatekit_SameLists.mono : ∀ a0 a1 a2 a3 a4 a5 k, LeO (headgatekit_SameLists.f k a0 a1 a2 a3 a4 a5) (headgatekit_SameLists.f (k + 1) a0 a1 a2 a3 a4 a5) := by
 intro a0 a1 a2 a3 a4 a5 k
 unfold headgatekit_SameLists.f
 repeat' first
   | (with_reducible exact headgatekit_SameBools.mono _ _ _)
   | (with_reducible exact headgatekit_SameInts.mono _ _ _)
   | (with_reducible exact LeO.refl _)
   | (with_reducible exact LeO.none _)
   | (with_reducible refine LeO.ite ?_ ?_)
   | (with_reducible refine LeO.bind ?_ (fun _ => ?_))
   | exact headgatekit_SameBools.mono _ _ _
   | exact headgatekit_SameInts.mono _ _ _
   | exact LeO.none _
   | refine LeO.ite ?_ ?_
   | refine LeO.bind ?_ (fun _ => ?_)
set_option maxHeartbeats 2000000 in
set_option maxRecDepth 100000 in
theorem headgatekit_SameLists.calls (k : Nat) (A0_0 : Option Addr) (c0_0 : Nat) (l0_0 : List Int) (A0_1 : Option Addr) (c0_1 : Nat) (l0_1 : List Int) (A0_2 : Option Addr) (c0_2 : Nat) (l0_2 : List Bool) (A1_0 : Option Addr) (c1_0 : Nat) (l1_0 : List Int) (A1_1 : Option Addr) (c1_1 : Nat) (l1_1 : List Int) (A1_2 : Option Addr) (c1_2 : Nat) (l1_2 : List Bool) (r : Bool) (w : World) (hr0_0 : Kd.C (Kd.int .i64) w A0_0 l0_0.length l0_0) (hc0_0 : l0_0.length ≤ c0_0) (hr0_1 : Kd.C (Kd.int .i64) w A0_1 l0_1.length l0_1) (hc0_1 : l0_1.length ≤ c0_1) (hr0_2 : Kd.C Kd.bool w A0_2 l0_2.length l0_2) (hc0_2 : l0_2.length ≤ c0_2) (hr1_0 : Kd.C (Kd.int .i64) w A1_0 l1_0.length l1_0) (hc1_0 : l1_0.length ≤ c1_0) (hr1_1 : Kd.C (Kd.int .i64) w A1_1 l1_1.length l1_1) (hc1_1 : l1_1.length ≤ c1_1) (hr1_2 : Kd.C Kd.bool w A1_2 l1_2.length l1_2) (hc1_2 : l1_2.length ≤ c1_2) (h : headgatekit_SameLists.f k l0_0 l0_1 l0_2 l1_0 l1_1 l1_2 = some r) :
  Calls Try.prog 28 #[.agg #[.slice A0_0 l0_0.length c0_0, .slice A0_1 l0_1.length c0_1, .slice A0_2 l0_2.length c0_2], .agg #[.slice A1_0 l1_0.length c1_0, .slice A1_1 l1_1.length c1_1, .slice A1_2 l1_2.length c1_2]] w fun e w' => e = .returned (.bool r) ∧ Below w.heap.size w w' := by
 have hu33 := Try.underlying33
 have HR0_0 := Aside0.mk hr0_0
 have HC0_0 := Aside0.mk hc0_0
 clear hr0_0 hc0_0
 have HR0_1 := Aside0.mk hr0_1
 have HC0_1 := Aside0.mk hc0_1
 clear hr0_1 hc0_1
 have HR0_2 := Aside0.mk hr0_2
 have HC0_2 := Aside0.mk hc0_2
 clear hr0_2 hc0_2
 have HR1_0 := Aside0.mk hr1_0
 have HC1_0 := Aside0.mk hc1_0
 clear hr1_0 hc1_0
 have HR1_1 := Aside0.mk hr1_1
 have HC1_1 := Aside0.mk hc1_1
 clear hr1_1 hc1_1
 have HR1_2 := Aside0.mk hr1_2
 have HC1_2 := Aside0.mk hc1_2
 clear hr1_2 hc1_2
 have HB := Aside0.mk (Below.refl w.heap.size w)
 have H : ((headgatekit_SameInts.f k l0_0 l1_0).bind fun t434 => (if t434 = true then ((headgatekit_SameInts.f k l0_1 l1_1).bind fun t435 => (if t435 = true then ((headgatekit_SameBools.f k l0_2 l1_2).bind fun t436 => (some t436)) else (some false))) else (some false))) = some r := h
 clear h
 replace H := Option.bind_eq_some_iff.mp H
 obtain ⟨t434, A30, H⟩ := H
 replace H : (if t434 = true then ((headgatekit_SameInts.f k l0_1 l1_1).bind fun t435 => (if t435 = true then ((headgatekit_SameBools.f k l0_2 l1_2).bind fun t436 => (some t436)) else (some false))) else (some false)) = some r := H
 have A3 := Aside0.mk A30
 clear A30
 by_cases c4 : t434 = true
 ·
  subst c4
  have H1 : ((headgatekit_SameInts.f k l0_1 l1_1).bind fun t435 => (if t435 = true then ((headgatekit_SameBools.f k l0_2 l1_2).bind fun t436 => (some t436)) else (some false))) = some r := by rw [if_pos rfl] at H; exact H
  clear H
  have H := H1
  clear H1
  replace H := Option.bind_eq_some_iff.mp H
  obtain ⟨t435, A50, H⟩ := H
  replace H : (if t435 = true then ((headgatekit_SameBools.f k l0_2 l1_2).bind fun t436 => (some t436)) else (some false)) = some r := H
  have A5 := Aside0.mk A50
  clear A50
  by_cases c6 : t435 = true
  ·
   subst c6
   have H1 : ((headgatekit_SameBools.f k l0_2 l1_2).bind fun t436 => (some t436)) = some r := by rw [if_pos rfl] at H; exact H
   clear H
   have H := H1
   clear H1
   replace H := Option.bind_eq_some_iff.mp H
   obtain ⟨t436, A70, H⟩ := H
   replace H : (some t436) = some r := H
   have A7 := Aside0.mk A70
   clear A70
   obtain rfl := Option.some.inj H
   go_enter Try.func28, Try.ntmps28
   go_wp2_with (first | ((with_reducible refine gate_dst (N := 2) rfl ?_); refine box_event ?hg (N := 2) ?hd (cs := #[.slice A0_0 l0_0.length c0_0, .slice A0_1 l0_1.length c0_1, .slice A0_2 l0_2.length c0_2]) (t := 33) ?hr ?_; (case hd => rfl); (case hg => rfl); (case hr => first | (go_simp; done) | (go_simp; rfl)); intro gb432 hg w8 hbox hb; have n0_ := Aside0.mk (below_step (upH HB) hb); have n1_ := Aside0.mk (hbox); have n2_ := Aside0.mk ((by rw [hg]; exact (below_size (upH HB)) : w.heap.size ≤ gb432)); have n3_ := Aside0.mk ((by rw [hg]; exact (below_size (upH HB)) : w.heap.size ≤ gb432)); clear HB; have HB := n0_; have BK432 := n1_; have GW432 := n2_; have GE432 := n3_; clear n0_ n1_ n2_ n3_; clear hb hbox hg) | ((with_reducible refine gate_dst (N := 3) rfl ?_); refine box_event ?hg (N := 3) ?hd (cs := #[.slice A1_0 l1_0.length c1_0, .slice A1_1 l1_1.length c1_1, .slice A1_2 l1_2.length c1_2]) (t := 33) ?hr ?_; (case hd => rfl); (case hg => rfl); (case hr => first | (go_simp; done) | (go_simp; rfl)); intro gb433 hg w9 hbox hb; have n0_ := Aside0.mk (blkB BK432 hb); have n1_ := Aside0.mk (below_step (upH HB) hb); have n2_ := Aside0.mk (hbox); have n3_ := Aside0.mk ((by rw [hg]; exact (below_size (upH HB)) : w.heap.size ≤ gb433)); have n4_ := Aside0.mk ((by rw [hg]; exact (below_size (upH HB)) : w.heap.size ≤ gb433)); have n5_ := Aside0.mk ((by rw [hg]; exact Nat.ne_of_lt (blk_lt (g := gb432) (o := .cells #[.slice A0_0 l0_0.length c0_0, .slice A0_1 l0_1.length c0_1, .slice A0_2 l0_2.length c0_2] 33 (0, 0)) (upB BK432)) : gb432 ≠ gb433)); have n6_ := Aside0.mk ((by rw [hg]; exact Nat.ne_of_gt (blk_lt (g := gb432) (o := .cells #[.slice A0_0 l0_0.length c0_0, .slice A0_1 l0_1.length c0_1, .slice A0_2 l0_2.length c0_2] 33 (0, 0)) (upB BK432)) : gb433 ≠ gb432)); clear BK432; clear HB; have BK432 := n0_; have HB := n1_; have BK433 := n2_; have GW433 := n3_; have GE433 := n4_; have NB432_433 := n5_; have NB433_432 := n6_; clear n0_ n1_ n2_ n3_ n4_ n5_ n6_; clear hb hbox hg; have hnb10 := NB432_433.out; have hnc10 := NB433_432.out; have hcz11_0 := cell0 BK432; have hcz11_1 := cell1 BK432; have hcz11_2 := cell2 BK432; have hfz11_0 := blk_frozen BK432.out 0; have hfz11_1 := blk_frozen BK432.out 1; have hfz11_2 := blk_frozen BK432.out 2; have hcz12_0 := cell0 BK433; have hcz12_1 := cell1 BK433; have hcz12_2 := cell2 BK433; have hfz12_0 := blk_frozen BK433.out 0; have hfz12_1 := blk_frozen BK433.out 1; have hfz12_2 := blk_frozen BK433.out 2) | ((with_reducible refine gate_callee (f := 49) rfl ?_); refine goesL_ (some 9) rfl rfl Try.func49 (by kernel_rfl) rfl #[.slice A0_0 l0_0.length c0_0, .slice A1_0 l1_0.length c1_0] rfl (args_ (p := _)) ?_; (with_reducible refine (headgatekit_SameInts.calls k _ _ l0_0 _ _ l1_0 true _ ?side1 ?side2 ?side3 ?side4 A3.out).mono ?_); (case side1 => exact upc (Kd.C_below HR0_0.out HB.out)); (case side2 => exact HC0_0.out); (case side3 => exact upc (Kd.C_below HR1_0.out HB.out)); (case side4 => exact HC1_0.out); rintro e w' ⟨rfl, ⟨nd, rfl⟩⟩; refine ⟨_, rfl, ?_⟩) | (go_at_call 49; refine calls_of_args (args' := #[.slice A0_1 l0_1.length c0_1, .slice A1_1 l1_1.length c1_1]) (by first | rfl) ?_; (with_reducible refine (headgatekit_SameInts.calls k _ _ l0_1 _ _ l1_1 true _ ?side1 ?side2 ?side3 ?side4 A5.out).mono ?_); (case side1 => exact upc (Kd.C_below HR0_1.out (upH HB))); (case side2 => exact HC0_1.out); (case side3 => exact upc (Kd.C_below HR1_1.out (upH HB))); (case side4 => exact HC1_1.out); rintro e w' ⟨rfl, ⟨nd, rfl⟩⟩) | (go_at_call 50; refine calls_of_args (args' := #[.slice A0_2 l0_2.length c0_2, .slice A1_2 l1_2.length c1_2]) (by first | rfl) ?_; (with_reducible refine (headgatekit_SameBools.calls k _ _ l0_2 _ _ l1_2 t436 _ ?side1 ?side2 ?side3 ?side4 A7.out).mono ?_); (case side1 => exact upc (Kd.C_below HR0_2.out (upH HB))); (case side2 => exact HC0_2.out); (case side3 => exact upc (Kd.C_below HR1_2.out (upH HB))); (case side4 => exact HC1_2.out); rintro e w' ⟨rfl, ⟨nd, rfl⟩⟩))
   go_ret
   exact ⟨by first | rfl | (simp [errW_none, errW_some] <;> rfl) | (simp [*, errW_none, errW_some] <;> rfl), by repeat (first | (with_reducible first | exact HB.out | apply below_alloc | apply pw_below_drewN | apply below_drew1 | refine below_set ?_ GE432.out | refine below_set ?_ GE433.out) | exact HB.out)⟩
  ·
   replace c6 := Bool.eq_false_iff.mpr c6
   subst c6
   have H1 : (some false) = some r := by rw [if_neg (show ¬ (false = true) by decide)] at H; exact H
   clear H
   have H := H1
   clear H1
   obtain rfl := Option.some.inj H
   go_enter Try.func28, Try.ntmps28
   go_wp2_with (first | ((with_reducible refine gate_dst (N := 2) rfl ?_); refine box_event ?hg (N := 2) ?hd (cs := #[.slice A0_0 l0_0.length c0_0, .slice A0_1 l0_1.length c0_1, .slice A0_2 l0_2.length c0_2]) (t := 33) ?hr ?_; (case hd => rfl); (case hg => rfl); (case hr => first | (go_simp; done) | (go_simp; rfl)); intro gb432 hg w13 hbox hb; have n0_ := Aside0.mk (below_step (upH HB) hb); have n1_ := Aside0.mk (hbox); have n2_ := Aside0.mk ((by rw [hg]; exact (below_size (upH HB)) : w.heap.size ≤ gb432)); have n3_ := Aside0.mk ((by rw [hg]; exact (below_size (upH HB)) : w.heap.size ≤ gb432)); clear HB; have HB := n0_; have BK432 := n1_; have GW432 := n2_; have GE432 := n3_; clear n0_ n1_ n2_ n3_; clear hb hbox hg) | ((with_reducible refine gate_dst (N := 3) rfl ?_); refine box_event ?hg (N := 3) ?hd (cs := #[.slice A1_0 l1_0.length c1_0, .slice A1_1 l1_1.length c1_1, .slice A1_2 l1_2.length c1_2]) (t := 33) ?hr ?_; (case hd => rfl); (case hg => rfl); (case hr => first | (go_simp; done) | (go_simp; rfl)); intro gb433 hg w14 hbox hb; have n0_ := Aside0.mk (blkB BK432 hb); have n1_ := Aside0.mk (below_step (upH HB) hb); have n2_ := Aside0.mk (hbox); have n3_ := Aside0.mk ((by rw [hg]; exact (below_size (upH HB)) : w.heap.size ≤ gb433)); have n4_ := Aside0.mk ((by rw [hg]; exact (below_size (upH HB)) : w.heap.size ≤ gb433)); have n5_ := Aside0.mk ((by rw [hg]; exact Nat.ne_of_lt (blk_lt (g := gb432) (o := .cells #[.slice A0_0 l0_0.length c0_0, .slice A0_1 l0_1.length c0_1, .slice A0_2 l0_2.length c0_2] 33 (0, 0)) (upB BK432)) : gb432 ≠ gb433)); have n6_ := Aside0.mk ((by rw [hg]; exact Nat.ne_of_gt (blk_lt (g := gb432) (o := .cells #[.slice A0_0 l0_0.length c0_0, .slice A0_1 l0_1.length c0_1, .slice A0_2 l0_2.length c0_2] 33 (0, 0)) (upB BK432)) : gb433 ≠ gb432)); clear BK432; clear HB; have BK432 := n0_; have HB := n1_; have BK433 := n2_; have GW433 := n3_; have GE433 := n4_; have NB432_433 := n5_; have NB433_432 := n6_; clear n0_ n1_ n2_ n3_ n4_ n5_ n6_; clear hb hbox hg; have hnb15 := NB432_433.out; have hnc15 := NB433_432.out; have hcz16_0 := cell0 BK432; have hcz16_1 := cell1 BK432; have hcz16_2 := cell2 BK432; have hfz16_0 := blk_frozen BK432.out 0; have hfz16_1 := blk_frozen BK432.out 1; have hfz16_2 := blk_frozen BK432.out 2; have hcz17_0 := cell0 BK433; have hcz17_1 := cell1 BK433; have hcz17_2 := cell2 BK433; have hfz17_0 := blk_frozen BK433.out 0; have hfz17_1 := blk_frozen BK433.out 1; have hfz17_2 := blk_frozen BK433.out 2) | ((with_reducible refine gate_callee (f := 49) rfl ?_); refine goesL_ (some 9) rfl rfl Try.func49 (by kernel_rfl) rfl #[.slice A0_0 l0_0.length c0_0, .slice A1_0 l1_0.length c1_0] rfl (args_ (p := _)) ?_; (with_reducible refine (headgatekit_SameInts.calls k _ _ l0_0 _ _ l1_0 true _ ?side1 ?side2 ?side3 ?side4 A3.out).mono ?_); (case side1 => exact upc (Kd.C_below HR0_0.out HB.out)); (case side2 => exact HC0_0.out); (case side3 => exact upc (Kd.C_below HR1_0.out HB.out)); (case side4 => exact HC1_0.out); rintro e w' ⟨rfl, ⟨nd, rfl⟩⟩; refine ⟨_, rfl, ?_⟩) | (go_at_call 49; refine calls_of_args (args' := #[.slice A0_1 l0_1.length c0_1, .slice A1_1 l1_1.length c1_1]) (by first | rfl) ?_; (with_reducible refine (headgatekit_SameInts.calls k _ _ l0_1 _ _ l1_1 false _ ?side1 ?side2 ?side3 ?side4 A5.out).mono ?_); (case side1 => exact upc (Kd.C_below HR0_1.out (upH HB))); (case side2 => exact HC0_1.out); (case side3 => exact upc (Kd.C_below HR1_1.out (upH HB))); (case side4 => exact HC1_1.out); rintro e w' ⟨rfl, ⟨nd, rfl⟩⟩))
   go_ret
   exact ⟨by first | rfl | (simp [errW_none, errW_some] <;> rfl) | (simp [*, errW_none, errW_some] <;> rfl), by repeat (first | (with_reducible first | exact HB.out | apply below_alloc | apply pw_below_drewN | apply below_drew1 | refine below_set ?_ GE432.out | refine below_set ?_ GE433.out) | exact HB.out)⟩
 ·
  replace c4 := Bool.eq_false_iff.mpr c4
  subst c4
  have H1 : (some false) = some r := by rw [if_neg (show ¬ (false = true) by decide)] at H; exact H
  clear H
  have H := H1
  clear H1
  obtain rfl := Option.some.inj H
  go_enter Try.func28, Try.ntmps28
  go_wp2_with (first | ((with_reducible refine gate_dst (N := 2) rfl ?_); refine box_event ?hg (N := 2) ?hd (cs := #[.slice A0_0 l0_0.length c0_0, .slice A0_1 l0_1.length c0_1, .slice A0_2 l0_2.length c0_2]) (t := 33) ?hr ?_; (case hd => rfl); (case hg => rfl); (case hr => first | (go_simp; done) | (go_simp; rfl)); intro gb432 hg w18 hbox hb; have n0_ := Aside0.mk (below_step (upH HB) hb); have n1_ := Aside0.mk (hbox); have n2_ := Aside0.mk ((by rw [hg]; exact (below_size (upH HB)) : w.heap.size ≤ gb432)); have n3_ := Aside0.mk ((by rw [hg]; exact (below_size (upH HB)) : w.heap.size ≤ gb432)); clear HB; have HB := n0_; have BK432 := n1_; have GW432 := n2_; have GE432 := n3_; clear n0_ n1_ n2_ n3_; clear hb hbox hg) | ((with_reducible refine gate_dst (N := 3) rfl ?_); refine box_event ?hg (N := 3) ?hd (cs := #[.slice A1_0 l1_0.length c1_0, .slice A1_1 l1_1.length c1_1, .slice A1_2 l1_2.length c1_2]) (t := 33) ?hr ?_; (case hd => rfl); (case hg => rfl); (case hr => first | (go_simp; done) | (go_simp; rfl)); intro gb433 hg w19 hbox hb; have n0_ := Aside0.mk (blkB BK432 hb); have n1_ := Aside0.mk (below_step (upH HB) hb); have n2_ := Aside0.mk (hbox); have n3_ := Aside0.mk ((by rw [hg]; exact (below_size (upH HB)) : w.heap.size ≤ gb433)); have n4_ := Aside0.mk ((by rw [hg]; exact (below_size (upH HB)) : w.heap.size ≤ gb433)); have n5_ := Aside0.mk ((by rw [hg]; exact Nat.ne_of_lt (blk_lt (g := gb432) (o := .cells #[.slice A0_0 l0_0.length c0_0, .slice A0_1 l0_1.length c0_1, .slice A0_2 l0_2.length c0_2] 33 (0, 0)) (upB BK432)) : gb432 ≠ gb433)); have n6_ := Aside0.mk ((by rw [hg]; exact Nat.ne_of_gt (blk_lt (g := gb432) (o := .cells #[.slice A0_0 l0_0.length c0_0, .slice A0_1 l0_1.length c0_1, .slice A0_2 l0_2.length c0_2] 33 (0, 0)) (upB BK432)) : gb433 ≠ gb432)); clear BK432; clear HB; have BK432 := n0_; have HB := n1_; have BK433 := n2_; have GW433 := n3_; have GE433 := n4_; have NB432_433 := n5_; have NB433_432 := n6_; clear n0_ n1_ n2_ n3_ n4_ n5_ n6_; clear hb hbox hg; have hnb20 := NB432_433.out; have hnc20 := NB433_432.out; have hcz21_0 := cell0 BK432; have hcz21_1 := cell1 BK432; have hcz21_2 := cell2 BK432; have hfz21_0 := blk_frozen BK432.out 0; have hfz21_1 := blk_frozen BK432.out 1; have hfz21_2 := blk_frozen BK432.out 2; have hcz22_0 := cell0 BK433; have hcz22_1 := cell1 BK433; have hcz22_2 := cell2 BK433; have hfz22_0 := blk_frozen BK433.out 0; have hfz22_1 := blk_frozen BK433.out 1; have hfz22_2 := blk_frozen BK433.out 2) | ((with_reducible refine gate_callee (f := 49) rfl ?_); refine goesL_ (some 9) rfl rfl Try.func49 (by kernel_rfl) rfl #[.slice A0_0 l0_0.length c0_0, .slice A1_0 l1_0.length c1_0] rfl (args_ (p := _)) ?_; (with_reducible refine (headgatekit_SameInts.calls k _ _ l0_0 _ _ l1_0 false _ ?side1 ?side2 ?side3 ?side4 A3.out).mono ?_); (case side1 => exact upc (Kd.C_below HR0_0.out HB.out)); (case side2 => exact HC0_0.out); (case side3 => exact upc (Kd.C_below HR1_0.out HB.out)); (case side4 => exact HC1_0.out); rintro e w' ⟨rfl, ⟨nd, rfl⟩⟩; refine ⟨_, rfl, ?_⟩))
  go_ret
  exact ⟨by first | rfl | (simp [errW_none, errW_some] <;> rfl) | (simp [*, errW_none, errW_some] <;> rfl), by repeat (first | (with_reducible first | exact HB.out | apply below_alloc | apply pw_below_drewN | apply below_drew1 | refine below_set ?_ GE432.out | refine below_set ?_ GE433.out) | exact HB.out)⟩

end Go.Proofs.Ytnheknlmmmkbpaa.X

namespace Go.Proofs.Ytnheknlmmmkbpaa.X
open Go.RowKit Go.Proofs.YtnheknlmmmkbpaaW.PrintWords Go.Proofs.YtnheknlmmmkbpaaW.PrintLast Go.Proofs.YtnheknlmmmkbpaaW.PrintMore
attribute [local go_sem] max2_int min2_int max_two min_two max_three min_three max_four min_four   -- for this text's walks alone
set_option linter.unusedVariables false
set_option linter.unusedSimpArgs false

/-! ### What came in, told by its kind -/
/-- Whatever is read at the type t is of the kind d, and fits. -/
def Down (P : Program) (t : TypeId) {α : Type} (d : Kd α) (W : α → Prop) : Prop :=
 ∀ {H : Type} (enc : TypeId × Value → H) (w : World) (base : Nat) (sp : Nat → Bool) (held : Bool) (fuel : Nat) (cs : List Value) (x : DataW H × List MemPlace), DataW.trod enc P w base sp held fuel t cs = some x → (∀ n ∈ x.1.weights P t, n ≤ 140737488351232) → ∃ a, d.K w a cs ∧ W a
/-- The same of the fields from a place on. -/
def DownF (P : Program) (N : Nat) (fs : List Field) (off : Nat) {α : Type} (d : Kd α) (W : α → Prop) : Prop :=
 ∀ {H : Type} (enc : TypeId × Value → H) (w : World) (base : Nat) (sp : Nat → Bool) (held : Bool) (fuel : Nat) (cs : List Value) (xs : List (DataW H × List MemPlace)), cs.length = N →
  (fs.mapM fun f => DataW.trod enc P w base sp held fuel f.type ((cs.drop f.offset).take (P.cellsOf f.type))) = some xs → (∀ n ∈ DataW.weightsEach P (fs.map (·.type)) (xs.map (·.1)), n ≤ 140737488351232) → ∃ a, d.K w a (cs.drop off) ∧ W a
section
variable {P : Program}
theorem down_int {t : TypeId} {k : IntKind} (ht : P.underlying t = some (.int k)) : Down P t (Kd.int k) (fun n => (Lit.int k n).wf = true) := by
 intro H enc w base sp held fuel cs x h _
 cases fuel with
 | zero => simp [DataW.trod] at h
 | succ fuel =>
  unfold DataW.trod at h
  rw [ht] at h
  match cs with
  | [.int k' n] =>
   simp only at h
   by_cases c : k' = k ∧ (Lit.int k n).wf = true
   ·
    obtain ⟨rfl, hw⟩ := c
    exact ⟨n, rfl, hw⟩
   ·
    rw [if_neg c] at h; cases h
  | [] => simp at h
  | [.bool _] | [.float _ _] | [.string _] | [.pointer _] | [.slice _ _ _] | [.map _] | [.chan _] | [.func _ _ _] | [.agg _] | [.tuple _] | [.nilIface] | [.iface _ _] | [.nilFunc] => simp at h
  | _ :: _ :: _ => simp at h
theorem down_bool {t : TypeId} (ht : P.underlying t = some .bool) : Down P t Kd.bool (fun _ => True) := by
 intro H enc w base sp held fuel cs x h _
 cases fuel with
 | zero => simp [DataW.trod] at h
 | succ fuel =>
  unfold DataW.trod at h
  rw [ht] at h
  match cs with
  | [.bool b] => exact ⟨b, rfl, trivial⟩
  | [] => simp at h
  | [.int _ _] | [.float _ _] | [.string _] | [.pointer _] | [.slice _ _ _] | [.map _] | [.chan _] | [.func _ _ _] | [.agg _] | [.tuple _] | [.nilIface] | [.iface _ _] | [.nilFunc] => simp at h
  | _ :: _ :: _ => simp at h
theorem down_all {H : Type} {e : TypeId} : ∀ {ds : List (DataW H)} {d : DataW H} {n : Nat}, d ∈ ds → n ∈ d.weights P e → n ∈ DataW.weightsAll P e ds
 | d' :: ds, d, n, h, hn => by
  simp only [DataW.weightsAll, List.mem_append]
  rcases List.mem_cons.1 h with rfl | h
  ·
   exact .inl hn
  ·
   exact .inr (down_all h hn)
theorem down_slice {t e : TypeId} {α : Type} {d : Kd α} {W : α → Prop} (ht : P.underlying t = some (.slice e)) (hc : P.cellsOf e = d.sz) {B : Nat} (hB : P.bytesOf e = B) (he : Down P e d W) : Down P t (Kd.slice e d) (fun l => l.length ≤ maxLen ∧ l.length * B ≤ 140737488351232 ∧ ∀ x ∈ l, W x) := by
 intro H enc w base sp held fuel cs x h hwt
 rcases Go.Deep.open_slice ht h with ⟨rfl, rfl⟩ | ⟨a, len, cap, m, n, D, Pl, rfl, hb, hl, hm, hmm, rfl, hx⟩
 ·
  exact ⟨[], ⟨none, 0, rfl, Nat.le_refl _, Kd.C_nil _ _⟩, by simp [maxLen], by simp, fun x hx => by cases hx⟩
 ·
  have hlm : len ≤ m := by rw [hmm]; split <;> omega
  have hw0 : len * B ≤ 140737488351232 := by
   have h1 := hwt (((List.range len).map D).length * P.bytesOf e + ((List.range (m - len)).map fun j => D (len + j)).length * P.bytesOf e) (by simp [DataW.weights, ht, Nat.add_mul])
   rw [hB, List.length_map, List.length_range] at h1
   omega
  have hwe : ∀ i, i < len → ∀ n ∈ (D i).weights P e, n ≤ 140737488351232 := fun i hi n hn => hwt n (by
   simp only [DataW.weights, ht]
   exact List.mem_cons_of_mem _ (List.mem_append_left _ (down_all (List.mem_map.2 ⟨i, List.mem_range.2 hi, rfl⟩) hn)))
  have each : ∀ i : Fin len, ∃ q : α × List Value, d.K w q.1 q.2 ∧ W q.1 ∧ w.cells? base (a.add (i.val * P.cellsOf e)) (P.cellsOf e) = some q.2 := fun i => by
   obtain ⟨cs', h1, h2⟩ := hx i.val (by omega)
   obtain ⟨y, h3, h4⟩ := he enc w base sp held n cs' _ h2 (hwe i.val i.isLt)
   exact ⟨(y, cs'), h3, h4, h1⟩
  let f : Fin len → α := fun i => (Classical.choose (each i)).1
  have hf := fun i => Classical.choose_spec (each i)
  refine ⟨List.ofFn f, ⟨some a, cap, by simp, by simpa using hl, ?_⟩, by simp; omega, by simpa using hw0, fun x hx => ?_⟩
  ·
   refine ⟨rfl, by simp; unfold maxLen at hm; omega, fun _ => ⟨a, rfl, fun j p hj => ?_⟩⟩
   have hjl : j < len := by have := (List.getElem?_eq_some_iff.1 hj).1; simpa using this
   have hp : f ⟨j, hjl⟩ = p := by
    rw [List.getElem?_ofFn] at hj
    simpa [hjl] using hj
   obtain ⟨h1, h2, h3⟩ := hf ⟨j, hjl⟩
   obtain ⟨_, hlen, hcell⟩ := World.cells?_some h3
   refine ⟨(Classical.choose (each ⟨j, hjl⟩)).2, by rw [hlen, hc], by rw [← hp]; exact h1, fun i u hi => ?_⟩
   have hi2 := (List.getElem?_eq_some_iff.1 hi).1
   have := hcell i (by omega)
   rw [Go.Deep.add_add] at this
   rw [← hc]
   exact this.trans hi
  ·
   obtain ⟨i, rfl⟩ := List.mem_ofFn.1 hx
   exact (hf i).2.1
theorem downF_one {N off : Nat} {f : Field} {α : Type} {d : Kd α} {W : α → Prop} (ho : f.offset = off) (hc : P.cellsOf f.type = d.sz) (hN : off + d.sz = N) (h : Down P f.type d W) : DownF P N [f] off d W := by
 intro H enc w base sp held fuel cs xs hl hx hwt
 rw [List.mapM_cons] at hx
 simp only [Option.bind_eq_bind, Option.bind_eq_some_iff] at hx
 obtain ⟨x, h1, ys, h4, e⟩ := hx
 simp only [List.mapM_nil, Option.pure_def, Option.some.injEq] at h4 e
 subst h4 e
 simp only [List.map_cons, List.map_nil, DataW.weightsEach, List.append_nil] at hwt
 rw [ho, hc, List.take_of_length_le (by rw [List.length_drop]; omega)] at h1
 exact h enc w base sp held fuel _ _ h1 hwt
theorem downF_cons {N off : Nat} {f : Field} {fs : List Field} {α β : Type} {d : Kd α} {W : α → Prop} {d2 : Kd β} {W2 : β → Prop} (ho : f.offset = off) (hc : P.cellsOf f.type = d.sz) (h : Down P f.type d W) (h2 : DownF P N fs (off + d.sz) d2 W2) : DownF P N (f :: fs) off (Kd.pair d d2) (fun x => W x.1 ∧ W2 x.2) := by
 intro H enc w base sp held fuel cs xs hl hx hwt
 rw [List.mapM_cons] at hx
 simp only [Option.bind_eq_bind, Option.bind_eq_some_iff] at hx
 obtain ⟨x, h3, ys, h4, e⟩ := hx
 simp only [Option.pure_def, Option.some.injEq] at e
 subst e
 simp only [List.map_cons, DataW.weightsEach, List.mem_append] at hwt
 rw [ho, hc] at h3
 obtain ⟨a, ha, hw⟩ := h enc w base sp held fuel _ _ h3 (fun n hn => hwt n (.inl hn))
 obtain ⟨b, hb, hw2⟩ := h2 enc w base sp held fuel cs ys hl h4 (fun n hn => hwt n (.inr hn))
 refine ⟨(a, b), ⟨(cs.drop off).take d.sz, cs.drop (off + d.sz), ?_, ha, hb⟩, hw, hw2⟩
 rw [← List.drop_drop, List.take_append_drop]
theorem down_struct {t : TypeId} {fs : Array Field} {α β : Type} {d : Kd α} {W : α → Prop} (ht : P.underlying t = some (.struct fs)) (f : β → α) (g : α → β) (hfg : ∀ a, f (g a) = a) (h : DownF P (P.cellsOf t) fs.toList 0 d W) : Down P t (Kd.iso d f) (fun x => W (f x)) := by
 intro H enc w base sp held fuel cs x hx hwt
 cases fuel with
 | zero => simp [DataW.trod] at hx
 | succ fuel =>
  unfold DataW.trod at hx
  rw [ht] at hx
  simp only at hx
  by_cases c : cs.length = P.cellsOf t
  ·
   rw [if_pos c] at hx
   obtain ⟨xs, h1, e⟩ := Option.map_eq_some_iff.1 hx
   subst e
   obtain ⟨a, h2, h3⟩ := h enc w base sp held fuel cs xs c h1 (fun n hn => hwt n (by simpa [DataW.weights, ht] using hn))
   exact ⟨g a, by show d.K w (f (g a)) cs; rw [hfg]; simpa using h2, by show W (f (g a)); rw [hfg]; exact h3⟩
  ·
   rw [if_neg c] at hx; cases hx
/-- A slice that came in. -/
theorem down_arg {t e : TypeId} {α : Type} {d : Kd α} {W : α → Prop} (ht : P.underlying t = some (.slice e)) {B : Nat} (hd : Down P t (Kd.slice e d) (fun l => l.length ≤ maxLen ∧ l.length * B ≤ 140737488351232 ∧ ∀ x ∈ l, W x)) {H : Type} {enc : TypeId × Value → H} {w : World} {base : Nat} {sp : Nat → Bool} {held : Bool} {r : Reach} {b0 : Nat} {v : Value} {x : DataW H} {ps : List MemPlace}
  (hv : Value.okWide P w r b0 t v) (h : DataW.Trod enc P w base sp held t v x ps) (hwt : ∀ n ∈ x.weights P t, n ≤ 140737488351232) : ∃ (A : Option Addr) (c : Nat) (l : List α), v = .slice A l.length c ∧ l.length ≤ c ∧ d.C w A l.length l ∧ l.length ≤ maxLen ∧ l.length * B ≤ 140737488351232 ∧ ∀ x ∈ l, W x := by
 obtain ⟨A, len, cap, rfl⟩ := Go.WideShapes.okWide_slice ht hv
 obtain ⟨fuel, hf⟩ := h
 obtain ⟨l, ⟨A', c', h1, h2, h3⟩, h4, h5, h6⟩ := hd enc w base sp held fuel _ _ hf hwt
 simp [Value.cells] at h1
 obtain ⟨rfl, rfl, rfl⟩ := h1
 exact ⟨A, cap, l, rfl, h2, h3, h4, h5, h6⟩
/-- A struct that came in. -/
theorem down_agg {t : TypeId} {fs : Array Field} {α : Type} {d : Kd α} {W : α → Prop} (ht : P.underlying t = some (.struct fs)) (hd : Down P t d W) {H : Type} {enc : TypeId × Value → H} {w : World} {base : Nat} {sp : Nat → Bool} {held : Bool} {r : Reach} {b0 : Nat} {v : Value} {x : DataW H} {ps : List MemPlace}
  (hv : Value.okWide P w r b0 t v) (h : DataW.Trod enc P w base sp held t v x ps) (hwt : ∀ n ∈ x.weights P t, n ≤ 140737488351232) : ∃ (cs : List Value) (a : α), v = .agg cs.toArray ∧ d.K w a cs ∧ W a := by
 unfold Value.okWide at hv
 rw [ht] at hv
 obtain ⟨cs, rfl, _, _⟩ := hv
 obtain ⟨fuel, hf⟩ := h
 obtain ⟨a, h1, h2⟩ := hd enc w base sp held fuel _ _ hf hwt
 exact ⟨cs.toList, a, by simp, by simpa [Value.cells] using h1, h2⟩
end


end Go.Proofs.Ytnheknlmmmkbpaa.X
