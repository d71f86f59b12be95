/- What Go functions of this seat compute, told as Lean functions, and that each call of the Go code comes to that answer; for a law: its row, for every input. Written by a program of the session. -/
import Derived.Test.YtnheknlmmmkbpaaX0
import Derived.Test.YtnheknlmmmkbpaaX44
import Derived.Test.YtnheknlmmmkbpaaX26
import Derived.Test.YtnheknlmmmkbpaaX43
namespace Go.Proofs.Ytnheknlmmmkbpaa.X
open Go.RowKit Go.Proofs.YtnheknlmmmkbpaaW.PrintWords Go.Proofs.YtnheknlmmmkbpaaW.PrintLast Go.Proofs.YtnheknlmmmkbpaaW.PrintMore
attribute [local go_sem] max2_int min2_int max_two min_two max_three min_three max_four min_four   -- for this text's walks alone
set_option linter.unusedVariables false
set_option linter.unusedSimpArgs false

/-! ### headgateref07_Where: function 58 -/
def headgateref07_Where.f (k : Nat) (l0_0 : List Int) (l0_1 : List Int) (l0_2 : List Bool) (a1 : Int) : Option (Int × Int) := (headgateref07_asks.f l0_0 l0_1 l0_2 a1).bind fun t295 => (if t295 = 0 then ((headgateref07_place.f k l0_0 a1).bind fun t296 => (if t296 ≥ 0 then (some (1, 0)) else ((headgateref07_place.f k l0_1 a1).bind fun t297 => (if t297 ≥ 0 then (some (2, 0)) else (some (0, 0)))))) else (some (0, t295)))
theorem headgateref07_Where.mono : ∀ a0 a1 a2 a3 k, LeO (headgateref07_Where.f k a0 a1 a2 a3) (headgateref07_Where.f (k + 1) a0 a1 a2 a3) := by
 intro a0 a1 a2 a3 k
 unfold headgateref07_Where.f
 repeat' first
   | (with_reducible exact headgateref07_place.mono _ _ _)
   | (with_reducible exact LeO.refl _)
   | (with_reducible exact LeO.none _)
   | (with_reducible refine LeO.ite ?_ ?_)
   | (with_reducible refine LeO.bind ?_ (fun _ => ?_))
   | exact headgateref07_place.mono _ _ _
   | exact LeO.none _
   | refine LeO.ite ?_ ?_
   | refine LeO.bind ?_ (fun _ => ?_)
set_option maxHeartbeats 2000000 in
set_option maxRecDepth 100000 in
theorem headgateref07_Where.calls (k : Nat) (A0_0 : Option Addr) (c0_0 : Nat) (l0_0 : List Int) (A0_1 : Option Addr) (c0_1 : Nat) (l0_1 : List Int) (A0_2 : Option Addr) (c0_2 : Nat) (l0_2 : List Bool) (a1 : Int) (r1 : Int) (r2 : Int) (w : World) (hr0_0 : Kd.C (Kd.int .i64) w A0_0 l0_0.length l0_0) (hc0_0 : l0_0.length ≤ c0_0) (hr0_1 : Kd.C (Kd.int .i64) w A0_1 l0_1.length l0_1) (hc0_1 : l0_1.length ≤ c0_1) (hr0_2 : Kd.C Kd.bool w A0_2 l0_2.length l0_2) (hc0_2 : l0_2.length ≤ c0_2) (h : headgateref07_Where.f k l0_0 l0_1 l0_2 a1 = some (r1, r2)) :
  Calls Try.prog 58 #[.agg #[.slice A0_0 l0_0.length c0_0, .slice A0_1 l0_1.length c0_1, .slice A0_2 l0_2.length c0_2], .int .i64 a1] w fun e w' => e = .returned (.tuple #[.int .i64 r1, .int .i64 r2]) ∧ Below w.heap.size w w' := by
 have hu33 := Try.underlying33
 have HR0_0 := Aside0.mk hr0_0
 have HC0_0 := Aside0.mk hc0_0
 clear hr0_0 hc0_0
 have HR0_1 := Aside0.mk hr0_1
 have HC0_1 := Aside0.mk hc0_1
 clear hr0_1 hc0_1
 have HR0_2 := Aside0.mk hr0_2
 have HC0_2 := Aside0.mk hc0_2
 clear hr0_2 hc0_2
 have HB := Aside0.mk (Below.refl w.heap.size w)
 have H : ((headgateref07_asks.f l0_0 l0_1 l0_2 a1).bind fun t295 => (if t295 = 0 then ((headgateref07_place.f k l0_0 a1).bind fun t296 => (if t296 ≥ 0 then (some (1, 0)) else ((headgateref07_place.f k l0_1 a1).bind fun t297 => (if t297 ≥ 0 then (some (2, 0)) else (some (0, 0)))))) else (some (0, t295)))) = some (r1, r2) := h
 clear h
 replace H := Option.bind_eq_some_iff.mp H
 obtain ⟨t295, A30, H⟩ := H
 replace H : (if t295 = 0 then ((headgateref07_place.f k l0_0 a1).bind fun t296 => (if t296 ≥ 0 then (some (1, 0)) else ((headgateref07_place.f k l0_1 a1).bind fun t297 => (if t297 ≥ 0 then (some (2, 0)) else (some (0, 0)))))) else (some (0, t295))) = some (r1, r2) := H
 have A3 := Aside0.mk A30
 clear A30
 by_cases c4 : t295 = 0
 ·
  rw [if_pos c4] at H
  have c4b0 : (t295 == 0) = true := beq_iff_eq.mpr c4
  have c4b1 : (t295 != 0) = false := bne_eq_false_iff_eq.mpr c4
  clear c4
  replace H := Option.bind_eq_some_iff.mp H
  obtain ⟨t296, A50, H⟩ := H
  replace H : (if t296 ≥ 0 then (some (1, 0)) else ((headgateref07_place.f k l0_1 a1).bind fun t297 => (if t297 ≥ 0 then (some (2, 0)) else (some (0, 0))))) = some (r1, r2) := H
  have A5 := Aside0.mk A50
  clear A50
  by_cases c6 : t296 ≥ 0
  ·
   rw [if_pos c6] at H
   have c6b0 : decide (0 ≤ t296) = true := decide_eq_true c6
   clear c6
   simp only [Option.some.injEq, Prod.mk.injEq] at H
   obtain ⟨rfl, rfl⟩ := H
   go_enter Try.func58, Try.ntmps58
   go_wp2_with (first | ((with_reducible refine gate_dst (N := 2) rfl ?_); refine box_event ?hg (N := 2) ?hd (cs := #[.slice A0_0 l0_0.length c0_0, .slice A0_1 l0_1.length c0_1, .slice A0_2 l0_2.length c0_2]) (t := 33) ?hr ?_; (case hd => rfl); (case hg => rfl); (case hr => first | (go_simp; done) | (go_simp; rfl)); intro gb294 hg w7 hbox hb; have n0_ := Aside0.mk (below_step (upH HB) hb); have n1_ := Aside0.mk (hbox); have n2_ := Aside0.mk ((by rw [hg]; exact (below_size (upH HB)) : w.heap.size ≤ gb294)); have n3_ := Aside0.mk ((by rw [hg]; exact (below_size (upH HB)) : w.heap.size ≤ gb294)); clear HB; have HB := n0_; have BK294 := n1_; have GW294 := n2_; have GE294 := n3_; clear n0_ n1_ n2_ n3_; clear hb hbox hg; have hcz8_0 := cell0 BK294; have hcz8_1 := cell1 BK294; have hcz8_2 := cell2 BK294; have hfz8_0 := blk_frozen BK294.out 0; have hfz8_1 := blk_frozen BK294.out 1; have hfz8_2 := blk_frozen BK294.out 2) | ((with_reducible refine gate_callee (f := 63) rfl ?_); refine goesL_ (some 9) rfl rfl Try.func63 (by kernel_rfl) rfl #[.agg #[.slice A0_0 l0_0.length c0_0, .slice A0_1 l0_1.length c0_1, .slice A0_2 l0_2.length c0_2], .int .i64 a1] rfl (args_ (p := _)) ?_; (with_reducible refine (headgateref07_asks.calls _ _ l0_0 _ _ l0_1 _ _ l0_2 a1 t295 _ ?side1 ?side2 ?side3 ?side4 ?side5 ?side6 A3.out).mono ?_); (case side1 => exact upc (Kd.C_below HR0_0.out HB.out)); (case side2 => exact HC0_0.out); (case side3 => exact upc (Kd.C_below HR0_1.out HB.out)); (case side4 => exact HC0_1.out); (case side5 => exact upc (Kd.C_below HR0_2.out HB.out)); (case side6 => exact HC0_2.out); rintro e w9 ⟨rfl, hb⟩; refine ⟨_, rfl, ?_⟩; have n0_ := Aside0.mk (blkB BK294 hb); have n1_ := Aside0.mk (below_step (upH HB) hb); clear BK294; clear HB; have BK294 := n0_; have HB := n1_; clear n0_ n1_; (try clear hb); (try clear hb2); (try clear hk); (try clear hi); have hcz10_0 := cell0 BK294; have hcz10_1 := cell1 BK294; have hcz10_2 := cell2 BK294; have hfz10_0 := blk_frozen BK294.out 0; have hfz10_1 := blk_frozen BK294.out 1; have hfz10_2 := blk_frozen BK294.out 2) | ((with_reducible refine gate_callee (f := 64) rfl ?_); refine goesL_ (some 17) rfl rfl Try.func64 (by kernel_rfl) rfl #[.slice A0_0 l0_0.length c0_0, .int .i64 a1] rfl (args_ (p := _)) ?_; (with_reducible refine (headgateref07_place.calls k _ _ l0_0 a1 t296 _ ?side1 ?side2 A5.out).mono ?_); (case side1 => exact upc (Kd.C_below HR0_0.out HB.out)); (case side2 => exact HC0_0.out); rintro e w' ⟨rfl, ⟨nd, rfl⟩⟩; refine ⟨_, rfl, ?_⟩))
   go_ret2
   exact ⟨by first | rfl | (simp [errW_none, errW_some] <;> rfl) | (simp [*, errW_none, errW_some] <;> rfl), by repeat (first | (with_reducible first | exact HB.out | apply below_alloc | apply pw_below_drewN | apply below_drew1 | refine below_set ?_ GE294.out) | exact HB.out)⟩
  ·
   rw [if_neg c6] at H
   have c6b0 : decide (0 ≤ t296) = false := decide_eq_false c6
   clear c6
   replace H := Option.bind_eq_some_iff.mp H
   obtain ⟨t297, A110, H⟩ := H
   replace H : (if t297 ≥ 0 then (some (2, 0)) else (some (0, 0))) = some (r1, r2) := H
   have A11 := Aside0.mk A110
   clear A110
   by_cases c12 : t297 ≥ 0
   ·
    rw [if_pos c12] at H
    have c12b0 : decide (0 ≤ t297) = true := decide_eq_true c12
    clear c12
    simp only [Option.some.injEq, Prod.mk.injEq] at H
    obtain ⟨rfl, rfl⟩ := H
    go_enter Try.func58, Try.ntmps58
    go_wp2_with (first | ((with_reducible refine gate_dst (N := 2) rfl ?_); refine box_event ?hg (N := 2) ?hd (cs := #[.slice A0_0 l0_0.length c0_0, .slice A0_1 l0_1.length c0_1, .slice A0_2 l0_2.length c0_2]) (t := 33) ?hr ?_; (case hd => rfl); (case hg => rfl); (case hr => first | (go_simp; done) | (go_simp; rfl)); intro gb294 hg w13 hbox hb; have n0_ := Aside0.mk (below_step (upH HB) hb); have n1_ := Aside0.mk (hbox); have n2_ := Aside0.mk ((by rw [hg]; exact (below_size (upH HB)) : w.heap.size ≤ gb294)); have n3_ := Aside0.mk ((by rw [hg]; exact (below_size (upH HB)) : w.heap.size ≤ gb294)); clear HB; have HB := n0_; have BK294 := n1_; have GW294 := n2_; have GE294 := n3_; clear n0_ n1_ n2_ n3_; clear hb hbox hg; have hcz14_0 := cell0 BK294; have hcz14_1 := cell1 BK294; have hcz14_2 := cell2 BK294; have hfz14_0 := blk_frozen BK294.out 0; have hfz14_1 := blk_frozen BK294.out 1; have hfz14_2 := blk_frozen BK294.out 2) | ((with_reducible refine gate_callee (f := 63) rfl ?_); refine goesL_ (some 9) rfl rfl Try.func63 (by kernel_rfl) rfl #[.agg #[.slice A0_0 l0_0.length c0_0, .slice A0_1 l0_1.length c0_1, .slice A0_2 l0_2.length c0_2], .int .i64 a1] rfl (args_ (p := _)) ?_; (with_reducible refine (headgateref07_asks.calls _ _ l0_0 _ _ l0_1 _ _ l0_2 a1 t295 _ ?side1 ?side2 ?side3 ?side4 ?side5 ?side6 A3.out).mono ?_); (case side1 => exact upc (Kd.C_below HR0_0.out HB.out)); (case side2 => exact HC0_0.out); (case side3 => exact upc (Kd.C_below HR0_1.out HB.out)); (case side4 => exact HC0_1.out); (case side5 => exact upc (Kd.C_below HR0_2.out HB.out)); (case side6 => exact HC0_2.out); rintro e w15 ⟨rfl, hb⟩; refine ⟨_, rfl, ?_⟩; have n0_ := Aside0.mk (blkB BK294 hb); have n1_ := Aside0.mk (below_step (upH HB) hb); clear BK294; clear HB; have BK294 := n0_; have HB := n1_; clear n0_ n1_; (try clear hb); (try clear hb2); (try clear hk); (try clear hi); have hcz16_0 := cell0 BK294; have hcz16_1 := cell1 BK294; have hcz16_2 := cell2 BK294; have hfz16_0 := blk_frozen BK294.out 0; have hfz16_1 := blk_frozen BK294.out 1; have hfz16_2 := blk_frozen BK294.out 2) | ((with_reducible refine gate_callee (f := 64) rfl ?_); refine goesL_ (some 17) rfl rfl Try.func64 (by kernel_rfl) rfl #[.slice A0_0 l0_0.length c0_0, .int .i64 a1] rfl (args_ (p := _)) ?_; (with_reducible refine (headgateref07_place.calls k _ _ l0_0 a1 t296 _ ?side1 ?side2 A5.out).mono ?_); (case side1 => exact upc (Kd.C_below HR0_0.out HB.out)); (case side2 => exact HC0_0.out); rintro e w' ⟨rfl, ⟨nd, rfl⟩⟩; refine ⟨_, rfl, ?_⟩) | ((with_reducible refine gate_callee (f := 64) rfl ?_); refine goesL_ (some 23) rfl rfl Try.func64 (by kernel_rfl) rfl #[.slice A0_1 l0_1.length c0_1, .int .i64 a1] rfl (args_ (p := _)) ?_; (with_reducible refine (headgateref07_place.calls k _ _ l0_1 a1 t297 _ ?side1 ?side2 A11.out).mono ?_); (case side1 => exact upc (Kd.C_below HR0_1.out (upH HB))); (case side2 => exact HC0_1.out); rintro e w' ⟨rfl, ⟨nd, rfl⟩⟩; refine ⟨_, rfl, ?_⟩))
    go_ret2
    exact ⟨by first | rfl | (simp [errW_none, errW_some] <;> rfl) | (simp [*, errW_none, errW_some] <;> rfl), by repeat (first | (with_reducible first | exact HB.out | apply below_alloc | apply pw_below_drewN | apply below_drew1 | refine below_set ?_ GE294.out) | exact HB.out)⟩
   ·
    rw [if_neg c12] at H
    have c12b0 : decide (0 ≤ t297) = false := decide_eq_false c12
    clear c12
    simp only [Option.some.injEq, Prod.mk.injEq] at H
    obtain ⟨rfl, rfl⟩ := H
    go_enter Try.func58, Try.ntmps58
    go_wp2_with (first | ((with_reducible refine gate_dst (N := 2) rfl ?_); refine box_event ?hg (N := 2) ?hd (cs := #[.slice A0_0 l0_0.length c0_0, .slice A0_1 l0_1.length c0_1, .slice A0_2 l0_2.length c0_2]) (t := 33) ?hr ?_; (case hd => rfl); (case hg => rfl); (case hr => first | (go_simp; done) | (go_simp; rfl)); intro gb294 hg w17 hbox hb; have n0_ := Aside0.mk (below_step (upH HB) hb); have n1_ := Aside0.mk (hbox); have n2_ := Aside0.mk ((by rw [hg]; exact (below_size (upH HB)) : w.heap.size ≤ gb294)); have n3_ := Aside0.mk ((by rw [hg]; exact (below_size (upH HB)) : w.heap.size ≤ gb294)); clear HB; have HB := n0_; have BK294 := n1_; have GW294 := n2_; have GE294 := n3_; clear n0_ n1_ n2_ n3_; clear hb hbox hg; have hcz18_0 := cell0 BK294; have hcz18_1 := cell1 BK294; have hcz18_2 := cell2 BK294; have hfz18_0 := blk_frozen BK294.out 0; have hfz18_1 := blk_frozen BK294.out 1; have hfz18_2 := blk_frozen BK294.out 2) | ((with_reducible refine gate_callee (f := 63) rfl ?_); refine goesL_ (some 9) rfl rfl Try.func63 (by kernel_rfl) rfl #[.agg #[.slice A0_0 l0_0.length c0_0, .slice A0_1 l0_1.length c0_1, .slice A0_2 l0_2.length c0_2], .int .i64 a1] rfl (args_ (p := _)) ?_; (with_reducible refine (headgateref07_asks.calls _ _ l0_0 _ _ l0_1 _ _ l0_2 a1 t295 _ ?side1 ?side2 ?side3 ?side4 ?side5 ?side6 A3.out).mono ?_); (case side1 => exact upc (Kd.C_below HR0_0.out HB.out)); (case side2 => exact HC0_0.out); (case side3 => exact upc (Kd.C_below HR0_1.out HB.out)); (case side4 => exact HC0_1.out); (case side5 => exact upc (Kd.C_below HR0_2.out HB.out)); (case side6 => exact HC0_2.out); rintro e w19 ⟨rfl, hb⟩; refine ⟨_, rfl, ?_⟩; have n0_ := Aside0.mk (blkB BK294 hb); have n1_ := Aside0.mk (below_step (upH HB) hb); clear BK294; clear HB; have BK294 := n0_; have HB := n1_; clear n0_ n1_; (try clear hb); (try clear hb2); (try clear hk); (try clear hi); have hcz20_0 := cell0 BK294; have hcz20_1 := cell1 BK294; have hcz20_2 := cell2 BK294; have hfz20_0 := blk_frozen BK294.out 0; have hfz20_1 := blk_frozen BK294.out 1; have hfz20_2 := blk_frozen BK294.out 2) | ((with_reducible refine gate_callee (f := 64) rfl ?_); refine goesL_ (some 17) rfl rfl Try.func64 (by kernel_rfl) rfl #[.slice A0_0 l0_0.length c0_0, .int .i64 a1] rfl (args_ (p := _)) ?_; (with_reducible refine (headgateref07_place.calls k _ _ l0_0 a1 t296 _ ?side1 ?side2 A5.out).mono ?_); (case side1 => exact upc (Kd.C_below HR0_0.out HB.out)); (case side2 => exact HC0_0.out); rintro e w' ⟨rfl, ⟨nd, rfl⟩⟩; refine ⟨_, rfl, ?_⟩) | ((with_reducible refine gate_callee (f := 64) rfl ?_); refine goesL_ (some 23) rfl rfl Try.func64 (by kernel_rfl) rfl #[.slice A0_1 l0_1.length c0_1, .int .i64 a1] rfl (args_ (p := _)) ?_; (with_reducible refine (headgateref07_place.calls k _ _ l0_1 a1 t297 _ ?side1 ?side2 A11.out).mono ?_); (case side1 => exact upc (Kd.C_below HR0_1.out (upH HB))); (case side2 => exact HC0_1.out); rintro e w' ⟨rfl, ⟨nd, rfl⟩⟩; refine ⟨_, rfl, ?_⟩))
    go_ret2
    exact ⟨by first | rfl | (simp [errW_none, errW_some] <;> rfl) | (simp [*, errW_none, errW_some] <;> rfl), by repeat (first | (with_reducible first | exact HB.out | apply below_alloc | apply pw_below_drewN | apply below_drew1 | refine below_set ?_ GE294.out) | exact HB.out)⟩
 ·
  rw [if_neg c4] at H
  have c4b0 : (t295 == 0) = false := beq_eq_false_iff_ne.mpr c4
  have c4b1 : (t295 != 0) = true := bne_iff_ne.mpr c4
  simp only [Option.some.injEq, Prod.mk.injEq] at H
  obtain ⟨rfl, rfl⟩ := H
  go_enter Try.func58, Try.ntmps58
  go_wp2_with (first | ((with_reducible refine gate_dst (N := 2) rfl ?_); refine box_event ?hg (N := 2) ?hd (cs := #[.slice A0_0 l0_0.length c0_0, .slice A0_1 l0_1.length c0_1, .slice A0_2 l0_2.length c0_2]) (t := 33) ?hr ?_; (case hd => rfl); (case hg => rfl); (case hr => first | (go_simp; done) | (go_simp; rfl)); intro gb294 hg w21 hbox hb; have n0_ := Aside0.mk (below_step (upH HB) hb); have n1_ := Aside0.mk (hbox); have n2_ := Aside0.mk ((by rw [hg]; exact (below_size (upH HB)) : w.heap.size ≤ gb294)); have n3_ := Aside0.mk ((by rw [hg]; exact (below_size (upH HB)) : w.heap.size ≤ gb294)); clear HB; have HB := n0_; have BK294 := n1_; have GW294 := n2_; have GE294 := n3_; clear n0_ n1_ n2_ n3_; clear hb hbox hg; have hcz22_0 := cell0 BK294; have hcz22_1 := cell1 BK294; have hcz22_2 := cell2 BK294; have hfz22_0 := blk_frozen BK294.out 0; have hfz22_1 := blk_frozen BK294.out 1; have hfz22_2 := blk_frozen BK294.out 2) | ((with_reducible refine gate_callee (f := 63) rfl ?_); refine goesL_ (some 9) rfl rfl Try.func63 (by kernel_rfl) rfl #[.agg #[.slice A0_0 l0_0.length c0_0, .slice A0_1 l0_1.length c0_1, .slice A0_2 l0_2.length c0_2], .int .i64 a1] rfl (args_ (p := _)) ?_; (with_reducible refine (headgateref07_asks.calls _ _ l0_0 _ _ l0_1 _ _ l0_2 a1 t295 _ ?side1 ?side2 ?side3 ?side4 ?side5 ?side6 A3.out).mono ?_); (case side1 => exact upc (Kd.C_below HR0_0.out HB.out)); (case side2 => exact HC0_0.out); (case side3 => exact upc (Kd.C_below HR0_1.out HB.out)); (case side4 => exact HC0_1.out); (case side5 => exact upc (Kd.C_below HR0_2.out HB.out)); (case side6 => exact HC0_2.out); rintro e w23 ⟨rfl, hb⟩; refine ⟨_, rfl, ?_⟩; have n0_ := Aside0.mk (blkB BK294 hb); have n1_ := Aside0.mk (below_step (upH HB) hb); clear BK294; clear HB; have BK294 := n0_; have HB := n1_; clear n0_ n1_; (try clear hb); (try clear hb2); (try clear hk); (try clear hi)))
  go_ret2
  exact ⟨by first | rfl | (simp [errW_none, errW_some] <;> rfl) | (simp [*, errW_none, errW_some] <;> rfl), by repeat (first | (with_reducible first | exact HB.out | apply below_alloc | apply pw_below_drewN | apply below_drew1 | refine below_set ?_ GE294.out) | exact HB.out)⟩

end Go.Proofs.Ytnheknlmmmkbpaa.X

namespace Go.Proofs.Ytnheknlmmmkbpaa.X
open Go.RowKit Go.Proofs.YtnheknlmmmkbpaaW.PrintWords Go.Proofs.YtnheknlmmmkbpaaW.PrintLast Go.Proofs.YtnheknlmmmkbpaaW.PrintMore
attribute [local go_sem] max2_int min2_int max_two min_two max_three min_three max_four min_four   -- for this text's walks alone
set_option linter.unusedVariables false
set_option linter.unusedSimpArgs false

/-! ### headgateref07_own: function 59 -/
def headgateref07_own.f (l0_0 : List Int) (l0_1 : List Int) (l0_2 : List Bool) : Option (List Int × List Int × List Bool) := if l0_0.length * 8 ≤ 100000000000000 ∧ l0_1.length * 8 ≤ 100000000000000 ∧ l0_2.length * 1 ≤ 100000000000000 then some (l0_0, l0_1, l0_2) else none
def headgateref07_own.T1 : Bool × List (List Nat × List Nat) := (true, [([], []), ([], []), ([1], [1]), ([0, 2], [0, 2]), ([], []), ([], []), ([5], [5]), ([4, 6, 3], [4, 6]), ([], []), ([], []), ([9], [9]), ([8, 10, 7], [8, 10]), ([3, 7, 11], [3, 7, 11]), ([12, 11, 0, 1, 2, 3, 4, 5, 6, 7, 8, 9, 10, 11, 12], [12])])
def headgateref07_own.B1 : List Nat := [0, 0, 2, 7, 0, 0, 32, 127, 0, 0, 512, 2047, 4095, 8191]
theorem headgateref07_own.tab1 : rtab .any (opsOf Try.f59 1) = headgateref07_own.T1 := by kernel_rfl
theorem headgateref07_own.bits1 : waitsOk headgateref07_own.T1.2 headgateref07_own.B1 = true := by kernel_rfl
set_option maxHeartbeats 4000000 in
set_option maxRecDepth 100000 in
theorem headgateref07_own.calls (A0_0 : Option Addr) (c0_0 : Nat) (l0_0 : List Int) (A0_1 : Option Addr) (c0_1 : Nat) (l0_1 : List Int) (A0_2 : Option Addr) (c0_2 : Nat) (l0_2 : List Bool) (r1 : List Int) (r2 : List Int) (r3 : List Bool) (w : World) (hr0_0 : Kd.C (Kd.int .i64) w A0_0 l0_0.length l0_0) (hc0_0 : l0_0.length ≤ c0_0) (hr0_1 : Kd.C (Kd.int .i64) w A0_1 l0_1.length l0_1) (hc0_1 : l0_1.length ≤ c0_1) (hr0_2 : Kd.C Kd.bool w A0_2 l0_2.length l0_2) (hc0_2 : l0_2.length ≤ c0_2) (h : headgateref07_own.f l0_0 l0_1 l0_2 = some (r1, r2, r3)) :
  Calls Try.prog 59 #[.agg #[.slice A0_0 l0_0.length c0_0, .slice A0_1 l0_1.length c0_1, .slice A0_2 l0_2.length c0_2]] w fun e w' => ∃ v0_ v1_ v2_ : Value, e = .returned (.agg #[v0_, v1_, v2_]) ∧ Kd.R (Kd.int .i64) 3 w' w.heap.size (fun k_ => some k_ ≠ (v1_ : Value).ownBlock) v0_ r1 ∧ Kd.R (Kd.int .i64) 3 w' w.heap.size (fun k_ => some k_ ≠ (v0_ : Value).ownBlock) v1_ r2 ∧ Kd.R Kd.bool 4 w' w.heap.size (fun _ => True) v2_ r3 ∧ Below w.heap.size w w' := by
 have hu := Try.underlying33
 unfold headgateref07_own.f at h
 by_cases hl : l0_0.length * 8 ≤ 100000000000000 ∧ l0_1.length * 8 ≤ 100000000000000 ∧ l0_2.length * 1 ≤ 100000000000000
 case neg => rw [if_neg hl] at h; cases h
 rw [if_pos hl] at h
 simp only [Option.some.injEq, Prod.mk.injEq] at h
 obtain ⟨rfl, rfl, rfl⟩ := h
 have LM := Aside0.mk hl
 have HR0 := Aside0.mk hr0_0
 have HR1 := Aside0.mk hr0_1
 have HR2 := Aside0.mk hr0_2
 clear hl hr0_0 hr0_1 hr0_2
 have mixed : Try.prog.follows .mixedOrders = true := rfl
 have hbox := blk_alloc (blk_new w (.cells #[.slice A0_0 l0_0.length c0_0, .slice A0_1 l0_1.length c0_1, .slice A0_2 l0_2.length c0_2] 33)) (.cells #[.slice none 0 0, .slice none 0 0, .slice none 0 0] 33)
 have hres := blk_newb (w.alloc (.cells #[.slice A0_0 l0_0.length c0_0, .slice A0_1 l0_1.length c0_1, .slice A0_2 l0_2.length c0_2] 33)) (.cells #[.slice none 0 0, .slice none 0 0, .slice none 0 0] 33) (w.heap.size + 1) (by simp)
 have hx0 := (blk_cell hbox 0).trans rfl
 have hx1 := (blk_cell hbox 1).trans rfl
 have hx2 := (blk_cell hbox 2).trans rfl
 have BK := Aside0.mk hres
 clear hbox hres
 go_enter Try.func59, Try.ntmps59
 go_wp2_with fail
 refine shut_own 14 12 [(0, 0), (3, 0), (4, 1), (7, 1), (8, 2), (11, 2)] (by decide) [3, 4, 5, 6, 7, 8, 9, 10, 11, 12, 13, 14] [emptyF (Kd.int .i64) 3 (w.heap.size + 1 + 1), litF (.pointer (some ⟨w.heap.size, 0, none⟩)), litF (.slice A0_0 l0_0.length c0_0), ownF (Kd.int .i64) 3 (w.heap.size + 1 + 1) l0_0, emptyF (Kd.int .i64) 3 (w.heap.size + 1 + 1), litF (.pointer (some ⟨w.heap.size, 1, none⟩)), litF (.slice A0_1 l0_1.length c0_1), ownF (Kd.int .i64) 3 (w.heap.size + 1 + 1) l0_1, emptyF Kd.bool 4 (w.heap.size + 1 + 1), litF (.pointer (some ⟨w.heap.size, 2, none⟩)), litF (.slice A0_2 l0_2.length c0_2), ownF Kd.bool 4 (w.heap.size + 1 + 1) l0_2] (by kernel_rfl) rfl (by omega) headgateref07_own.tab1 headgateref07_own.bits1 (by kernel_rfl) (by kernel_rfl) (by decide) (by kernel_rfl) rfl (by kernel_rfl) (by kernel_rfl) ?_ ?_
 ·
  rw [show List.range 12 = [0, 1, 2, 3, 4, 5, 6, 7, 8, 9, 10, 11] from rfl]
  refine opLaws_cons ?_ ?_
  ·
   intro a w' hB hoff hon
   refine ⟨_, rfl, fun K hK => ?_⟩
   refine value_ (w1 := w'.alloc (.cells #[] 3)) (v := .slice (some ⟨w'.heap.size, 0, none⟩) 0 0) (by rfl) rfl ?_ ?_
   ·
    go_simp; try rfl
   exact hK.out _ _ _ rfl (empty_made (Kd.int .i64) (by have := hB.size; simp at this; omega)) (below_alloc (Below.refl _ _) _) (ownLaw_new (fun k hk => by have : w'.heap.size = k := (by simpa [Value.ownBlock] using hk); subst this; simp))
  refine opLaws_cons ?_ ?_
  ·
   intro a w' hB hoff hon
   refine ⟨_, rfl, fun K hK => ?_⟩
   have e1 : a.tmps[1]? = some (.pointer (some ⟨w.heap.size, 0, none⟩)) := (hoff 1 (by kernel_rfl)).trans rfl
   refine value_ (w1 := w') (v := .pointer (some ⟨w.heap.size, 0, none⟩)) (by rfl) rfl ?_ ?_
   ·
    go_simp; try rfl
   exact hK.out _ _ _ rfl rfl (Below.refl _ _) (ownLaw_no (by decide))
  refine opLaws_cons ?_ ?_
  ·
   intro a w' hB hoff hon
   refine ⟨_, rfl, fun K hK => ?_⟩
   obtain ⟨x4, e4, f4⟩ := hon 1 4 _ (by kernel_rfl) rfl rfl
   replace f4 : x4 = .pointer (some ⟨w.heap.size, 0, none⟩) := f4
   subst f4
   have z0 := pw_cell_below hB hx0
   refine value_ (w1 := w') (v := .slice A0_0 l0_0.length c0_0) (by rfl) rfl ?_ ?_
   ·
    go_simp; try rfl
   exact hK.out _ _ _ rfl rfl (Below.refl _ _) (ownLaw_no (by decide))
  refine opLaws_cons ?_ ?_
  ·
   intro a w' hB hoff hon
   refine ⟨_, rfl, fun K hK => ?_⟩
   obtain ⟨x3, e3, f3⟩ := hon 0 3 _ (by kernel_rfl) rfl rfl
   have h3 := f3
   obtain ⟨x5, e5, f5⟩ := hon 2 5 _ (by kernel_rfl) rfl rfl
   replace f5 : x5 = .slice A0_0 l0_0.length c0_0 := f5
   subst f5
   obtain ⟨⟨g, rfl⟩, hE⟩ := h3
   have hBw := below_then (below_alloc (below_alloc (Below.refl w.heap.size w) _) _) (by simp; omega) hB
   obtain ⟨v, w2, hrun, hR, hb, hk⟩ := append_fresh (A := A0_0) (c := c0_0) (P := Try.prog) (t := 30) (ty := 30) (bytes := 8) Try.underlying30 info3 rfl (by omega) hE (Kd.C_below HR0.out hBw) (by have := hB.size; simp at this; omega) (by have := LM.out.1; omega)
   refine value_ (w1 := w2) (v := v) (by rfl) rfl ?_ ?_
   ·
    exact run_append_op (s := .tmp 3) (x := .tmp 5) rfl (by simp only [Act.eval, Array.getD_eq_getD_getElem?, e3, Option.getD_some]) (by simp only [Act.eval, Array.getD_eq_getD_getElem?, e5, Option.getD_some]) hrun
   exact hK.out _ _ _ rfl hR hb (fun c hc k hk' => ⟨(hk k hk').1, (hk k hk').2.imp_right (fun e_ => ⟨0, 3, _, by have : c = 0 := (by simpa using hc); subst this; decide, by kernel_rfl, rfl, e3, by rw [e_]; rfl⟩)⟩)
  refine opLaws_cons ?_ ?_
  ·
   intro a w' hB hoff hon
   refine ⟨_, rfl, fun K hK => ?_⟩
   refine value_ (w1 := w'.alloc (.cells #[] 3)) (v := .slice (some ⟨w'.heap.size, 0, none⟩) 0 0) (by rfl) rfl ?_ ?_
   ·
    go_simp; try rfl
   exact hK.out _ _ _ rfl (empty_made (Kd.int .i64) (by have := hB.size; simp at this; omega)) (below_alloc (Below.refl _ _) _) (ownLaw_new (fun k hk => by have : w'.heap.size = k := (by simpa [Value.ownBlock] using hk); subst this; simp))
  refine opLaws_cons ?_ ?_
  ·
   intro a w' hB hoff hon
   refine ⟨_, rfl, fun K hK => ?_⟩
   have e1 : a.tmps[1]? = some (.pointer (some ⟨w.heap.size, 0, none⟩)) := (hoff 1 (by kernel_rfl)).trans rfl
   refine value_ (w1 := w') (v := .pointer (some ⟨w.heap.size, 1, none⟩)) (by rfl) rfl ?_ ?_
   ·
    go_simp; try rfl
   exact hK.out _ _ _ rfl rfl (Below.refl _ _) (ownLaw_no (by decide))
  refine opLaws_cons ?_ ?_
  ·
   intro a w' hB hoff hon
   refine ⟨_, rfl, fun K hK => ?_⟩
   obtain ⟨x8, e8, f8⟩ := hon 5 8 _ (by kernel_rfl) rfl rfl
   replace f8 : x8 = .pointer (some ⟨w.heap.size, 1, none⟩) := f8
   subst f8
   have z0 := pw_cell_below hB hx1
   refine value_ (w1 := w') (v := .slice A0_1 l0_1.length c0_1) (by rfl) rfl ?_ ?_
   ·
    go_simp; try rfl
   exact hK.out _ _ _ rfl rfl (Below.refl _ _) (ownLaw_no (by decide))
  refine opLaws_cons ?_ ?_
  ·
   intro a w' hB hoff hon
   refine ⟨_, rfl, fun K hK => ?_⟩
   obtain ⟨x7, e7, f7⟩ := hon 4 7 _ (by kernel_rfl) rfl rfl
   have h7 := f7
   obtain ⟨x9, e9, f9⟩ := hon 6 9 _ (by kernel_rfl) rfl rfl
   replace f9 : x9 = .slice A0_1 l0_1.length c0_1 := f9
   subst f9
   obtain ⟨⟨g, rfl⟩, hE⟩ := h7
   have hBw := below_then (below_alloc (below_alloc (Below.refl w.heap.size w) _) _) (by simp; omega) hB
   obtain ⟨v, w2, hrun, hR, hb, hk⟩ := append_fresh (A := A0_1) (c := c0_1) (P := Try.prog) (t := 30) (ty := 30) (bytes := 8) Try.underlying30 info3 rfl (by omega) hE (Kd.C_below HR1.out hBw) (by have := hB.size; simp at this; omega) (by have := LM.out.2.1; omega)
   refine value_ (w1 := w2) (v := v) (by rfl) rfl ?_ ?_
   ·
    exact run_append_op (s := .tmp 7) (x := .tmp 9) rfl (by simp only [Act.eval, Array.getD_eq_getD_getElem?, e7, Option.getD_some]) (by simp only [Act.eval, Array.getD_eq_getD_getElem?, e9, Option.getD_some]) hrun
   exact hK.out _ _ _ rfl hR hb (fun c hc k hk' => ⟨(hk k hk').1, (hk k hk').2.imp_right (fun e_ => ⟨4, 7, _, by have : c = 1 := (by simpa using hc); subst this; decide, by kernel_rfl, rfl, e7, by rw [e_]; rfl⟩)⟩)
  refine opLaws_cons ?_ ?_
  ·
   intro a w' hB hoff hon
   refine ⟨_, rfl, fun K hK => ?_⟩
   refine value_ (w1 := w'.alloc (.cells #[] 4)) (v := .slice (some ⟨w'.heap.size, 0, none⟩) 0 0) (by rfl) rfl ?_ ?_
   ·
    go_simp; try rfl
   exact hK.out _ _ _ rfl (empty_made Kd.bool (by have := hB.size; simp at this; omega)) (below_alloc (Below.refl _ _) _) (ownLaw_new (fun k hk => by have : w'.heap.size = k := (by simpa [Value.ownBlock] using hk); subst this; simp))
  refine opLaws_cons ?_ ?_
  ·
   intro a w' hB hoff hon
   refine ⟨_, rfl, fun K hK => ?_⟩
   have e1 : a.tmps[1]? = some (.pointer (some ⟨w.heap.size, 0, none⟩)) := (hoff 1 (by kernel_rfl)).trans rfl
   refine value_ (w1 := w') (v := .pointer (some ⟨w.heap.size, 2, none⟩)) (by rfl) rfl ?_ ?_
   ·
    go_simp; try rfl
   exact hK.out _ _ _ rfl rfl (Below.refl _ _) (ownLaw_no (by decide))
  refine opLaws_cons ?_ ?_
  ·
   intro a w' hB hoff hon
   refine ⟨_, rfl, fun K hK => ?_⟩
   obtain ⟨x12, e12, f12⟩ := hon 9 12 _ (by kernel_rfl) rfl rfl
   replace f12 : x12 = .pointer (some ⟨w.heap.size, 2, none⟩) := f12
   subst f12
   have z0 := pw_cell_below hB hx2
   refine value_ (w1 := w') (v := .slice A0_2 l0_2.length c0_2) (by rfl) rfl ?_ ?_
   ·
    go_simp; try rfl
   exact hK.out _ _ _ rfl rfl (Below.refl _ _) (ownLaw_no (by decide))
  refine opLaws_cons ?_ ?_
  ·
   intro a w' hB hoff hon
   refine ⟨_, rfl, fun K hK => ?_⟩
   obtain ⟨x11, e11, f11⟩ := hon 8 11 _ (by kernel_rfl) rfl rfl
   have h11 := f11
   obtain ⟨x13, e13, f13⟩ := hon 10 13 _ (by kernel_rfl) rfl rfl
   replace f13 : x13 = .slice A0_2 l0_2.length c0_2 := f13
   subst f13
   obtain ⟨⟨g, rfl⟩, hE⟩ := h11
   have hBw := below_then (below_alloc (below_alloc (Below.refl w.heap.size w) _) _) (by simp; omega) hB
   obtain ⟨v, w2, hrun, hR, hb, hk⟩ := append_fresh (A := A0_2) (c := c0_2) (P := Try.prog) (t := 31) (ty := 31) (bytes := 1) Try.underlying31 info4 rfl (by omega) hE (Kd.C_below HR2.out hBw) (by have := hB.size; simp at this; omega) (by have := LM.out.2.2; omega)
   refine value_ (w1 := w2) (v := v) (by rfl) rfl ?_ ?_
   ·
    exact run_append_op (s := .tmp 11) (x := .tmp 13) rfl (by simp only [Act.eval, Array.getD_eq_getD_getElem?, e11, Option.getD_some]) (by simp only [Act.eval, Array.getD_eq_getD_getElem?, e13, Option.getD_some]) hrun
   exact hK.out _ _ _ rfl hR hb (fun c hc k hk' => ⟨(hk k hk').1, (hk k hk').2.imp_right (fun e_ => ⟨8, 11, _, by have : c = 2 := (by simpa using hc); subst this; decide, by kernel_rfl, rfl, e11, by rw [e_]; rfl⟩)⟩)
  exact opLaws_nil
 intro vals w2 hb hv hO
 have hR0 : Kd.R (Kd.int .i64) 3 w2 (w.heap.size + 1 + 1) (fun _ => True) (vals 3) l0_0 := hv 3 _ rfl
 have hR1 : Kd.R (Kd.int .i64) 3 w2 (w.heap.size + 1 + 1) (fun _ => True) (vals 7) l0_1 := hv 7 _ rfl
 have hR2 : Kd.R Kd.bool 4 w2 (w.heap.size + 1 + 1) (fun _ => True) (vals 11) l0_2 := hv 11 _ rfl
 have hn0_1 : ∀ k, (vals 3).ownBlock = some k → some k ≠ (vals 7).ownBlock := fun k h1 h2 => hO.ne 3 7 0 1 k (by decide) (by decide) (by decide) rfl rfl h1 h2.symm
 have hn1_0 : ∀ k, (vals 7).ownBlock = some k → some k ≠ (vals 3).ownBlock := fun k h1 h2 => hO.ne 7 3 1 0 k (by decide) (by decide) (by decide) rfl rfl h1 h2.symm
 have hbk2 := blk_below BK.out hb
 have hy0 := (blk_cell hbk2 0).trans rfl
 have hz0 := blk_frozen hbk2 0
 have hy1 := (blk_cell hbk2 1).trans rfl
 have hz1 := blk_frozen hbk2 1
 have hy2 := (blk_cell hbk2 2).trans rfl
 have hz2 := blk_frozen hbk2 2
 have HB2 := Aside0.mk (below_then (below_alloc (below_alloc (Below.refl w.heap.size w) _) _) (by simp; omega) hb)
 replace BK := Aside0.mk hbk2
 simp only [selOf, List.zipIdx_cons, List.zipIdx_nil, List.map_cons, List.map_nil, Nat.zero_add, Nat.reduceAdd, putSel, if_true, Act.put, List.setIfInBounds_toArray, List.set_cons_zero, List.set_cons_succ]
 clear hv hO hb hbk2 hx0 hx1 hx2
 generalize vals 3 = x0_ at *
 obtain ⟨B0, d0, rfl⟩ := Kd.R_slice hR0
 generalize vals 7 = x1_ at *
 obtain ⟨B1, d1, rfl⟩ := Kd.R_slice hR1
 generalize vals 11 = x2_ at *
 obtain ⟨B2, d2, rfl⟩ := Kd.R_slice hR2
 have HT0 : Aside0 (Kd.R (Kd.int .i64) 3 w2 (w.heap.size + 1 + 1) (fun k_ => some k_ ≠ (.slice B1 l0_1.length d1 : Value).ownBlock) (.slice B0 l0_0.length d0) l0_0) := ⟨Kd.R_of_own (Kd.own_of_R hR0) (fun k hk => hn0_1 k hk)⟩
 have HT1 : Aside0 (Kd.R (Kd.int .i64) 3 w2 (w.heap.size + 1 + 1) (fun k_ => some k_ ≠ (.slice B0 l0_0.length d0 : Value).ownBlock) (.slice B1 l0_1.length d1) l0_1) := ⟨Kd.R_of_own (Kd.own_of_R hR1) (fun k hk => hn1_0 k hk)⟩
 have HT2 : Aside0 (Kd.R Kd.bool 4 w2 (w.heap.size + 1 + 1) (fun k_ => True) (.slice B2 l0_2.length d2) l0_2) := ⟨Kd.R_of_own (Kd.own_of_R hR2) (fun k hk => trivial)⟩
 clear hR0 hR1 hR2 hn0_1 hn1_0
 show tailOk _ _ _ [_, _] _ _
 refine tail_value rfl rfl (v := .agg #[.slice B0 l0_0.length d0, .slice B1 l0_1.length d1, .slice B2 l0_2.length d2]) (by go_simp; try rfl) rfl ?_
 refine tail_skip rfl rfl (w1 := (((w2.setCell ⟨w.heap.size + 1, 0, none⟩ (.slice B0 l0_0.length d0)).setCell ⟨w.heap.size + 1, 1, none⟩ (.slice B1 l0_1.length d1)).setCell ⟨w.heap.size + 1, 2, none⟩ (.slice B2 l0_2.length d2))) (by go_simp; try rfl) ?_
 refine tail_nil ?_
 simp only [Act.put, List.setIfInBounds_toArray, List.set_cons_zero, List.set_cons_succ]
 go_wp2
 refine bodyPost_ret (results_cell_row (p := 2) rfl _ _ (w.heap.size + 1) 33 #[.slice B0 l0_0.length d0, .slice B1 l0_1.length d1, .slice B2 l0_2.length d2] (0, 0) _ rfl (blk_put (blk_put (blk_put BK.out 0 _ rfl) 1 _ rfl) 2 _ rfl) hu rfl (by kernel_rfl)) rfl ?_
 exact ⟨_, _, _, rfl, Kd.R_lower (R_set (R_set (R_set HT0.out BK.out (by decide)) (blk_set BK.out 0 _) (by decide)) (blk_set (blk_set BK.out 0 _) 1 _) (by decide)) (by omega), Kd.R_lower (R_set (R_set (R_set HT1.out BK.out (by decide)) (blk_set BK.out 0 _) (by decide)) (blk_set (blk_set BK.out 0 _) 1 _) (by decide)) (by omega), Kd.R_lower (R_set (R_set (R_set HT2.out BK.out (by decide)) (blk_set BK.out 0 _) (by decide)) (blk_set (blk_set BK.out 0 _) 1 _) (by decide)) (by omega), (((HB2.out.setCell (p := ⟨_, 0, none⟩) (by simp) _).setCell (p := ⟨_, 1, none⟩) (by simp) _).setCell (p := ⟨_, 2, none⟩) (by simp) _)⟩


end Go.Proofs.Ytnheknlmmmkbpaa.X

namespace Go.Proofs.Ytnheknlmmmkbpaa.X
open Go.RowKit Go.Proofs.YtnheknlmmmkbpaaW.PrintWords Go.Proofs.YtnheknlmmmkbpaaW.PrintLast Go.Proofs.YtnheknlmmmkbpaaW.PrintMore
attribute [local go_sem] max2_int min2_int max_two min_two max_three min_three max_four min_four   -- for this text's walks alone
set_option linter.unusedVariables false
set_option linter.unusedSimpArgs false

/-! ### headgateref07_without: function 60 -/
def headgateref07_without.l0 : Nat → List Int → Int → List Int → Int → Option (List Int)
 | 0, _, _, _, _ => none
 | k + 1, x0, x1, x5, x6 => if x6 < (x0.length : Int) then (if 0 ≤ x6 then (if (rd x0 x6) = x1 then (headgateref07_without.l0 k x0 x1 x5 (wrap64 (x6 + 1))) else (if x5.length < 17592186044416 then (headgateref07_without.l0 k x0 x1 (x5 ++ [rd x0 x6]) (wrap64 (x6 + 1))) else (none))) else (none)) else (some x5)
def headgateref07_without.f (k : Nat) (l0 : List Int) (a1 : Int) : Option (List Int) := headgateref07_without.l0 k l0 a1 ([] : List Int) 0
theorem headgateref07_without.mono_l : ∀ k, (∀ y0 y1 y2 y3, LeO (headgateref07_without.l0 k y0 y1 y2 y3) (headgateref07_without.l0 (k + 1) y0 y1 y2 y3))
 | 0 => fun _ _ _ _ r h => by simp [headgateref07_without.l0] at h
 | k + 1 => by
  have ih0 := headgateref07_without.mono_l k
  ·
   intro y0 y1 y2 y3
   unfold headgateref07_without.l0
   repeat' first
   | (with_reducible exact ih0 _ _ _ _)
   | (with_reducible exact LeO.refl _)
   | (with_reducible exact LeO.none _)
   | (with_reducible refine LeO.ite ?_ ?_)
   | (with_reducible refine LeO.bind ?_ (fun _ => ?_))
   | exact ih0 _ _ _ _
   | exact LeO.none _
   | refine LeO.ite ?_ ?_
   | refine LeO.bind ?_ (fun _ => ?_)
theorem headgateref07_without.mono : ∀ a0 a1 k, LeO (headgateref07_without.f k a0 a1) (headgateref07_without.f (k + 1) a0 a1) := by
 intro a0 a1 k
 have ih0 := headgateref07_without.mono_l k
 unfold headgateref07_without.f
 repeat' first
   | (with_reducible exact ih0 _ _ _ _)
   | (with_reducible exact LeO.refl _)
   | (with_reducible exact LeO.none _)
   | (with_reducible refine LeO.ite ?_ ?_)
   | (with_reducible refine LeO.bind ?_ (fun _ => ?_))
   | exact ih0 _ _ _ _
   | exact LeO.none _
   | refine LeO.ite ?_ ?_
   | refine LeO.bind ?_ (fun _ => ?_)
set_option maxHeartbeats 2000000 in
set_option maxRecDepth 100000 in
theorem headgateref07_without.calls (k : Nat) (A0 : Option Addr) (c0 : Nat) (l0 : List Int) (a1 : Int) (r : List Int) (w : World) (hr0 : Kd.C (Kd.int .i64) w A0 l0.length l0) (hc0 : l0.length ≤ c0) (h : headgateref07_without.f k l0 a1 = some r) :
  Calls Try.prog 60 #[.slice A0 l0.length c0, .int .i64 a1] w fun e w' => ∃ v0_ : Value, e = .returned (v0_) ∧ Kd.R (Kd.int .i64) 3 w' w.heap.size (fun _ => True) v0_ r ∧ Below w.heap.size w w' := by
 have HR0 := Aside0.mk hr0
 have HC0 := Aside0.mk hc0
 clear hr0 hc0
 have HB := Aside0.mk (Below.refl w.heap.size w)
 have H : (headgateref07_without.l0 k l0 a1 ([] : List Int) 0) = some r := h
 clear h
 have H' := Aside0.mk H
 clear H
 go_enter Try.func60, Try.ntmps60
 go_wp2
 go_loopg [5, 6] k (fun kq v5 v6 w' => ∃ (x5_1 : List Int) (x6_1 : Int), v6 = .int .i64 x6_1 ∧ Aside0 (headgateref07_without.l0 kq l0 a1 x5_1 x6_1 = some r) ∧ Aside0 (kq ≤ k) ∧ Aside0 (Kd.R (Kd.int .i64) 3 w' w.heap.size (fun _ => True) v5 x5_1) ∧ Aside0 (Below w.heap.size w w'))
 case atStart => exact ⟨(([] : List Int)), (0), (by first | rfl | (simp; done) | (simp [*]; done)), H', ⟨Nat.le_refl _⟩, ⟨by first | exact Kd.R_nil _ _ _ _ _ | exact Kd.N_nil _ _ _ _ _ | exact Kd.V_nil _ _ _ _ _ | exact Kd.Q_nil _ _ _ _ _ | exact Kd.S_nil _ _ _ _ _⟩, ⟨upH HB⟩⟩
 case round =>
  clear H'
  try clear p2
  obtain ⟨x5_1, x6_1, rfl, HA, HK1, HO_5, HB⟩ := hrel
  cases gk with
  | zero => exact absurd HA.out (by simp [headgateref07_without.l0])
  | succ k1 =>
   have H := HA.out
   clear HA
   simp only [headgateref07_without.l0] at H
   by_cases c3 : x6_1 < (l0.length : Int)
   ·
    rw [if_pos c3] at H
    have c3b0 : decide (x6_1 < (l0.length : Int)) = true := decide_eq_true c3
    clear c3
    by_cases c4 : 0 ≤ x6_1
    ·
     rw [if_pos c4] at H
     have c4b0 : decide (0 ≤ x6_1) = true := decide_eq_true c4
     clear c4
     by_cases c5 : (rd l0 x6_1) = a1
     ·
      rw [if_pos c5] at H
      have c5b0 : ((rd l0 x6_1) == a1) = true := beq_iff_eq.mpr c5
      have c5b1 : ((rd l0 x6_1) != a1) = false := bne_eq_false_iff_eq.mpr c5
      clear c5
      have H' := Aside0.mk H
      clear H
      have p298 : 0 ≤ (x6_1 : Int) := of_decide_eq_true (asm_ (p := _))
      have q298 : x6_1 < (l0.length : Int) := of_decide_eq_true (asm_ (p := _))
      obtain ⟨ad298, e298, hx298_0⟩ := Kd.at_int HR0.out x6_1 p298 q298
      cases e298
      replace hx298_0 := (HB.out.cell (World.block_lt_of_cell? w _ hx298_0)).trans hx298_0
      replace p298 := eq_true p298
      replace q298 := eq_true q298
      go_wp2
      go_roundg k1
      case measure => have := HK1.out; omega
      case rel => exact ⟨(x5_1), (wrap64 (x6_1 + 1)), (by first | rfl | (simp; done) | (simp [*]; done)), H', ⟨by have := HK1.out; omega⟩, ⟨upR HO_5.out⟩, ⟨upH HB⟩⟩
     ·
      rw [if_neg c5] at H
      have c5b0 : ((rd l0 x6_1) == a1) = false := beq_eq_false_iff_ne.mpr c5
      have c5b1 : ((rd l0 x6_1) != a1) = true := bne_iff_ne.mpr c5
      by_cases c6 : x5_1.length < 17592186044416
      ·
       rw [if_pos c6] at H
       have LMc6 := Aside0.mk c6
       clear c6
       obtain ⟨y300, hy300⟩ : ∃ y_ : List Int, y_ = (x5_1 ++ [rd l0 x6_1]) := ⟨_, rfl⟩
       replace H : (headgateref07_without.l0 k1 l0 a1 y300 (wrap64 (x6_1 + 1))) = some r := by first | (rw [hy300]; with_reducible exact H) | (have H2_ := (Option.bind_some _ _).symm.trans H; rw [hy300]; with_reducible exact H2_) | (have H2_ := (Option.bind_some _ _).symm.trans H; with_reducible exact H2_) | with_reducible exact H | (rw [hy300]; exact H) | exact H
       have Ny300 := Aside0.mk hy300
       clear hy300
       have H' := Aside0.mk H
       clear H
       have p298 : 0 ≤ (x6_1 : Int) := of_decide_eq_true (asm_ (p := _))
       have q298 : x6_1 < (l0.length : Int) := of_decide_eq_true (asm_ (p := _))
       obtain ⟨ad298, e298, hx298_0⟩ := Kd.at_int HR0.out x6_1 p298 q298
       cases e298
       replace hx298_0 := (HB.out.cell (World.block_lt_of_cell? w _ hx298_0)).trans hx298_0
       replace p298 := eq_true p298
       replace q298 := eq_true q298
       have p299 : 0 ≤ (x6_1 : Int) := of_decide_eq_true (asm_ (p := _))
       have q299 : x6_1 < (l0.length : Int) := of_decide_eq_true (asm_ (p := _))
       obtain ⟨ad299, e299, hx299_0⟩ := Kd.at_int HR0.out x6_1 p299 q299
       obtain rfl : ad298 = ad299 := (by injection e299)
       replace hx299_0 := (HB.out.cell (World.block_lt_of_cell? w _ hx299_0)).trans hx299_0
       replace p299 := eq_true p299
       replace q299 := eq_true q299
       go_wp2_with (first | ((with_reducible refine gate_builtin (b := .append) (xs := #[.tmp 19, .tmp 24]) rfl ?_); at_builtin; refine Kd.R_append (Kd.int .i64) (w0 := w) w.heap.size rfl (.tmp 19) (.tmp 24) 30 3 (.int .i64 0) 8 rfl Try.underlying30 info3 rfl (by decide) (by omega) u5 x5_1 (rd l0 x6_1) [.int .i64 (rd l0 x6_1)] (fun _ => True) (fun _ => False) rfl rfl ?aP (fun _ hk => hk.elim) ?aF ?aO ?aB ?aS ?aL ?_; (case aP => exact rfl); (case aB => exact (upH HB)); (case aF => exact (fun _ _ => trivial)); (case aO => exact (upR HO_5.out)); (case aS => exact (below_size (upH HB))); (case aL => have := LMc6.out; omega); intro v301 w7 ho hb hg hat; rw [← Ny300.out] at ho; have n0_ := Aside0.mk (hb); have n1_ := Aside0.mk (ho); clear HB; clear HO_5; have HB := n0_; have HO302 := n1_; clear n0_ n1_; clear ho hb hg hat))
       go_roundg k1
       case measure => have := HK1.out; omega
       case rel => exact ⟨(y300), (wrap64 (x6_1 + 1)), (by first | rfl | (simp; done) | (simp [*]; done)), H', ⟨by have := HK1.out; omega⟩, ⟨upR HO302.out⟩, ⟨upH HB⟩⟩
      ·
       rw [if_neg c6] at H
       exact absurd H (by simp)
    ·
     rw [if_neg c4] at H
     exact absurd H (by simp)
   ·
    rw [if_neg c3] at H
    have c3b0 : decide (x6_1 < (l0.length : Int)) = false := decide_eq_false c3
    clear c3
    obtain rfl := Option.some.inj H
    go_wp2
    go_ret
    exact ⟨_, by first | rfl | (simp [errW_none, errW_some] <;> rfl) | (simp [*, errW_none, errW_some] <;> rfl), by (with_reducible repeat (first | apply Kd.R_alloc | apply Kd.R_drewN | apply Kd.R_drew)); exact HO_5.out, by repeat (first | (with_reducible first | exact HB.out | apply below_alloc | apply pw_below_drewN | apply below_drew1) | exact HB.out)⟩

end Go.Proofs.Ytnheknlmmmkbpaa.X
