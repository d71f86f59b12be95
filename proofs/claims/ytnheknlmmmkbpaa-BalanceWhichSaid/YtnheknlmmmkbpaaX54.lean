/- What Go functions of this seat compute, told as Lean functions, and that each call of the Go code comes to that answer; for a law: its row, for every input. Written by a program of the session. -/
import Derived.Test.YtnheknlmmmkbpaaX0
import Derived.Test.YtnheknlmmmkbpaaX51
import Derived.Test.YtnheknlmmmkbpaaX44
namespace Go.Proofs.Ytnheknlmmmkbpaa.X
open Go.RowKit Go.Proofs.YtnheknlmmmkbpaaW.PrintWords Go.Proofs.YtnheknlmmmkbpaaW.PrintLast Go.Proofs.YtnheknlmmmkbpaaW.PrintMore
attribute [local go_sem] max2_int min2_int max_two min_two max_three min_three max_four min_four   -- for this text's walks alone
set_option linter.unusedVariables false
set_option linter.unusedSimpArgs false

/-! ### headgateref07_Remove: function 55 -/
mutual
def headgateref07_Remove.j0 : Nat → Int → Int → Bool → List Int → List Int → List Bool → Option (List Int × List Int × List Bool × Int)
 | 0, _, _, _, _, _, _ => none
 | k + 1, x1, x7, x20, x304000, x304001, x304002 => if x20 = true then (headgateref07_Remove.j1 k x1 6 x304000 x304001 x304002) else (headgateref07_Remove.j1 k x1 x7 x304000 x304001 x304002)
def headgateref07_Remove.j1 : Nat → Int → Int → List Int → List Int → List Bool → Option (List Int × List Int × List Bool × Int)
 | 0, _, _, _, _, _ => none
 | k + 1, x1, x7, x304000, x304001, x304002 => if x7 = 0 then ((headgateref07_own.f x304000 x304001 x304002).bind fun bt307 => ((headgateref07_without.f k x304000 x1).bind fun t317 => ((headgateref07_without.f k x304001 x1).bind fun t320 => (if 0 ≤ x1 then (if x1 < (bt307.2.2.length : Int) then (some (t317, t320, (bt307.2.2.set (x1 : Int).toNat false), 0)) else (none)) else (none))))) else (some (([] : List Int), ([] : List Int), ([] : List Bool), x7))
end
def headgateref07_Remove.f (k : Nat) (l0_0 : List Int) (l0_1 : List Int) (l0_2 : List Bool) (a1 : Int) : Option (List Int × List Int × List Bool × Int) := (headgateref07_Where.f k l0_0 l0_1 l0_2 a1).bind fun bt305 => (if bt305.2 = 0 then (headgateref07_Remove.j0 k a1 bt305.2 (bt305.1 == 0) l0_0 l0_1 l0_2) else (headgateref07_Remove.j0 k a1 bt305.2 false l0_0 l0_1 l0_2))
theorem headgateref07_Remove.mono_l : ∀ k, (∀ y0 y1 y2 y3 y4 y5, LeO (headgateref07_Remove.j0 k y0 y1 y2 y3 y4 y5) (headgateref07_Remove.j0 (k + 1) y0 y1 y2 y3 y4 y5)) ∧ (∀ y0 y1 y2 y3 y4, LeO (headgateref07_Remove.j1 k y0 y1 y2 y3 y4) (headgateref07_Remove.j1 (k + 1) y0 y1 y2 y3 y4))
 | 0 => ⟨fun _ _ _ _ _ _ r h => by simp [headgateref07_Remove.j0] at h, fun _ _ _ _ _ r h => by simp [headgateref07_Remove.j1] at h⟩
 | k + 1 => by
  obtain ⟨ih0, ih1⟩ := headgateref07_Remove.mono_l k
  refine ⟨?_, ?_⟩
  ·
   intro y0 y1 y2 y3 y4 y5
   unfold headgateref07_Remove.j0
   repeat' first
   | (with_reducible exact ih0 _ _ _ _ _ _)
   | (with_reducible exact ih1 _ _ _ _ _)
   | (with_reducible exact headgateref07_Where.mono _ _ _ _ _)
   | (with_reducible exact headgateref07_without.mono _ _ _)
   | (with_reducible exact LeO.refl _)
   | (with_reducible exact LeO.none _)
   | (with_reducible refine LeO.ite ?_ ?_)
   | (with_reducible refine LeO.bind ?_ (fun _ => ?_))
   | exact ih0 _ _ _ _ _ _
   | exact ih1 _ _ _ _ _
   | exact headgateref07_Where.mono _ _ _ _ _
   | exact headgateref07_without.mono _ _ _
   | exact LeO.none _
   | refine LeO.ite ?_ ?_
   | refine LeO.bind ?_ (fun _ => ?_)
  ·
   intro y0 y1 y2 y3 y4
   unfold headgateref07_Remove.j1
   repeat' first
   | (with_reducible exact ih0 _ _ _ _ _ _)
   | (with_reducible exact ih1 _ _ _ _ _)
   | (with_reducible exact headgateref07_Where.mono _ _ _ _ _)
   | (with_reducible exact headgateref07_without.mono _ _ _)
   | (with_reducible exact LeO.refl _)
   | (with_reducible exact LeO.none _)
   | (with_reducible refine LeO.ite ?_ ?_)
   | (with_reducible refine LeO.bind ?_ (fun _ => ?_))
   | exact ih0 _ _ _ _ _ _
   | exact ih1 _ _ _ _ _
   | exact headgateref07_Where.mono _ _ _ _ _
   | exact headgateref07_without.mono _ _ _
   | exact LeO.none _
   | refine LeO.ite ?_ ?_
   | refine LeO.bind ?_ (fun _ => ?_)
theorem headgateref07_Remove.mono : ∀ a0 a1 a2 a3 k, LeO (headgateref07_Remove.f k a0 a1 a2 a3) (headgateref07_Remove.f (k + 1) a0 a1 a2 a3) := by
 intro a0 a1 a2 a3 k
 obtain ⟨ih0, ih1⟩ := headgateref07_Remove.mono_l k
 unfold headgateref07_Remove.f
 repeat' first
   | (with_reducible exact ih0 _ _ _ _ _ _)
   | (with_reducible exact ih1 _ _ _ _ _)
   | (with_reducible exact headgateref07_Where.mono _ _ _ _ _)
   | (with_reducible exact headgateref07_without.mono _ _ _)
   | (with_reducible exact LeO.refl _)
   | (with_reducible exact LeO.none _)
   | (with_reducible refine LeO.ite ?_ ?_)
   | (with_reducible refine LeO.bind ?_ (fun _ => ?_))
   | exact ih0 _ _ _ _ _ _
   | exact ih1 _ _ _ _ _
   | exact headgateref07_Where.mono _ _ _ _ _
   | exact headgateref07_without.mono _ _ _
   | exact LeO.none _
   | refine LeO.ite ?_ ?_
   | refine LeO.bind ?_ (fun _ => ?_)
def headgateref07_Remove.T7 : Bool × List (List Nat × List Nat) := (true, [([], []), ([0], [0]), ([], []), ([1, 2], [1, 2]), ([], []), ([4], [4]), ([], []), ([5, 6, 3], [5, 6]), ([0, 1, 2, 3], []), ([8, 3, 7, 0, 1, 2, 3], [3, 8]), ([0, 1, 2, 3, 4, 5, 6, 7, 8, 9], []), ([10, 7, 9, 0, 1, 2, 3, 4, 5, 6, 7, 8, 9], [7, 10])])
def headgateref07_Remove.B7 : List Nat := [0, 1, 0, 7, 0, 16, 0, 127, 15, 511, 1023, 2047]
theorem headgateref07_Remove.tab7 : rtab .any (opsOf Try.f55 7) = headgateref07_Remove.T7 := by kernel_rfl
theorem headgateref07_Remove.bits7 : waitsOk headgateref07_Remove.T7.2 headgateref07_Remove.B7 = true := by kernel_rfl
set_option maxHeartbeats 2000000 in
set_option maxRecDepth 100000 in
theorem headgateref07_Remove.calls (k : Nat) (A0_0 : Option Addr) (c0_0 : Nat) (l0_0 : List Int) (A0_1 : Option Addr) (c0_1 : Nat) (l0_1 : List Int) (A0_2 : Option Addr) (c0_2 : Nat) (l0_2 : List Bool) (a1 : Int) (r1 : List Int) (r2 : List Int) (r3 : List Bool) (r4 : Int) (w : World) (hr0_0 : Kd.C (Kd.int .i64) w A0_0 l0_0.length l0_0) (hc0_0 : l0_0.length ≤ c0_0) (hr0_1 : Kd.C (Kd.int .i64) w A0_1 l0_1.length l0_1) (hc0_1 : l0_1.length ≤ c0_1) (hr0_2 : Kd.C Kd.bool w A0_2 l0_2.length l0_2) (hc0_2 : l0_2.length ≤ c0_2) (h : headgateref07_Remove.f k l0_0 l0_1 l0_2 a1 = some (r1, r2, r3, r4)) :
  Calls Try.prog 55 #[.agg #[.slice A0_0 l0_0.length c0_0, .slice A0_1 l0_1.length c0_1, .slice A0_2 l0_2.length c0_2], .int .i64 a1] w fun e w' => ∃ v0_ v1_ v2_ : Value, e = .returned (.tuple #[.agg #[v0_, v1_, v2_], .int .i64 r4]) ∧ Kd.R (Kd.int .i64) 3 w' w.heap.size (fun k_ => some k_ ≠ (v1_ : Value).ownBlock) v0_ r1 ∧ Kd.R (Kd.int .i64) 3 w' w.heap.size (fun k_ => some k_ ≠ (v0_ : Value).ownBlock) v1_ r2 ∧ Kd.R Kd.bool 4 w' w.heap.size (fun _ => True) v2_ r3 ∧ Below w.heap.size w w' := by
 have hu33 := Try.underlying33
 have HR0_0 := Aside0.mk hr0_0
 have HC0_0 := Aside0.mk hc0_0
 clear hr0_0 hc0_0
 have HR0_1 := Aside0.mk hr0_1
 have HC0_1 := Aside0.mk hc0_1
 clear hr0_1 hc0_1
 have HR0_2 := Aside0.mk hr0_2
 have HC0_2 := Aside0.mk hc0_2
 clear hr0_2 hc0_2
 have HB := Aside0.mk (Below.refl w.heap.size w)
 have H : ((headgateref07_Where.f k l0_0 l0_1 l0_2 a1).bind fun bt305 => (if bt305.2 = 0 then (headgateref07_Remove.j0 k a1 bt305.2 (bt305.1 == 0) l0_0 l0_1 l0_2) else (headgateref07_Remove.j0 k a1 bt305.2 false l0_0 l0_1 l0_2))) = some (r1, r2, r3, r4) := h
 clear h
 replace H := Option.bind_eq_some_iff.mp H
 obtain ⟨⟨t305, t306⟩, A30, H⟩ := H
 replace H : (if t306 = 0 then (headgateref07_Remove.j0 k a1 t306 (t305 == 0) l0_0 l0_1 l0_2) else (headgateref07_Remove.j0 k a1 t306 false l0_0 l0_1 l0_2)) = some (r1, r2, r3, r4) := H
 have A3 := Aside0.mk A30
 clear A30
 have HC4 := Aside0.mk H
 clear H
 go_enter Try.func55, Try.ntmps55
 go_upto_region 2 with (first | ((with_reducible refine gate_dst (N := 2) rfl ?_); refine box_event ?hg (N := 2) ?hd (cs := #[.slice A0_0 l0_0.length c0_0, .slice A0_1 l0_1.length c0_1, .slice A0_2 l0_2.length c0_2]) (t := 33) ?hr ?_; (case hd => rfl); (case hg => rfl); (case hr => first | (go_simp; done) | (go_simp; rfl)); intro gb303 hg w5 hbox hb; have n0_ := Aside0.mk (below_step (upH HB) hb); have n1_ := Aside0.mk (hbox); have n2_ := Aside0.mk ((by rw [hg]; exact (below_size (upH HB)) : w.heap.size ≤ gb303)); have n3_ := Aside0.mk ((by rw [hg]; exact (below_size (upH HB)) : w.heap.size ≤ gb303)); clear HB; have HB := n0_; have BK303 := n1_; have GW303 := n2_; have GE303 := n3_; clear n0_ n1_ n2_ n3_; clear hb hbox hg) | ((with_reducible refine gate_dst (N := 4) rfl ?_); refine box_event ?hg (N := 4) ?hd (cs := #[.slice none 0 0, .slice none 0 0, .slice none 0 0]) (t := 33) ?hr ?_; (case hd => rfl); (case hg => rfl); (case hr => first | (go_simp; done) | (go_simp; rfl)); intro gb304 hg w6 hbox hb; have n0_ := Aside0.mk (blkB BK303 hb); have n1_ := Aside0.mk (below_step (upH HB) hb); have n2_ := Aside0.mk (hbox); have n3_ := Aside0.mk ((by rw [hg]; exact (below_size (upH HB)) : w.heap.size ≤ gb304)); have n4_ := Aside0.mk ((by rw [hg]; exact (below_size (upH HB)) : w.heap.size ≤ gb304)); have n5_ := Aside0.mk ((by rw [hg]; exact Nat.ne_of_lt (blk_lt (g := gb303) (o := .cells #[.slice A0_0 l0_0.length c0_0, .slice A0_1 l0_1.length c0_1, .slice A0_2 l0_2.length c0_2] 33 (0, 0)) (upB BK303)) : gb303 ≠ gb304)); have n6_ := Aside0.mk ((by rw [hg]; exact Nat.ne_of_gt (blk_lt (g := gb303) (o := .cells #[.slice A0_0 l0_0.length c0_0, .slice A0_1 l0_1.length c0_1, .slice A0_2 l0_2.length c0_2] 33 (0, 0)) (upB BK303)) : gb304 ≠ gb303)); clear BK303; clear HB; have BK303 := n0_; have HB := n1_; have BK304 := n2_; have GW304 := n3_; have GE304 := n4_; have NB303_304 := n5_; have NB304_303 := n6_; clear n0_ n1_ n2_ n3_ n4_ n5_ n6_; clear hb hbox hg; have hnb7 := NB303_304.out; have hnc7 := NB304_303.out; have hcz8_0 := cell0 BK303; have hcz8_1 := cell1 BK303; have hcz8_2 := cell2 BK303; have hfz8_0 := blk_frozen BK303.out 0; have hfz8_1 := blk_frozen BK303.out 1; have hfz8_2 := blk_frozen BK303.out 2) | ((with_reducible refine gate_callee (f := 58) rfl ?_); refine goesL_ (some 12) rfl rfl Try.func58 (by kernel_rfl) rfl #[.agg #[.slice A0_0 l0_0.length c0_0, .slice A0_1 l0_1.length c0_1, .slice A0_2 l0_2.length c0_2], .int .i64 a1] rfl (args_ (p := _)) ?_; (with_reducible refine (headgateref07_Where.calls k _ _ l0_0 _ _ l0_1 _ _ l0_2 a1 t305 t306 _ ?side1 ?side2 ?side3 ?side4 ?side5 ?side6 A3.out).mono ?_); (case side1 => exact upc (Kd.C_below HR0_0.out HB.out)); (case side2 => exact HC0_0.out); (case side3 => exact upc (Kd.C_below HR0_1.out HB.out)); (case side4 => exact HC0_1.out); (case side5 => exact upc (Kd.C_below HR0_2.out HB.out)); (case side6 => exact HC0_2.out); rintro e w9 ⟨rfl, hb⟩; refine ⟨_, rfl, ?_⟩; have n0_ := Aside0.mk (blkB BK303 hb); have n1_ := Aside0.mk (blkB BK304 hb); have n2_ := Aside0.mk (below_step (upH HB) hb); clear BK303; clear BK304; clear HB; have BK303 := n0_; have BK304 := n1_; have HB := n2_; clear n0_ n1_ n2_; (try clear hb); (try clear hb2); (try clear hk); (try clear hi)))
 (try simp only [Act.put, List.setIfInBounds_toArray, List.set_cons_zero, List.set_cons_succ])
 go_cut [20] (fun v20 wc => ∃ (kq : Nat) (x20_3 : Bool), v20 = .bool x20_3 ∧ Aside0 (headgateref07_Remove.j0 kq a1 t306 x20_3 l0_0 l0_1 l0_2 = some (r1, r2, r3, r4)) ∧ Aside0 (kq ≤ k) ∧ Aside0 (wc.heap[gb303]? = some (.cells #[(.slice A0_0 l0_0.length c0_0), (.slice A0_1 l0_1.length c0_1), (.slice A0_2 l0_2.length c0_2)] 33 (0, 0))) ∧ Aside0 (wc.heap[gb304]? = some (.cells #[(.slice none 0 0), (.slice none 0 0), (.slice none 0 0)] 33 (0, 0))) ∧ Aside0 (Below w.heap.size w wc))
 case first =>
  have H := HC4.out
  clear HC4
  by_cases c10 : t306 = 0
  ·
   rw [if_pos c10] at H
   have c10b0 : (t306 == 0) = true := beq_iff_eq.mpr c10
   have c10b1 : (t306 != 0) = false := bne_eq_false_iff_eq.mpr c10
   clear c10
   (first | rw [c10b0] | (simp only [i64_w, i32_w]; rw [c10b0]) | skip)
   have H' := Aside0.mk H
   clear H
   go_wp2
   go_meet
   case rel => exact ⟨_, ((t305 == 0)), (by first | rfl | (simp; done) | (simp [*]; done)), H', ⟨by first | omega | exact Nat.le_refl _⟩, ⟨upB BK303⟩, ⟨upB BK304⟩, ⟨upH HB⟩⟩
  ·
   rw [if_neg c10] at H
   have c10b0 : (t306 == 0) = false := beq_eq_false_iff_ne.mpr c10
   have c10b1 : (t306 != 0) = true := bne_iff_ne.mpr c10
   (first | rw [c10b0] | (simp only [i64_w, i32_w]; rw [c10b0]) | skip)
   have H' := Aside0.mk H
   clear H
   go_wp2
   go_meet
   case rel => exact ⟨_, (false), (by first | rfl | (simp; done) | (simp [*]; done)), H', ⟨by first | omega | exact Nat.le_refl _⟩, ⟨upB BK303⟩, ⟨upB BK304⟩, ⟨upH HB⟩⟩
 case rest =>
  clear HC4
  try clear c1
  try clear p2
  try clear c5
  try clear c7
  try clear c10
  try clear c10b0
  try clear c10b1
  try clear hcz8_0
  try clear hcz8_1
  try clear hcz8_2
  try clear hfz8_0
  try clear hfz8_1
  try clear hfz8_2
  obtain ⟨kq, x20_3, rfl, HA, HJ3, BK303, BK304, HB⟩ := hcut
  cases kq with
  | zero => exact absurd HA.out (by simp [headgateref07_Remove.j0])
  | succ kj3 =>
   have H := HA.out
   clear HA
   simp only [headgateref07_Remove.j0] at H
   have HC11 := Aside0.mk H
   clear H
   go_upto_if 20 with (fail)
   go_cut [7] (fun v7 wc => ∃ (kq : Nat) (x7_10 : Int), v7 = .int .i64 x7_10 ∧ Aside0 (headgateref07_Remove.j1 kq a1 x7_10 l0_0 l0_1 l0_2 = some (r1, r2, r3, r4)) ∧ Aside0 (kq ≤ kj3) ∧ Aside0 (wc.heap[gb303]? = some (.cells #[(.slice A0_0 l0_0.length c0_0), (.slice A0_1 l0_1.length c0_1), (.slice A0_2 l0_2.length c0_2)] 33 (0, 0))) ∧ Aside0 (wc.heap[gb304]? = some (.cells #[(.slice none 0 0), (.slice none 0 0), (.slice none 0 0)] 33 (0, 0))) ∧ Aside0 (Below w.heap.size w wc))
   case first =>
    have H := HC11.out
    clear HC11
    by_cases c12 : x20_3 = true
    ·
     subst c12
     have H1 : (headgateref07_Remove.j1 kj3 a1 6 l0_0 l0_1 l0_2) = some (r1, r2, r3, r4) := by rw [if_pos rfl] at H; exact H
     clear H
     have H := H1
     clear H1
     have H' := Aside0.mk H
     clear H
     go_wp2
     go_meet
     case rel => exact ⟨_, (6), (by first | rfl | (simp; done) | (simp [*]; done)), H', ⟨by have := HJ3.out; first | omega | exact Nat.le_refl _⟩, ⟨upB BK303⟩, ⟨upB BK304⟩, ⟨upH HB⟩⟩
    ·
     replace c12 := Bool.eq_false_iff.mpr c12
     subst c12
     have H1 : (headgateref07_Remove.j1 kj3 a1 t306 l0_0 l0_1 l0_2) = some (r1, r2, r3, r4) := by rw [if_neg (show ¬ (false = true) by decide)] at H; exact H
     clear H
     have H := H1
     clear H1
     have H' := Aside0.mk H
     clear H
     go_wp2
     go_meet
     case rel => exact ⟨_, (t306), (by first | rfl | (simp; done) | (simp [*]; done)), H', ⟨by have := HJ3.out; first | omega | exact Nat.le_refl _⟩, ⟨upB BK303⟩, ⟨upB BK304⟩, ⟨upH HB⟩⟩
   case rest =>
    clear HC11
    try clear c1
    try clear p2
    try clear c5
    try clear c7
    try clear c10
    try clear c10b0
    try clear c10b1
    try clear c12
    try clear hcz8_0
    try clear hcz8_1
    try clear hcz8_2
    try clear hfz8_0
    try clear hfz8_1
    try clear hfz8_2
    try clear p2
    obtain ⟨kq, x7_10, rfl, HA, HJ10, BK303, BK304, HB⟩ := hcut
    cases kq with
    | zero => exact absurd HA.out (by simp [headgateref07_Remove.j1])
    | succ kj10 =>
     have H := HA.out
     clear HA
     simp only [headgateref07_Remove.j1] at H
     by_cases c13 : x7_10 = 0
     ·
      rw [if_pos c13] at H
      have c13b0 : (x7_10 == 0) = true := beq_iff_eq.mpr c13
      have c13b1 : (x7_10 != 0) = false := bne_eq_false_iff_eq.mpr c13
      clear c13
      replace H := Option.bind_eq_some_iff.mp H
      obtain ⟨⟨t307, t310, t313⟩, A140, H⟩ := H
      replace H : ((headgateref07_without.f kj10 l0_0 a1).bind fun t317 => ((headgateref07_without.f kj10 l0_1 a1).bind fun t320 => (if 0 ≤ a1 then (if a1 < (t313.length : Int) then (some (t317, t320, (t313.set (a1 : Int).toNat false), 0)) else (none)) else (none)))) = some (r1, r2, r3, r4) := H
      have A14 := Aside0.mk A140
      clear A140
      replace H := Option.bind_eq_some_iff.mp H
      obtain ⟨t317, A150, H⟩ := H
      replace H : ((headgateref07_without.f kj10 l0_1 a1).bind fun t320 => (if 0 ≤ a1 then (if a1 < (t313.length : Int) then (some (t317, t320, (t313.set (a1 : Int).toNat false), 0)) else (none)) else (none))) = some (r1, r2, r3, r4) := H
      have A15 := Aside0.mk A150
      clear A150
      replace H := Option.bind_eq_some_iff.mp H
      obtain ⟨t320, A160, H⟩ := H
      replace H : (if 0 ≤ a1 then (if a1 < (t313.length : Int) then (some (t317, t320, (t313.set (a1 : Int).toNat false), 0)) else (none)) else (none)) = some (r1, r2, r3, r4) := H
      have A16 := Aside0.mk A160
      clear A160
      by_cases c17 : 0 ≤ a1
      ·
       rw [if_pos c17] at H
       have c17b0 : decide (0 ≤ a1) = true := decide_eq_true c17
       clear c17
       by_cases c18 : a1 < (t313.length : Int)
       ·
        rw [if_pos c18] at H
        have c18b0 : decide (a1 < (t313.length : Int)) = true := decide_eq_true c18
        clear c18
        obtain ⟨y323, hy323⟩ : ∃ y_ : List Bool, y_ = (t313.set (a1 : Int).toNat false) := ⟨_, rfl⟩
        replace H : (some (t317, t320, y323, 0)) = some (r1, r2, r3, r4) := by first | (rw [hy323]; with_reducible exact H) | (have H2_ := (Option.bind_some _ _).symm.trans H; rw [hy323]; with_reducible exact H2_) | (have H2_ := (Option.bind_some _ _).symm.trans H; with_reducible exact H2_) | with_reducible exact H | (rw [hy323]; exact H) | exact H
        have Ny323 := Aside0.mk hy323
        clear hy323
        simp only [Option.some.injEq, Prod.mk.injEq] at H
        obtain ⟨rfl, rfl, rfl, rfl⟩ := H
        have hnb20 := NB303_304.out
        have hnc20 := NB304_303.out
        have hcz21_0 := cell0 BK303
        have hcz21_1 := cell1 BK303
        have hcz21_2 := cell2 BK303
        have hfz21_0 := blk_frozen BK303.out 0
        have hfz21_1 := blk_frozen BK303.out 1
        have hfz21_2 := blk_frozen BK303.out 2
        try go_wp2_with (first | ((with_reducible refine gate_callee (f := 59) rfl ?_); refine goesL_ (some 26) rfl rfl Try.func59 (by kernel_rfl) rfl #[.agg #[.slice A0_0 l0_0.length c0_0, .slice A0_1 l0_1.length c0_1, .slice A0_2 l0_2.length c0_2]] rfl (args_ (p := _)) ?_; (with_reducible refine (headgateref07_own.calls _ _ l0_0 _ _ l0_1 _ _ l0_2 t307 t310 t313 _ ?side1 ?side2 ?side3 ?side4 ?side5 ?side6 A14.out).mono ?_); (case side1 => exact upc (Kd.C_below HR0_0.out HB.out)); (case side2 => exact HC0_0.out); (case side3 => exact upc (Kd.C_below HR0_1.out HB.out)); (case side4 => exact HC0_1.out); (case side5 => exact upc (Kd.C_below HR0_2.out HB.out)); (case side6 => exact HC0_2.out); rintro e w22 ⟨v308, v311, v314, rfl, ho0, ho1, ho2, hb⟩; refine ⟨_, rfl, ?_⟩; have n0_ := Aside0.mk (Kd.R_lower ho0 (below_size (upH HB))); have n1_ := Aside0.mk (Kd.R_lower ho1 (below_size (upH HB))); have n2_ := Aside0.mk (Kd.R_lower ho2 (below_size (upH HB))); have n3_ := Aside0.mk (blkB BK303 hb); have n4_ := Aside0.mk (blkB BK304 hb); have n5_ := Aside0.mk (below_step (upH HB) hb); clear BK303; clear BK304; clear HB; have HO309 := n0_; have HO312 := n1_; have HO315 := n2_; have BK303 := n3_; have BK304 := n4_; have HB := n5_; clear n0_ n1_ n2_ n3_ n4_ n5_; (try clear hb); (try clear hb2); (try clear hk); (try clear hi); (try clear ho0); (try clear ho1); (try clear ho2)) | ((with_reducible refine gate_dst (N := 8) rfl ?_); refine box_event ?hg (N := 8) ?hd (cs := #[.slice none 0 0, .slice none 0 0, .slice none 0 0]) (t := 33) ?hr ?_; (case hd => rfl); (case hg => rfl); (case hr => first | (go_simp; done) | (go_simp; rfl)); intro gb316 hg w23 hbox hb; have n0_ := Aside0.mk (Kd.R_below (upR HO309.out) hb); have n1_ := Aside0.mk (Kd.R_below (upR HO312.out) hb); have n2_ := Aside0.mk (Kd.R_below (upR HO315.out) hb); have n3_ := Aside0.mk (blkB BK303 hb); have n4_ := Aside0.mk (blkB BK304 hb); have n5_ := Aside0.mk (below_step (upH HB) hb); have n6_ := Aside0.mk (hbox); have n7_ := Aside0.mk ((by rw [hg]; exact (below_size (upH HB)) : w.heap.size ≤ gb316)); have n8_ := Aside0.mk ((by rw [hg]; exact (below_size (upH HB)) : w.heap.size ≤ gb316)); have n9_ := Aside0.mk ((by rw [hg]; exact Nat.ne_of_lt (blk_lt (g := gb303) (o := .cells #[.slice A0_0 l0_0.length c0_0, .slice A0_1 l0_1.length c0_1, .slice A0_2 l0_2.length c0_2] 33 (0, 0)) (upB BK303)) : gb303 ≠ gb316)); have n10_ := Aside0.mk ((by rw [hg]; exact Nat.ne_of_gt (blk_lt (g := gb303) (o := .cells #[.slice A0_0 l0_0.length c0_0, .slice A0_1 l0_1.length c0_1, .slice A0_2 l0_2.length c0_2] 33 (0, 0)) (upB BK303)) : gb316 ≠ gb303)); have n11_ := Aside0.mk ((by rw [hg]; exact Nat.ne_of_lt (blk_lt (g := gb304) (o := .cells #[.slice none 0 0, .slice none 0 0, .slice none 0 0] 33 (0, 0)) (upB BK304)) : gb304 ≠ gb316)); have n12_ := Aside0.mk ((by rw [hg]; exact Nat.ne_of_gt (blk_lt (g := gb304) (o := .cells #[.slice none 0 0, .slice none 0 0, .slice none 0 0] 33 (0, 0)) (upB BK304)) : gb316 ≠ gb304)); clear HO309; clear HO312; clear HO315; clear BK303; clear BK304; clear HB; have HO309 := n0_; have HO312 := n1_; have HO315 := n2_; have BK303 := n3_; have BK304 := n4_; have HB := n5_; have BK316 := n6_; have GW316 := n7_; have GE316 := n8_; have NB303_316 := n9_; have NB316_303 := n10_; have NB304_316 := n11_; have NB316_304 := n12_; clear n0_ n1_ n2_ n3_ n4_ n5_ n6_ n7_ n8_ n9_ n10_ n11_ n12_; clear hb hbox hg; obtain ⟨Ao24, co24, eo24⟩ := Kd.R_slice HO309.out; subst eo24; have hnb25 := NB316_303.out; have hnc25 := NB303_316.out; have hnb26 := NB316_304.out; have hnc26 := NB304_316.out; have hcz27_0 := cell0 BK316; have hcz27_1 := cell1 BK316; have hcz27_2 := cell2 BK316; have hfz27_0 := blk_frozen BK316.out 0; have hfz27_1 := blk_frozen BK316.out 1; have hfz27_2 := blk_frozen BK316.out 2; obtain ⟨Ao28, co28, eo28⟩ := Kd.R_slice HO312.out; subst eo28; obtain ⟨Ao29, co29, eo29⟩ := Kd.R_slice HO315.out; subst eo29))
        have n0_ : Aside0 (Kd.R (Kd.int .i64) 3 (((w23.setCell ⟨gb316, 0, none⟩ (.slice Ao24 t307.length co24)).setCell ⟨gb316, 1, none⟩ (.slice Ao28 t310.length co28)).setCell ⟨gb316, 2, none⟩ (.slice Ao29 t313.length co29)) w.heap.size (fun k_ => some k_ ≠ (.slice Ao28 t310.length co28 : Value).ownBlock) (.slice Ao24 t307.length co24) t307) := ⟨by (with_reducible repeat (first | apply Kd.R_alloc | apply Kd.R_drewN | apply Kd.R_drew)); exact Kd.R_mono (far3 HO309.out BK316) (fun _ hk => hk.1)⟩
        have n1_ : Aside0 (Kd.R (Kd.int .i64) 3 (((w23.setCell ⟨gb316, 0, none⟩ (.slice Ao24 t307.length co24)).setCell ⟨gb316, 1, none⟩ (.slice Ao28 t310.length co28)).setCell ⟨gb316, 2, none⟩ (.slice Ao29 t313.length co29)) w.heap.size (fun k_ => some k_ ≠ (.slice Ao24 t307.length co24 : Value).ownBlock) (.slice Ao28 t310.length co28) t310) := ⟨by (with_reducible repeat (first | apply Kd.R_alloc | apply Kd.R_drewN | apply Kd.R_drew)); exact Kd.R_mono (far3 HO312.out BK316) (fun _ hk => hk.1)⟩
        have n2_ : Aside0 (Kd.R Kd.bool 4 (((w23.setCell ⟨gb316, 0, none⟩ (.slice Ao24 t307.length co24)).setCell ⟨gb316, 1, none⟩ (.slice Ao28 t310.length co28)).setCell ⟨gb316, 2, none⟩ (.slice Ao29 t313.length co29)) w.heap.size (fun _ => True) (.slice Ao29 t313.length co29) t313) := ⟨by (with_reducible repeat (first | apply Kd.R_alloc | apply Kd.R_drewN | apply Kd.R_drew)); exact Kd.R_mono (far3 HO315.out BK316) (fun _ hk => trivial)⟩
        have n3_ : Aside0 ((((w23.setCell ⟨gb316, 0, none⟩ (.slice Ao24 t307.length co24)).setCell ⟨gb316, 1, none⟩ (.slice Ao28 t310.length co28)).setCell ⟨gb316, 2, none⟩ (.slice Ao29 t313.length co29)).heap[gb303]? = some (.cells #[.slice A0_0 l0_0.length c0_0, .slice A0_1 l0_1.length c0_1, .slice A0_2 l0_2.length c0_2] 33 (0, 0))) := ⟨by (with_reducible repeat (first | refine blk_drewN ?_ _ | refine blk_drew ?_ | refine blk_alloc ?_ _)); refine blk_far ?_ NB303_316.out _; (with_reducible repeat (first | refine blk_drewN ?_ _ | refine blk_drew ?_ | refine blk_alloc ?_ _)); refine blk_far ?_ NB303_316.out _; (with_reducible repeat (first | refine blk_drewN ?_ _ | refine blk_drew ?_ | refine blk_alloc ?_ _)); refine blk_far ?_ NB303_316.out _; (with_reducible repeat (first | refine blk_drewN ?_ _ | refine blk_drew ?_ | refine blk_alloc ?_ _)); exact BK303.out⟩
        have n4_ : Aside0 ((((w23.setCell ⟨gb316, 0, none⟩ (.slice Ao24 t307.length co24)).setCell ⟨gb316, 1, none⟩ (.slice Ao28 t310.length co28)).setCell ⟨gb316, 2, none⟩ (.slice Ao29 t313.length co29)).heap[gb304]? = some (.cells #[.slice none 0 0, .slice none 0 0, .slice none 0 0] 33 (0, 0))) := ⟨by (with_reducible repeat (first | refine blk_drewN ?_ _ | refine blk_drew ?_ | refine blk_alloc ?_ _)); refine blk_far ?_ NB304_316.out _; (with_reducible repeat (first | refine blk_drewN ?_ _ | refine blk_drew ?_ | refine blk_alloc ?_ _)); refine blk_far ?_ NB304_316.out _; (with_reducible repeat (first | refine blk_drewN ?_ _ | refine blk_drew ?_ | refine blk_alloc ?_ _)); refine blk_far ?_ NB304_316.out _; (with_reducible repeat (first | refine blk_drewN ?_ _ | refine blk_drew ?_ | refine blk_alloc ?_ _)); exact BK304.out⟩
        have n5_ : Aside0 ((((w23.setCell ⟨gb316, 0, none⟩ (.slice Ao24 t307.length co24)).setCell ⟨gb316, 1, none⟩ (.slice Ao28 t310.length co28)).setCell ⟨gb316, 2, none⟩ (.slice Ao29 t313.length co29)).heap[gb316]? = some (.cells #[.slice Ao24 t307.length co24, .slice Ao28 t310.length co28, .slice Ao29 t313.length co29] 33 (0, 0))) := ⟨by (with_reducible repeat (first | refine blk_drewN ?_ _ | refine blk_drew ?_ | refine blk_alloc ?_ _)); refine blk_put (cs := #[.slice Ao24 t307.length co24, .slice Ao28 t310.length co28, .slice none 0 0]) ?_ 2 _ rfl; (with_reducible repeat (first | refine blk_drewN ?_ _ | refine blk_drew ?_ | refine blk_alloc ?_ _)); refine blk_put (cs := #[.slice Ao24 t307.length co24, .slice none 0 0, .slice none 0 0]) ?_ 1 _ rfl; (with_reducible repeat (first | refine blk_drewN ?_ _ | refine blk_drew ?_ | refine blk_alloc ?_ _)); refine blk_put (cs := #[.slice none 0 0, .slice none 0 0, .slice none 0 0]) ?_ 0 _ rfl; (with_reducible repeat (first | refine blk_drewN ?_ _ | refine blk_drew ?_ | refine blk_alloc ?_ _)); exact BK316.out⟩
        have n6_ : Aside0 (Below w.heap.size w (((w23.setCell ⟨gb316, 0, none⟩ (.slice Ao24 t307.length co24)).setCell ⟨gb316, 1, none⟩ (.slice Ao28 t310.length co28)).setCell ⟨gb316, 2, none⟩ (.slice Ao29 t313.length co29))) := ⟨upH HB⟩
        (try clear HO309)
        (try clear HO312)
        (try clear HO315)
        (try clear BK303)
        (try clear BK304)
        (try clear BK316)
        (try clear HB)
        generalize (((w23.setCell ⟨gb316, 0, none⟩ (.slice Ao24 t307.length co24)).setCell ⟨gb316, 1, none⟩ (.slice Ao28 t310.length co28)).setCell ⟨gb316, 2, none⟩ (.slice Ao29 t313.length co29)) = w30 at n0_ n1_ n2_ n3_ n4_ n5_ n6_ ⊢
        have HO309 := n0_
        have HO312 := n1_
        have HO315 := n2_
        have BK303 := n3_
        have BK304 := n4_
        have BK316 := n5_
        have HB := n6_
        clear n0_ n1_ n2_ n3_ n4_ n5_ n6_
        have n0_ := Aside0.mk (Kd.R_drew HO309.out)
        have n1_ := Aside0.mk (Kd.R_drew HO312.out)
        have n2_ := Aside0.mk (Kd.R_drew HO315.out)
        have n3_ := Aside0.mk (blk_drew BK303.out)
        have n4_ := Aside0.mk (blk_drew BK304.out)
        have n5_ := Aside0.mk (blk_drew BK316.out)
        have n6_ := Aside0.mk (below_drew1 HB.out)
        clear HO309
        clear HO312
        clear HO315
        clear BK303
        clear BK304
        clear BK316
        clear HB
        have HO309 := n0_
        have HO312 := n1_
        have HO315 := n2_
        have BK303 := n3_
        have BK304 := n4_
        have BK316 := n5_
        have HB := n6_
        clear n0_ n1_ n2_ n3_ n4_ n5_ n6_
        refine start_ (n := 12) (S := fun w' => w'.cell? ⟨gb303, 0, none⟩ = some (.slice A0_0 l0_0.length c0_0) ∧ w'.cell? ⟨gb303, 1, none⟩ = some (.slice A0_1 l0_1.length c0_1) ∧ w'.cell? ⟨gb303, 2, none⟩ = some (.slice A0_2 l0_2.length c0_2)) (ds := []) #[false, false, false, false, false, false, false, false, false, false, false, false] (by kernel_rfl) rfl rfl ⟨(blk_cell BK303.out 0).trans rfl, (blk_cell BK303.out 1).trans rfl, (blk_cell BK303.out 2).trans rfl⟩ (fun hHeld => ?_); refine with_tabW headgateref07_Remove.tab7 headgateref07_Remove.bits7 (fun HT_ HW_ => ?_)
        generalize w30.drew = w31 at HO309 HO312 HO315 BK303 BK304 BK316 HB hHeld ⊢
        refine pure_ (i := 0) (N := some 27) (v := ?_) (a' := ?_) #[true, false, false, false, false, false, false, false, false, false, false, false] rfl rfl (any_of HT_.out (by kernel_rfl)) (fun _ _ _ h => h) (Or.inl ⟨by rfl, ?_⟩) ?_ ?_
        rotate_left
        ·
         intro w'
         go_simp
         with_reducible rfl
        rotate_left
        ·
         simp only [Act.put, List.setIfInBounds_toArray, List.set_cons_zero, List.set_cons_succ, i64_w, i32_w]
         rfl
        refine pure_ (i := 2) (N := some 29) (v := ?_) (a' := ?_) #[true, false, true, false, false, false, false, false, false, false, false, false] rfl rfl (any_of HT_.out (by kernel_rfl)) (fun _ _ _ h => h) (Or.inl ⟨by rfl, ?_⟩) ?_ ?_
        rotate_left
        ·
         intro w'
         go_simp
         with_reducible rfl
        rotate_left
        ·
         simp only [Act.put, List.setIfInBounds_toArray, List.set_cons_zero, List.set_cons_succ, i64_w, i32_w]
         rfl
        refine pure_ (i := 4) (N := some 31) (v := ?_) (a' := ?_) #[true, false, true, false, true, false, false, false, false, false, false, false] rfl rfl (any_of HT_.out (by kernel_rfl)) (fun _ _ _ h => h) (Or.inl ⟨by rfl, ?_⟩) ?_ ?_
        rotate_left
        ·
         intro w'
         go_simp
         with_reducible rfl
        rotate_left
        ·
         simp only [Act.put, List.setIfInBounds_toArray, List.set_cons_zero, List.set_cons_succ, i64_w, i32_w]
         rfl
        refine pure_ (i := 6) (N := some 33) (v := ?_) (a' := ?_) #[true, false, true, false, true, false, true, false, false, false, false, false] rfl rfl (any_of HT_.out (by kernel_rfl)) (fun _ _ _ h => h) (Or.inl ⟨by rfl, ?_⟩) ?_ ?_
        rotate_left
        ·
         intro w'
         go_simp
         with_reducible rfl
        rotate_left
        ·
         simp only [Act.put, List.setIfInBounds_toArray, List.set_cons_zero, List.set_cons_succ, i64_w, i32_w]
         rfl
        refine take_ (i := 1) (N := some 28) (v := ?_) (a' := ?_) #[true, true, true, false, true, false, true, false, false, false, false, false] rfl rfl (take_ofW HT_.out HW_.out (by kernel_rfl)) (fun _ _ _ h => h) (Or.inl ⟨by rfl, ?_⟩) hHeld ?_ ?_
        rotate_left
        ·
         rintro w' ⟨s0, s1, s2⟩
         go_simp
         with_reducible rfl
        rotate_left
        ·
         simp only [Act.put, List.setIfInBounds_toArray, List.set_cons_zero, List.set_cons_succ, i64_w, i32_w]
         rfl
        refine take_ (i := 5) (N := some 32) (v := ?_) (a' := ?_) #[true, true, true, false, true, true, true, false, false, false, false, false] rfl rfl (take_ofW HT_.out HW_.out (by kernel_rfl)) (fun _ _ _ h => h) (Or.inl ⟨by rfl, ?_⟩) hHeld ?_ ?_
        rotate_left
        ·
         rintro w' ⟨s0, s1, s2⟩
         go_simp
         with_reducible rfl
        rotate_left
        ·
         simp only [Act.put, List.setIfInBounds_toArray, List.set_cons_zero, List.set_cons_succ, i64_w, i32_w]
         rfl
        refine one_ (i := 3) (N := some 30) #[true, true, true, true, true, true, true, false, false, false, false, false] rfl rfl (one_of HT_.out (by kernel_rfl)) (by decide) (fun K hK => ?_)
        refine goes_ Try.func60 (by kernel_rfl) rfl #[.slice A0_0 l0_0.length c0_0, .int .i64 a1] (by rfl) rfl rfl (args_ (p := _)) ?_
        with_reducible refine (headgateref07_without.calls kj10 _ _ l0_0 a1 t317 _ ?side1 ?side2 A15.out).mono ?_
        (case side1 => exact upc (Kd.C_below HR0_0.out HB.out))
        (case side2 => exact HC0_0.out)
        rintro e w32 ⟨v318, rfl, ho0, hb⟩
        refine ⟨_, rfl, ?_⟩
        have n0_ := Aside0.mk (Kd.R_elder' (upR HO309.out) (Kd.R_base ho0) hb)
        have n1_ := Aside0.mk (Kd.R_elder' (upR HO312.out) (Kd.R_base ho0) hb)
        have n2_ := Aside0.mk (Kd.R_below (upR HO315.out) hb)
        have n3_ := Aside0.mk (Kd.R_lower (Kd.R_new' (Kd.R_new' ho0 (Kd.R_lt (upR HO309.out))) (Kd.R_lt (upR HO312.out))) (below_size (upH HB)))
        have n4_ := Aside0.mk (blkB BK303 hb)
        have n5_ := Aside0.mk (blkB BK304 hb)
        have n6_ := Aside0.mk (blkB BK316 hb)
        have n7_ := Aside0.mk (below_step (upH HB) hb)
        clear HO309
        clear HO312
        clear HO315
        clear BK303
        clear BK304
        clear BK316
        clear HB
        have HO309 := n0_
        have HO312 := n1_
        have HO315 := n2_
        have HO319 := n3_
        have BK303 := n4_
        have BK304 := n5_
        have BK316 := n6_
        have HB := n7_
        clear n0_ n1_ n2_ n3_ n4_ n5_ n6_ n7_
        (try clear hb)
        (try clear hb2)
        (try clear hk)
        (try clear hi)
        (try clear ho0)
        refine hK.out _ _ ⟨(blk_cell BK303.out 0).trans rfl, (blk_cell BK303.out 1).trans rfl, (blk_cell BK303.out 2).trans rfl⟩ (fun hHeld => ?_)
        clear hK K
        refine norm_ (a' := ?_) ?_ ?_
        rotate_left
        ·
         show Act.put _ (some 30) _ = _
         simp only [Act.put, List.setIfInBounds_toArray, List.set_cons_zero, List.set_cons_succ, i64_w, i32_w]
         rfl
        refine pure_ (i := 8) (N := some 35) (v := ?_) (a' := ?_) #[true, true, true, true, true, true, true, false, true, false, false, false] rfl rfl (any_of HT_.out (by kernel_rfl)) (fun _ _ _ h => h) (Or.inl ⟨by rfl, ?_⟩) ?_ ?_
        rotate_left
        ·
         intro w'
         go_simp
         with_reducible rfl
        rotate_left
        ·
         simp only [Act.put, List.setIfInBounds_toArray, List.set_cons_zero, List.set_cons_succ, i64_w, i32_w]
         rfl
        refine one_ (i := 7) (N := some 34) #[true, true, true, true, true, true, true, true, true, false, false, false] rfl rfl (one_of HT_.out (by kernel_rfl)) (by decide) (fun K hK => ?_)
        refine goes_ Try.func60 (by kernel_rfl) rfl #[.slice A0_1 l0_1.length c0_1, .int .i64 a1] (by rfl) rfl rfl (args_ (p := _)) ?_
        with_reducible refine (headgateref07_without.calls kj10 _ _ l0_1 a1 t320 _ ?side1 ?side2 A16.out).mono ?_
        (case side1 => exact upc (Kd.C_below HR0_1.out HB.out))
        (case side2 => exact HC0_1.out)
        rintro e w33 ⟨v321, rfl, ho0, hb⟩
        refine ⟨_, rfl, ?_⟩
        have n0_ := Aside0.mk (Kd.R_elder' (upR HO309.out) (Kd.R_base ho0) hb)
        have n1_ := Aside0.mk (Kd.R_elder' (upR HO312.out) (Kd.R_base ho0) hb)
        have n2_ := Aside0.mk (Kd.R_below (upR HO315.out) hb)
        have n3_ := Aside0.mk (Kd.R_elder' (upR HO319.out) (Kd.R_base ho0) hb)
        have n4_ := Aside0.mk (Kd.R_lower (Kd.R_new' (Kd.R_new' (Kd.R_new' ho0 (Kd.R_lt (upR HO309.out))) (Kd.R_lt (upR HO312.out))) (Kd.R_lt (upR HO319.out))) (below_size (upH HB)))
        have n5_ := Aside0.mk (blkB BK303 hb)
        have n6_ := Aside0.mk (blkB BK304 hb)
        have n7_ := Aside0.mk (blkB BK316 hb)
        have n8_ := Aside0.mk (below_step (upH HB) hb)
        clear HO309
        clear HO312
        clear HO315
        clear HO319
        clear BK303
        clear BK304
        clear BK316
        clear HB
        have HO309 := n0_
        have HO312 := n1_
        have HO315 := n2_
        have HO319 := n3_
        have HO322 := n4_
        have BK303 := n5_
        have BK304 := n6_
        have BK316 := n7_
        have HB := n8_
        clear n0_ n1_ n2_ n3_ n4_ n5_ n6_ n7_ n8_
        (try clear hb)
        (try clear hb2)
        (try clear hk)
        (try clear hi)
        (try clear ho0)
        obtain ⟨Ao34, co34, eo34⟩ := Kd.R_slice HO319.out
        (first | subst eo34 | (injection eo34 with f1_ f2_ f3_; have f4_ := f1_.symm; have f5_ := f3_.symm; clear f1_ f2_ f3_; subst f4_; subst f5_))
        obtain ⟨Ao36, co36, eo36⟩ := Kd.R_slice HO322.out
        (first | subst eo36 | (injection eo36 with f1_ f2_ f3_; have f4_ := f1_.symm; have f5_ := f3_.symm; clear f1_ f2_ f3_; subst f4_; subst f5_))
        refine hK.out _ _ ⟨(blk_cell BK303.out 0).trans rfl, (blk_cell BK303.out 1).trans rfl, (blk_cell BK303.out 2).trans rfl⟩ (fun hHeld => ?_)
        clear hK K
        refine norm_ (a' := ?_) ?_ ?_
        rotate_left
        ·
         show Act.put _ (some 34) _ = _
         simp only [Act.put, List.setIfInBounds_toArray, List.set_cons_zero, List.set_cons_succ, i64_w, i32_w]
         rfl
        refine one_ (i := 9) (N := none) #[true, true, true, true, true, true, true, true, true, true, false, false] rfl rfl (one_of HT_.out (by kernel_rfl)) (by decide) (fun K hK => ?_)
        have hs35 : w33.cell? ⟨gb316, 0, none⟩ = some (.slice Ao24 t307.length co24) := (blk_cell BK316.out 0).trans rfl
        have hfs35 := blk_frozen BK316.out 0
        have hns35_0 := NB303_316.out
        have hns35_1 := NB304_316.out
        have hms35_0 := NB316_303.out
        have hms35_1 := NB316_304.out
        refine skip_ (w1 := ?_) (by rfl) rfl ?_ ?_
        rotate_left
        ·
         go_simp
         rfl
        refine hK.out _ _ ⟨((cell_far (p := ⟨gb316, _, none⟩) NB303_316.out _).trans (hHeld.1)), ((cell_far (p := ⟨gb316, _, none⟩) NB303_316.out _).trans (hHeld.2.1)), ((cell_far (p := ⟨gb316, _, none⟩) NB303_316.out _).trans (hHeld.2.2))⟩ (fun hHeld => ?_)
        clear hK K
        refine pure_ (i := 10) (N := some 36) (v := ?_) (a' := ?_) #[true, true, true, true, true, true, true, true, true, true, true, false] rfl rfl (any_of HT_.out (by kernel_rfl)) (fun _ _ _ h => h) (Or.inl ⟨by rfl, ?_⟩) ?_ ?_
        rotate_left
        ·
         intro w'
         go_simp
         with_reducible rfl
        rotate_left
        ·
         simp only [Act.put, List.setIfInBounds_toArray, List.set_cons_zero, List.set_cons_succ, i64_w, i32_w]
         rfl
        refine one_ (i := 11) (N := none) #[true, true, true, true, true, true, true, true, true, true, true, true] rfl rfl (one_of HT_.out (by kernel_rfl)) (by decide) (fun K hK => ?_)
        have hs37 : w33.cell? ⟨gb316, 1, none⟩ = some (.slice Ao28 t310.length co28) := (blk_cell BK316.out 1).trans rfl
        have hfs37 := blk_frozen BK316.out 1
        have hns37_0 := NB303_316.out
        have hns37_1 := NB304_316.out
        have hms37_0 := NB316_303.out
        have hms37_1 := NB316_304.out
        refine skip_ (w1 := ?_) (by rfl) rfl ?_ ?_
        rotate_left
        ·
         go_simp
         rfl
        refine hK.out _ _ ⟨((cell_far (p := ⟨gb316, _, none⟩) NB303_316.out _).trans (hHeld.1)), ((cell_far (p := ⟨gb316, _, none⟩) NB303_316.out _).trans (hHeld.2.1)), ((cell_far (p := ⟨gb316, _, none⟩) NB303_316.out _).trans (hHeld.2.2))⟩ (fun hHeld => ?_)
        clear hK K
        refine done_ (done_of HT_.out (by kernel_rfl)) ?_
        have n0_ : Aside0 (Kd.R (Kd.int .i64) 3 ((w33.setCell ⟨gb316, 0, none⟩ (.slice Ao34 t317.length co34)).setCell ⟨gb316, 1, none⟩ (.slice Ao36 t320.length co36)) w.heap.size (fun k_ => some k_ ≠ (.slice Ao28 t310.length co28 : Value).ownBlock ∧ some k_ ≠ (.slice Ao34 t317.length co34 : Value).ownBlock ∧ some k_ ≠ (.slice Ao36 t320.length co36 : Value).ownBlock) (.slice Ao24 t307.length co24) t307) := ⟨by (with_reducible repeat (first | apply Kd.R_alloc | apply Kd.R_drewN | apply Kd.R_drew)); exact Kd.R_mono (far2 HO309.out BK316) (fun _ hk => ⟨hk.1.1.1, ⟨hk.1.1.2, hk.1.2⟩⟩)⟩
        have n1_ : Aside0 (Kd.R (Kd.int .i64) 3 ((w33.setCell ⟨gb316, 0, none⟩ (.slice Ao34 t317.length co34)).setCell ⟨gb316, 1, none⟩ (.slice Ao36 t320.length co36)) w.heap.size (fun k_ => some k_ ≠ (.slice Ao24 t307.length co24 : Value).ownBlock ∧ some k_ ≠ (.slice Ao34 t317.length co34 : Value).ownBlock ∧ some k_ ≠ (.slice Ao36 t320.length co36 : Value).ownBlock) (.slice Ao28 t310.length co28) t310) := ⟨by (with_reducible repeat (first | apply Kd.R_alloc | apply Kd.R_drewN | apply Kd.R_drew)); exact Kd.R_mono (far2 HO312.out BK316) (fun _ hk => ⟨hk.1.1.1, ⟨hk.1.1.2, hk.1.2⟩⟩)⟩
        have n2_ : Aside0 (Kd.R Kd.bool 4 ((w33.setCell ⟨gb316, 0, none⟩ (.slice Ao34 t317.length co34)).setCell ⟨gb316, 1, none⟩ (.slice Ao36 t320.length co36)) w.heap.size (fun _ => True) (.slice Ao29 t313.length co29) t313) := ⟨by (with_reducible repeat (first | apply Kd.R_alloc | apply Kd.R_drewN | apply Kd.R_drew)); exact Kd.R_mono (far2 HO315.out BK316) (fun _ hk => trivial)⟩
        have n3_ : Aside0 (Kd.R (Kd.int .i64) 3 ((w33.setCell ⟨gb316, 0, none⟩ (.slice Ao34 t317.length co34)).setCell ⟨gb316, 1, none⟩ (.slice Ao36 t320.length co36)) w.heap.size (fun k_ => some k_ ≠ (.slice Ao24 t307.length co24 : Value).ownBlock ∧ some k_ ≠ (.slice Ao28 t310.length co28 : Value).ownBlock ∧ some k_ ≠ (.slice Ao36 t320.length co36 : Value).ownBlock) (.slice Ao34 t317.length co34) t317) := ⟨by (with_reducible repeat (first | apply Kd.R_alloc | apply Kd.R_drewN | apply Kd.R_drew)); exact Kd.R_mono (far2 HO319.out BK316) (fun _ hk => ⟨hk.1.1.1.2, ⟨hk.1.1.2, hk.1.2⟩⟩)⟩
        have n4_ : Aside0 (Kd.R (Kd.int .i64) 3 ((w33.setCell ⟨gb316, 0, none⟩ (.slice Ao34 t317.length co34)).setCell ⟨gb316, 1, none⟩ (.slice Ao36 t320.length co36)) w.heap.size (fun k_ => some k_ ≠ (.slice Ao24 t307.length co24 : Value).ownBlock ∧ some k_ ≠ (.slice Ao28 t310.length co28 : Value).ownBlock ∧ some k_ ≠ (.slice Ao34 t317.length co34 : Value).ownBlock) (.slice Ao36 t320.length co36) t320) := ⟨by (with_reducible repeat (first | apply Kd.R_alloc | apply Kd.R_drewN | apply Kd.R_drew)); exact Kd.R_mono (far2 HO322.out BK316) (fun _ hk => ⟨hk.1.1.1.2, ⟨hk.1.1.2, hk.1.2⟩⟩)⟩
        have n5_ : Aside0 (((w33.setCell ⟨gb316, 0, none⟩ (.slice Ao34 t317.length co34)).setCell ⟨gb316, 1, none⟩ (.slice Ao36 t320.length co36)).heap[gb303]? = some (.cells #[.slice A0_0 l0_0.length c0_0, .slice A0_1 l0_1.length c0_1, .slice A0_2 l0_2.length c0_2] 33 (0, 0))) := ⟨by (with_reducible repeat (first | refine blk_drewN ?_ _ | refine blk_drew ?_ | refine blk_alloc ?_ _)); refine blk_far ?_ NB303_316.out _; (with_reducible repeat (first | refine blk_drewN ?_ _ | refine blk_drew ?_ | refine blk_alloc ?_ _)); refine blk_far ?_ NB303_316.out _; (with_reducible repeat (first | refine blk_drewN ?_ _ | refine blk_drew ?_ | refine blk_alloc ?_ _)); exact BK303.out⟩
        have n6_ : Aside0 (((w33.setCell ⟨gb316, 0, none⟩ (.slice Ao34 t317.length co34)).setCell ⟨gb316, 1, none⟩ (.slice Ao36 t320.length co36)).heap[gb304]? = some (.cells #[.slice none 0 0, .slice none 0 0, .slice none 0 0] 33 (0, 0))) := ⟨by (with_reducible repeat (first | refine blk_drewN ?_ _ | refine blk_drew ?_ | refine blk_alloc ?_ _)); refine blk_far ?_ NB304_316.out _; (with_reducible repeat (first | refine blk_drewN ?_ _ | refine blk_drew ?_ | refine blk_alloc ?_ _)); refine blk_far ?_ NB304_316.out _; (with_reducible repeat (first | refine blk_drewN ?_ _ | refine blk_drew ?_ | refine blk_alloc ?_ _)); exact BK304.out⟩
        have n7_ : Aside0 (((w33.setCell ⟨gb316, 0, none⟩ (.slice Ao34 t317.length co34)).setCell ⟨gb316, 1, none⟩ (.slice Ao36 t320.length co36)).heap[gb316]? = some (.cells #[.slice Ao34 t317.length co34, .slice Ao36 t320.length co36, .slice Ao29 t313.length co29] 33 (0, 0))) := ⟨by (with_reducible repeat (first | refine blk_drewN ?_ _ | refine blk_drew ?_ | refine blk_alloc ?_ _)); refine blk_put (cs := #[.slice Ao34 t317.length co34, .slice Ao28 t310.length co28, .slice Ao29 t313.length co29]) ?_ 1 _ rfl; (with_reducible repeat (first | refine blk_drewN ?_ _ | refine blk_drew ?_ | refine blk_alloc ?_ _)); refine blk_put (cs := #[.slice Ao24 t307.length co24, .slice Ao28 t310.length co28, .slice Ao29 t313.length co29]) ?_ 0 _ rfl; (with_reducible repeat (first | refine blk_drewN ?_ _ | refine blk_drew ?_ | refine blk_alloc ?_ _)); exact BK316.out⟩
        have n8_ : Aside0 (Below w.heap.size w ((w33.setCell ⟨gb316, 0, none⟩ (.slice Ao34 t317.length co34)).setCell ⟨gb316, 1, none⟩ (.slice Ao36 t320.length co36))) := ⟨upH HB⟩
        (try clear HO309)
        (try clear HO312)
        (try clear HO315)
        (try clear HO319)
        (try clear HO322)
        (try clear BK303)
        (try clear BK304)
        (try clear BK316)
        (try clear HB)
        generalize ((w33.setCell ⟨gb316, 0, none⟩ (.slice Ao34 t317.length co34)).setCell ⟨gb316, 1, none⟩ (.slice Ao36 t320.length co36)) = w38 at n0_ n1_ n2_ n3_ n4_ n5_ n6_ n7_ n8_ ⊢
        have HO309 := n0_
        have HO312 := n1_
        have HO315 := n2_
        have HO319 := n3_
        have HO322 := n4_
        have BK303 := n5_
        have BK304 := n6_
        have BK316 := n7_
        have HB := n8_
        clear n0_ n1_ n2_ n3_ n4_ n5_ n6_ n7_ n8_
        have hcz39_0 := cell0 BK316
        have hcz39_1 := cell1 BK316
        have hcz39_2 := cell2 BK316
        have hfz39_0 := blk_frozen BK316.out 0
        have hfz39_1 := blk_frozen BK316.out 1
        have hfz39_2 := blk_frozen BK316.out 2
        have p19 : 0 ≤ (a1 : Int) := of_decide_eq_true (asm_ (p := _))
        have q19 : (a1 : Int) < ((t313.length : Int) : Int) := of_decide_eq_true (asm_ (p := _))
        obtain ⟨go19, co19, eo19, gb19, gl19, cl19, HG19⟩ := Kd.R_form HO315.out (by omega)
        (first | cases eo19 | (injection eo19 with ea_ en_ ec_; (first | subst ea_ | (injection ea_ with ea_; subst ea_)); subst ec_; clear en_))
        have GB19 := Aside0.mk gb19
        have GG19 := Aside0.mk HG19
        clear gb19 gl19 HG19
        obtain ⟨hx19_0, hf19_0⟩ := Kd.R_celln false HO315.out (a1 : Int) p19 q19
        replace p19 := eq_true p19
        replace q19 := eq_true q19
        obtain ⟨hy40_, hz40_⟩ := Kd.R_celln false HO315.out (a1 : Int) (of_decide_eq_true (asm_ (p := _))) (of_decide_eq_true (asm_ (p := _)))
        have HP40 := Kd.R_putg HO315.out (a1 : Int) false
        try go_wp2_with (first | ((with_reducible refine gate_store (t := 4) (p := 40) rfl ?_); refine store_event (t := 4) (p := 40) (v := ?vo_w41) (w1 := (w38.setCell ⟨go19, (a1 : Int).toNat, none⟩ (.bool false))) ?hg ?ho ?hn ?hr ?_; (case ho => rfl); (case hg => rfl); (case hn => rfl); (case hr => first | (go_simp; done) | (go_simp; rfl)); intro w41 hw; have hg : w38.grownBy w41 (some go19) := (by rw [hw]; exact HP40.2); have hp_ : Kd.R Kd.bool 4 w41 w.heap.size (fun _ => True) (.slice (some ⟨go19, 0, none⟩) t313.length co29) y323 := (by rw [hw, Ny323.out]; exact HP40.1); clear HP40; have n0_ := Aside0.mk (blk_grown (g := gb303) (o := .cells #[.slice A0_0 l0_0.length c0_0, .slice A0_1 l0_1.length c0_1, .slice A0_2 l0_2.length c0_2] 33 (0, 0)) (upB BK303) hg (Kd.R_ne HO315.out BK303.out (by decide))); have n1_ := Aside0.mk (blk_grown (g := gb304) (o := .cells #[.slice none 0 0, .slice none 0 0, .slice none 0 0] 33 (0, 0)) (upB BK304) hg (Kd.R_ne HO315.out BK304.out (by decide))); have n2_ := Aside0.mk (Kd.R_over' (v := (.slice (some ⟨go19, 0, none⟩) t313.length co29)) (upR HO309.out) (Kd.R_typed HO315.out) (by decide) hg); have n3_ := Aside0.mk (Kd.R_over' (v := (.slice (some ⟨go19, 0, none⟩) t313.length co29)) (upR HO312.out) (Kd.R_typed HO315.out) (by decide) hg); have n4_ := Aside0.mk (hp_); have n5_ := Aside0.mk (blk_grown (g := gb316) (o := .cells #[.slice Ao34 t317.length co34, .slice Ao36 t320.length co36, .slice (some ⟨go19, 0, none⟩) t313.length co29] 33 (0, 0)) (upB BK316) hg (Kd.R_ne HO315.out BK316.out (by decide))); have n6_ := Aside0.mk (Kd.R_over' (v := (.slice (some ⟨go19, 0, none⟩) t313.length co29)) (upR HO319.out) (Kd.R_typed HO315.out) (by decide) hg); have n7_ := Aside0.mk (Kd.R_over' (v := (.slice (some ⟨go19, 0, none⟩) t313.length co29)) (upR HO322.out) (Kd.R_typed HO315.out) (by decide) hg); have n8_ := Aside0.mk ((by rw [hw]; exact below_set (HB.out) GB19.out : Below w.heap.size w w41)); clear BK303; clear BK304; clear HO309; clear HO312; clear HO315; clear BK316; clear HO319; clear HO322; clear HB; have BK303 := n0_; have BK304 := n1_; have HO309 := n2_; have HO312 := n3_; have HO315 := n4_; have BK316 := n5_; have HO319 := n6_; have HO322 := n7_; have HB := n8_; clear n0_ n1_ n2_ n3_ n4_ n5_ n6_ n7_ n8_; clear hg hw hp_; have hcz42_0 := cell0 BK316; have hcz42_1 := cell1 BK316; have hcz42_2 := cell2 BK316; have hfz42_0 := blk_frozen BK316.out 0; have hfz42_1 := blk_frozen BK316.out 1; have hfz42_2 := blk_frozen BK316.out 2; have hcz43_0 := cell0 BK304; have hcz43_1 := cell1 BK304; have hcz43_2 := cell2 BK304; have hfz43_0 := blk_frozen BK304.out 0; have hfz43_1 := blk_frozen BK304.out 1; have hfz43_2 := blk_frozen BK304.out 2))
        refine bodyPost_ret (results_ct rfl _ _ gb304 33 #[.slice Ao34 t317.length co34, .slice Ao36 t320.length co36, .slice (some ⟨go19, 0, none⟩) t313.length co29] (0, 0) _ rfl (by (with_reducible repeat (first | refine blk_drewN ?_ _ | refine blk_drew ?_ | refine blk_alloc ?_ _)); refine blk_put (cs := #[.slice Ao34 t317.length co34, .slice Ao36 t320.length co36, .slice none 0 0]) ?_ 2 _ rfl; (with_reducible repeat (first | refine blk_drewN ?_ _ | refine blk_drew ?_ | refine blk_alloc ?_ _)); refine blk_put (cs := #[.slice Ao34 t317.length co34, .slice none 0 0, .slice none 0 0]) ?_ 1 _ rfl; (with_reducible repeat (first | refine blk_drewN ?_ _ | refine blk_drew ?_ | refine blk_alloc ?_ _)); refine blk_put (cs := #[.slice none 0 0, .slice none 0 0, .slice none 0 0]) ?_ 0 _ rfl; (with_reducible repeat (first | refine blk_drewN ?_ _ | refine blk_drew ?_ | refine blk_alloc ?_ _)); exact BK304.out) Try.underlying33 rfl (by kernel_rfl)) rfl ?_
        exact ⟨_, _, _, by first | rfl | (simp [errW_none, errW_some] <;> rfl) | (simp [*, errW_none, errW_some] <;> rfl), by (with_reducible repeat (first | apply Kd.R_alloc | apply Kd.R_drewN | apply Kd.R_drew)); exact Kd.R_mono (Kd.R_far (p := ⟨gb304, 2, none⟩) (far2 HO319.out BK304) (fun _ hk => hk.2) (.slice (some ⟨go19, 0, none⟩) t313.length co29)) (fun _ hk => hk.1.2.2), by (with_reducible repeat (first | apply Kd.R_alloc | apply Kd.R_drewN | apply Kd.R_drew)); exact Kd.R_mono (Kd.R_far (p := ⟨gb304, 2, none⟩) (far2 HO322.out BK304) (fun _ hk => hk.2) (.slice (some ⟨go19, 0, none⟩) t313.length co29)) (fun _ hk => hk.1.2.2), by (with_reducible repeat (first | apply Kd.R_alloc | apply Kd.R_drewN | apply Kd.R_drew)); exact Kd.R_mono (Kd.R_far (p := ⟨gb304, 2, none⟩) (far2 HO315.out BK304) (fun _ hk => hk.2) (.slice (some ⟨go19, 0, none⟩) t313.length co29)) (fun _ hk => trivial), by repeat (first | (with_reducible first | exact HB.out | apply below_alloc | apply pw_below_drewN | apply below_drew1 | refine below_set ?_ GE303.out | refine below_set ?_ GE304.out | refine below_set ?_ GE316.out) | exact HB.out)⟩
       ·
        rw [if_neg c18] at H
        exact absurd H (by simp)
      ·
       rw [if_neg c17] at H
       exact absurd H (by simp)
     ·
      rw [if_neg c13] at H
      have c13b0 : (x7_10 == 0) = false := beq_eq_false_iff_ne.mpr c13
      have c13b1 : (x7_10 != 0) = true := bne_iff_ne.mpr c13
      simp only [Option.some.injEq, Prod.mk.injEq] at H
      obtain ⟨rfl, rfl, rfl, rfl⟩ := H
      have hnb44 := NB304_303.out
      have hnc44 := NB303_304.out
      have hcz45_0 := cell0 BK304
      have hcz45_1 := cell1 BK304
      have hcz45_2 := cell2 BK304
      have hfz45_0 := blk_frozen BK304.out 0
      have hfz45_1 := blk_frozen BK304.out 1
      have hfz45_2 := blk_frozen BK304.out 2
      go_wp2
      refine bodyPost_ret (results_ct rfl _ _ gb304 33 #[.slice none 0 0, .slice none 0 0, .slice none 0 0] (0, 0) _ rfl (by (with_reducible repeat (first | refine blk_drewN ?_ _ | refine blk_drew ?_ | refine blk_alloc ?_ _)); refine blk_put (cs := #[.slice none 0 0, .slice none 0 0, .slice none 0 0]) ?_ 2 _ rfl; (with_reducible repeat (first | refine blk_drewN ?_ _ | refine blk_drew ?_ | refine blk_alloc ?_ _)); refine blk_put (cs := #[.slice none 0 0, .slice none 0 0, .slice none 0 0]) ?_ 1 _ rfl; (with_reducible repeat (first | refine blk_drewN ?_ _ | refine blk_drew ?_ | refine blk_alloc ?_ _)); refine blk_put (cs := #[.slice none 0 0, .slice none 0 0, .slice none 0 0]) ?_ 0 _ rfl; (with_reducible repeat (first | refine blk_drewN ?_ _ | refine blk_drew ?_ | refine blk_alloc ?_ _)); exact BK304.out) Try.underlying33 rfl (by kernel_rfl)) rfl ?_
      exact ⟨_, _, _, by first | rfl | (simp [errW_none, errW_some] <;> rfl) | (simp [*, errW_none, errW_some] <;> rfl), by first | exact Kd.R_nil _ _ _ _ _ | exact Kd.N_nil _ _ _ _ _ | exact Kd.V_nil _ _ _ _ _ | exact Kd.Q_nil _ _ _ _ _ | exact Kd.S_nil _ _ _ _ _, by first | exact Kd.R_nil _ _ _ _ _ | exact Kd.N_nil _ _ _ _ _ | exact Kd.V_nil _ _ _ _ _ | exact Kd.Q_nil _ _ _ _ _ | exact Kd.S_nil _ _ _ _ _, by first | exact Kd.R_nil _ _ _ _ _ | exact Kd.N_nil _ _ _ _ _ | exact Kd.V_nil _ _ _ _ _ | exact Kd.Q_nil _ _ _ _ _ | exact Kd.S_nil _ _ _ _ _, by repeat (first | (with_reducible first | exact HB.out | apply below_alloc | apply pw_below_drewN | apply below_drew1 | refine below_set ?_ GE303.out | refine below_set ?_ GE304.out) | exact HB.out)⟩

end Go.Proofs.Ytnheknlmmmkbpaa.X

namespace Go.Proofs.Ytnheknlmmmkbpaa.X
open Go.RowKit Go.Proofs.YtnheknlmmmkbpaaW.PrintWords Go.Proofs.YtnheknlmmmkbpaaW.PrintLast Go.Proofs.YtnheknlmmmkbpaaW.PrintMore
attribute [local go_sem] max2_int min2_int max_two min_two max_three min_three max_four min_four   -- for this text's walks alone
set_option linter.unusedVariables false
set_option linter.unusedSimpArgs false

/-! ### headgateref07_Demote: function 47 -/
def headgateref07_Demote.j0 : Nat → Int → Bool → List Int → List Int → List Bool → Option (List Int × List Int × List Bool × Int × Int)
 | 0, _, _, _, _, _ => none
 | k + 1, x5, x18, x325000, x325001, x325002 => if x18 = true then (if 6 = 0 then (if 0 ≤ (wrap64 ((x325000.length : Int) - 1)) then (if (wrap64 ((x325000.length : Int) - 1)) < (x325000.length : Int) then ((headgateref07_Remove.f k x325000 x325001 x325002 (rd x325000 (wrap64 ((x325000.length : Int) - 1)))).bind fun bt328 => ((some (([rd x325000 (wrap64 ((x325000.length : Int) - 1))] : List Int) : List Int)).bind fun y339 => (if y339.length + bt328.2.1.length < 17592186044416 then (some (bt328.1, (y339 ++ bt328.2.1), bt328.2.2.1, rd x325000 (wrap64 ((x325000.length : Int) - 1)), 0)) else (none)))) else (none)) else (none)) else (some (([] : List Int), ([] : List Int), ([] : List Bool), 0, 6))) else (if x5 = 0 then (if 0 ≤ (wrap64 ((x325000.length : Int) - 1)) then (if (wrap64 ((x325000.length : Int) - 1)) < (x325000.length : Int) then ((headgateref07_Remove.f k x325000 x325001 x325002 (rd x325000 (wrap64 ((x325000.length : Int) - 1)))).bind fun bt346 => ((some (([rd x325000 (wrap64 ((x325000.length : Int) - 1))] : List Int) : List Int)).bind fun y357 => (if y357.length + bt346.2.1.length < 17592186044416 then (some (bt346.1, (y357 ++ bt346.2.1), bt346.2.2.1, rd x325000 (wrap64 ((x325000.length : Int) - 1)), 0)) else (none)))) else (none)) else (none)) else (some (([] : List Int), ([] : List Int), ([] : List Bool), 0, x5)))
def headgateref07_Demote.f (k : Nat) (l0_0 : List Int) (l0_1 : List Int) (l0_2 : List Bool) : Option (List Int × List Int × List Bool × Int × Int) := (headgateref07_Check.f l0_0 l0_1 l0_2).bind fun t326 => (if t326 = 0 then (headgateref07_Demote.j0 k t326 ((l0_0.length : Int) == 0) l0_0 l0_1 l0_2) else (headgateref07_Demote.j0 k t326 false l0_0 l0_1 l0_2))
theorem headgateref07_Demote.mono_l : ∀ k, (∀ y0 y1 y2 y3 y4, LeO (headgateref07_Demote.j0 k y0 y1 y2 y3 y4) (headgateref07_Demote.j0 (k + 1) y0 y1 y2 y3 y4))
 | 0 => fun _ _ _ _ _ r h => by simp [headgateref07_Demote.j0] at h
 | k + 1 => by
  have ih0 := headgateref07_Demote.mono_l k
  ·
   intro y0 y1 y2 y3 y4
   unfold headgateref07_Demote.j0
   repeat' first
   | (with_reducible exact ih0 _ _ _ _ _)
   | (with_reducible exact headgateref07_Remove.mono _ _ _ _ _)
   | (with_reducible exact LeO.refl _)
   | (with_reducible exact LeO.none _)
   | (with_reducible refine LeO.ite ?_ ?_)
   | (with_reducible refine LeO.bind ?_ (fun _ => ?_))
   | exact ih0 _ _ _ _ _
   | exact headgateref07_Remove.mono _ _ _ _ _
   | exact LeO.none _
   | refine LeO.ite ?_ ?_
   | refine LeO.bind ?_ (fun _ => ?_)
theorem headgateref07_Demote.mono : ∀ a0 a1 a2 k, LeO (headgateref07_Demote.f k a0 a1 a2) (headgateref07_Demote.f (k + 1) a0 a1 a2) := by
 intro a0 a1 a2 k
 have ih0 := headgateref07_Demote.mono_l k
 unfold headgateref07_Demote.f
 repeat' first
   | (with_reducible exact ih0 _ _ _ _ _)
   | (with_reducible exact headgateref07_Remove.mono _ _ _ _ _)
   | (with_reducible exact LeO.refl _)
   | (with_reducible exact LeO.none _)
   | (with_reducible refine LeO.ite ?_ ?_)
   | (with_reducible refine LeO.bind ?_ (fun _ => ?_))
   | exact ih0 _ _ _ _ _
   | exact headgateref07_Remove.mono _ _ _ _ _
   | exact LeO.none _
   | refine LeO.ite ?_ ?_
   | refine LeO.bind ?_ (fun _ => ?_)
set_option maxHeartbeats 2000000 in
set_option maxRecDepth 100000 in
theorem headgateref07_Demote.calls (k : Nat) (A0_0 : Option Addr) (c0_0 : Nat) (l0_0 : List Int) (A0_1 : Option Addr) (c0_1 : Nat) (l0_1 : List Int) (A0_2 : Option Addr) (c0_2 : Nat) (l0_2 : List Bool) (r1 : List Int) (r2 : List Int) (r3 : List Bool) (r4 : Int) (r5 : Int) (w : World) (hr0_0 : Kd.C (Kd.int .i64) w A0_0 l0_0.length l0_0) (hc0_0 : l0_0.length ≤ c0_0) (hr0_1 : Kd.C (Kd.int .i64) w A0_1 l0_1.length l0_1) (hc0_1 : l0_1.length ≤ c0_1) (hr0_2 : Kd.C Kd.bool w A0_2 l0_2.length l0_2) (hc0_2 : l0_2.length ≤ c0_2) (h : headgateref07_Demote.f k l0_0 l0_1 l0_2 = some (r1, r2, r3, r4, r5)) :
  Calls Try.prog 47 #[.agg #[.slice A0_0 l0_0.length c0_0, .slice A0_1 l0_1.length c0_1, .slice A0_2 l0_2.length c0_2]] w fun e w' => ∃ v0_ v1_ v2_ : Value, e = .returned (.tuple #[.agg #[v0_, v1_, v2_], .int .i64 r4, .int .i64 r5]) ∧ Kd.R (Kd.int .i64) 3 w' w.heap.size (fun k_ => some k_ ≠ (v1_ : Value).ownBlock) v0_ r1 ∧ Kd.R (Kd.int .i64) 3 w' w.heap.size (fun k_ => some k_ ≠ (v0_ : Value).ownBlock) v1_ r2 ∧ Kd.R Kd.bool 4 w' w.heap.size (fun _ => True) v2_ r3 ∧ Below w.heap.size w w' := by
 have hu33 := Try.underlying33
 have HR0_0 := Aside0.mk hr0_0
 have HC0_0 := Aside0.mk hc0_0
 clear hr0_0 hc0_0
 have HR0_1 := Aside0.mk hr0_1
 have HC0_1 := Aside0.mk hc0_1
 clear hr0_1 hc0_1
 have HR0_2 := Aside0.mk hr0_2
 have HC0_2 := Aside0.mk hc0_2
 clear hr0_2 hc0_2
 have HB := Aside0.mk (Below.refl w.heap.size w)
 have H : ((headgateref07_Check.f l0_0 l0_1 l0_2).bind fun t326 => (if t326 = 0 then (headgateref07_Demote.j0 k t326 ((l0_0.length : Int) == 0) l0_0 l0_1 l0_2) else (headgateref07_Demote.j0 k t326 false l0_0 l0_1 l0_2))) = some (r1, r2, r3, r4, r5) := h
 clear h
 replace H := Option.bind_eq_some_iff.mp H
 obtain ⟨t326, A20, H⟩ := H
 replace H : (if t326 = 0 then (headgateref07_Demote.j0 k t326 ((l0_0.length : Int) == 0) l0_0 l0_1 l0_2) else (headgateref07_Demote.j0 k t326 false l0_0 l0_1 l0_2)) = some (r1, r2, r3, r4, r5) := H
 have A2 := Aside0.mk A20
 clear A20
 have HC3 := Aside0.mk H
 clear H
 go_enter Try.func47, Try.ntmps47
 go_upto_region 2 with (first | ((with_reducible refine gate_dst (N := 1) rfl ?_); (try (refine gate_guard (by rfl) ?_; dsimp only)); refine box_event ?hg (N := 1) ?hd (cs := #[.slice A0_0 l0_0.length c0_0, .slice A0_1 l0_1.length c0_1, .slice A0_2 l0_2.length c0_2]) (t := 33) ?hr ?_; (case hd => rfl); (case hg => rfl); (case hr => first | (go_simp; done) | (go_simp; rfl)); intro gb324 hg w4 hbox hb; have n0_ := Aside0.mk (below_step (upH HB) hb); have n1_ := Aside0.mk (hbox); have n2_ := Aside0.mk ((by rw [hg]; exact (below_size (upH HB)) : w.heap.size ≤ gb324)); have n3_ := Aside0.mk ((by rw [hg]; exact (below_size (upH HB)) : w.heap.size ≤ gb324)); clear HB; have HB := n0_; have BK324 := n1_; have GW324 := n2_; have GE324 := n3_; clear n0_ n1_ n2_ n3_; clear hb hbox hg) | ((with_reducible refine gate_dst (N := 2) rfl ?_); (try (refine gate_guard (by rfl) ?_; dsimp only)); refine box_event ?hg (N := 2) ?hd (cs := #[.slice none 0 0, .slice none 0 0, .slice none 0 0]) (t := 33) ?hr ?_; (case hd => rfl); (case hg => rfl); (case hr => first | (go_simp; done) | (go_simp; rfl)); intro gb325 hg w5 hbox hb; have n0_ := Aside0.mk (blkB BK324 hb); have n1_ := Aside0.mk (below_step (upH HB) hb); have n2_ := Aside0.mk (hbox); have n3_ := Aside0.mk ((by rw [hg]; exact (below_size (upH HB)) : w.heap.size ≤ gb325)); have n4_ := Aside0.mk ((by rw [hg]; exact (below_size (upH HB)) : w.heap.size ≤ gb325)); have n5_ := Aside0.mk ((by rw [hg]; exact Nat.ne_of_lt (blk_lt (g := gb324) (o := .cells #[.slice A0_0 l0_0.length c0_0, .slice A0_1 l0_1.length c0_1, .slice A0_2 l0_2.length c0_2] 33 (0, 0)) (upB BK324)) : gb324 ≠ gb325)); have n6_ := Aside0.mk ((by rw [hg]; exact Nat.ne_of_gt (blk_lt (g := gb324) (o := .cells #[.slice A0_0 l0_0.length c0_0, .slice A0_1 l0_1.length c0_1, .slice A0_2 l0_2.length c0_2] 33 (0, 0)) (upB BK324)) : gb325 ≠ gb324)); clear BK324; clear HB; have BK324 := n0_; have HB := n1_; have BK325 := n2_; have GW325 := n3_; have GE325 := n4_; have NB324_325 := n5_; have NB325_324 := n6_; clear n0_ n1_ n2_ n3_ n4_ n5_ n6_; clear hb hbox hg; have hnb6 := NB324_325.out; have hnc6 := NB325_324.out; have hcz7_0 := cell0 BK324; have hcz7_1 := cell1 BK324; have hcz7_2 := cell2 BK324; have hfz7_0 := blk_frozen BK324.out 0; have hfz7_1 := blk_frozen BK324.out 1; have hfz7_2 := blk_frozen BK324.out 2) | ((with_reducible refine gate_callee (f := 44) rfl ?_); refine goesL_ (some 10) rfl rfl Try.func44 (by kernel_rfl) rfl #[.agg #[.slice A0_0 l0_0.length c0_0, .slice A0_1 l0_1.length c0_1, .slice A0_2 l0_2.length c0_2]] rfl (args_ (p := _)) ?_; (with_reducible refine (headgateref07_Check.calls _ _ l0_0 _ _ l0_1 _ _ l0_2 t326 _ ?side1 ?side2 ?side3 ?side4 ?side5 ?side6 A2.out).mono ?_); (case side1 => exact upc (Kd.C_below HR0_0.out HB.out)); (case side2 => exact HC0_0.out); (case side3 => exact upc (Kd.C_below HR0_1.out HB.out)); (case side4 => exact HC0_1.out); (case side5 => exact upc (Kd.C_below HR0_2.out HB.out)); (case side6 => exact HC0_2.out); rintro e w8 ⟨rfl, hb⟩; refine ⟨_, rfl, ?_⟩; have n0_ := Aside0.mk (blkB BK324 hb); have n1_ := Aside0.mk (blkB BK325 hb); have n2_ := Aside0.mk (below_step (upH HB) hb); clear BK324; clear BK325; clear HB; have BK324 := n0_; have BK325 := n1_; have HB := n2_; clear n0_ n1_ n2_; (try clear hb); (try clear hb2); (try clear hk); (try clear hi)))
 (try simp only [Act.put, List.setIfInBounds_toArray, List.set_cons_zero, List.set_cons_succ])
 go_cut [18] (fun v18 wc => ∃ (kq : Nat) (x18_2 : Bool), v18 = .bool x18_2 ∧ Aside0 (headgateref07_Demote.j0 kq t326 x18_2 l0_0 l0_1 l0_2 = some (r1, r2, r3, r4, r5)) ∧ Aside0 (kq ≤ k) ∧ Aside0 (wc.heap[gb324]? = some (.cells #[(.slice A0_0 l0_0.length c0_0), (.slice A0_1 l0_1.length c0_1), (.slice A0_2 l0_2.length c0_2)] 33 (0, 0))) ∧ Aside0 (wc.heap[gb325]? = some (.cells #[(.slice none 0 0), (.slice none 0 0), (.slice none 0 0)] 33 (0, 0))) ∧ Aside0 (Below w.heap.size w wc))
 case first =>
  have H := HC3.out
  clear HC3
  by_cases c9 : t326 = 0
  ·
   rw [if_pos c9] at H
   have c9b0 : (t326 == 0) = true := beq_iff_eq.mpr c9
   have c9b1 : (t326 != 0) = false := bne_eq_false_iff_eq.mpr c9
   clear c9
   (first | rw [c9b0] | (simp only [i64_w, i32_w]; rw [c9b0]) | skip)
   have H' := Aside0.mk H
   clear H
   have hnb10 := NB324_325.out
   have hnc10 := NB325_324.out
   have hcz11_0 := cell0 BK324
   have hcz11_1 := cell1 BK324
   have hcz11_2 := cell2 BK324
   have hfz11_0 := blk_frozen BK324.out 0
   have hfz11_1 := blk_frozen BK324.out 1
   have hfz11_2 := blk_frozen BK324.out 2
   go_wp2
   go_meet
   case rel => exact ⟨_, (((l0_0.length : Int) == 0)), (by first | rfl | (simp; done) | (simp [*]; done)), H', ⟨by first | omega | exact Nat.le_refl _⟩, ⟨upB BK324⟩, ⟨upB BK325⟩, ⟨upH HB⟩⟩
  ·
   rw [if_neg c9] at H
   have c9b0 : (t326 == 0) = false := beq_eq_false_iff_ne.mpr c9
   have c9b1 : (t326 != 0) = true := bne_iff_ne.mpr c9
   (first | rw [c9b0] | (simp only [i64_w, i32_w]; rw [c9b0]) | skip)
   have H' := Aside0.mk H
   clear H
   go_wp2
   go_meet
   case rel => exact ⟨_, (false), (by first | rfl | (simp; done) | (simp [*]; done)), H', ⟨by first | omega | exact Nat.le_refl _⟩, ⟨upB BK324⟩, ⟨upB BK325⟩, ⟨upH HB⟩⟩
 case rest =>
  clear HC3
  try clear c1
  try clear p2
  try clear c4
  try clear c6
  try clear c9
  try clear c9b0
  try clear c9b1
  try clear c10
  try clear hcz11_0
  try clear hcz11_1
  try clear hcz11_2
  try clear hcz7_0
  try clear hcz7_1
  try clear hcz7_2
  try clear hfz11_0
  try clear hfz11_1
  try clear hfz11_2
  try clear hfz7_0
  try clear hfz7_1
  try clear hfz7_2
  obtain ⟨kq, x18_2, rfl, HA, HJ2, BK324, BK325, HB⟩ := hcut
  cases kq with
  | zero => exact absurd HA.out (by simp [headgateref07_Demote.j0])
  | succ kj2 =>
   have H := HA.out
   clear HA
   simp only [headgateref07_Demote.j0] at H
   by_cases c12 : x18_2 = true
   ·
    subst c12
    have H1 : (if 6 = 0 then (if 0 ≤ (wrap64 ((l0_0.length : Int) - 1)) then (if (wrap64 ((l0_0.length : Int) - 1)) < (l0_0.length : Int) then ((headgateref07_Remove.f kj2 l0_0 l0_1 l0_2 (rd l0_0 (wrap64 ((l0_0.length : Int) - 1)))).bind fun bt328 => ((some (([rd l0_0 (wrap64 ((l0_0.length : Int) - 1))] : List Int) : List Int)).bind fun y339 => (if y339.length + bt328.2.1.length < 17592186044416 then (some (bt328.1, (y339 ++ bt328.2.1), bt328.2.2.1, rd l0_0 (wrap64 ((l0_0.length : Int) - 1)), 0)) else (none)))) else (none)) else (none)) else (some (([] : List Int), ([] : List Int), ([] : List Bool), 0, 6))) = some (r1, r2, r3, r4, r5) := by rw [if_pos rfl] at H; exact H
    clear H
    have H := H1
    clear H1
    by_cases c13 : 6 = 0
    ·
     exact absurd c13 (by decide)
    ·
     rw [if_neg c13] at H
     have c13b0 : (6 == 0) = false := beq_eq_false_iff_ne.mpr c13
     have c13b1 : (6 != 0) = true := bne_iff_ne.mpr c13
     simp only [Option.some.injEq, Prod.mk.injEq] at H
     obtain ⟨rfl, rfl, rfl, rfl, rfl⟩ := H
     have hnb36 := NB325_324.out
     have hnc36 := NB324_325.out
     have hcz37_0 := cell0 BK325
     have hcz37_1 := cell1 BK325
     have hcz37_2 := cell2 BK325
     have hfz37_0 := blk_frozen BK325.out 0
     have hfz37_1 := blk_frozen BK325.out 1
     have hfz37_2 := blk_frozen BK325.out 2
     go_wp2
     refine bodyPost_ret (results_ctt rfl _ _ gb325 33 #[.slice none 0 0, .slice none 0 0, .slice none 0 0] (0, 0) _ rfl (by (with_reducible repeat (first | refine blk_drewN ?_ _ | refine blk_drew ?_ | refine blk_alloc ?_ _)); refine blk_put (cs := #[.slice none 0 0, .slice none 0 0, .slice none 0 0]) ?_ 2 _ rfl; (with_reducible repeat (first | refine blk_drewN ?_ _ | refine blk_drew ?_ | refine blk_alloc ?_ _)); refine blk_put (cs := #[.slice none 0 0, .slice none 0 0, .slice none 0 0]) ?_ 1 _ rfl; (with_reducible repeat (first | refine blk_drewN ?_ _ | refine blk_drew ?_ | refine blk_alloc ?_ _)); refine blk_put (cs := #[.slice none 0 0, .slice none 0 0, .slice none 0 0]) ?_ 0 _ rfl; (with_reducible repeat (first | refine blk_drewN ?_ _ | refine blk_drew ?_ | refine blk_alloc ?_ _)); exact BK325.out) Try.underlying33 rfl (by kernel_rfl)) rfl ?_
     exact ⟨_, _, _, by first | rfl | (simp [errW_none, errW_some] <;> rfl) | (simp [*, errW_none, errW_some] <;> rfl), by first | exact Kd.R_nil _ _ _ _ _ | exact Kd.N_nil _ _ _ _ _ | exact Kd.V_nil _ _ _ _ _ | exact Kd.Q_nil _ _ _ _ _ | exact Kd.S_nil _ _ _ _ _, by first | exact Kd.R_nil _ _ _ _ _ | exact Kd.N_nil _ _ _ _ _ | exact Kd.V_nil _ _ _ _ _ | exact Kd.Q_nil _ _ _ _ _ | exact Kd.S_nil _ _ _ _ _, by first | exact Kd.R_nil _ _ _ _ _ | exact Kd.N_nil _ _ _ _ _ | exact Kd.V_nil _ _ _ _ _ | exact Kd.Q_nil _ _ _ _ _ | exact Kd.S_nil _ _ _ _ _, by repeat (first | (with_reducible first | exact HB.out | apply below_alloc | apply pw_below_drewN | apply below_drew1 | refine below_set ?_ GE324.out | refine below_set ?_ GE325.out) | exact HB.out)⟩
   ·
    replace c12 := Bool.eq_false_iff.mpr c12
    subst c12
    have H1 : (if t326 = 0 then (if 0 ≤ (wrap64 ((l0_0.length : Int) - 1)) then (if (wrap64 ((l0_0.length : Int) - 1)) < (l0_0.length : Int) then ((headgateref07_Remove.f kj2 l0_0 l0_1 l0_2 (rd l0_0 (wrap64 ((l0_0.length : Int) - 1)))).bind fun bt346 => ((some (([rd l0_0 (wrap64 ((l0_0.length : Int) - 1))] : List Int) : List Int)).bind fun y357 => (if y357.length + bt346.2.1.length < 17592186044416 then (some (bt346.1, (y357 ++ bt346.2.1), bt346.2.2.1, rd l0_0 (wrap64 ((l0_0.length : Int) - 1)), 0)) else (none)))) else (none)) else (none)) else (some (([] : List Int), ([] : List Int), ([] : List Bool), 0, t326))) = some (r1, r2, r3, r4, r5) := by rw [if_neg (show ¬ (false = true) by decide)] at H; exact H
    clear H
    have H := H1
    clear H1
    by_cases c38 : t326 = 0
    ·
     rw [if_pos c38] at H
     have c38b0 : (t326 == 0) = true := beq_iff_eq.mpr c38
     have c38b1 : (t326 != 0) = false := bne_eq_false_iff_eq.mpr c38
     clear c38
     obtain ⟨ji39, hji39⟩ : ∃ j_ : Int, (wrap64 ((l0_0.length : Int) - 1)) = j_ := ⟨_, rfl⟩
     replace H : (if 0 ≤ (ji39) then (if (ji39) < (l0_0.length : Int) then ((headgateref07_Remove.f kj2 l0_0 l0_1 l0_2 (rd l0_0 (ji39))).bind fun bt346 => ((some (([rd l0_0 (ji39)] : List Int) : List Int)).bind fun y357 => (if y357.length + bt346.2.1.length < 17592186044416 then (some (bt346.1, (y357 ++ bt346.2.1), bt346.2.2.1, rd l0_0 (ji39), 0)) else (none)))) else (none)) else (none)) = some (r1, r2, r3, r4, r5) := by first | (rw [hji39] at H; exact H) | (simp only [hji39] at H ⊢; exact H)
     have hji39w : (IntKind.i64.wrap ((l0_0.length : Int) - 1)) = ji39 := (i64_w _).trans hji39
     by_cases c40 : 0 ≤ (ji39)
     ·
      rw [if_pos c40] at H
      have c40b0 : decide (0 ≤ (ji39)) = true := decide_eq_true c40
      clear c40
      by_cases c41 : (ji39) < (l0_0.length : Int)
      ·
       rw [if_pos c41] at H
       have c41b0 : decide ((ji39) < (l0_0.length : Int)) = true := decide_eq_true c41
       clear c41
       replace H := Option.bind_eq_some_iff.mp H
       obtain ⟨⟨t346, t349, t352, t355⟩, A420, H⟩ := H
       replace H : ((some (([rd l0_0 (ji39)] : List Int) : List Int)).bind fun y357 => (if y357.length + t349.length < 17592186044416 then (some (t346, (y357 ++ t349), t352, rd l0_0 (ji39), 0)) else (none))) = some (r1, r2, r3, r4, r5) := H
       have A42 := Aside0.mk A420
       clear A420
       obtain ⟨y357, hy357⟩ : ∃ y_ : List Int, y_ = (([rd l0_0 (ji39)] : List Int)) := ⟨_, rfl⟩
       replace H : (if y357.length + t349.length < 17592186044416 then (some (t346, (y357 ++ t349), t352, rd l0_0 (ji39), 0)) else (none)) = some (r1, r2, r3, r4, r5) := by first | (rw [hy357]; with_reducible exact H) | (have H2_ := (Option.bind_some _ _).symm.trans H; rw [hy357]; with_reducible exact H2_) | (have H2_ := (Option.bind_some _ _).symm.trans H; with_reducible exact H2_) | with_reducible exact H | (rw [hy357]; exact H) | exact H
       have Ny357 := Aside0.mk hy357
       clear hy357
       by_cases c43 : y357.length + t349.length < 17592186044416
       ·
        rw [if_pos c43] at H
        have LMc43 := Aside0.mk c43
        clear c43
        obtain ⟨y360, hy360⟩ : ∃ y_ : List Int, y_ = (y357 ++ t349) := ⟨_, rfl⟩
        replace H : (some (t346, y360, t352, rd l0_0 (ji39), 0)) = some (r1, r2, r3, r4, r5) := by first | (rw [hy360]; with_reducible exact H) | (have H2_ := (Option.bind_some _ _).symm.trans H; rw [hy360]; with_reducible exact H2_) | (have H2_ := (Option.bind_some _ _).symm.trans H; with_reducible exact H2_) | with_reducible exact H | (rw [hy360]; exact H) | exact H
        have Ny360 := Aside0.mk hy360
        clear hy360
        simp only [Option.some.injEq, Prod.mk.injEq] at H
        obtain ⟨rfl, rfl, rfl, rfl, rfl⟩ := H
        have hnb44 := NB324_325.out
        have hnc44 := NB325_324.out
        have hcz45_0 := cell0 BK324
        have hcz45_1 := cell1 BK324
        have hcz45_2 := cell2 BK324
        have hfz45_0 := blk_frozen BK324.out 0
        have hfz45_1 := blk_frozen BK324.out 1
        have hfz45_2 := blk_frozen BK324.out 2
        have p345 : 0 ≤ ((ji39) : Int) := of_decide_eq_true (asm_ (p := _))
        have q345 : (ji39) < (l0_0.length : Int) := of_decide_eq_true (asm_ (p := _))
        obtain ⟨ad345, e345, hx345_0⟩ := Kd.at_int HR0_0.out (ji39) p345 q345
        cases e345
        replace hx345_0 := (HB.out.cell (World.block_lt_of_cell? w _ hx345_0)).trans hx345_0
        replace p345 := eq_true p345
        replace q345 := eq_true q345
        go_wp2_with (first | ((with_reducible refine gate_callee (f := 55) rfl ?_); refine goesL_ (some 34) rfl rfl Try.func55 (by kernel_rfl) rfl #[.agg #[.slice (some ad345) l0_0.length c0_0, .slice A0_1 l0_1.length c0_1, .slice A0_2 l0_2.length c0_2], .int .i64 (rd l0_0 (ji39))] rfl (by (try simp only [List.map_toArray, List.map_cons, List.map_nil]); first | done | (simp only [hji39]; rfl) | rfl | (simp only [List.length_drop, List.length_take]; rfl)) ?_; (with_reducible refine (headgateref07_Remove.calls kj2 _ _ l0_0 _ _ l0_1 _ _ l0_2 (rd l0_0 (ji39)) t346 t349 t352 t355 _ ?side1 ?side2 ?side3 ?side4 ?side5 ?side6 A42.out).mono ?_); (case side1 => exact upc (Kd.C_below HR0_0.out HB.out)); (case side2 => exact HC0_0.out); (case side3 => exact upc (Kd.C_below HR0_1.out HB.out)); (case side4 => exact HC0_1.out); (case side5 => exact upc (Kd.C_below HR0_2.out HB.out)); (case side6 => exact HC0_2.out); rintro e w46 ⟨v347, v350, v353, rfl, ho0, ho1, ho2, hb⟩; refine ⟨_, rfl, ?_⟩; have n0_ := Aside0.mk (Kd.R_lower ho0 (below_size (upH HB))); have n1_ := Aside0.mk (Kd.R_lower ho1 (below_size (upH HB))); have n2_ := Aside0.mk (Kd.R_lower ho2 (below_size (upH HB))); have n3_ := Aside0.mk (blkB BK324 hb); have n4_ := Aside0.mk (blkB BK325 hb); have n5_ := Aside0.mk (below_step (upH HB) hb); clear BK324; clear BK325; clear HB; have HO348 := n0_; have HO351 := n1_; have HO354 := n2_; have BK324 := n3_; have BK325 := n4_; have HB := n5_; clear n0_ n1_ n2_ n3_ n4_ n5_; (try clear hb); (try clear hb2); (try clear hk); (try clear hi); (try clear ho0); (try clear ho1); (try clear ho2)) | ((with_reducible refine gate_dst (N := 7) rfl ?_); (try (refine gate_guard (by rfl) ?_; dsimp only)); refine box_event ?hg (N := 7) ?hd (cs := #[.slice none 0 0, .slice none 0 0, .slice none 0 0]) (t := 33) ?hr ?_; (case hd => rfl); (case hg => rfl); (case hr => first | (go_simp; done) | (go_simp; rfl)); intro gb356 hg w47 hbox hb; have n0_ := Aside0.mk (Kd.R_below (upR HO348.out) hb); have n1_ := Aside0.mk (Kd.R_below (upR HO351.out) hb); have n2_ := Aside0.mk (Kd.R_below (upR HO354.out) hb); have n3_ := Aside0.mk (blkB BK324 hb); have n4_ := Aside0.mk (blkB BK325 hb); have n5_ := Aside0.mk (below_step (upH HB) hb); have n6_ := Aside0.mk (hbox); have n7_ := Aside0.mk ((by rw [hg]; exact (below_size (upH HB)) : w.heap.size ≤ gb356)); have n8_ := Aside0.mk ((by rw [hg]; exact (below_size (upH HB)) : w.heap.size ≤ gb356)); have n9_ := Aside0.mk ((by rw [hg]; exact Nat.ne_of_lt (blk_lt (g := gb324) (o := .cells #[.slice (some ad345) l0_0.length c0_0, .slice A0_1 l0_1.length c0_1, .slice A0_2 l0_2.length c0_2] 33 (0, 0)) (upB BK324)) : gb324 ≠ gb356)); have n10_ := Aside0.mk ((by rw [hg]; exact Nat.ne_of_gt (blk_lt (g := gb324) (o := .cells #[.slice (some ad345) l0_0.length c0_0, .slice A0_1 l0_1.length c0_1, .slice A0_2 l0_2.length c0_2] 33 (0, 0)) (upB BK324)) : gb356 ≠ gb324)); have n11_ := Aside0.mk ((by rw [hg]; exact Nat.ne_of_lt (blk_lt (g := gb325) (o := .cells #[.slice none 0 0, .slice none 0 0, .slice none 0 0] 33 (0, 0)) (upB BK325)) : gb325 ≠ gb356)); have n12_ := Aside0.mk ((by rw [hg]; exact Nat.ne_of_gt (blk_lt (g := gb325) (o := .cells #[.slice none 0 0, .slice none 0 0, .slice none 0 0] 33 (0, 0)) (upB BK325)) : gb356 ≠ gb325)); clear HO348; clear HO351; clear HO354; clear BK324; clear BK325; clear HB; have HO348 := n0_; have HO351 := n1_; have HO354 := n2_; have BK324 := n3_; have BK325 := n4_; have HB := n5_; have BK356 := n6_; have GW356 := n7_; have GE356 := n8_; have NB324_356 := n9_; have NB356_324 := n10_; have NB325_356 := n11_; have NB356_325 := n12_; clear n0_ n1_ n2_ n3_ n4_ n5_ n6_ n7_ n8_ n9_ n10_ n11_ n12_; clear hb hbox hg; obtain ⟨Ao48, co48, eo48⟩ := Kd.R_slice HO348.out; subst eo48; have hnb49 := NB356_324.out; have hnc49 := NB324_356.out; have hnb50 := NB356_325.out; have hnc50 := NB325_356.out; have hcz51_0 := cell0 BK356; have hcz51_1 := cell1 BK356; have hcz51_2 := cell2 BK356; have hfz51_0 := blk_frozen BK356.out 0; have hfz51_1 := blk_frozen BK356.out 1; have hfz51_2 := blk_frozen BK356.out 2; obtain ⟨Ao52, co52, eo52⟩ := Kd.R_slice HO351.out; subst eo52; obtain ⟨Ao53, co53, eo53⟩ := Kd.R_slice HO354.out; subst eo53) | ((with_reducible refine gate_dst (N := 38) rfl ?_); (try (refine gate_guard (by rfl) ?_; dsimp only)); refine Kd.R_lit (Kd.int .i64) _ 3 ?hg (N := 38) ?hd (xs := ([rd l0_0 (ji39)] : List Int)) (inner := [.int .i64 (rd l0_0 (ji39))]) (ok := fun _ => True) (okp := fun _ => True) ?hr ?hp (fun _ hk => hk) trivial (Below.refl _ _) (Nat.le_refl _) (by simp) ?_; (case hd => rfl); (case hg => rfl); (case hr => first | (go_simp; done) | (go_simp; rfl)); (case hp => exact (Reps.one (show Kd.M (Kd.int .i64) _ _ _ (rd l0_0 (ji39)) [.int .i64 (rd l0_0 (ji39))] from rfl) (Reps.none _ _))); intro v358 w54 ho55 hb hg_ hnew_; clear hg_ hnew_; (first | rw [← Ny357.out] at ho55 | (simp only [Int.reduceToNat] at ho55; rw [← Ny357.out] at ho55)); have n0_ := Aside0.mk (Kd.R_elder' (upR (Kd.R_mono (far3 HO348.out BK356) (fun _ h_ => h_.1))) (Kd.R_base ho55) hb); have n1_ := Aside0.mk (Kd.R_elder' (upR (Kd.R_mono (far3 HO351.out BK356) (fun _ h_ => h_.1))) (Kd.R_base ho55) hb); have n2_ := Aside0.mk (Kd.R_below (upR (Kd.R_mono (far3 HO354.out BK356) (fun _ h_ => h_.1))) hb); have n3_ := Aside0.mk (Kd.R_lower (Kd.R_new' (Kd.R_new' ho55 (Kd.R_lt (upR (Kd.R_mono (far3 HO348.out BK356) (fun _ h_ => h_.1))))) (Kd.R_lt (upR (Kd.R_mono (far3 HO351.out BK356) (fun _ h_ => h_.1))))) (below_size (upH HB))); have n4_ := Aside0.mk (blk_below (g := gb324) (o := .cells #[.slice (some ad345) l0_0.length c0_0, .slice A0_1 l0_1.length c0_1, .slice A0_2 l0_2.length c0_2] 33 (0, 0)) (by (with_reducible repeat (first | refine blk_drewN ?_ _ | refine blk_drew ?_ | refine blk_alloc ?_ _)); refine blk_far ?_ NB324_356.out _; (with_reducible repeat (first | refine blk_drewN ?_ _ | refine blk_drew ?_ | refine blk_alloc ?_ _)); refine blk_far ?_ NB324_356.out _; (with_reducible repeat (first | refine blk_drewN ?_ _ | refine blk_drew ?_ | refine blk_alloc ?_ _)); refine blk_far ?_ NB324_356.out _; (with_reducible repeat (first | refine blk_drewN ?_ _ | refine blk_drew ?_ | refine blk_alloc ?_ _)); exact BK324.out) hb); have n5_ := Aside0.mk (blk_below (g := gb325) (o := .cells #[.slice none 0 0, .slice none 0 0, .slice none 0 0] 33 (0, 0)) (by (with_reducible repeat (first | refine blk_drewN ?_ _ | refine blk_drew ?_ | refine blk_alloc ?_ _)); refine blk_far ?_ NB325_356.out _; (with_reducible repeat (first | refine blk_drewN ?_ _ | refine blk_drew ?_ | refine blk_alloc ?_ _)); refine blk_far ?_ NB325_356.out _; (with_reducible repeat (first | refine blk_drewN ?_ _ | refine blk_drew ?_ | refine blk_alloc ?_ _)); refine blk_far ?_ NB325_356.out _; (with_reducible repeat (first | refine blk_drewN ?_ _ | refine blk_drew ?_ | refine blk_alloc ?_ _)); exact BK325.out) hb); have n6_ := Aside0.mk (blk_below (g := gb356) (o := .cells #[.slice Ao48 t346.length co48, .slice Ao52 t349.length co52, .slice Ao53 t352.length co53] 33 (0, 0)) (by (with_reducible repeat (first | refine blk_drewN ?_ _ | refine blk_drew ?_ | refine blk_alloc ?_ _)); refine blk_put (cs := #[.slice Ao48 t346.length co48, .slice Ao52 t349.length co52, .slice none 0 0]) ?_ 2 _ rfl; (with_reducible repeat (first | refine blk_drewN ?_ _ | refine blk_drew ?_ | refine blk_alloc ?_ _)); refine blk_put (cs := #[.slice Ao48 t346.length co48, .slice none 0 0, .slice none 0 0]) ?_ 1 _ rfl; (with_reducible repeat (first | refine blk_drewN ?_ _ | refine blk_drew ?_ | refine blk_alloc ?_ _)); refine blk_put (cs := #[.slice none 0 0, .slice none 0 0, .slice none 0 0]) ?_ 0 _ rfl; (with_reducible repeat (first | refine blk_drewN ?_ _ | refine blk_drew ?_ | refine blk_alloc ?_ _)); exact BK356.out) hb); have n7_ := Aside0.mk (below_step (upH HB) hb); clear HO348; clear HO351; clear HO354; clear BK324; clear BK325; clear BK356; clear HB; have HO348 := n0_; have HO351 := n1_; have HO354 := n2_; have HO359 := n3_; have BK324 := n4_; have BK325 := n5_; have BK356 := n6_; have HB := n7_; clear n0_ n1_ n2_ n3_ n4_ n5_ n6_ n7_; clear hb ho55; have hcz56_0 := cell0 BK356; have hcz56_1 := cell1 BK356; have hcz56_2 := cell2 BK356; have hfz56_0 := blk_frozen BK356.out 0; have hfz56_1 := blk_frozen BK356.out 1; have hfz56_2 := blk_frozen BK356.out 2) | ((with_reducible refine gate_builtin (b := .append) (xs := #[.tmp 38, .tmp 40]) rfl ?_); (try (refine gate_guard (by rfl) ?_; dsimp only)); at_builtin; refine Kd.R_append_rows (Kd.int .i64) (w0 := w) w.heap.size rfl (.tmp 38) (.tmp 40) 30 3 (.int .i64 0) 8 rfl Try.underlying30 info3 rfl (by decide) (by omega) v358 y357 t349 _ _ _ (fun k_ => some k_ ≠ (.slice Ao48 t346.length co48 : Value).ownBlock ∧ some k_ ≠ (.slice Ao52 t349.length co52 : Value).ownBlock) (fun _ => False) rfl rfl ?aO ?aR (fun _ _ h => h) (fun _ h => h.elim) ?aF ?aB ?aS ?aL ?_; (case aR => repeat (first | exact (Kd.R_reads' HO351.out).2.2 | (with_reducible refine Kd.C_alloc ?_ _) | (with_reducible refine Kd.C_drewN ?_ _) | (with_reducible refine Kd.C_drew ?_))); (case aB => exact (upH HB)); (case aF => exact (fun k_ hk => ⟨Kd.fresh' (Kd.R_lt (upR HO348.out)) k_ hk, Kd.fresh' (Kd.R_lt (upR HO351.out)) k_ hk⟩)); (case aO => exact (by (with_reducible repeat (first | apply Kd.R_alloc | apply Kd.R_drewN | apply Kd.R_drew)); exact Kd.R_mono HO359.out (fun _ hk => ⟨hk.1.2, hk.2⟩))); (case aS => exact (below_size (upH HB))); (case aL => have := LMc43.out; omega); intro v361 w57 ho hb hg hat; rw [← Ny360.out] at ho; have n0_ := Aside0.mk (blk_grown (g := gb324) (o := .cells #[.slice (some ad345) l0_0.length c0_0, .slice A0_1 l0_1.length c0_1, .slice A0_2 l0_2.length c0_2] 33 (0, 0)) (upB BK324) hg (Kd.R_ne HO359.out BK324.out (by decide))); have n1_ := Aside0.mk (blk_grown (g := gb325) (o := .cells #[.slice none 0 0, .slice none 0 0, .slice none 0 0] 33 (0, 0)) (upB BK325) hg (Kd.R_ne HO359.out BK325.out (by decide))); have n2_ := Aside0.mk (Kd.R_after (ok := (fun k_ => some k_ ≠ (.slice Ao52 t349.length co52 : Value).ownBlock)) (upR HO348.out) hg hat); have n3_ := Aside0.mk (Kd.R_after (ok := (fun k_ => some k_ ≠ (.slice Ao48 t346.length co48 : Value).ownBlock)) (upR HO351.out) hg hat); have n4_ := Aside0.mk (Kd.R_over' (upR HO354.out) (Kd.R_typed (upR HO359.out)) (by decide) hg); have n5_ := Aside0.mk (blk_grown (g := gb356) (o := .cells #[.slice Ao48 t346.length co48, .slice Ao52 t349.length co52, .slice Ao53 t352.length co53] 33 (0, 0)) (upB BK356) hg (Kd.R_ne HO359.out BK356.out (by decide))); have n6_ := Aside0.mk (hb); have n7_ := Aside0.mk (ho); clear BK324; clear BK325; clear HO348; clear HO351; clear HO354; clear BK356; clear HB; clear HO359; have BK324 := n0_; have BK325 := n1_; have HO348 := n2_; have HO351 := n3_; have HO354 := n4_; have BK356 := n5_; have HB := n6_; have HO362 := n7_; clear n0_ n1_ n2_ n3_ n4_ n5_ n6_ n7_; clear ho hb hg hat; obtain ⟨Ao58, co58, eo58⟩ := Kd.R_slice HO362.out; subst eo58; have hcz59_0 := cell0 BK356; have hcz59_1 := cell1 BK356; have hcz59_2 := cell2 BK356; have hfz59_0 := blk_frozen BK356.out 0; have hfz59_1 := blk_frozen BK356.out 1; have hfz59_2 := blk_frozen BK356.out 2; have hcz60_0 := cell0 BK325; have hcz60_1 := cell1 BK325; have hcz60_2 := cell2 BK325; have hfz60_0 := blk_frozen BK325.out 0; have hfz60_1 := blk_frozen BK325.out 1; have hfz60_2 := blk_frozen BK325.out 2))
        refine bodyPost_ret (results_ctt rfl _ _ gb325 33 #[.slice Ao48 t346.length co48, .slice Ao58 y360.length co58, .slice Ao53 t352.length co53] (0, 0) _ rfl (by (with_reducible repeat (first | refine blk_drewN ?_ _ | refine blk_drew ?_ | refine blk_alloc ?_ _)); refine blk_put (cs := #[.slice Ao48 t346.length co48, .slice Ao58 y360.length co58, .slice none 0 0]) ?_ 2 _ rfl; (with_reducible repeat (first | refine blk_drewN ?_ _ | refine blk_drew ?_ | refine blk_alloc ?_ _)); refine blk_put (cs := #[.slice Ao48 t346.length co48, .slice none 0 0, .slice none 0 0]) ?_ 1 _ rfl; (with_reducible repeat (first | refine blk_drewN ?_ _ | refine blk_drew ?_ | refine blk_alloc ?_ _)); refine blk_put (cs := #[.slice none 0 0, .slice none 0 0, .slice none 0 0]) ?_ 0 _ rfl; (with_reducible repeat (first | refine blk_drewN ?_ _ | refine blk_drew ?_ | refine blk_alloc ?_ _)); refine blk_far ?_ NB325_356.out _; (with_reducible repeat (first | refine blk_drewN ?_ _ | refine blk_drew ?_ | refine blk_alloc ?_ _)); exact BK325.out) Try.underlying33 rfl (by kernel_rfl)) rfl ?_
        exact ⟨_, _, _, by first | rfl | (simp [errW_none, errW_some] <;> rfl) | (simp only [← hji39]; first | rfl | (simp [errW_none, errW_some] <;> rfl)) | (simp [*, errW_none, errW_some] <;> rfl), by (with_reducible repeat (first | apply Kd.R_alloc | apply Kd.R_drewN | apply Kd.R_drew)); exact Kd.R_mono (Kd.R_far (p := ⟨gb325, 2, none⟩) (Kd.R_far (p := ⟨gb325, 1, none⟩) (Kd.R_far (p := ⟨gb325, 0, none⟩) (Kd.R_far (p := ⟨gb356, 1, none⟩) (Kd.R_types (Kd.R_types HO348.out BK356.out (by decide)) BK325.out (by decide)) (fun _ hk => hk.1.2) (.slice Ao58 y360.length co58)) (fun _ hk => hk.2) (.slice Ao48 t346.length co48)) (fun _ hk => hk.2) (.slice Ao58 y360.length co58)) (fun _ hk => hk.2) (.slice Ao53 t352.length co53)) (fun _ hk => hk.1.1.2), by (with_reducible repeat (first | apply Kd.R_alloc | apply Kd.R_drewN | apply Kd.R_drew)); exact Kd.R_mono (Kd.R_far (p := ⟨gb325, 2, none⟩) (Kd.R_far (p := ⟨gb325, 1, none⟩) (Kd.R_far (p := ⟨gb325, 0, none⟩) (Kd.R_far (p := ⟨gb356, 1, none⟩) (Kd.R_types (Kd.R_types HO362.out BK356.out (by decide)) BK325.out (by decide)) (fun _ hk => hk.1.2) (.slice Ao58 y360.length co58)) (fun _ hk => hk.2) (.slice Ao48 t346.length co48)) (fun _ hk => hk.2) (.slice Ao58 y360.length co58)) (fun _ hk => hk.2) (.slice Ao53 t352.length co53)) (fun _ hk => hk.1.1.1), by (with_reducible repeat (first | apply Kd.R_alloc | apply Kd.R_drewN | apply Kd.R_drew)); exact Kd.R_mono (Kd.R_far (p := ⟨gb325, 2, none⟩) (Kd.R_far (p := ⟨gb325, 1, none⟩) (Kd.R_far (p := ⟨gb325, 0, none⟩) (Kd.R_far (p := ⟨gb356, 1, none⟩) (Kd.R_types (Kd.R_types HO354.out BK356.out (by decide)) BK325.out (by decide)) (fun _ hk => hk.1.2) (.slice Ao58 y360.length co58)) (fun _ hk => hk.2) (.slice Ao48 t346.length co48)) (fun _ hk => hk.2) (.slice Ao58 y360.length co58)) (fun _ hk => hk.2) (.slice Ao53 t352.length co53)) (fun _ hk => trivial), by repeat (first | (with_reducible first | exact HB.out | apply below_alloc | apply pw_below_drewN | apply below_drew1 | refine below_set ?_ GE324.out | refine below_set ?_ GE325.out | refine below_set ?_ GE356.out) | exact HB.out)⟩
       ·
        rw [if_neg c43] at H
        exact absurd H (by simp)
      ·
       rw [if_neg c41] at H
       exact absurd H (by simp)
     ·
      rw [if_neg c40] at H
      exact absurd H (by simp)
    ·
     rw [if_neg c38] at H
     have c38b0 : (t326 == 0) = false := beq_eq_false_iff_ne.mpr c38
     have c38b1 : (t326 != 0) = true := bne_iff_ne.mpr c38
     simp only [Option.some.injEq, Prod.mk.injEq] at H
     obtain ⟨rfl, rfl, rfl, rfl, rfl⟩ := H
     have hnb61 := NB325_324.out
     have hnc61 := NB324_325.out
     have hcz62_0 := cell0 BK325
     have hcz62_1 := cell1 BK325
     have hcz62_2 := cell2 BK325
     have hfz62_0 := blk_frozen BK325.out 0
     have hfz62_1 := blk_frozen BK325.out 1
     have hfz62_2 := blk_frozen BK325.out 2
     go_wp2
     refine bodyPost_ret (results_ctt rfl _ _ gb325 33 #[.slice none 0 0, .slice none 0 0, .slice none 0 0] (0, 0) _ rfl (by (with_reducible repeat (first | refine blk_drewN ?_ _ | refine blk_drew ?_ | refine blk_alloc ?_ _)); refine blk_put (cs := #[.slice none 0 0, .slice none 0 0, .slice none 0 0]) ?_ 2 _ rfl; (with_reducible repeat (first | refine blk_drewN ?_ _ | refine blk_drew ?_ | refine blk_alloc ?_ _)); refine blk_put (cs := #[.slice none 0 0, .slice none 0 0, .slice none 0 0]) ?_ 1 _ rfl; (with_reducible repeat (first | refine blk_drewN ?_ _ | refine blk_drew ?_ | refine blk_alloc ?_ _)); refine blk_put (cs := #[.slice none 0 0, .slice none 0 0, .slice none 0 0]) ?_ 0 _ rfl; (with_reducible repeat (first | refine blk_drewN ?_ _ | refine blk_drew ?_ | refine blk_alloc ?_ _)); exact BK325.out) Try.underlying33 rfl (by kernel_rfl)) rfl ?_
     exact ⟨_, _, _, by first | rfl | (simp [errW_none, errW_some] <;> rfl) | (simp [*, errW_none, errW_some] <;> rfl), by first | exact Kd.R_nil _ _ _ _ _ | exact Kd.N_nil _ _ _ _ _ | exact Kd.V_nil _ _ _ _ _ | exact Kd.Q_nil _ _ _ _ _ | exact Kd.S_nil _ _ _ _ _, by first | exact Kd.R_nil _ _ _ _ _ | exact Kd.N_nil _ _ _ _ _ | exact Kd.V_nil _ _ _ _ _ | exact Kd.Q_nil _ _ _ _ _ | exact Kd.S_nil _ _ _ _ _, by first | exact Kd.R_nil _ _ _ _ _ | exact Kd.N_nil _ _ _ _ _ | exact Kd.V_nil _ _ _ _ _ | exact Kd.Q_nil _ _ _ _ _ | exact Kd.S_nil _ _ _ _ _, by repeat (first | (with_reducible first | exact HB.out | apply below_alloc | apply pw_below_drewN | apply below_drew1 | refine below_set ?_ GE324.out | refine below_set ?_ GE325.out) | exact HB.out)⟩

end Go.Proofs.Ytnheknlmmmkbpaa.X
