/- What Go functions of this seat compute, told as Lean functions, and that each call of the Go code comes to that answer; for a law: its row, for every input. Written by a program of the session. -/
import Derived.Test.YtaofihdmgdpenaaX0
import Derived.Test.YtaofihdmgdpenaaX31
namespace Go.Proofs.Ytaofihdmgdpenaa.X
open Go.RowKit Go.Proofs.YtaofihdmgdpenaaW.PrintWords Go.Proofs.YtaofihdmgdpenaaW.PrintLast Go.Proofs.YtaofihdmgdpenaaW.PrintMore
attribute [local go_sem] max2_int min2_int max_two min_two max_three min_three max_four min_four   -- for this text's walks alone
set_option linter.unusedVariables false
set_option linter.unusedSimpArgs false

/-! ### headgateref07_Remove: function 21 -/
mutual
def headgateref07_Remove.j0 : Nat → Int → Int → Bool → List Int → List Int → List Bool → Option (List Int × List Int × List Bool × Int)
 | 0, _, _, _, _, _, _ => none
 | k + 1, x1, x7, x20, x231000, x231001, x231002 => if x20 = true then (headgateref07_Remove.j1 k x1 6 x231000 x231001 x231002) else (headgateref07_Remove.j1 k x1 x7 x231000 x231001 x231002)
def headgateref07_Remove.j1 : Nat → Int → Int → List Int → List Int → List Bool → Option (List Int × List Int × List Bool × Int)
 | 0, _, _, _, _, _ => none
 | k + 1, x1, x7, x231000, x231001, x231002 => if x7 = 0 then ((headgateref07_own.f x231000 x231001 x231002).bind fun bt234 => ((headgateref07_without.f k x231000 x1).bind fun t244 => ((headgateref07_without.f k x231001 x1).bind fun t247 => (if 0 ≤ x1 then (if x1 < (bt234.2.2.length : Int) then (some (t244, t247, (bt234.2.2.set (x1 : Int).toNat false), 0)) else (none)) else (none))))) else (some (([] : List Int), ([] : List Int), ([] : List Bool), x7))
end
def headgateref07_Remove.f (k : Nat) (l0_0 : List Int) (l0_1 : List Int) (l0_2 : List Bool) (a1 : Int) : Option (List Int × List Int × List Bool × Int) := (headgateref07_Where.f k l0_0 l0_1 l0_2 a1).bind fun bt232 => (if bt232.2 = 0 then (headgateref07_Remove.j0 k a1 bt232.2 (bt232.1 == 0) l0_0 l0_1 l0_2) else (headgateref07_Remove.j0 k a1 bt232.2 false l0_0 l0_1 l0_2))
theorem headgateref07_Remove.mono_l : ∀ k, (∀ y0 y1 y2 y3 y4 y5, LeO (headgateref07_Remove.j0 k y0 y1 y2 y3 y4 y5) (headgateref07_Remove.j0 (k + 1) y0 y1 y2 y3 y4 y5)) ∧ (∀ y0 y1 y2 y3 y4, LeO (headgateref07_Remove.j1 k y0 y1 y2 y3 y4) (headgateref07_Remove.j1 (k + 1) y0 y1 y2 y3 y4))
 | 0 => ⟨fun _ _ _ _ _ _ r h => by simp [headgateref07_Remove.j0] at h, fun _ _ _ _ _ r h => by simp [headgateref07_Remove.j1] at h⟩
 | k + 1 => by
  obtain ⟨ih0, ih1⟩ := headgateref07_Remove.mono_l k
  refine ⟨?_, ?_⟩
  ·
   intro y0 y1 y2 y3 y4 y5
   unfold headgateref07_Remove.j0
   repeat' first
   | (with_reducible exact ih0 _ _ _ _ _ _)
   | (with_reducible exact ih1 _ _ _ _ _)
   | (with_reducible exact headgateref07_Where.mono _ _ _ _ _)
   | (with_reducible exact headgateref07_without.mono _ _ _)
   | (with_reducible exact LeO.refl _)
   | (with_reducible exact LeO.none _)
   | (with_reducible refine LeO.ite ?_ ?_)
   | (with_reducible refine LeO.bind ?_ (fun _ => ?_))
   | exact ih0 _ _ _ _ _ _
   | exact ih1 _ _ _ _ _
   | exact headgateref07_Where.mono _ _ _ _ _
   | exact headgateref07_without.mono _ _ _
   | exact LeO.none _
   | refine LeO.ite ?_ ?_
   | refine LeO.bind ?_ (fun _ => ?_)
  ·
   intro y0 y1 y2 y3 y4
   unfold headgateref07_Remove.j1
   repeat' first
   | (with_reducible exact ih0 _ _ _ _ _ _)
   | (with_reducible exact ih1 _ _ _ _ _)
   | (with_reducible exact headgateref07_Where.mono _ _ _ _ _)
   | (with_reducible exact headgateref07_without.mono _ _ _)
   | (with_reducible exact LeO.refl _)
   | (with_reducible exact LeO.none _)
   | (with_reducible refine LeO.ite ?_ ?_)
   | (with_reducible refine LeO.bind ?_ (fun _ => ?_))
   | exact ih0 _ _ _ _ _ _
   | exact ih1 _ _ _ _ _
   | exact headgateref07_Where.mono _ _ _ _ _
   | exact headgateref07_without.mono _ _ _
   | exact LeO.none _
   | refine LeO.ite ?_ ?_
   | refine LeO.bind ?_ (fun _ => ?_)
theorem headgateref07_Remove.mono : ∀ a0 a1 a2 a3 k, LeO (headgateref07_Remove.f k a0 a1 a2 a3) (headgateref07_Remove.f (k + 1) a0 a1 a2 a3) := by
 intro a0 a1 a2 a3 k
 obtain ⟨ih0, ih1⟩ := headgateref07_Remove.mono_l k
 unfold headgateref07_Remove.f
 repeat' first
   | (with_reducible exact ih0 _ _ _ _ _ _)
   | (with_reducible exact ih1 _ _ _ _ _)
   | (with_reducible exact headgateref07_Where.mono _ _ _ _ _)
   | (with_reducible exact headgateref07_without.mono _ _ _)
   | (with_reducible exact LeO.refl _)
   | (with_reducible exact LeO.none _)
   | (with_reducible refine LeO.ite ?_ ?_)
   | (with_reducible refine LeO.bind ?_ (fun _ => ?_))
   | exact ih0 _ _ _ _ _ _
   | exact ih1 _ _ _ _ _
   | exact headgateref07_Where.mono _ _ _ _ _
   | exact headgateref07_without.mono _ _ _
   | exact LeO.none _
   | refine LeO.ite ?_ ?_
   | refine LeO.bind ?_ (fun _ => ?_)
def headgateref07_Remove.T7 : Bool × List (List Nat × List Nat) := (true, [([], []), ([0], [0]), ([], []), ([1, 2], [1, 2]), ([], []), ([4], [4]), ([], []), ([5, 6, 3], [5, 6]), ([0, 1, 2, 3], []), ([8, 3, 7, 0, 1, 2, 3], [3, 8]), ([0, 1, 2, 3, 4, 5, 6, 7, 8, 9], []), ([10, 7, 9, 0, 1, 2, 3, 4, 5, 6, 7, 8, 9], [7, 10])])
def headgateref07_Remove.B7 : List Nat := [0, 1, 0, 7, 0, 16, 0, 127, 15, 511, 1023, 2047]
theorem headgateref07_Remove.tab7 : rtab .any (opsOf Try.f21 7) = headgateref07_Remove.T7 := by kernel_rfl
theorem headgateref07_Remove.bits7 : waitsOk headgateref07_Remove.T7.2 headgateref07_Remove.B7 = true := by kernel_rfl
set_option maxHeartbeats 2000000 in
set_option maxRecDepth 100000 in
theorem headgateref07_Remove.calls (k : Nat) (A0_0 : Option Addr) (c0_0 : Nat) (l0_0 : List Int) (A0_1 : Option Addr) (c0_1 : Nat) (l0_1 : List Int) (A0_2 : Option Addr) (c0_2 : Nat) (l0_2 : List Bool) (a1 : Int) (r1 : List Int) (r2 : List Int) (r3 : List Bool) (r4 : Int) (w : World) (hr0_0 : Kd.C (Kd.int .i64) w A0_0 l0_0.length l0_0) (hc0_0 : l0_0.length ≤ c0_0) (hr0_1 : Kd.C (Kd.int .i64) w A0_1 l0_1.length l0_1) (hc0_1 : l0_1.length ≤ c0_1) (hr0_2 : Kd.C Kd.bool w A0_2 l0_2.length l0_2) (hc0_2 : l0_2.length ≤ c0_2) (h : headgateref07_Remove.f k l0_0 l0_1 l0_2 a1 = some (r1, r2, r3, r4)) :
  Calls Try.prog 21 #[.agg #[.slice A0_0 l0_0.length c0_0, .slice A0_1 l0_1.length c0_1, .slice A0_2 l0_2.length c0_2], .int .i64 a1] w fun e w' => ∃ v0_ v1_ v2_ : Value, e = .returned (.tuple #[.agg #[v0_, v1_, v2_], .int .i64 r4]) ∧ Kd.R (Kd.int .i64) 3 w' w.heap.size (fun k_ => some k_ ≠ (v1_ : Value).ownBlock) v0_ r1 ∧ Kd.R (Kd.int .i64) 3 w' w.heap.size (fun k_ => some k_ ≠ (v0_ : Value).ownBlock) v1_ r2 ∧ Kd.R Kd.bool 4 w' w.heap.size (fun _ => True) v2_ r3 ∧ Below w.heap.size w w' := by
 have hu25 := Try.underlying25
 have HR0_0 := Aside0.mk hr0_0
 have HC0_0 := Aside0.mk hc0_0
 clear hr0_0 hc0_0
 have HR0_1 := Aside0.mk hr0_1
 have HC0_1 := Aside0.mk hc0_1
 clear hr0_1 hc0_1
 have HR0_2 := Aside0.mk hr0_2
 have HC0_2 := Aside0.mk hc0_2
 clear hr0_2 hc0_2
 have HB := Aside0.mk (Below.refl w.heap.size w)
 have H : ((headgateref07_Where.f k l0_0 l0_1 l0_2 a1).bind fun bt232 => (if bt232.2 = 0 then (headgateref07_Remove.j0 k a1 bt232.2 (bt232.1 == 0) l0_0 l0_1 l0_2) else (headgateref07_Remove.j0 k a1 bt232.2 false l0_0 l0_1 l0_2))) = some (r1, r2, r3, r4) := h
 clear h
 replace H := Option.bind_eq_some_iff.mp H
 obtain ⟨⟨t232, t233⟩, A30, H⟩ := H
 replace H : (if t233 = 0 then (headgateref07_Remove.j0 k a1 t233 (t232 == 0) l0_0 l0_1 l0_2) else (headgateref07_Remove.j0 k a1 t233 false l0_0 l0_1 l0_2)) = some (r1, r2, r3, r4) := H
 have A3 := Aside0.mk A30
 clear A30
 have HC4 := Aside0.mk H
 clear H
 go_enter Try.func21, Try.ntmps21
 go_upto_region 2 with (first | ((with_reducible refine gate_dst (N := 2) rfl ?_); refine box_event ?hg (N := 2) ?hd (cs := #[.slice A0_0 l0_0.length c0_0, .slice A0_1 l0_1.length c0_1, .slice A0_2 l0_2.length c0_2]) (t := 25) ?hr ?_; (case hd => rfl); (case hg => rfl); (case hr => first | (go_simp; done) | (go_simp; rfl)); intro gb230 hg w5 hbox hb; have n0_ := Aside0.mk (below_step (upH HB) hb); have n1_ := Aside0.mk (hbox); have n2_ := Aside0.mk ((by rw [hg]; exact (below_size (upH HB)) : w.heap.size ≤ gb230)); have n3_ := Aside0.mk ((by rw [hg]; exact (below_size (upH HB)) : w.heap.size ≤ gb230)); clear HB; have HB := n0_; have BK230 := n1_; have GW230 := n2_; have GE230 := n3_; clear n0_ n1_ n2_ n3_; clear hb hbox hg) | ((with_reducible refine gate_dst (N := 4) rfl ?_); refine box_event ?hg (N := 4) ?hd (cs := #[.slice none 0 0, .slice none 0 0, .slice none 0 0]) (t := 25) ?hr ?_; (case hd => rfl); (case hg => rfl); (case hr => first | (go_simp; done) | (go_simp; rfl)); intro gb231 hg w6 hbox hb; have n0_ := Aside0.mk (blkB BK230 hb); have n1_ := Aside0.mk (below_step (upH HB) hb); have n2_ := Aside0.mk (hbox); have n3_ := Aside0.mk ((by rw [hg]; exact (below_size (upH HB)) : w.heap.size ≤ gb231)); have n4_ := Aside0.mk ((by rw [hg]; exact (below_size (upH HB)) : w.heap.size ≤ gb231)); have n5_ := Aside0.mk ((by rw [hg]; exact Nat.ne_of_lt (blk_lt (g := gb230) (o := .cells #[.slice A0_0 l0_0.length c0_0, .slice A0_1 l0_1.length c0_1, .slice A0_2 l0_2.length c0_2] 25 (0, 0)) (upB BK230)) : gb230 ≠ gb231)); have n6_ := Aside0.mk ((by rw [hg]; exact Nat.ne_of_gt (blk_lt (g := gb230) (o := .cells #[.slice A0_0 l0_0.length c0_0, .slice A0_1 l0_1.length c0_1, .slice A0_2 l0_2.length c0_2] 25 (0, 0)) (upB BK230)) : gb231 ≠ gb230)); clear BK230; clear HB; have BK230 := n0_; have HB := n1_; have BK231 := n2_; have GW231 := n3_; have GE231 := n4_; have NB230_231 := n5_; have NB231_230 := n6_; clear n0_ n1_ n2_ n3_ n4_ n5_ n6_; clear hb hbox hg; have hnb7 := NB230_231.out; have hnc7 := NB231_230.out; have hcz8_0 := cell0 BK230; have hcz8_1 := cell1 BK230; have hcz8_2 := cell2 BK230; have hfz8_0 := blk_frozen BK230.out 0; have hfz8_1 := blk_frozen BK230.out 1; have hfz8_2 := blk_frozen BK230.out 2) | ((with_reducible refine gate_callee (f := 25) rfl ?_); refine goesL_ (some 12) rfl rfl Try.func25 (by kernel_rfl) rfl #[.agg #[.slice A0_0 l0_0.length c0_0, .slice A0_1 l0_1.length c0_1, .slice A0_2 l0_2.length c0_2], .int .i64 a1] rfl (args_ (p := _)) ?_; (with_reducible refine (headgateref07_Where.calls k _ _ l0_0 _ _ l0_1 _ _ l0_2 a1 t232 t233 _ ?side1 ?side2 ?side3 ?side4 ?side5 ?side6 A3.out).mono ?_); (case side1 => exact upc (Kd.C_below HR0_0.out HB.out)); (case side2 => exact HC0_0.out); (case side3 => exact upc (Kd.C_below HR0_1.out HB.out)); (case side4 => exact HC0_1.out); (case side5 => exact upc (Kd.C_below HR0_2.out HB.out)); (case side6 => exact HC0_2.out); rintro e w9 ⟨rfl, hb⟩; refine ⟨_, rfl, ?_⟩; have n0_ := Aside0.mk (blkB BK230 hb); have n1_ := Aside0.mk (blkB BK231 hb); have n2_ := Aside0.mk (below_step (upH HB) hb); clear BK230; clear BK231; clear HB; have BK230 := n0_; have BK231 := n1_; have HB := n2_; clear n0_ n1_ n2_; (try clear hb); (try clear hb2); (try clear hk); (try clear hi)))
 (try simp only [Act.put, List.setIfInBounds_toArray, List.set_cons_zero, List.set_cons_succ])
 go_cut [20] (fun v20 wc => ∃ (kq : Nat) (x20_3 : Bool), v20 = .bool x20_3 ∧ Aside0 (headgateref07_Remove.j0 kq a1 t233 x20_3 l0_0 l0_1 l0_2 = some (r1, r2, r3, r4)) ∧ Aside0 (kq ≤ k) ∧ Aside0 (wc.heap[gb230]? = some (.cells #[(.slice A0_0 l0_0.length c0_0), (.slice A0_1 l0_1.length c0_1), (.slice A0_2 l0_2.length c0_2)] 25 (0, 0))) ∧ Aside0 (wc.heap[gb231]? = some (.cells #[(.slice none 0 0), (.slice none 0 0), (.slice none 0 0)] 25 (0, 0))) ∧ Aside0 (Below w.heap.size w wc))
 case first =>
  have H := HC4.out
  clear HC4
  by_cases c10 : t233 = 0
  ·
   rw [if_pos c10] at H
   have c10b0 : (t233 == 0) = true := beq_iff_eq.mpr c10
   have c10b1 : (t233 != 0) = false := bne_eq_false_iff_eq.mpr c10
   clear c10
   (first | rw [c10b0] | (simp only [i64_w, i32_w]; rw [c10b0]) | skip)
   have H' := Aside0.mk H
   clear H
   go_wp2
   go_meet
   case rel => exact ⟨_, ((t232 == 0)), (by first | rfl | (simp; done) | (simp [*]; done)), H', ⟨by first | omega | exact Nat.le_refl _⟩, ⟨upB BK230⟩, ⟨upB BK231⟩, ⟨upH HB⟩⟩
  ·
   rw [if_neg c10] at H
   have c10b0 : (t233 == 0) = false := beq_eq_false_iff_ne.mpr c10
   have c10b1 : (t233 != 0) = true := bne_iff_ne.mpr c10
   (first | rw [c10b0] | (simp only [i64_w, i32_w]; rw [c10b0]) | skip)
   have H' := Aside0.mk H
   clear H
   go_wp2
   go_meet
   case rel => exact ⟨_, (false), (by first | rfl | (simp; done) | (simp [*]; done)), H', ⟨by first | omega | exact Nat.le_refl _⟩, ⟨upB BK230⟩, ⟨upB BK231⟩, ⟨upH HB⟩⟩
 case rest =>
  clear HC4
  try clear c1
  try clear c2
  try clear p2
  try clear c7
  try clear c10
  try clear c10b0
  try clear c10b1
  try clear hcz8_0
  try clear hcz8_1
  try clear hcz8_2
  try clear hfz8_0
  try clear hfz8_1
  try clear hfz8_2
  obtain ⟨kq, x20_3, rfl, HA, HJ3, BK230, BK231, HB⟩ := hcut
  cases kq with
  | zero => exact absurd HA.out (by simp [headgateref07_Remove.j0])
  | succ kj3 =>
   have H := HA.out
   clear HA
   simp only [headgateref07_Remove.j0] at H
   have HC11 := Aside0.mk H
   clear H
   go_upto_if 20 with (fail)
   go_cut [7] (fun v7 wc => ∃ (kq : Nat) (x7_10 : Int), v7 = .int .i64 x7_10 ∧ Aside0 (headgateref07_Remove.j1 kq a1 x7_10 l0_0 l0_1 l0_2 = some (r1, r2, r3, r4)) ∧ Aside0 (kq ≤ kj3) ∧ Aside0 (wc.heap[gb230]? = some (.cells #[(.slice A0_0 l0_0.length c0_0), (.slice A0_1 l0_1.length c0_1), (.slice A0_2 l0_2.length c0_2)] 25 (0, 0))) ∧ Aside0 (wc.heap[gb231]? = some (.cells #[(.slice none 0 0), (.slice none 0 0), (.slice none 0 0)] 25 (0, 0))) ∧ Aside0 (Below w.heap.size w wc))
   case first =>
    have H := HC11.out
    clear HC11
    by_cases c12 : x20_3 = true
    ·
     subst c12
     have H1 : (headgateref07_Remove.j1 kj3 a1 6 l0_0 l0_1 l0_2) = some (r1, r2, r3, r4) := by rw [if_pos rfl] at H; exact H
     clear H
     have H := H1
     clear H1
     have H' := Aside0.mk H
     clear H
     go_wp2
     go_meet
     case rel => exact ⟨_, (6), (by first | rfl | (simp; done) | (simp [*]; done)), H', ⟨by have := HJ3.out; first | omega | exact Nat.le_refl _⟩, ⟨upB BK230⟩, ⟨upB BK231⟩, ⟨upH HB⟩⟩
    ·
     replace c12 := Bool.eq_false_iff.mpr c12
     subst c12
     have H1 : (headgateref07_Remove.j1 kj3 a1 t233 l0_0 l0_1 l0_2) = some (r1, r2, r3, r4) := by rw [if_neg (show ¬ (false = true) by decide)] at H; exact H
     clear H
     have H := H1
     clear H1
     have H' := Aside0.mk H
     clear H
     go_wp2
     go_meet
     case rel => exact ⟨_, (t233), (by first | rfl | (simp; done) | (simp [*]; done)), H', ⟨by have := HJ3.out; first | omega | exact Nat.le_refl _⟩, ⟨upB BK230⟩, ⟨upB BK231⟩, ⟨upH HB⟩⟩
   case rest =>
    clear HC11
    try clear c1
    try clear c2
    try clear p2
    try clear c7
    try clear c10
    try clear c10b0
    try clear c10b1
    try clear c12
    try clear hcz8_0
    try clear hcz8_1
    try clear hcz8_2
    try clear hfz8_0
    try clear hfz8_1
    try clear hfz8_2
    try clear p2
    obtain ⟨kq, x7_10, rfl, HA, HJ10, BK230, BK231, HB⟩ := hcut
    cases kq with
    | zero => exact absurd HA.out (by simp [headgateref07_Remove.j1])
    | succ kj10 =>
     have H := HA.out
     clear HA
     simp only [headgateref07_Remove.j1] at H
     by_cases c13 : x7_10 = 0
     ·
      rw [if_pos c13] at H
      have c13b0 : (x7_10 == 0) = true := beq_iff_eq.mpr c13
      have c13b1 : (x7_10 != 0) = false := bne_eq_false_iff_eq.mpr c13
      clear c13
      replace H := Option.bind_eq_some_iff.mp H
      obtain ⟨⟨t234, t237, t240⟩, A140, H⟩ := H
      replace H : ((headgateref07_without.f kj10 l0_0 a1).bind fun t244 => ((headgateref07_without.f kj10 l0_1 a1).bind fun t247 => (if 0 ≤ a1 then (if a1 < (t240.length : Int) then (some (t244, t247, (t240.set (a1 : Int).toNat false), 0)) else (none)) else (none)))) = some (r1, r2, r3, r4) := H
      have A14 := Aside0.mk A140
      clear A140
      replace H := Option.bind_eq_some_iff.mp H
      obtain ⟨t244, A150, H⟩ := H
      replace H : ((headgateref07_without.f kj10 l0_1 a1).bind fun t247 => (if 0 ≤ a1 then (if a1 < (t240.length : Int) then (some (t244, t247, (t240.set (a1 : Int).toNat false), 0)) else (none)) else (none))) = some (r1, r2, r3, r4) := H
      have A15 := Aside0.mk A150
      clear A150
      replace H := Option.bind_eq_some_iff.mp H
      obtain ⟨t247, A160, H⟩ := H
      replace H : (if 0 ≤ a1 then (if a1 < (t240.length : Int) then (some (t244, t247, (t240.set (a1 : Int).toNat false), 0)) else (none)) else (none)) = some (r1, r2, r3, r4) := H
      have A16 := Aside0.mk A160
      clear A160
      by_cases c17 : 0 ≤ a1
      ·
       rw [if_pos c17] at H
       have c17b0 : decide (0 ≤ a1) = true := decide_eq_true c17
       clear c17
       by_cases c18 : a1 < (t240.length : Int)
       ·
        rw [if_pos c18] at H
        have c18b0 : decide (a1 < (t240.length : Int)) = true := decide_eq_true c18
        clear c18
        obtain ⟨y250, hy250⟩ : ∃ y_ : List Bool, y_ = (t240.set (a1 : Int).toNat false) := ⟨_, rfl⟩
        replace H : (some (t244, t247, y250, 0)) = some (r1, r2, r3, r4) := by first | (rw [hy250]; with_reducible exact H) | (have H2_ := (Option.bind_some _ _).symm.trans H; rw [hy250]; with_reducible exact H2_) | (have H2_ := (Option.bind_some _ _).symm.trans H; with_reducible exact H2_) | with_reducible exact H | (rw [hy250]; exact H) | exact H
        have Ny250 := Aside0.mk hy250
        clear hy250
        simp only [Option.some.injEq, Prod.mk.injEq] at H
        obtain ⟨rfl, rfl, rfl, rfl⟩ := H
        have hnb20 := NB230_231.out
        have hnc20 := NB231_230.out
        have hcz21_0 := cell0 BK230
        have hcz21_1 := cell1 BK230
        have hcz21_2 := cell2 BK230
        have hfz21_0 := blk_frozen BK230.out 0
        have hfz21_1 := blk_frozen BK230.out 1
        have hfz21_2 := blk_frozen BK230.out 2
        try go_wp2_with (first | ((with_reducible refine gate_callee (f := 46) rfl ?_); refine goesL_ (some 26) rfl rfl Try.func46 (by kernel_rfl) rfl #[.agg #[.slice A0_0 l0_0.length c0_0, .slice A0_1 l0_1.length c0_1, .slice A0_2 l0_2.length c0_2]] rfl (args_ (p := _)) ?_; (with_reducible refine (headgateref07_own.calls _ _ l0_0 _ _ l0_1 _ _ l0_2 t234 t237 t240 _ ?side1 ?side2 ?side3 ?side4 ?side5 ?side6 A14.out).mono ?_); (case side1 => exact upc (Kd.C_below HR0_0.out HB.out)); (case side2 => exact HC0_0.out); (case side3 => exact upc (Kd.C_below HR0_1.out HB.out)); (case side4 => exact HC0_1.out); (case side5 => exact upc (Kd.C_below HR0_2.out HB.out)); (case side6 => exact HC0_2.out); rintro e w22 ⟨v235, v238, v241, rfl, ho0, ho1, ho2, hb⟩; refine ⟨_, rfl, ?_⟩; have n0_ := Aside0.mk (Kd.R_lower ho0 (below_size (upH HB))); have n1_ := Aside0.mk (Kd.R_lower ho1 (below_size (upH HB))); have n2_ := Aside0.mk (Kd.R_lower ho2 (below_size (upH HB))); have n3_ := Aside0.mk (blkB BK230 hb); have n4_ := Aside0.mk (blkB BK231 hb); have n5_ := Aside0.mk (below_step (upH HB) hb); clear BK230; clear BK231; clear HB; have HO236 := n0_; have HO239 := n1_; have HO242 := n2_; have BK230 := n3_; have BK231 := n4_; have HB := n5_; clear n0_ n1_ n2_ n3_ n4_ n5_; (try clear hb); (try clear hb2); (try clear hk); (try clear hi); (try clear ho0); (try clear ho1); (try clear ho2)) | ((with_reducible refine gate_dst (N := 8) rfl ?_); refine box_event ?hg (N := 8) ?hd (cs := #[.slice none 0 0, .slice none 0 0, .slice none 0 0]) (t := 25) ?hr ?_; (case hd => rfl); (case hg => rfl); (case hr => first | (go_simp; done) | (go_simp; rfl)); intro gb243 hg w23 hbox hb; have n0_ := Aside0.mk (Kd.R_below (upR HO236.out) hb); have n1_ := Aside0.mk (Kd.R_below (upR HO239.out) hb); have n2_ := Aside0.mk (Kd.R_below (upR HO242.out) hb); have n3_ := Aside0.mk (blkB BK230 hb); have n4_ := Aside0.mk (blkB BK231 hb); have n5_ := Aside0.mk (below_step (upH HB) hb); have n6_ := Aside0.mk (hbox); have n7_ := Aside0.mk ((by rw [hg]; exact (below_size (upH HB)) : w.heap.size ≤ gb243)); have n8_ := Aside0.mk ((by rw [hg]; exact (below_size (upH HB)) : w.heap.size ≤ gb243)); have n9_ := Aside0.mk ((by rw [hg]; exact Nat.ne_of_lt (blk_lt (g := gb230) (o := .cells #[.slice A0_0 l0_0.length c0_0, .slice A0_1 l0_1.length c0_1, .slice A0_2 l0_2.length c0_2] 25 (0, 0)) (upB BK230)) : gb230 ≠ gb243)); have n10_ := Aside0.mk ((by rw [hg]; exact Nat.ne_of_gt (blk_lt (g := gb230) (o := .cells #[.slice A0_0 l0_0.length c0_0, .slice A0_1 l0_1.length c0_1, .slice A0_2 l0_2.length c0_2] 25 (0, 0)) (upB BK230)) : gb243 ≠ gb230)); have n11_ := Aside0.mk ((by rw [hg]; exact Nat.ne_of_lt (blk_lt (g := gb231) (o := .cells #[.slice none 0 0, .slice none 0 0, .slice none 0 0] 25 (0, 0)) (upB BK231)) : gb231 ≠ gb243)); have n12_ := Aside0.mk ((by rw [hg]; exact Nat.ne_of_gt (blk_lt (g := gb231) (o := .cells #[.slice none 0 0, .slice none 0 0, .slice none 0 0] 25 (0, 0)) (upB BK231)) : gb243 ≠ gb231)); clear HO236; clear HO239; clear HO242; clear BK230; clear BK231; clear HB; have HO236 := n0_; have HO239 := n1_; have HO242 := n2_; have BK230 := n3_; have BK231 := n4_; have HB := n5_; have BK243 := n6_; have GW243 := n7_; have GE243 := n8_; have NB230_243 := n9_; have NB243_230 := n10_; have NB231_243 := n11_; have NB243_231 := n12_; clear n0_ n1_ n2_ n3_ n4_ n5_ n6_ n7_ n8_ n9_ n10_ n11_ n12_; clear hb hbox hg; obtain ⟨Ao24, co24, eo24⟩ := Kd.R_slice HO236.out; subst eo24; have hnb25 := NB243_230.out; have hnc25 := NB230_243.out; have hnb26 := NB243_231.out; have hnc26 := NB231_243.out; have hcz27_0 := cell0 BK243; have hcz27_1 := cell1 BK243; have hcz27_2 := cell2 BK243; have hfz27_0 := blk_frozen BK243.out 0; have hfz27_1 := blk_frozen BK243.out 1; have hfz27_2 := blk_frozen BK243.out 2; obtain ⟨Ao28, co28, eo28⟩ := Kd.R_slice HO239.out; subst eo28; obtain ⟨Ao29, co29, eo29⟩ := Kd.R_slice HO242.out; subst eo29))
        have n0_ : Aside0 (Kd.R (Kd.int .i64) 3 (((w23.setCell ⟨gb243, 0, none⟩ (.slice Ao24 t234.length co24)).setCell ⟨gb243, 1, none⟩ (.slice Ao28 t237.length co28)).setCell ⟨gb243, 2, none⟩ (.slice Ao29 t240.length co29)) w.heap.size (fun k_ => some k_ ≠ (.slice Ao28 t237.length co28 : Value).ownBlock) (.slice Ao24 t234.length co24) t234) := ⟨by (with_reducible repeat (first | apply Kd.R_alloc | apply Kd.R_drewN | apply Kd.R_drew)); exact Kd.R_mono (far3 HO236.out BK243) (fun _ hk => hk.1)⟩
        have n1_ : Aside0 (Kd.R (Kd.int .i64) 3 (((w23.setCell ⟨gb243, 0, none⟩ (.slice Ao24 t234.length co24)).setCell ⟨gb243, 1, none⟩ (.slice Ao28 t237.length co28)).setCell ⟨gb243, 2, none⟩ (.slice Ao29 t240.length co29)) w.heap.size (fun k_ => some k_ ≠ (.slice Ao24 t234.length co24 : Value).ownBlock) (.slice Ao28 t237.length co28) t237) := ⟨by (with_reducible repeat (first | apply Kd.R_alloc | apply Kd.R_drewN | apply Kd.R_drew)); exact Kd.R_mono (far3 HO239.out BK243) (fun _ hk => hk.1)⟩
        have n2_ : Aside0 (Kd.R Kd.bool 4 (((w23.setCell ⟨gb243, 0, none⟩ (.slice Ao24 t234.length co24)).setCell ⟨gb243, 1, none⟩ (.slice Ao28 t237.length co28)).setCell ⟨gb243, 2, none⟩ (.slice Ao29 t240.length co29)) w.heap.size (fun _ => True) (.slice Ao29 t240.length co29) t240) := ⟨by (with_reducible repeat (first | apply Kd.R_alloc | apply Kd.R_drewN | apply Kd.R_drew)); exact Kd.R_mono (far3 HO242.out BK243) (fun _ hk => trivial)⟩
        have n3_ : Aside0 ((((w23.setCell ⟨gb243, 0, none⟩ (.slice Ao24 t234.length co24)).setCell ⟨gb243, 1, none⟩ (.slice Ao28 t237.length co28)).setCell ⟨gb243, 2, none⟩ (.slice Ao29 t240.length co29)).heap[gb230]? = some (.cells #[.slice A0_0 l0_0.length c0_0, .slice A0_1 l0_1.length c0_1, .slice A0_2 l0_2.length c0_2] 25 (0, 0))) := ⟨by (with_reducible repeat (first | refine blk_drewN ?_ _ | refine blk_drew ?_ | refine blk_alloc ?_ _)); refine blk_far ?_ NB230_243.out _; (with_reducible repeat (first | refine blk_drewN ?_ _ | refine blk_drew ?_ | refine blk_alloc ?_ _)); refine blk_far ?_ NB230_243.out _; (with_reducible repeat (first | refine blk_drewN ?_ _ | refine blk_drew ?_ | refine blk_alloc ?_ _)); refine blk_far ?_ NB230_243.out _; (with_reducible repeat (first | refine blk_drewN ?_ _ | refine blk_drew ?_ | refine blk_alloc ?_ _)); exact BK230.out⟩
        have n4_ : Aside0 ((((w23.setCell ⟨gb243, 0, none⟩ (.slice Ao24 t234.length co24)).setCell ⟨gb243, 1, none⟩ (.slice Ao28 t237.length co28)).setCell ⟨gb243, 2, none⟩ (.slice Ao29 t240.length co29)).heap[gb231]? = some (.cells #[.slice none 0 0, .slice none 0 0, .slice none 0 0] 25 (0, 0))) := ⟨by (with_reducible repeat (first | refine blk_drewN ?_ _ | refine blk_drew ?_ | refine blk_alloc ?_ _)); refine blk_far ?_ NB231_243.out _; (with_reducible repeat (first | refine blk_drewN ?_ _ | refine blk_drew ?_ | refine blk_alloc ?_ _)); refine blk_far ?_ NB231_243.out _; (with_reducible repeat (first | refine blk_drewN ?_ _ | refine blk_drew ?_ | refine blk_alloc ?_ _)); refine blk_far ?_ NB231_243.out _; (with_reducible repeat (first | refine blk_drewN ?_ _ | refine blk_drew ?_ | refine blk_alloc ?_ _)); exact BK231.out⟩
        have n5_ : Aside0 ((((w23.setCell ⟨gb243, 0, none⟩ (.slice Ao24 t234.length co24)).setCell ⟨gb243, 1, none⟩ (.slice Ao28 t237.length co28)).setCell ⟨gb243, 2, none⟩ (.slice Ao29 t240.length co29)).heap[gb243]? = some (.cells #[.slice Ao24 t234.length co24, .slice Ao28 t237.length co28, .slice Ao29 t240.length co29] 25 (0, 0))) := ⟨by (with_reducible repeat (first | refine blk_drewN ?_ _ | refine blk_drew ?_ | refine blk_alloc ?_ _)); refine blk_put (cs := #[.slice Ao24 t234.length co24, .slice Ao28 t237.length co28, .slice none 0 0]) ?_ 2 _ rfl; (with_reducible repeat (first | refine blk_drewN ?_ _ | refine blk_drew ?_ | refine blk_alloc ?_ _)); refine blk_put (cs := #[.slice Ao24 t234.length co24, .slice none 0 0, .slice none 0 0]) ?_ 1 _ rfl; (with_reducible repeat (first | refine blk_drewN ?_ _ | refine blk_drew ?_ | refine blk_alloc ?_ _)); refine blk_put (cs := #[.slice none 0 0, .slice none 0 0, .slice none 0 0]) ?_ 0 _ rfl; (with_reducible repeat (first | refine blk_drewN ?_ _ | refine blk_drew ?_ | refine blk_alloc ?_ _)); exact BK243.out⟩
        have n6_ : Aside0 (Below w.heap.size w (((w23.setCell ⟨gb243, 0, none⟩ (.slice Ao24 t234.length co24)).setCell ⟨gb243, 1, none⟩ (.slice Ao28 t237.length co28)).setCell ⟨gb243, 2, none⟩ (.slice Ao29 t240.length co29))) := ⟨upH HB⟩
        (try clear HO236)
        (try clear HO239)
        (try clear HO242)
        (try clear BK230)
        (try clear BK231)
        (try clear BK243)
        (try clear HB)
        generalize (((w23.setCell ⟨gb243, 0, none⟩ (.slice Ao24 t234.length co24)).setCell ⟨gb243, 1, none⟩ (.slice Ao28 t237.length co28)).setCell ⟨gb243, 2, none⟩ (.slice Ao29 t240.length co29)) = w30 at n0_ n1_ n2_ n3_ n4_ n5_ n6_ ⊢
        have HO236 := n0_
        have HO239 := n1_
        have HO242 := n2_
        have BK230 := n3_
        have BK231 := n4_
        have BK243 := n5_
        have HB := n6_
        clear n0_ n1_ n2_ n3_ n4_ n5_ n6_
        have n0_ := Aside0.mk (Kd.R_drew HO236.out)
        have n1_ := Aside0.mk (Kd.R_drew HO239.out)
        have n2_ := Aside0.mk (Kd.R_drew HO242.out)
        have n3_ := Aside0.mk (blk_drew BK230.out)
        have n4_ := Aside0.mk (blk_drew BK231.out)
        have n5_ := Aside0.mk (blk_drew BK243.out)
        have n6_ := Aside0.mk (below_drew1 HB.out)
        clear HO236
        clear HO239
        clear HO242
        clear BK230
        clear BK231
        clear BK243
        clear HB
        have HO236 := n0_
        have HO239 := n1_
        have HO242 := n2_
        have BK230 := n3_
        have BK231 := n4_
        have BK243 := n5_
        have HB := n6_
        clear n0_ n1_ n2_ n3_ n4_ n5_ n6_
        refine start_ (n := 12) (S := fun w' => w'.cell? ⟨gb230, 0, none⟩ = some (.slice A0_0 l0_0.length c0_0) ∧ w'.cell? ⟨gb230, 1, none⟩ = some (.slice A0_1 l0_1.length c0_1) ∧ w'.cell? ⟨gb230, 2, none⟩ = some (.slice A0_2 l0_2.length c0_2)) (ds := []) #[false, false, false, false, false, false, false, false, false, false, false, false] (by kernel_rfl) rfl rfl ⟨(blk_cell BK230.out 0).trans rfl, (blk_cell BK230.out 1).trans rfl, (blk_cell BK230.out 2).trans rfl⟩ (fun hHeld => ?_); refine with_tabW headgateref07_Remove.tab7 headgateref07_Remove.bits7 (fun HT_ HW_ => ?_)
        generalize w30.drew = w31 at HO236 HO239 HO242 BK230 BK231 BK243 HB hHeld ⊢
        refine pure_ (i := 0) (N := some 27) (v := ?_) (a' := ?_) #[true, false, false, false, false, false, false, false, false, false, false, false] rfl rfl (any_of HT_.out (by kernel_rfl)) (fun _ _ _ h => h) (Or.inl ⟨by rfl, ?_⟩) ?_ ?_
        rotate_left
        ·
         intro w'
         go_simp
         with_reducible rfl
        rotate_left
        ·
         simp only [Act.put, List.setIfInBounds_toArray, List.set_cons_zero, List.set_cons_succ, i64_w, i32_w]
         rfl
        refine pure_ (i := 2) (N := some 29) (v := ?_) (a' := ?_) #[true, false, true, false, false, false, false, false, false, false, false, false] rfl rfl (any_of HT_.out (by kernel_rfl)) (fun _ _ _ h => h) (Or.inl ⟨by rfl, ?_⟩) ?_ ?_
        rotate_left
        ·
         intro w'
         go_simp
         with_reducible rfl
        rotate_left
        ·
         simp only [Act.put, List.setIfInBounds_toArray, List.set_cons_zero, List.set_cons_succ, i64_w, i32_w]
         rfl
        refine pure_ (i := 4) (N := some 31) (v := ?_) (a' := ?_) #[true, false, true, false, true, false, false, false, false, false, false, false] rfl rfl (any_of HT_.out (by kernel_rfl)) (fun _ _ _ h => h) (Or.inl ⟨by rfl, ?_⟩) ?_ ?_
        rotate_left
        ·
         intro w'
         go_simp
         with_reducible rfl
        rotate_left
        ·
         simp only [Act.put, List.setIfInBounds_toArray, List.set_cons_zero, List.set_cons_succ, i64_w, i32_w]
         rfl
        refine pure_ (i := 6) (N := some 33) (v := ?_) (a' := ?_) #[true, false, true, false, true, false, true, false, false, false, false, false] rfl rfl (any_of HT_.out (by kernel_rfl)) (fun _ _ _ h => h) (Or.inl ⟨by rfl, ?_⟩) ?_ ?_
        rotate_left
        ·
         intro w'
         go_simp
         with_reducible rfl
        rotate_left
        ·
         simp only [Act.put, List.setIfInBounds_toArray, List.set_cons_zero, List.set_cons_succ, i64_w, i32_w]
         rfl
        refine take_ (i := 1) (N := some 28) (v := ?_) (a' := ?_) #[true, true, true, false, true, false, true, false, false, false, false, false] rfl rfl (take_ofW HT_.out HW_.out (by kernel_rfl)) (fun _ _ _ h => h) (Or.inl ⟨by rfl, ?_⟩) hHeld ?_ ?_
        rotate_left
        ·
         rintro w' ⟨s0, s1, s2⟩
         go_simp
         with_reducible rfl
        rotate_left
        ·
         simp only [Act.put, List.setIfInBounds_toArray, List.set_cons_zero, List.set_cons_succ, i64_w, i32_w]
         rfl
        refine take_ (i := 5) (N := some 32) (v := ?_) (a' := ?_) #[true, true, true, false, true, true, true, false, false, false, false, false] rfl rfl (take_ofW HT_.out HW_.out (by kernel_rfl)) (fun _ _ _ h => h) (Or.inl ⟨by rfl, ?_⟩) hHeld ?_ ?_
        rotate_left
        ·
         rintro w' ⟨s0, s1, s2⟩
         go_simp
         with_reducible rfl
        rotate_left
        ·
         simp only [Act.put, List.setIfInBounds_toArray, List.set_cons_zero, List.set_cons_succ, i64_w, i32_w]
         rfl
        refine one_ (i := 3) (N := some 30) #[true, true, true, true, true, true, true, false, false, false, false, false] rfl rfl (one_of HT_.out (by kernel_rfl)) (by decide) (fun K hK => ?_)
        refine goes_ Try.func49 (by kernel_rfl) rfl #[.slice A0_0 l0_0.length c0_0, .int .i64 a1] (by rfl) rfl rfl (args_ (p := _)) ?_
        with_reducible refine (headgateref07_without.calls kj10 _ _ l0_0 a1 t244 _ ?side1 ?side2 A15.out).mono ?_
        (case side1 => exact upc (Kd.C_below HR0_0.out HB.out))
        (case side2 => exact HC0_0.out)
        rintro e w32 ⟨v245, rfl, ho0, hb⟩
        refine ⟨_, rfl, ?_⟩
        have n0_ := Aside0.mk (Kd.R_elder' (upR HO236.out) (Kd.R_base ho0) hb)
        have n1_ := Aside0.mk (Kd.R_elder' (upR HO239.out) (Kd.R_base ho0) hb)
        have n2_ := Aside0.mk (Kd.R_below (upR HO242.out) hb)
        have n3_ := Aside0.mk (Kd.R_lower (Kd.R_new' (Kd.R_new' ho0 (Kd.R_lt (upR HO236.out))) (Kd.R_lt (upR HO239.out))) (below_size (upH HB)))
        have n4_ := Aside0.mk (blkB BK230 hb)
        have n5_ := Aside0.mk (blkB BK231 hb)
        have n6_ := Aside0.mk (blkB BK243 hb)
        have n7_ := Aside0.mk (below_step (upH HB) hb)
        clear HO236
        clear HO239
        clear HO242
        clear BK230
        clear BK231
        clear BK243
        clear HB
        have HO236 := n0_
        have HO239 := n1_
        have HO242 := n2_
        have HO246 := n3_
        have BK230 := n4_
        have BK231 := n5_
        have BK243 := n6_
        have HB := n7_
        clear n0_ n1_ n2_ n3_ n4_ n5_ n6_ n7_
        (try clear hb)
        (try clear hb2)
        (try clear hk)
        (try clear hi)
        (try clear ho0)
        refine hK.out _ _ ⟨(blk_cell BK230.out 0).trans rfl, (blk_cell BK230.out 1).trans rfl, (blk_cell BK230.out 2).trans rfl⟩ (fun hHeld => ?_)
        clear hK K
        refine norm_ (a' := ?_) ?_ ?_
        rotate_left
        ·
         show Act.put _ (some 30) _ = _
         simp only [Act.put, List.setIfInBounds_toArray, List.set_cons_zero, List.set_cons_succ, i64_w, i32_w]
         rfl
        refine pure_ (i := 8) (N := some 35) (v := ?_) (a' := ?_) #[true, true, true, true, true, true, true, false, true, false, false, false] rfl rfl (any_of HT_.out (by kernel_rfl)) (fun _ _ _ h => h) (Or.inl ⟨by rfl, ?_⟩) ?_ ?_
        rotate_left
        ·
         intro w'
         go_simp
         with_reducible rfl
        rotate_left
        ·
         simp only [Act.put, List.setIfInBounds_toArray, List.set_cons_zero, List.set_cons_succ, i64_w, i32_w]
         rfl
        refine one_ (i := 7) (N := some 34) #[true, true, true, true, true, true, true, true, true, false, false, false] rfl rfl (one_of HT_.out (by kernel_rfl)) (by decide) (fun K hK => ?_)
        refine goes_ Try.func49 (by kernel_rfl) rfl #[.slice A0_1 l0_1.length c0_1, .int .i64 a1] (by rfl) rfl rfl (args_ (p := _)) ?_
        with_reducible refine (headgateref07_without.calls kj10 _ _ l0_1 a1 t247 _ ?side1 ?side2 A16.out).mono ?_
        (case side1 => exact upc (Kd.C_below HR0_1.out HB.out))
        (case side2 => exact HC0_1.out)
        rintro e w33 ⟨v248, rfl, ho0, hb⟩
        refine ⟨_, rfl, ?_⟩
        have n0_ := Aside0.mk (Kd.R_elder' (upR HO236.out) (Kd.R_base ho0) hb)
        have n1_ := Aside0.mk (Kd.R_elder' (upR HO239.out) (Kd.R_base ho0) hb)
        have n2_ := Aside0.mk (Kd.R_below (upR HO242.out) hb)
        have n3_ := Aside0.mk (Kd.R_elder' (upR HO246.out) (Kd.R_base ho0) hb)
        have n4_ := Aside0.mk (Kd.R_lower (Kd.R_new' (Kd.R_new' (Kd.R_new' ho0 (Kd.R_lt (upR HO236.out))) (Kd.R_lt (upR HO239.out))) (Kd.R_lt (upR HO246.out))) (below_size (upH HB)))
        have n5_ := Aside0.mk (blkB BK230 hb)
        have n6_ := Aside0.mk (blkB BK231 hb)
        have n7_ := Aside0.mk (blkB BK243 hb)
        have n8_ := Aside0.mk (below_step (upH HB) hb)
        clear HO236
        clear HO239
        clear HO242
        clear HO246
        clear BK230
        clear BK231
        clear BK243
        clear HB
        have HO236 := n0_
        have HO239 := n1_
        have HO242 := n2_
        have HO246 := n3_
        have HO249 := n4_
        have BK230 := n5_
        have BK231 := n6_
        have BK243 := n7_
        have HB := n8_
        clear n0_ n1_ n2_ n3_ n4_ n5_ n6_ n7_ n8_
        (try clear hb)
        (try clear hb2)
        (try clear hk)
        (try clear hi)
        (try clear ho0)
        obtain ⟨Ao34, co34, eo34⟩ := Kd.R_slice HO246.out
        (first | subst eo34 | (injection eo34 with f1_ f2_ f3_; have f4_ := f1_.symm; have f5_ := f3_.symm; clear f1_ f2_ f3_; subst f4_; subst f5_))
        obtain ⟨Ao36, co36, eo36⟩ := Kd.R_slice HO249.out
        (first | subst eo36 | (injection eo36 with f1_ f2_ f3_; have f4_ := f1_.symm; have f5_ := f3_.symm; clear f1_ f2_ f3_; subst f4_; subst f5_))
        refine hK.out _ _ ⟨(blk_cell BK230.out 0).trans rfl, (blk_cell BK230.out 1).trans rfl, (blk_cell BK230.out 2).trans rfl⟩ (fun hHeld => ?_)
        clear hK K
        refine norm_ (a' := ?_) ?_ ?_
        rotate_left
        ·
         show Act.put _ (some 34) _ = _
         simp only [Act.put, List.setIfInBounds_toArray, List.set_cons_zero, List.set_cons_succ, i64_w, i32_w]
         rfl
        refine one_ (i := 9) (N := none) #[true, true, true, true, true, true, true, true, true, true, false, false] rfl rfl (one_of HT_.out (by kernel_rfl)) (by decide) (fun K hK => ?_)
        have hs35 : w33.cell? ⟨gb243, 0, none⟩ = some (.slice Ao24 t234.length co24) := (blk_cell BK243.out 0).trans rfl
        have hfs35 := blk_frozen BK243.out 0
        have hns35_0 := NB230_243.out
        have hns35_1 := NB231_243.out
        have hms35_0 := NB243_230.out
        have hms35_1 := NB243_231.out
        refine skip_ (w1 := ?_) (by rfl) rfl ?_ ?_
        rotate_left
        ·
         go_simp
         rfl
        refine hK.out _ _ ⟨((cell_far (p := ⟨gb243, _, none⟩) NB230_243.out _).trans (hHeld.1)), ((cell_far (p := ⟨gb243, _, none⟩) NB230_243.out _).trans (hHeld.2.1)), ((cell_far (p := ⟨gb243, _, none⟩) NB230_243.out _).trans (hHeld.2.2))⟩ (fun hHeld => ?_)
        clear hK K
        refine pure_ (i := 10) (N := some 36) (v := ?_) (a' := ?_) #[true, true, true, true, true, true, true, true, true, true, true, false] rfl rfl (any_of HT_.out (by kernel_rfl)) (fun _ _ _ h => h) (Or.inl ⟨by rfl, ?_⟩) ?_ ?_
        rotate_left
        ·
         intro w'
         go_simp
         with_reducible rfl
        rotate_left
        ·
         simp only [Act.put, List.setIfInBounds_toArray, List.set_cons_zero, List.set_cons_succ, i64_w, i32_w]
         rfl
        refine one_ (i := 11) (N := none) #[true, true, true, true, true, true, true, true, true, true, true, true] rfl rfl (one_of HT_.out (by kernel_rfl)) (by decide) (fun K hK => ?_)
        have hs37 : w33.cell? ⟨gb243, 1, none⟩ = some (.slice Ao28 t237.length co28) := (blk_cell BK243.out 1).trans rfl
        have hfs37 := blk_frozen BK243.out 1
        have hns37_0 := NB230_243.out
        have hns37_1 := NB231_243.out
        have hms37_0 := NB243_230.out
        have hms37_1 := NB243_231.out
        refine skip_ (w1 := ?_) (by rfl) rfl ?_ ?_
        rotate_left
        ·
         go_simp
         rfl
        refine hK.out _ _ ⟨((cell_far (p := ⟨gb243, _, none⟩) NB230_243.out _).trans (hHeld.1)), ((cell_far (p := ⟨gb243, _, none⟩) NB230_243.out _).trans (hHeld.2.1)), ((cell_far (p := ⟨gb243, _, none⟩) NB230_243.out _).trans (hHeld.2.2))⟩ (fun hHeld => ?_)
        clear hK K
        refine done_ (done_of HT_.out (by kernel_rfl)) ?_
        have n0_ : Aside0 (Kd.R (Kd.int .i64) 3 ((w33.setCell ⟨gb243, 0, none⟩ (.slice Ao34 t244.length co34)).setCell ⟨gb243, 1, none⟩ (.slice Ao36 t247.length co36)) w.heap.size (fun k_ => some k_ ≠ (.slice Ao28 t237.length co28 : Value).ownBlock ∧ some k_ ≠ (.slice Ao34 t244.length co34 : Value).ownBlock ∧ some k_ ≠ (.slice Ao36 t247.length co36 : Value).ownBlock) (.slice Ao24 t234.length co24) t234) := ⟨by (with_reducible repeat (first | apply Kd.R_alloc | apply Kd.R_drewN | apply Kd.R_drew)); exact Kd.R_mono (far2 HO236.out BK243) (fun _ hk => ⟨hk.1.1.1, ⟨hk.1.1.2, hk.1.2⟩⟩)⟩
        have n1_ : Aside0 (Kd.R (Kd.int .i64) 3 ((w33.setCell ⟨gb243, 0, none⟩ (.slice Ao34 t244.length co34)).setCell ⟨gb243, 1, none⟩ (.slice Ao36 t247.length co36)) w.heap.size (fun k_ => some k_ ≠ (.slice Ao24 t234.length co24 : Value).ownBlock ∧ some k_ ≠ (.slice Ao34 t244.length co34 : Value).ownBlock ∧ some k_ ≠ (.slice Ao36 t247.length co36 : Value).ownBlock) (.slice Ao28 t237.length co28) t237) := ⟨by (with_reducible repeat (first | apply Kd.R_alloc | apply Kd.R_drewN | apply Kd.R_drew)); exact Kd.R_mono (far2 HO239.out BK243) (fun _ hk => ⟨hk.1.1.1, ⟨hk.1.1.2, hk.1.2⟩⟩)⟩
        have n2_ : Aside0 (Kd.R Kd.bool 4 ((w33.setCell ⟨gb243, 0, none⟩ (.slice Ao34 t244.length co34)).setCell ⟨gb243, 1, none⟩ (.slice Ao36 t247.length co36)) w.heap.size (fun _ => True) (.slice Ao29 t240.length co29) t240) := ⟨by (with_reducible repeat (first | apply Kd.R_alloc | apply Kd.R_drewN | apply Kd.R_drew)); exact Kd.R_mono (far2 HO242.out BK243) (fun _ hk => trivial)⟩
        have n3_ : Aside0 (Kd.R (Kd.int .i64) 3 ((w33.setCell ⟨gb243, 0, none⟩ (.slice Ao34 t244.length co34)).setCell ⟨gb243, 1, none⟩ (.slice Ao36 t247.length co36)) w.heap.size (fun k_ => some k_ ≠ (.slice Ao24 t234.length co24 : Value).ownBlock ∧ some k_ ≠ (.slice Ao28 t237.length co28 : Value).ownBlock ∧ some k_ ≠ (.slice Ao36 t247.length co36 : Value).ownBlock) (.slice Ao34 t244.length co34) t244) := ⟨by (with_reducible repeat (first | apply Kd.R_alloc | apply Kd.R_drewN | apply Kd.R_drew)); exact Kd.R_mono (far2 HO246.out BK243) (fun _ hk => ⟨hk.1.1.1.2, ⟨hk.1.1.2, hk.1.2⟩⟩)⟩
        have n4_ : Aside0 (Kd.R (Kd.int .i64) 3 ((w33.setCell ⟨gb243, 0, none⟩ (.slice Ao34 t244.length co34)).setCell ⟨gb243, 1, none⟩ (.slice Ao36 t247.length co36)) w.heap.size (fun k_ => some k_ ≠ (.slice Ao24 t234.length co24 : Value).ownBlock ∧ some k_ ≠ (.slice Ao28 t237.length co28 : Value).ownBlock ∧ some k_ ≠ (.slice Ao34 t244.length co34 : Value).ownBlock) (.slice Ao36 t247.length co36) t247) := ⟨by (with_reducible repeat (first | apply Kd.R_alloc | apply Kd.R_drewN | apply Kd.R_drew)); exact Kd.R_mono (far2 HO249.out BK243) (fun _ hk => ⟨hk.1.1.1.2, ⟨hk.1.1.2, hk.1.2⟩⟩)⟩
        have n5_ : Aside0 (((w33.setCell ⟨gb243, 0, none⟩ (.slice Ao34 t244.length co34)).setCell ⟨gb243, 1, none⟩ (.slice Ao36 t247.length co36)).heap[gb230]? = some (.cells #[.slice A0_0 l0_0.length c0_0, .slice A0_1 l0_1.length c0_1, .slice A0_2 l0_2.length c0_2] 25 (0, 0))) := ⟨by (with_reducible repeat (first | refine blk_drewN ?_ _ | refine blk_drew ?_ | refine blk_alloc ?_ _)); refine blk_far ?_ NB230_243.out _; (with_reducible repeat (first | refine blk_drewN ?_ _ | refine blk_drew ?_ | refine blk_alloc ?_ _)); refine blk_far ?_ NB230_243.out _; (with_reducible repeat (first | refine blk_drewN ?_ _ | refine blk_drew ?_ | refine blk_alloc ?_ _)); exact BK230.out⟩
        have n6_ : Aside0 (((w33.setCell ⟨gb243, 0, none⟩ (.slice Ao34 t244.length co34)).setCell ⟨gb243, 1, none⟩ (.slice Ao36 t247.length co36)).heap[gb231]? = some (.cells #[.slice none 0 0, .slice none 0 0, .slice none 0 0] 25 (0, 0))) := ⟨by (with_reducible repeat (first | refine blk_drewN ?_ _ | refine blk_drew ?_ | refine blk_alloc ?_ _)); refine blk_far ?_ NB231_243.out _; (with_reducible repeat (first | refine blk_drewN ?_ _ | refine blk_drew ?_ | refine blk_alloc ?_ _)); refine blk_far ?_ NB231_243.out _; (with_reducible repeat (first | refine blk_drewN ?_ _ | refine blk_drew ?_ | refine blk_alloc ?_ _)); exact BK231.out⟩
        have n7_ : Aside0 (((w33.setCell ⟨gb243, 0, none⟩ (.slice Ao34 t244.length co34)).setCell ⟨gb243, 1, none⟩ (.slice Ao36 t247.length co36)).heap[gb243]? = some (.cells #[.slice Ao34 t244.length co34, .slice Ao36 t247.length co36, .slice Ao29 t240.length co29] 25 (0, 0))) := ⟨by (with_reducible repeat (first | refine blk_drewN ?_ _ | refine blk_drew ?_ | refine blk_alloc ?_ _)); refine blk_put (cs := #[.slice Ao34 t244.length co34, .slice Ao28 t237.length co28, .slice Ao29 t240.length co29]) ?_ 1 _ rfl; (with_reducible repeat (first | refine blk_drewN ?_ _ | refine blk_drew ?_ | refine blk_alloc ?_ _)); refine blk_put (cs := #[.slice Ao24 t234.length co24, .slice Ao28 t237.length co28, .slice Ao29 t240.length co29]) ?_ 0 _ rfl; (with_reducible repeat (first | refine blk_drewN ?_ _ | refine blk_drew ?_ | refine blk_alloc ?_ _)); exact BK243.out⟩
        have n8_ : Aside0 (Below w.heap.size w ((w33.setCell ⟨gb243, 0, none⟩ (.slice Ao34 t244.length co34)).setCell ⟨gb243, 1, none⟩ (.slice Ao36 t247.length co36))) := ⟨upH HB⟩
        (try clear HO236)
        (try clear HO239)
        (try clear HO242)
        (try clear HO246)
        (try clear HO249)
        (try clear BK230)
        (try clear BK231)
        (try clear BK243)
        (try clear HB)
        generalize ((w33.setCell ⟨gb243, 0, none⟩ (.slice Ao34 t244.length co34)).setCell ⟨gb243, 1, none⟩ (.slice Ao36 t247.length co36)) = w38 at n0_ n1_ n2_ n3_ n4_ n5_ n6_ n7_ n8_ ⊢
        have HO236 := n0_
        have HO239 := n1_
        have HO242 := n2_
        have HO246 := n3_
        have HO249 := n4_
        have BK230 := n5_
        have BK231 := n6_
        have BK243 := n7_
        have HB := n8_
        clear n0_ n1_ n2_ n3_ n4_ n5_ n6_ n7_ n8_
        have hcz39_0 := cell0 BK243
        have hcz39_1 := cell1 BK243
        have hcz39_2 := cell2 BK243
        have hfz39_0 := blk_frozen BK243.out 0
        have hfz39_1 := blk_frozen BK243.out 1
        have hfz39_2 := blk_frozen BK243.out 2
        have p19 : 0 ≤ (a1 : Int) := of_decide_eq_true (asm_ (p := _))
        have q19 : (a1 : Int) < ((t240.length : Int) : Int) := of_decide_eq_true (asm_ (p := _))
        obtain ⟨go19, co19, eo19, gb19, gl19, cl19, HG19⟩ := Kd.R_form HO242.out (by omega)
        (first | cases eo19 | (injection eo19 with ea_ en_ ec_; (first | subst ea_ | (injection ea_ with ea_; subst ea_)); subst ec_; clear en_))
        have GB19 := Aside0.mk gb19
        have GG19 := Aside0.mk HG19
        clear gb19 gl19 HG19
        obtain ⟨hx19_0, hf19_0⟩ := Kd.R_celln false HO242.out (a1 : Int) p19 q19
        replace p19 := eq_true p19
        replace q19 := eq_true q19
        obtain ⟨hy40_, hz40_⟩ := Kd.R_celln false HO242.out (a1 : Int) (of_decide_eq_true (asm_ (p := _))) (of_decide_eq_true (asm_ (p := _)))
        have HP40 := Kd.R_putg HO242.out (a1 : Int) false
        try go_wp2_with (first | ((with_reducible refine gate_store (t := 4) (p := 40) rfl ?_); refine store_event (t := 4) (p := 40) (v := ?vo_w41) (w1 := (w38.setCell ⟨go19, (a1 : Int).toNat, none⟩ (.bool false))) ?hg ?ho ?hn ?hr ?_; (case ho => rfl); (case hg => rfl); (case hn => rfl); (case hr => first | (go_simp; done) | (go_simp; rfl)); intro w41 hw; have hg : w38.grownBy w41 (some go19) := (by rw [hw]; exact HP40.2); have hp_ : Kd.R Kd.bool 4 w41 w.heap.size (fun _ => True) (.slice (some ⟨go19, 0, none⟩) t240.length co29) y250 := (by rw [hw, Ny250.out]; exact HP40.1); clear HP40; have n0_ := Aside0.mk (blk_grown (g := gb230) (o := .cells #[.slice A0_0 l0_0.length c0_0, .slice A0_1 l0_1.length c0_1, .slice A0_2 l0_2.length c0_2] 25 (0, 0)) (upB BK230) hg (Kd.R_ne HO242.out BK230.out (by decide))); have n1_ := Aside0.mk (blk_grown (g := gb231) (o := .cells #[.slice none 0 0, .slice none 0 0, .slice none 0 0] 25 (0, 0)) (upB BK231) hg (Kd.R_ne HO242.out BK231.out (by decide))); have n2_ := Aside0.mk (Kd.R_over' (v := (.slice (some ⟨go19, 0, none⟩) t240.length co29)) (upR HO236.out) (Kd.R_typed HO242.out) (by decide) hg); have n3_ := Aside0.mk (Kd.R_over' (v := (.slice (some ⟨go19, 0, none⟩) t240.length co29)) (upR HO239.out) (Kd.R_typed HO242.out) (by decide) hg); have n4_ := Aside0.mk (hp_); have n5_ := Aside0.mk (blk_grown (g := gb243) (o := .cells #[.slice Ao34 t244.length co34, .slice Ao36 t247.length co36, .slice (some ⟨go19, 0, none⟩) t240.length co29] 25 (0, 0)) (upB BK243) hg (Kd.R_ne HO242.out BK243.out (by decide))); have n6_ := Aside0.mk (Kd.R_over' (v := (.slice (some ⟨go19, 0, none⟩) t240.length co29)) (upR HO246.out) (Kd.R_typed HO242.out) (by decide) hg); have n7_ := Aside0.mk (Kd.R_over' (v := (.slice (some ⟨go19, 0, none⟩) t240.length co29)) (upR HO249.out) (Kd.R_typed HO242.out) (by decide) hg); have n8_ := Aside0.mk ((by rw [hw]; exact below_set (HB.out) GB19.out : Below w.heap.size w w41)); clear BK230; clear BK231; clear HO236; clear HO239; clear HO242; clear BK243; clear HO246; clear HO249; clear HB; have BK230 := n0_; have BK231 := n1_; have HO236 := n2_; have HO239 := n3_; have HO242 := n4_; have BK243 := n5_; have HO246 := n6_; have HO249 := n7_; have HB := n8_; clear n0_ n1_ n2_ n3_ n4_ n5_ n6_ n7_ n8_; clear hg hw hp_; have hcz42_0 := cell0 BK243; have hcz42_1 := cell1 BK243; have hcz42_2 := cell2 BK243; have hfz42_0 := blk_frozen BK243.out 0; have hfz42_1 := blk_frozen BK243.out 1; have hfz42_2 := blk_frozen BK243.out 2; have hcz43_0 := cell0 BK231; have hcz43_1 := cell1 BK231; have hcz43_2 := cell2 BK231; have hfz43_0 := blk_frozen BK231.out 0; have hfz43_1 := blk_frozen BK231.out 1; have hfz43_2 := blk_frozen BK231.out 2))
        refine bodyPost_ret (results_ct rfl _ _ gb231 25 #[.slice Ao34 t244.length co34, .slice Ao36 t247.length co36, .slice (some ⟨go19, 0, none⟩) t240.length co29] (0, 0) _ rfl (by (with_reducible repeat (first | refine blk_drewN ?_ _ | refine blk_drew ?_ | refine blk_alloc ?_ _)); refine blk_put (cs := #[.slice Ao34 t244.length co34, .slice Ao36 t247.length co36, .slice none 0 0]) ?_ 2 _ rfl; (with_reducible repeat (first | refine blk_drewN ?_ _ | refine blk_drew ?_ | refine blk_alloc ?_ _)); refine blk_put (cs := #[.slice Ao34 t244.length co34, .slice none 0 0, .slice none 0 0]) ?_ 1 _ rfl; (with_reducible repeat (first | refine blk_drewN ?_ _ | refine blk_drew ?_ | refine blk_alloc ?_ _)); refine blk_put (cs := #[.slice none 0 0, .slice none 0 0, .slice none 0 0]) ?_ 0 _ rfl; (with_reducible repeat (first | refine blk_drewN ?_ _ | refine blk_drew ?_ | refine blk_alloc ?_ _)); exact BK231.out) Try.underlying25 rfl (by kernel_rfl)) rfl ?_
        exact ⟨_, _, _, by first | rfl | (simp [errW_none, errW_some] <;> rfl) | (simp [*, errW_none, errW_some] <;> rfl), by (with_reducible repeat (first | apply Kd.R_alloc | apply Kd.R_drewN | apply Kd.R_drew)); exact Kd.R_mono (Kd.R_far (p := ⟨gb231, 2, none⟩) (far2 HO246.out BK231) (fun _ hk => hk.2) (.slice (some ⟨go19, 0, none⟩) t240.length co29)) (fun _ hk => hk.1.2.2), by (with_reducible repeat (first | apply Kd.R_alloc | apply Kd.R_drewN | apply Kd.R_drew)); exact Kd.R_mono (Kd.R_far (p := ⟨gb231, 2, none⟩) (far2 HO249.out BK231) (fun _ hk => hk.2) (.slice (some ⟨go19, 0, none⟩) t240.length co29)) (fun _ hk => hk.1.2.2), by (with_reducible repeat (first | apply Kd.R_alloc | apply Kd.R_drewN | apply Kd.R_drew)); exact Kd.R_mono (Kd.R_far (p := ⟨gb231, 2, none⟩) (far2 HO242.out BK231) (fun _ hk => hk.2) (.slice (some ⟨go19, 0, none⟩) t240.length co29)) (fun _ hk => trivial), by repeat (first | (with_reducible first | exact HB.out | apply below_alloc | apply pw_below_drewN | apply below_drew1 | refine below_set ?_ GE230.out | refine below_set ?_ GE231.out | refine below_set ?_ GE243.out) | exact HB.out)⟩
       ·
        rw [if_neg c18] at H
        exact absurd H (by simp)
      ·
       rw [if_neg c17] at H
       exact absurd H (by simp)
     ·
      rw [if_neg c13] at H
      have c13b0 : (x7_10 == 0) = false := beq_eq_false_iff_ne.mpr c13
      have c13b1 : (x7_10 != 0) = true := bne_iff_ne.mpr c13
      simp only [Option.some.injEq, Prod.mk.injEq] at H
      obtain ⟨rfl, rfl, rfl, rfl⟩ := H
      have hnb44 := NB231_230.out
      have hnc44 := NB230_231.out
      have hcz45_0 := cell0 BK231
      have hcz45_1 := cell1 BK231
      have hcz45_2 := cell2 BK231
      have hfz45_0 := blk_frozen BK231.out 0
      have hfz45_1 := blk_frozen BK231.out 1
      have hfz45_2 := blk_frozen BK231.out 2
      go_wp2
      refine bodyPost_ret (results_ct rfl _ _ gb231 25 #[.slice none 0 0, .slice none 0 0, .slice none 0 0] (0, 0) _ rfl (by (with_reducible repeat (first | refine blk_drewN ?_ _ | refine blk_drew ?_ | refine blk_alloc ?_ _)); refine blk_put (cs := #[.slice none 0 0, .slice none 0 0, .slice none 0 0]) ?_ 2 _ rfl; (with_reducible repeat (first | refine blk_drewN ?_ _ | refine blk_drew ?_ | refine blk_alloc ?_ _)); refine blk_put (cs := #[.slice none 0 0, .slice none 0 0, .slice none 0 0]) ?_ 1 _ rfl; (with_reducible repeat (first | refine blk_drewN ?_ _ | refine blk_drew ?_ | refine blk_alloc ?_ _)); refine blk_put (cs := #[.slice none 0 0, .slice none 0 0, .slice none 0 0]) ?_ 0 _ rfl; (with_reducible repeat (first | refine blk_drewN ?_ _ | refine blk_drew ?_ | refine blk_alloc ?_ _)); exact BK231.out) Try.underlying25 rfl (by kernel_rfl)) rfl ?_
      exact ⟨_, _, _, by first | rfl | (simp [errW_none, errW_some] <;> rfl) | (simp [*, errW_none, errW_some] <;> rfl), by first | exact Kd.R_nil _ _ _ _ _ | exact Kd.N_nil _ _ _ _ _ | exact Kd.V_nil _ _ _ _ _ | exact Kd.Q_nil _ _ _ _ _ | exact Kd.S_nil _ _ _ _ _, by first | exact Kd.R_nil _ _ _ _ _ | exact Kd.N_nil _ _ _ _ _ | exact Kd.V_nil _ _ _ _ _ | exact Kd.Q_nil _ _ _ _ _ | exact Kd.S_nil _ _ _ _ _, by first | exact Kd.R_nil _ _ _ _ _ | exact Kd.N_nil _ _ _ _ _ | exact Kd.V_nil _ _ _ _ _ | exact Kd.Q_nil _ _ _ _ _ | exact Kd.S_nil _ _ _ _ _, by repeat (first | (with_reducible first | exact HB.out | apply below_alloc | apply pw_below_drewN | apply below_drew1 | refine below_set ?_ GE230.out | refine below_set ?_ GE231.out) | exact HB.out)⟩

end Go.Proofs.Ytaofihdmgdpenaa.X

namespace Go.Proofs.Ytaofihdmgdpenaa.X
open Go.RowKit Go.Proofs.YtaofihdmgdpenaaW.PrintWords Go.Proofs.YtaofihdmgdpenaaW.PrintLast Go.Proofs.YtaofihdmgdpenaaW.PrintMore
attribute [local go_sem] max2_int min2_int max_two min_two max_three min_three max_four min_four   -- for this text's walks alone
set_option linter.unusedVariables false
set_option linter.unusedSimpArgs false

/-! ### What came in, told by its kind -/
/-- Whatever is read at the type t is of the kind d, and fits. -/
def Down (P : Program) (t : TypeId) {α : Type} (d : Kd α) (W : α → Prop) : Prop :=
 ∀ {H : Type} (enc : TypeId × Value → H) (w : World) (base : Nat) (sp : Nat → Bool) (held : Bool) (fuel : Nat) (cs : List Value) (x : DataW H × List MemPlace), DataW.trod enc P w base sp held fuel t cs = some x → ∃ a, d.K w a cs ∧ W a
/-- The same of the fields from a place on. -/
def DownF (P : Program) (N : Nat) (fs : List Field) (off : Nat) {α : Type} (d : Kd α) (W : α → Prop) : Prop :=
 ∀ {H : Type} (enc : TypeId × Value → H) (w : World) (base : Nat) (sp : Nat → Bool) (held : Bool) (fuel : Nat) (cs : List Value) (xs : List (DataW H × List MemPlace)), cs.length = N →
  (fs.mapM fun f => DataW.trod enc P w base sp held fuel f.type ((cs.drop f.offset).take (P.cellsOf f.type))) = some xs → ∃ a, d.K w a (cs.drop off) ∧ W a
section
variable {P : Program}
theorem down_int {t : TypeId} {k : IntKind} (ht : P.underlying t = some (.int k)) : Down P t (Kd.int k) (fun n => (Lit.int k n).wf = true) := by
 intro H enc w base sp held fuel cs x h
 cases fuel with
 | zero => simp [DataW.trod] at h
 | succ fuel =>
  unfold DataW.trod at h
  rw [ht] at h
  match cs with
  | [.int k' n] =>
   simp only at h
   by_cases c : k' = k ∧ (Lit.int k n).wf = true
   ·
    obtain ⟨rfl, hw⟩ := c
    exact ⟨n, rfl, hw⟩
   ·
    rw [if_neg c] at h; cases h
  | [] => simp at h
  | [.bool _] | [.float _ _] | [.string _] | [.pointer _] | [.slice _ _ _] | [.map _] | [.chan _] | [.func _ _ _] | [.agg _] | [.tuple _] | [.nilIface] | [.iface _ _] | [.nilFunc] => simp at h
  | _ :: _ :: _ => simp at h
theorem down_bool {t : TypeId} (ht : P.underlying t = some .bool) : Down P t Kd.bool (fun _ => True) := by
 intro H enc w base sp held fuel cs x h
 cases fuel with
 | zero => simp [DataW.trod] at h
 | succ fuel =>
  unfold DataW.trod at h
  rw [ht] at h
  match cs with
  | [.bool b] => exact ⟨b, rfl, trivial⟩
  | [] => simp at h
  | [.int _ _] | [.float _ _] | [.string _] | [.pointer _] | [.slice _ _ _] | [.map _] | [.chan _] | [.func _ _ _] | [.agg _] | [.tuple _] | [.nilIface] | [.iface _ _] | [.nilFunc] => simp at h
  | _ :: _ :: _ => simp at h
theorem down_slice {t e : TypeId} {α : Type} {d : Kd α} {W : α → Prop} (ht : P.underlying t = some (.slice e)) (hc : P.cellsOf e = d.sz) (he : Down P e d W) : Down P t (Kd.slice e d) (fun l => l.length ≤ maxLen ∧ ∀ x ∈ l, W x) := by
 intro H enc w base sp held fuel cs x h
 rcases Go.Deep.open_slice ht h with ⟨rfl, rfl⟩ | ⟨a, len, cap, m, n, D, Pl, rfl, hb, hl, hm, hmm, rfl, hx⟩
 ·
  exact ⟨[], ⟨none, 0, rfl, Nat.le_refl _, Kd.C_nil _ _⟩, by simp [maxLen], fun x hx => by cases hx⟩
 ·
  have hlm : len ≤ m := by rw [hmm]; split <;> omega
  have each : ∀ i : Fin len, ∃ q : α × List Value, d.K w q.1 q.2 ∧ W q.1 ∧ w.cells? base (a.add (i.val * P.cellsOf e)) (P.cellsOf e) = some q.2 := fun i => by
   obtain ⟨cs', h1, h2⟩ := hx i.val (by omega)
   obtain ⟨y, h3, h4⟩ := he enc w base sp held n cs' _ h2
   exact ⟨(y, cs'), h3, h4, h1⟩
  let f : Fin len → α := fun i => (Classical.choose (each i)).1
  have hf := fun i => Classical.choose_spec (each i)
  refine ⟨List.ofFn f, ⟨some a, cap, by simp, by simpa using hl, ?_⟩, by simp; omega, fun x hx => ?_⟩
  ·
   refine ⟨rfl, by simp; unfold maxLen at hm; omega, fun _ => ⟨a, rfl, fun j p hj => ?_⟩⟩
   have hjl : j < len := by have := (List.getElem?_eq_some_iff.1 hj).1; simpa using this
   have hp : f ⟨j, hjl⟩ = p := by
    rw [List.getElem?_ofFn] at hj
    simpa [hjl] using hj
   obtain ⟨h1, h2, h3⟩ := hf ⟨j, hjl⟩
   obtain ⟨_, hlen, hcell⟩ := World.cells?_some h3
   refine ⟨(Classical.choose (each ⟨j, hjl⟩)).2, by rw [hlen, hc], by rw [← hp]; exact h1, fun i u hi => ?_⟩
   have hi2 := (List.getElem?_eq_some_iff.1 hi).1
   have := hcell i (by omega)
   rw [Go.Deep.add_add] at this
   rw [← hc]
   exact this.trans hi
  ·
   obtain ⟨i, rfl⟩ := List.mem_ofFn.1 hx
   exact (hf i).2.1
theorem downF_one {N off : Nat} {f : Field} {α : Type} {d : Kd α} {W : α → Prop} (ho : f.offset = off) (hc : P.cellsOf f.type = d.sz) (hN : off + d.sz = N) (h : Down P f.type d W) : DownF P N [f] off d W := by
 intro H enc w base sp held fuel cs xs hl hx
 rw [List.mapM_cons] at hx
 simp only [Option.bind_eq_bind, Option.bind_eq_some_iff] at hx
 obtain ⟨x, h1, _⟩ := hx
 rw [ho, hc, List.take_of_length_le (by rw [List.length_drop]; omega)] at h1
 exact h enc w base sp held fuel _ _ h1
theorem downF_cons {N off : Nat} {f : Field} {fs : List Field} {α β : Type} {d : Kd α} {W : α → Prop} {d2 : Kd β} {W2 : β → Prop} (ho : f.offset = off) (hc : P.cellsOf f.type = d.sz) (h : Down P f.type d W) (h2 : DownF P N fs (off + d.sz) d2 W2) : DownF P N (f :: fs) off (Kd.pair d d2) (fun x => W x.1 ∧ W2 x.2) := by
 intro H enc w base sp held fuel cs xs hl hx
 rw [List.mapM_cons] at hx
 simp only [Option.bind_eq_bind, Option.bind_eq_some_iff] at hx
 obtain ⟨x, h3, ys, h4, _⟩ := hx
 rw [ho, hc] at h3
 obtain ⟨a, ha, hw⟩ := h enc w base sp held fuel _ _ h3
 obtain ⟨b, hb, hw2⟩ := h2 enc w base sp held fuel cs ys hl h4
 refine ⟨(a, b), ⟨(cs.drop off).take d.sz, cs.drop (off + d.sz), ?_, ha, hb⟩, hw, hw2⟩
 rw [← List.drop_drop, List.take_append_drop]
theorem down_struct {t : TypeId} {fs : Array Field} {α β : Type} {d : Kd α} {W : α → Prop} (ht : P.underlying t = some (.struct fs)) (f : β → α) (g : α → β) (hfg : ∀ a, f (g a) = a) (h : DownF P (P.cellsOf t) fs.toList 0 d W) : Down P t (Kd.iso d f) (fun x => W (f x)) := by
 intro H enc w base sp held fuel cs x hx
 cases fuel with
 | zero => simp [DataW.trod] at hx
 | succ fuel =>
  unfold DataW.trod at hx
  rw [ht] at hx
  simp only at hx
  by_cases c : cs.length = P.cellsOf t
  ·
   rw [if_pos c] at hx
   obtain ⟨xs, h1, _⟩ := Option.map_eq_some_iff.1 hx
   obtain ⟨a, h2, h3⟩ := h enc w base sp held fuel cs xs c h1
   exact ⟨g a, by show d.K w (f (g a)) cs; rw [hfg]; simpa using h2, by show W (f (g a)); rw [hfg]; exact h3⟩
  ·
   rw [if_neg c] at hx; cases hx
/-- A slice that came in. -/
theorem down_arg {t e : TypeId} {α : Type} {d : Kd α} {W : α → Prop} (ht : P.underlying t = some (.slice e)) (hd : Down P t (Kd.slice e d) (fun l => l.length ≤ maxLen ∧ ∀ x ∈ l, W x)) {H : Type} {enc : TypeId × Value → H} {w : World} {base : Nat} {sp : Nat → Bool} {held : Bool} {r : Reach} {b0 : Nat} {v : Value} {x : DataW H} {ps : List MemPlace}
  (hv : Value.okWide P w r b0 t v) (h : DataW.Trod enc P w base sp held t v x ps) : ∃ (A : Option Addr) (c : Nat) (l : List α), v = .slice A l.length c ∧ l.length ≤ c ∧ d.C w A l.length l ∧ l.length ≤ maxLen ∧ ∀ x ∈ l, W x := by
 obtain ⟨A, len, cap, rfl⟩ := Go.WideShapes.okWide_slice ht hv
 obtain ⟨fuel, hf⟩ := h
 obtain ⟨l, ⟨A', c', h1, h2, h3⟩, h4, h5⟩ := hd enc w base sp held fuel _ _ hf
 simp [Value.cells] at h1
 obtain ⟨rfl, rfl, rfl⟩ := h1
 exact ⟨A, cap, l, rfl, h2, h3, h4, h5⟩
/-- A struct that came in. -/
theorem down_agg {t : TypeId} {fs : Array Field} {α : Type} {d : Kd α} {W : α → Prop} (ht : P.underlying t = some (.struct fs)) (hd : Down P t d W) {H : Type} {enc : TypeId × Value → H} {w : World} {base : Nat} {sp : Nat → Bool} {held : Bool} {r : Reach} {b0 : Nat} {v : Value} {x : DataW H} {ps : List MemPlace}
  (hv : Value.okWide P w r b0 t v) (h : DataW.Trod enc P w base sp held t v x ps) : ∃ (cs : List Value) (a : α), v = .agg cs.toArray ∧ d.K w a cs ∧ W a := by
 unfold Value.okWide at hv
 rw [ht] at hv
 obtain ⟨cs, rfl, _, _⟩ := hv
 obtain ⟨fuel, hf⟩ := h
 obtain ⟨a, h1, h2⟩ := hd enc w base sp held fuel _ _ hf
 exact ⟨cs.toList, a, by simp, by simpa [Value.cells] using h1, h2⟩
end


end Go.Proofs.Ytaofihdmgdpenaa.X
