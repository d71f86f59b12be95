/- What Go functions of this seat compute, told as Lean functions, and that each call of the Go code comes to that answer; for a law: its row, for every input. Written by a program of the session. -/
import Derived.Test.YtnheknlmmmkbpaaX0
import Derived.Test.YtnheknlmmmkbpaaX2
import Derived.Test.YtnheknlmmmkbpaaX13
import Derived.Test.YtnheknlmmmkbpaaX25
import Derived.Test.YtnheknlmmmkbpaaX39
namespace Go.Proofs.Ytnheknlmmmkbpaa.X
open Go.RowKit Go.Proofs.YtnheknlmmmkbpaaW.PrintWords Go.Proofs.YtnheknlmmmkbpaaW.PrintLast Go.Proofs.YtnheknlmmmkbpaaW.PrintMore
attribute [local go_sem] max2_int min2_int max_two min_two max_three min_three max_four min_four   -- for this text's walks alone
set_option linter.unusedVariables false
set_option linter.unusedSimpArgs false

/-! ### headgatelaw31_BalanceEnds: function 6 -/
mutual
def headgatelaw31_BalanceEnds.j0 : Nat → Int → Int → Bool → List Int → List Int → List Bool → Option (Bool)
 | 0, _, _, _, _, _, _ => none
 | k + 1, x4, x5, x34, x246000, x246001, x246002 => if x34 = true then (some false) else (headgatelaw31_BalanceEnds.l0 k x4 x5 0 x246000 x246001 x246002)
def headgatelaw31_BalanceEnds.l0 : Nat → Int → Int → Int → List Int → List Int → List Bool → Option (Bool)
 | 0, _, _, _, _, _, _ => none
 | k + 1, x4, x5, x7, x246000, x246001, x246002 => if x7 < x5 then ((balance_Which.f k x246000 x246001 x246002).bind fun bt248 => (if bt248.2 = 0 then (if bt248.1 = 1 then ((lru_Demote.f x246000 x246001 x246002).bind fun bt250 => (if bt250.2.2.2.2 = 0 then (if (wrap64 ((bt250.1.length : Int) + (bt250.2.1.length : Int))) = x4 then (headgatelaw31_BalanceEnds.l0 k x4 x5 (wrap64 (x7 + 1)) bt250.1 bt250.2.1 bt250.2.2.1) else (some false)) else (some false))) else (if bt248.1 = 2 then ((lru_Promote.f x246000 x246001 x246002).bind fun bt261 => (if bt261.2.2.2.2 = 0 then (if (wrap64 ((bt261.1.length : Int) + (bt261.2.1.length : Int))) = x4 then (headgatelaw31_BalanceEnds.l0 k x4 x5 (wrap64 (x7 + 1)) bt261.1 bt261.2.1 bt261.2.2.1) else (some false)) else (some false))) else (some false))) else (some false))) else (if x4 = 0 then (if x5 = 0 then ((headgatelaw31_which.f k x246000 x246001 x246002 0).bind fun t272 => (if t272 = true then ((headgatelaw31_awake.f k).bind fun t273 => (some t273)) else (some false))) else (some false)) else ((balance_Steps.f k x246000 x246001 x246002).bind fun bt274 => (if bt274.1 = 0 then (if bt274.2 = 0 then ((headgatelaw31_which.f k x246000 x246001 x246002 3).bind fun t276 => (if t276 = true then ((headgatelaw31_awake.f k).bind fun t277 => (some t277)) else (some false))) else (some false)) else (some false))))
end
def headgatelaw31_BalanceEnds.f (k : Nat) (l0 : List Int) : Option (Bool) := (headgatelaw31_made.f k l0).bind fun bt236 => ((balance_Steps.f k bt236.1 bt236.2.1 bt236.2.2).bind fun bt246 => (if bt246.2 = 0 then (if bt246.1 < 0 then (headgatelaw31_BalanceEnds.j0 k (wrap64 ((bt236.1.length : Int) + (bt236.2.1.length : Int))) bt246.1 true bt236.1 bt236.2.1 bt236.2.2) else (headgatelaw31_BalanceEnds.j0 k (wrap64 ((bt236.1.length : Int) + (bt236.2.1.length : Int))) bt246.1 (decide (bt246.1 > 200)) bt236.1 bt236.2.1 bt236.2.2)) else (headgatelaw31_BalanceEnds.j0 k (wrap64 ((bt236.1.length : Int) + (bt236.2.1.length : Int))) bt246.1 true bt236.1 bt236.2.1 bt236.2.2)))
theorem headgatelaw31_BalanceEnds.mono_l : ∀ k, (∀ y0 y1 y2 y3 y4 y5, LeO (headgatelaw31_BalanceEnds.j0 k y0 y1 y2 y3 y4 y5) (headgatelaw31_BalanceEnds.j0 (k + 1) y0 y1 y2 y3 y4 y5)) ∧ (∀ y0 y1 y2 y3 y4 y5, LeO (headgatelaw31_BalanceEnds.l0 k y0 y1 y2 y3 y4 y5) (headgatelaw31_BalanceEnds.l0 (k + 1) y0 y1 y2 y3 y4 y5))
 | 0 => ⟨fun _ _ _ _ _ _ r h => by simp [headgatelaw31_BalanceEnds.j0] at h, fun _ _ _ _ _ _ r h => by simp [headgatelaw31_BalanceEnds.l0] at h⟩
 | k + 1 => by
  obtain ⟨ih0, ih1⟩ := headgatelaw31_BalanceEnds.mono_l k
  refine ⟨?_, ?_⟩
  ·
   intro y0 y1 y2 y3 y4 y5
   unfold headgatelaw31_BalanceEnds.j0
   repeat' first
   | (with_reducible exact ih0 _ _ _ _ _ _)
   | (with_reducible exact ih1 _ _ _ _ _ _)
   | (with_reducible exact balance_Steps.mono _ _ _ _)
   | (with_reducible exact balance_Which.mono _ _ _ _)
   | (with_reducible exact headgatelaw31_awake.mono _)
   | (with_reducible exact headgatelaw31_made.mono _ _)
   | (with_reducible exact headgatelaw31_which.mono _ _ _ _ _)
   | (with_reducible exact LeO.refl _)
   | (with_reducible exact LeO.none _)
   | (with_reducible refine LeO.ite ?_ ?_)
   | (with_reducible refine LeO.bind ?_ (fun _ => ?_))
   | exact ih0 _ _ _ _ _ _
   | exact ih1 _ _ _ _ _ _
   | exact balance_Steps.mono _ _ _ _
   | exact balance_Which.mono _ _ _ _
   | exact headgatelaw31_awake.mono _
   | exact headgatelaw31_made.mono _ _
   | exact headgatelaw31_which.mono _ _ _ _ _
   | exact LeO.none _
   | refine LeO.ite ?_ ?_
   | refine LeO.bind ?_ (fun _ => ?_)
  ·
   intro y0 y1 y2 y3 y4 y5
   unfold headgatelaw31_BalanceEnds.l0
   repeat' first
   | (with_reducible exact ih0 _ _ _ _ _ _)
   | (with_reducible exact ih1 _ _ _ _ _ _)
   | (with_reducible exact balance_Steps.mono _ _ _ _)
   | (with_reducible exact balance_Which.mono _ _ _ _)
   | (with_reducible exact headgatelaw31_awake.mono _)
   | (with_reducible exact headgatelaw31_made.mono _ _)
   | (with_reducible exact headgatelaw31_which.mono _ _ _ _ _)
   | (with_reducible exact LeO.refl _)
   | (with_reducible exact LeO.none _)
   | (with_reducible refine LeO.ite ?_ ?_)
   | (with_reducible refine LeO.bind ?_ (fun _ => ?_))
   | exact ih0 _ _ _ _ _ _
   | exact ih1 _ _ _ _ _ _
   | exact balance_Steps.mono _ _ _ _
   | exact balance_Which.mono _ _ _ _
   | exact headgatelaw31_awake.mono _
   | exact headgatelaw31_made.mono _ _
   | exact headgatelaw31_which.mono _ _ _ _ _
   | exact LeO.none _
   | refine LeO.ite ?_ ?_
   | refine LeO.bind ?_ (fun _ => ?_)
theorem headgatelaw31_BalanceEnds.mono : ∀ a0 k, LeO (headgatelaw31_BalanceEnds.f k a0) (headgatelaw31_BalanceEnds.f (k + 1) a0) := by
 intro a0 k
 obtain ⟨ih0, ih1⟩ := headgatelaw31_BalanceEnds.mono_l k
 unfold headgatelaw31_BalanceEnds.f
 repeat' first
   | (with_reducible exact ih0 _ _ _ _ _ _)
   | (with_reducible exact ih1 _ _ _ _ _ _)
   | (with_reducible exact balance_Steps.mono _ _ _ _)
   | (with_reducible exact balance_Which.mono _ _ _ _)
   | (with_reducible exact headgatelaw31_awake.mono _)
   | (with_reducible exact headgatelaw31_made.mono _ _)
   | (with_reducible exact headgatelaw31_which.mono _ _ _ _ _)
   | (with_reducible exact LeO.refl _)
   | (with_reducible exact LeO.none _)
   | (with_reducible refine LeO.ite ?_ ?_)
   | (with_reducible refine LeO.bind ?_ (fun _ => ?_))
   | exact ih0 _ _ _ _ _ _
   | exact ih1 _ _ _ _ _ _
   | exact balance_Steps.mono _ _ _ _
   | exact balance_Which.mono _ _ _ _
   | exact headgatelaw31_awake.mono _
   | exact headgatelaw31_made.mono _ _
   | exact headgatelaw31_which.mono _ _ _ _ _
   | exact LeO.none _
   | refine LeO.ite ?_ ?_
   | refine LeO.bind ?_ (fun _ => ?_)
set_option maxHeartbeats 2000000 in
set_option maxRecDepth 100000 in
theorem headgatelaw31_BalanceEnds.calls (k : Nat) (A0 : Option Addr) (c0 : Nat) (l0 : List Int) (r : Bool) (w : World) (hr0 : Kd.C (Kd.int .i64) w A0 l0.length l0) (hc0 : l0.length ≤ c0) (HT : Aside0 (r = true)) (h : headgatelaw31_BalanceEnds.f k l0 = some r) :
  Calls Try.prog 6 #[.slice A0 l0.length c0] w fun e w' => e = .returned (.bool r) ∧ Below w.heap.size w w' := by
 have hu33 := Try.underlying33
 have HR0 := Aside0.mk hr0
 have HC0 := Aside0.mk hc0
 clear hr0 hc0
 have HB := Aside0.mk (Below.refl w.heap.size w)
 have H : ((headgatelaw31_made.f k l0).bind fun bt236 => ((balance_Steps.f k bt236.1 bt236.2.1 bt236.2.2).bind fun bt246 => (if bt246.2 = 0 then (if bt246.1 < 0 then (headgatelaw31_BalanceEnds.j0 k (wrap64 ((bt236.1.length : Int) + (bt236.2.1.length : Int))) bt246.1 true bt236.1 bt236.2.1 bt236.2.2) else (headgatelaw31_BalanceEnds.j0 k (wrap64 ((bt236.1.length : Int) + (bt236.2.1.length : Int))) bt246.1 (decide (bt246.1 > 200)) bt236.1 bt236.2.1 bt236.2.2)) else (headgatelaw31_BalanceEnds.j0 k (wrap64 ((bt236.1.length : Int) + (bt236.2.1.length : Int))) bt246.1 true bt236.1 bt236.2.1 bt236.2.2)))) = some r := h
 clear h
 replace H := Option.bind_eq_some_iff.mp H
 obtain ⟨⟨t236, t239, t242⟩, A20, H⟩ := H
 replace H : ((balance_Steps.f k t236 t239 t242).bind fun bt246 => (if bt246.2 = 0 then (if bt246.1 < 0 then (headgatelaw31_BalanceEnds.j0 k (wrap64 ((t236.length : Int) + (t239.length : Int))) bt246.1 true t236 t239 t242) else (headgatelaw31_BalanceEnds.j0 k (wrap64 ((t236.length : Int) + (t239.length : Int))) bt246.1 (decide (bt246.1 > 200)) t236 t239 t242)) else (headgatelaw31_BalanceEnds.j0 k (wrap64 ((t236.length : Int) + (t239.length : Int))) bt246.1 true t236 t239 t242))) = some r := H
 have A2 := Aside0.mk A20
 clear A20
 replace H := Option.bind_eq_some_iff.mp H
 obtain ⟨⟨t246, t247⟩, A30, H⟩ := H
 replace H : (if t247 = 0 then (if t246 < 0 then (headgatelaw31_BalanceEnds.j0 k (wrap64 ((t236.length : Int) + (t239.length : Int))) t246 true t236 t239 t242) else (headgatelaw31_BalanceEnds.j0 k (wrap64 ((t236.length : Int) + (t239.length : Int))) t246 (decide (t246 > 200)) t236 t239 t242)) else (headgatelaw31_BalanceEnds.j0 k (wrap64 ((t236.length : Int) + (t239.length : Int))) t246 true t236 t239 t242)) = some r := H
 have A3 := Aside0.mk A30
 clear A30
 have HC4 := Aside0.mk H
 clear H
 go_enter Try.func6, Try.ntmps6
 go_upto_region 4 with (first | ((with_reducible refine gate_callee (f := 17) rfl ?_); refine goesL_ (some 12) rfl rfl Try.func17 (by kernel_rfl) rfl #[.slice A0 l0.length c0] rfl (args_ (p := _)) ?_; (with_reducible refine (headgatelaw31_made.calls k _ _ l0 t236 t239 t242 _ ?side1 ?side2 A2.out).mono ?_); (case side1 => exact upc HR0.out); (case side2 => exact HC0.out); rintro e w5 ⟨v237, v240, v243, rfl, ho0, ho1, ho2, hb⟩; refine ⟨_, rfl, ?_⟩; have n0_ := Aside0.mk (Kd.R_lower ho0 (below_size (upH HB))); have n1_ := Aside0.mk (Kd.R_lower ho1 (below_size (upH HB))); have n2_ := Aside0.mk (Kd.R_lower ho2 (below_size (upH HB))); have n3_ := Aside0.mk (below_step (upH HB) hb); clear HB; have HO238 := n0_; have HO241 := n1_; have HO244 := n2_; have HB := n3_; clear n0_ n1_ n2_ n3_; (try clear hb); (try clear hb2); (try clear hk); (try clear hi); (try clear ho0); (try clear ho1); (try clear ho2)) | ((with_reducible refine gate_dst (N := 3) rfl ?_); (try (refine gate_guard (by rfl) ?_; dsimp only)); refine box_event ?hg (N := 3) ?hd (cs := #[.slice none 0 0, .slice none 0 0, .slice none 0 0]) (t := 33) ?hr ?_; (case hd => rfl); (case hg => rfl); (case hr => first | (go_simp; done) | (go_simp; rfl)); intro gb245 hg w6 hbox hb; have n0_ := Aside0.mk (Kd.R_below (upR HO238.out) hb); have n1_ := Aside0.mk (Kd.R_below (upR HO241.out) hb); have n2_ := Aside0.mk (Kd.R_below (upR HO244.out) hb); have n3_ := Aside0.mk (below_step (upH HB) hb); have n4_ := Aside0.mk (hbox); have n5_ := Aside0.mk ((by rw [hg]; exact (below_size (upH HB)) : w.heap.size ≤ gb245)); have n6_ := Aside0.mk ((by rw [hg]; exact (below_size (upH HB)) : w.heap.size ≤ gb245)); clear HO238; clear HO241; clear HO244; clear HB; have HO238 := n0_; have HO241 := n1_; have HO244 := n2_; have HB := n3_; have BK245 := n4_; have GW245 := n5_; have GE245 := n6_; clear n0_ n1_ n2_ n3_ n4_ n5_ n6_; clear hb hbox hg; obtain ⟨Ao7, co7, eo7⟩ := Kd.R_slice HO238.out; subst eo7; have hcz8_0 := cell0 BK245; have hcz8_1 := cell1 BK245; have hcz8_2 := cell2 BK245; have hfz8_0 := blk_frozen BK245.out 0; have hfz8_1 := blk_frozen BK245.out 1; have hfz8_2 := blk_frozen BK245.out 2; obtain ⟨Ao9, co9, eo9⟩ := Kd.R_slice HO241.out; subst eo9; obtain ⟨Ao10, co10, eo10⟩ := Kd.R_slice HO244.out; subst eo10) | ((with_reducible refine gate_callee (f := 18) rfl ?_); refine goesL_ (some 22) rfl rfl Try.func18 (by kernel_rfl) rfl #[.agg #[.slice Ao7 t236.length co7, .slice Ao9 t239.length co9, .slice Ao10 t242.length co10]] rfl (args_ (p := _)) ?_; (with_reducible refine (balance_Steps.calls k _ _ t236 _ _ t239 _ _ t242 t246 t247 _ ?side1 ?side2 ?side3 ?side4 ?side5 ?side6 A3.out).mono ?_); (case side1 => exact (Kd.R_reads' (upR (Kd.R_mono (far3 HO238.out BK245) (fun _ h_ => h_.1)))).2.2); (case side2 => exact (Kd.R_reads' HO238.out).2.1); (case side3 => exact (Kd.R_reads' (upR (Kd.R_mono (far3 HO241.out BK245) (fun _ h_ => h_.1)))).2.2); (case side4 => exact (Kd.R_reads' HO241.out).2.1); (case side5 => exact (Kd.R_reads' (upR (Kd.R_mono (far3 HO244.out BK245) (fun _ h_ => h_.1)))).2.2); (case side6 => exact (Kd.R_reads' HO244.out).2.1); rintro e w11 ⟨rfl, hb⟩; refine ⟨_, rfl, ?_⟩; have n0_ := Aside0.mk (Kd.R_below (upR (Kd.R_mono (far3 HO238.out BK245) (fun _ h_ => h_.1))) hb); have n1_ := Aside0.mk (Kd.R_below (upR (Kd.R_mono (far3 HO241.out BK245) (fun _ h_ => h_.1))) hb); have n2_ := Aside0.mk (Kd.R_below (upR (Kd.R_mono (far3 HO244.out BK245) (fun _ h_ => h_.1))) hb); have n3_ := Aside0.mk (blk_below (g := gb245) (o := .cells #[.slice Ao7 t236.length co7, .slice Ao9 t239.length co9, .slice Ao10 t242.length co10] 33 (0, 0)) (by (with_reducible repeat (first | refine blk_drewN ?_ _ | refine blk_drew ?_ | refine blk_alloc ?_ _)); refine blk_put (cs := #[.slice Ao7 t236.length co7, .slice Ao9 t239.length co9, .slice none 0 0]) ?_ 2 _ rfl; (with_reducible repeat (first | refine blk_drewN ?_ _ | refine blk_drew ?_ | refine blk_alloc ?_ _)); refine blk_put (cs := #[.slice Ao7 t236.length co7, .slice none 0 0, .slice none 0 0]) ?_ 1 _ rfl; (with_reducible repeat (first | refine blk_drewN ?_ _ | refine blk_drew ?_ | refine blk_alloc ?_ _)); refine blk_put (cs := #[.slice none 0 0, .slice none 0 0, .slice none 0 0]) ?_ 0 _ rfl; (with_reducible repeat (first | refine blk_drewN ?_ _ | refine blk_drew ?_ | refine blk_alloc ?_ _)); exact BK245.out) hb); have n4_ := Aside0.mk (below_step (upH HB) hb); clear HO238; clear HO241; clear HO244; clear BK245; clear HB; have HO238 := n0_; have HO241 := n1_; have HO244 := n2_; have BK245 := n3_; have HB := n4_; clear n0_ n1_ n2_ n3_ n4_; (try clear hb); (try clear hb2); (try clear hk); (try clear hi)))
 (try simp only [Act.put, List.setIfInBounds_toArray, List.set_cons_zero, List.set_cons_succ])
 go_cut [34] (fun v34 wc => ∃ (kq : Nat) (x34_3 : Bool), v34 = .bool x34_3 ∧ Aside0 (headgatelaw31_BalanceEnds.j0 kq (wrap64 ((t236.length : Int) + (t239.length : Int))) t246 x34_3 t236 t239 t242 = some r) ∧ Aside0 (kq ≤ k) ∧ Aside0 (Kd.R (Kd.int .i64) 3 wc w.heap.size (fun k_ => some k_ ≠ ((.slice Ao9 t239.length co9) : Value).ownBlock) (.slice Ao7 t236.length co7) t236) ∧ Aside0 (Kd.R (Kd.int .i64) 3 wc w.heap.size (fun k_ => some k_ ≠ ((.slice Ao7 t236.length co7) : Value).ownBlock) (.slice Ao9 t239.length co9) t239) ∧ Aside0 (Kd.R Kd.bool 4 wc w.heap.size (fun _ => True) (.slice Ao10 t242.length co10) t242) ∧ Aside0 (wc.heap[gb245]? = some (.cells #[(.slice Ao7 t236.length co7), (.slice Ao9 t239.length co9), (.slice Ao10 t242.length co10)] 33 (0, 0))) ∧ Aside0 (Below w.heap.size w wc))
 case first =>
  have H := HC4.out
  clear HC4
  by_cases c12 : t247 = 0
  ·
   rw [if_pos c12] at H
   have c12b0 : (t247 == 0) = true := beq_iff_eq.mpr c12
   have c12b1 : (t247 != 0) = false := bne_eq_false_iff_eq.mpr c12
   clear c12
   (first | rw [c12b0] | (simp only [i64_w, i32_w]; rw [c12b0]) | skip)
   by_cases c13 : t246 < 0
   ·
    rw [if_pos c13] at H
    have c13b0 : decide (t246 < 0) = true := decide_eq_true c13
    clear c13
    have H' := Aside0.mk H
    clear H
    go_wp2
    go_meet
    case rel => exact ⟨_, (true), (by first | rfl | (simp; done) | (simp [*]; done)), H', ⟨by first | omega | exact Nat.le_refl _⟩, ⟨upR HO238.out⟩, ⟨upR HO241.out⟩, ⟨upR HO244.out⟩, ⟨upB BK245⟩, ⟨upH HB⟩⟩
   ·
    rw [if_neg c13] at H
    have c13b0 : decide (t246 < 0) = false := decide_eq_false c13
    clear c13
    have H' := Aside0.mk H
    clear H
    go_wp2
    go_meet
    case rel => exact ⟨_, (decide (t246 > 200)), (by first | rfl | (simp; done) | (simp [*]; done)), H', ⟨by first | omega | exact Nat.le_refl _⟩, ⟨upR HO238.out⟩, ⟨upR HO241.out⟩, ⟨upR HO244.out⟩, ⟨upB BK245⟩, ⟨upH HB⟩⟩
  ·
   rw [if_neg c12] at H
   have c12b0 : (t247 == 0) = false := beq_eq_false_iff_ne.mpr c12
   have c12b1 : (t247 != 0) = true := bne_iff_ne.mpr c12
   (first | rw [c12b0] | (simp only [i64_w, i32_w]; rw [c12b0]) | skip)
   have H' := Aside0.mk H
   clear H
   go_wp2
   go_meet
   case rel => exact ⟨_, (true), (by first | rfl | (simp; done) | (simp [*]; done)), H', ⟨by first | omega | exact Nat.le_refl _⟩, ⟨upR HO238.out⟩, ⟨upR HO241.out⟩, ⟨upR HO244.out⟩, ⟨upB BK245⟩, ⟨upH HB⟩⟩
 case rest =>
  clear HC4
  try clear c1
  try clear p2
  try clear c6
  try clear p6
  try clear c12
  try clear c12b0
  try clear c12b1
  try clear c13
  try clear c13b0
  try clear hcz8_0
  try clear hcz8_1
  try clear hcz8_2
  try clear hfz8_0
  try clear hfz8_1
  try clear hfz8_2
  obtain ⟨kq, x34_3, rfl, HA, HJ3, HO_246000, HO_246001, HO_246002, BK245, HB⟩ := hcut
  cases kq with
  | zero => exact absurd HA.out (by simp [headgatelaw31_BalanceEnds.j0])
  | succ kj3 =>
   have H := HA.out
   clear HA
   simp only [headgatelaw31_BalanceEnds.j0] at H
   by_cases c14 : x34_3 = true
   ·
    subst c14
    have H1 : (some false) = some r := by rw [if_pos rfl] at H; exact H
    clear H
    have H := H1
    clear H1
    exact absurd H (by rw [HT.out]; simp)
   ·
    replace c14 := Bool.eq_false_iff.mpr c14
    subst c14
    have H1 : (headgatelaw31_BalanceEnds.l0 kj3 (wrap64 ((t236.length : Int) + (t239.length : Int))) t246 0 t236 t239 t242) = some r := by rw [if_neg (show ¬ (false = true) by decide)] at H; exact H
    clear H
    have H := H1
    clear H1
    have H' := Aside0.mk H
    clear H
    go_wp2
    go_loopg [7] kj3 (fun kq v7 w' => ∃ (x7_2 : Int) (x246000_2 : List Int) (x246001_2 : List Int) (x246002_2 : List Bool) (u246000 : Value) (u246001 : Value) (u246002 : Value), v7 = .int .i64 x7_2 ∧ Aside0 (headgatelaw31_BalanceEnds.l0 kq (wrap64 ((t236.length : Int) + (t239.length : Int))) t246 x7_2 x246000_2 x246001_2 x246002_2 = some r) ∧ Aside0 (kq ≤ kj3) ∧ Aside0 (Kd.R (Kd.int .i64) 3 w' w.heap.size (fun k_ => some k_ ≠ (u246001 : Value).ownBlock) u246000 x246000_2) ∧ Aside0 (Kd.R (Kd.int .i64) 3 w' w.heap.size (fun k_ => some k_ ≠ (u246000 : Value).ownBlock) u246001 x246001_2) ∧ Aside0 (Kd.R Kd.bool 4 w' w.heap.size (fun _ => True) u246002 x246002_2) ∧ Aside0 (w'.heap[gb245]? = some (.cells #[u246000, u246001, u246002] 33 (0, 0))) ∧ Aside0 (Below w.heap.size w w'))
    case atStart => exact ⟨(0), (t236), (t239), (t242), (.slice Ao7 t236.length co7), (.slice Ao9 t239.length co9), (.slice Ao10 t242.length co10), (by first | rfl | (simp; done) | (simp [*]; done)), H', ⟨Nat.le_refl _⟩, ⟨upR HO_246000.out⟩, ⟨upR HO_246001.out⟩, ⟨upR HO_246002.out⟩, ⟨upB BK245⟩, ⟨upH HB⟩⟩
    case round =>
     clear H'
     try clear c1
     try clear p2
     try clear c6
     try clear p6
     try clear c12
     try clear c12b0
     try clear c12b1
     try clear c13
     try clear c13b0
     try clear c14
     try clear hcz8_0
     try clear hcz8_1
     try clear hcz8_2
     try clear hfz8_0
     try clear hfz8_1
     try clear hfz8_2
     try clear p2
     try clear p6
     obtain ⟨x7_2, x246000_2, x246001_2, x246002_2, u246000, u246001, u246002, rfl, HA, HK2, HO_246000, HO_246001, HO_246002, BK245, HB⟩ := hrel
     cases gk with
     | zero => exact absurd HA.out (by simp [headgatelaw31_BalanceEnds.l0])
     | succ k2 =>
      have H := HA.out
      clear HA
      simp only [headgatelaw31_BalanceEnds.l0] at H
      by_cases c15 : x7_2 < t246
      ·
       rw [if_pos c15] at H
       have c15b0 : decide (x7_2 < t246) = true := decide_eq_true c15
       clear c15
       replace H := Option.bind_eq_some_iff.mp H
       obtain ⟨⟨t248, t249⟩, A160, H⟩ := H
       replace H : (if t249 = 0 then (if t248 = 1 then ((lru_Demote.f x246000_2 x246001_2 x246002_2).bind fun bt250 => (if bt250.2.2.2.2 = 0 then (if (wrap64 ((bt250.1.length : Int) + (bt250.2.1.length : Int))) = (wrap64 ((t236.length : Int) + (t239.length : Int))) then (headgatelaw31_BalanceEnds.l0 k2 (wrap64 ((t236.length : Int) + (t239.length : Int))) t246 (wrap64 (x7_2 + 1)) bt250.1 bt250.2.1 bt250.2.2.1) else (some false)) else (some false))) else (if t248 = 2 then ((lru_Promote.f x246000_2 x246001_2 x246002_2).bind fun bt261 => (if bt261.2.2.2.2 = 0 then (if (wrap64 ((bt261.1.length : Int) + (bt261.2.1.length : Int))) = (wrap64 ((t236.length : Int) + (t239.length : Int))) then (headgatelaw31_BalanceEnds.l0 k2 (wrap64 ((t236.length : Int) + (t239.length : Int))) t246 (wrap64 (x7_2 + 1)) bt261.1 bt261.2.1 bt261.2.2.1) else (some false)) else (some false))) else (some false))) else (some false)) = some r := H
       have A16 := Aside0.mk A160
       clear A160
       by_cases c17 : t249 = 0
       ·
        rw [if_pos c17] at H
        have c17b0 : (t249 == 0) = true := beq_iff_eq.mpr c17
        have c17b1 : (t249 != 0) = false := bne_eq_false_iff_eq.mpr c17
        clear c17
        by_cases c18 : t248 = 1
        ·
         rw [if_pos c18] at H
         have c18b0 : (t248 == 1) = true := beq_iff_eq.mpr c18
         have c18b1 : (t248 != 1) = false := bne_eq_false_iff_eq.mpr c18
         clear c18
         replace H := Option.bind_eq_some_iff.mp H
         obtain ⟨⟨t250, t253, t256, t259, t260⟩, A190, H⟩ := H
         replace H : (if t260 = 0 then (if (wrap64 ((t250.length : Int) + (t253.length : Int))) = (wrap64 ((t236.length : Int) + (t239.length : Int))) then (headgatelaw31_BalanceEnds.l0 k2 (wrap64 ((t236.length : Int) + (t239.length : Int))) t246 (wrap64 (x7_2 + 1)) t250 t253 t256) else (some false)) else (some false)) = some r := H
         have A19 := Aside0.mk A190
         clear A190
         by_cases c20 : t260 = 0
         ·
          rw [if_pos c20] at H
          have c20b0 : (t260 == 0) = true := beq_iff_eq.mpr c20
          have c20b1 : (t260 != 0) = false := bne_eq_false_iff_eq.mpr c20
          clear c20
          by_cases c21 : (wrap64 ((t250.length : Int) + (t253.length : Int))) = (wrap64 ((t236.length : Int) + (t239.length : Int)))
          ·
           rw [if_pos c21] at H
           have c21b0 : ((wrap64 ((t250.length : Int) + (t253.length : Int))) == (wrap64 ((t236.length : Int) + (t239.length : Int)))) = true := beq_iff_eq.mpr c21
           have c21b1 : ((wrap64 ((t250.length : Int) + (t253.length : Int))) != (wrap64 ((t236.length : Int) + (t239.length : Int)))) = false := bne_eq_false_iff_eq.mpr c21
           clear c21
           have H' := Aside0.mk H
           clear H
           have hcz22_0 := cell0 BK245
           have hcz22_1 := cell1 BK245
           have hcz22_2 := cell2 BK245
           have hfz22_0 := blk_frozen BK245.out 0
           have hfz22_1 := blk_frozen BK245.out 1
           have hfz22_2 := blk_frozen BK245.out 2
           obtain ⟨Ao23, co23, eo23⟩ := Kd.R_slice HO_246000.out
           subst eo23
           obtain ⟨Ao24, co24, eo24⟩ := Kd.R_slice HO_246001.out
           subst eo24
           obtain ⟨Ao25, co25, eo25⟩ := Kd.R_slice HO_246002.out
           subst eo25
           go_wp2_with (first | ((with_reducible refine gate_callee (f := 19) rfl ?_); refine goesL_ (some 42) rfl rfl Try.func19 (by kernel_rfl) rfl #[.agg #[.slice Ao23 x246000_2.length co23, .slice Ao24 x246001_2.length co24, .slice Ao25 x246002_2.length co25]] rfl (args_ (p := _)) ?_; (with_reducible refine (balance_Which.calls k2 _ _ x246000_2 _ _ x246001_2 _ _ x246002_2 t248 t249 _ ?side1 ?side2 ?side3 ?side4 ?side5 ?side6 A16.out).mono ?_); (case side1 => exact upc (Kd.R_reads' HO_246000.out).2.2); (case side2 => exact (Kd.R_reads' HO_246000.out).2.1); (case side3 => exact upc (Kd.R_reads' HO_246001.out).2.2); (case side4 => exact (Kd.R_reads' HO_246001.out).2.1); (case side5 => exact upc (Kd.R_reads' HO_246002.out).2.2); (case side6 => exact (Kd.R_reads' HO_246002.out).2.1); rintro e w26 ⟨rfl, hb⟩; refine ⟨_, rfl, ?_⟩; have n0_ := Aside0.mk (Kd.R_below (upR HO_246000.out) hb); have n1_ := Aside0.mk (Kd.R_below (upR HO_246001.out) hb); have n2_ := Aside0.mk (Kd.R_below (upR HO_246002.out) hb); have n3_ := Aside0.mk (blkB BK245 hb); have n4_ := Aside0.mk (below_step (upH HB) hb); clear HO_246000; clear HO_246001; clear HO_246002; clear BK245; clear HB; have HO_246000 := n0_; have HO_246001 := n1_; have HO_246002 := n2_; have BK245 := n3_; have HB := n4_; clear n0_ n1_ n2_ n3_ n4_; (try clear hb); (try clear hb2); (try clear hk); (try clear hi); have hcz27_0 := cell0 BK245; have hcz27_1 := cell1 BK245; have hcz27_2 := cell2 BK245; have hfz27_0 := blk_frozen BK245.out 0; have hfz27_1 := blk_frozen BK245.out 1; have hfz27_2 := blk_frozen BK245.out 2) | ((with_reducible refine gate_callee (f := 20) rfl ?_); refine goesL_ (some 52) rfl rfl Try.func20 (by kernel_rfl) rfl #[.agg #[.slice Ao23 x246000_2.length co23, .slice Ao24 x246001_2.length co24, .slice Ao25 x246002_2.length co25]] rfl (args_ (p := _)) ?_; (with_reducible refine (lru_Demote.calls _ _ x246000_2 _ _ x246001_2 _ _ x246002_2 t250 t253 t256 t259 t260 _ ?side1 ?side2 ?side3 ?side4 ?side5 ?side6 A19.out).mono ?_); (case side1 => exact upc (Kd.R_reads' HO_246000.out).2.2); (case side2 => exact (Kd.R_reads' HO_246000.out).2.1); (case side3 => exact upc (Kd.R_reads' HO_246001.out).2.2); (case side4 => exact (Kd.R_reads' HO_246001.out).2.1); (case side5 => exact upc (Kd.R_reads' HO_246002.out).2.2); (case side6 => exact (Kd.R_reads' HO_246002.out).2.1); rintro e w28 ⟨v251, v254, v257, rfl, ho0, ho1, ho2, hb⟩; refine ⟨_, rfl, ?_⟩; have n0_ := Aside0.mk (Kd.R_mono (Kd.R_told (Kd.R_told (Kd.R_old (upR HO_246000.out) hb) (Kd.R_base ho0)) (Kd.R_base ho1)) (fun _ h_ => h_.1)); have n1_ := Aside0.mk (Kd.R_mono (Kd.R_told (Kd.R_told (Kd.R_old (upR HO_246001.out) hb) (Kd.R_base ho0)) (Kd.R_base ho1)) (fun _ h_ => h_.1)); have n2_ := Aside0.mk (Kd.R_elder' (upR HO_246002.out) (Kd.R_base ho2) hb); have n3_ := Aside0.mk (Kd.R_lower (Kd.R_new' (Kd.R_new' ho0 (Kd.R_lt (upR HO_246000.out))) (Kd.R_lt (upR HO_246001.out))) (below_size (upH HB))); have n4_ := Aside0.mk (Kd.R_lower (Kd.R_new' (Kd.R_new' ho1 (Kd.R_lt (upR HO_246000.out))) (Kd.R_lt (upR HO_246001.out))) (below_size (upH HB))); have n5_ := Aside0.mk (Kd.R_lower (Kd.R_new' ho2 (Kd.R_lt (upR HO_246002.out))) (below_size (upH HB))); have n6_ := Aside0.mk (blkB BK245 hb); have n7_ := Aside0.mk (below_step (upH HB) hb); clear HO_246000; clear HO_246001; clear HO_246002; clear BK245; clear HB; have HO_246000 := n0_; have HO_246001 := n1_; have HO_246002 := n2_; have HO252 := n3_; have HO255 := n4_; have HO258 := n5_; have BK245 := n6_; have HB := n7_; clear n0_ n1_ n2_ n3_ n4_ n5_ n6_ n7_; (try clear hb); (try clear hb2); (try clear hk); (try clear hi); (try clear ho0); (try clear ho1); (try clear ho2); obtain ⟨Ao29, co29, eo29⟩ := Kd.R_slice HO252.out; subst eo29; have hcz30_0 := cell0 BK245; have hcz30_1 := cell1 BK245; have hcz30_2 := cell2 BK245; have hfz30_0 := blk_frozen BK245.out 0; have hfz30_1 := blk_frozen BK245.out 1; have hfz30_2 := blk_frozen BK245.out 2; obtain ⟨Ao31, co31, eo31⟩ := Kd.R_slice HO255.out; subst eo31; obtain ⟨Ao32, co32, eo32⟩ := Kd.R_slice HO258.out; subst eo32))
           go_roundg k2
           case measure => have := HJ3.out; have := HK2.out; omega
           case rel => exact ⟨(wrap64 (x7_2 + 1)), (t250), (t253), (t256), (.slice Ao29 t250.length co29), (.slice Ao31 t253.length co31), (.slice Ao32 t256.length co32), (by first | rfl | (simp; done) | (simp [*]; done)), H', ⟨by have := HJ3.out; have := HK2.out; omega⟩, ⟨by (with_reducible repeat (first | apply Kd.R_alloc | apply Kd.R_drewN | apply Kd.R_drew)); exact Kd.R_mono (far3 HO252.out BK245) (fun _ hk => hk.1.1.1)⟩, ⟨by (with_reducible repeat (first | apply Kd.R_alloc | apply Kd.R_drewN | apply Kd.R_drew)); exact Kd.R_mono (far3 HO255.out BK245) (fun _ hk => hk.1.1.1)⟩, ⟨by (with_reducible repeat (first | apply Kd.R_alloc | apply Kd.R_drewN | apply Kd.R_drew)); exact Kd.R_mono (far3 HO258.out BK245) (fun _ hk => trivial)⟩, ⟨by (with_reducible repeat (first | refine blk_drewN ?_ _ | refine blk_drew ?_ | refine blk_alloc ?_ _)); refine blk_put (cs := #[.slice Ao29 t250.length co29, .slice Ao31 t253.length co31, .slice Ao25 x246002_2.length co25]) ?_ 2 _ rfl; (with_reducible repeat (first | refine blk_drewN ?_ _ | refine blk_drew ?_ | refine blk_alloc ?_ _)); refine blk_put (cs := #[.slice Ao29 t250.length co29, .slice Ao24 x246001_2.length co24, .slice Ao25 x246002_2.length co25]) ?_ 1 _ rfl; (with_reducible repeat (first | refine blk_drewN ?_ _ | refine blk_drew ?_ | refine blk_alloc ?_ _)); refine blk_put (cs := #[.slice Ao23 x246000_2.length co23, .slice Ao24 x246001_2.length co24, .slice Ao25 x246002_2.length co25]) ?_ 0 _ rfl; (with_reducible repeat (first | refine blk_drewN ?_ _ | refine blk_drew ?_ | refine blk_alloc ?_ _)); exact BK245.out⟩, ⟨upH HB⟩⟩
          ·
           rw [if_neg c21] at H
           have c21b0 : ((wrap64 ((t250.length : Int) + (t253.length : Int))) == (wrap64 ((t236.length : Int) + (t239.length : Int)))) = false := beq_eq_false_iff_ne.mpr c21
           have c21b1 : ((wrap64 ((t250.length : Int) + (t253.length : Int))) != (wrap64 ((t236.length : Int) + (t239.length : Int)))) = true := bne_iff_ne.mpr c21
           exact absurd H (by rw [HT.out]; simp)
         ·
          rw [if_neg c20] at H
          have c20b0 : (t260 == 0) = false := beq_eq_false_iff_ne.mpr c20
          have c20b1 : (t260 != 0) = true := bne_iff_ne.mpr c20
          exact absurd H (by rw [HT.out]; simp)
        ·
         rw [if_neg c18] at H
         have c18b0 : (t248 == 1) = false := beq_eq_false_iff_ne.mpr c18
         have c18b1 : (t248 != 1) = true := bne_iff_ne.mpr c18
         by_cases c33 : t248 = 2
         ·
          rw [if_pos c33] at H
          have c33b0 : (t248 == 2) = true := beq_iff_eq.mpr c33
          have c33b1 : (t248 != 2) = false := bne_eq_false_iff_eq.mpr c33
          clear c33
          replace H := Option.bind_eq_some_iff.mp H
          obtain ⟨⟨t261, t264, t267, t270, t271⟩, A340, H⟩ := H
          replace H : (if t271 = 0 then (if (wrap64 ((t261.length : Int) + (t264.length : Int))) = (wrap64 ((t236.length : Int) + (t239.length : Int))) then (headgatelaw31_BalanceEnds.l0 k2 (wrap64 ((t236.length : Int) + (t239.length : Int))) t246 (wrap64 (x7_2 + 1)) t261 t264 t267) else (some false)) else (some false)) = some r := H
          have A34 := Aside0.mk A340
          clear A340
          by_cases c35 : t271 = 0
          ·
           rw [if_pos c35] at H
           have c35b0 : (t271 == 0) = true := beq_iff_eq.mpr c35
           have c35b1 : (t271 != 0) = false := bne_eq_false_iff_eq.mpr c35
           clear c35
           by_cases c36 : (wrap64 ((t261.length : Int) + (t264.length : Int))) = (wrap64 ((t236.length : Int) + (t239.length : Int)))
           ·
            rw [if_pos c36] at H
            have c36b0 : ((wrap64 ((t261.length : Int) + (t264.length : Int))) == (wrap64 ((t236.length : Int) + (t239.length : Int)))) = true := beq_iff_eq.mpr c36
            have c36b1 : ((wrap64 ((t261.length : Int) + (t264.length : Int))) != (wrap64 ((t236.length : Int) + (t239.length : Int)))) = false := bne_eq_false_iff_eq.mpr c36
            clear c36
            have H' := Aside0.mk H
            clear H
            have hcz37_0 := cell0 BK245
            have hcz37_1 := cell1 BK245
            have hcz37_2 := cell2 BK245
            have hfz37_0 := blk_frozen BK245.out 0
            have hfz37_1 := blk_frozen BK245.out 1
            have hfz37_2 := blk_frozen BK245.out 2
            obtain ⟨Ao38, co38, eo38⟩ := Kd.R_slice HO_246000.out
            subst eo38
            obtain ⟨Ao39, co39, eo39⟩ := Kd.R_slice HO_246001.out
            subst eo39
            obtain ⟨Ao40, co40, eo40⟩ := Kd.R_slice HO_246002.out
            subst eo40
            go_wp2_with (first | ((with_reducible refine gate_callee (f := 19) rfl ?_); refine goesL_ (some 42) rfl rfl Try.func19 (by kernel_rfl) rfl #[.agg #[.slice Ao38 x246000_2.length co38, .slice Ao39 x246001_2.length co39, .slice Ao40 x246002_2.length co40]] rfl (args_ (p := _)) ?_; (with_reducible refine (balance_Which.calls k2 _ _ x246000_2 _ _ x246001_2 _ _ x246002_2 t248 t249 _ ?side1 ?side2 ?side3 ?side4 ?side5 ?side6 A16.out).mono ?_); (case side1 => exact upc (Kd.R_reads' HO_246000.out).2.2); (case side2 => exact (Kd.R_reads' HO_246000.out).2.1); (case side3 => exact upc (Kd.R_reads' HO_246001.out).2.2); (case side4 => exact (Kd.R_reads' HO_246001.out).2.1); (case side5 => exact upc (Kd.R_reads' HO_246002.out).2.2); (case side6 => exact (Kd.R_reads' HO_246002.out).2.1); rintro e w41 ⟨rfl, hb⟩; refine ⟨_, rfl, ?_⟩; have n0_ := Aside0.mk (Kd.R_below (upR HO_246000.out) hb); have n1_ := Aside0.mk (Kd.R_below (upR HO_246001.out) hb); have n2_ := Aside0.mk (Kd.R_below (upR HO_246002.out) hb); have n3_ := Aside0.mk (blkB BK245 hb); have n4_ := Aside0.mk (below_step (upH HB) hb); clear HO_246000; clear HO_246001; clear HO_246002; clear BK245; clear HB; have HO_246000 := n0_; have HO_246001 := n1_; have HO_246002 := n2_; have BK245 := n3_; have HB := n4_; clear n0_ n1_ n2_ n3_ n4_; (try clear hb); (try clear hb2); (try clear hk); (try clear hi); have hcz42_0 := cell0 BK245; have hcz42_1 := cell1 BK245; have hcz42_2 := cell2 BK245; have hfz42_0 := blk_frozen BK245.out 0; have hfz42_1 := blk_frozen BK245.out 1; have hfz42_2 := blk_frozen BK245.out 2) | ((with_reducible refine gate_callee (f := 21) rfl ?_); refine goesL_ (some 60) rfl rfl Try.func21 (by kernel_rfl) rfl #[.agg #[.slice Ao38 x246000_2.length co38, .slice Ao39 x246001_2.length co39, .slice Ao40 x246002_2.length co40]] rfl (args_ (p := _)) ?_; (with_reducible refine (lru_Promote.calls _ _ x246000_2 _ _ x246001_2 _ _ x246002_2 t261 t264 t267 t270 t271 _ ?side1 ?side2 ?side3 ?side4 ?side5 ?side6 A34.out).mono ?_); (case side1 => exact upc (Kd.R_reads' HO_246000.out).2.2); (case side2 => exact (Kd.R_reads' HO_246000.out).2.1); (case side3 => exact upc (Kd.R_reads' HO_246001.out).2.2); (case side4 => exact (Kd.R_reads' HO_246001.out).2.1); (case side5 => exact upc (Kd.R_reads' HO_246002.out).2.2); (case side6 => exact (Kd.R_reads' HO_246002.out).2.1); rintro e w43 ⟨v262, v265, v268, rfl, ho0, ho1, ho2, hb⟩; refine ⟨_, rfl, ?_⟩; have n0_ := Aside0.mk (Kd.R_mono (Kd.R_told (Kd.R_told (Kd.R_old (upR HO_246000.out) hb) (Kd.R_base ho0)) (Kd.R_base ho1)) (fun _ h_ => h_.1)); have n1_ := Aside0.mk (Kd.R_mono (Kd.R_told (Kd.R_told (Kd.R_old (upR HO_246001.out) hb) (Kd.R_base ho0)) (Kd.R_base ho1)) (fun _ h_ => h_.1)); have n2_ := Aside0.mk (Kd.R_elder' (upR HO_246002.out) (Kd.R_base ho2) hb); have n3_ := Aside0.mk (Kd.R_lower (Kd.R_new' (Kd.R_new' ho0 (Kd.R_lt (upR HO_246000.out))) (Kd.R_lt (upR HO_246001.out))) (below_size (upH HB))); have n4_ := Aside0.mk (Kd.R_lower (Kd.R_new' (Kd.R_new' ho1 (Kd.R_lt (upR HO_246000.out))) (Kd.R_lt (upR HO_246001.out))) (below_size (upH HB))); have n5_ := Aside0.mk (Kd.R_lower (Kd.R_new' ho2 (Kd.R_lt (upR HO_246002.out))) (below_size (upH HB))); have n6_ := Aside0.mk (blkB BK245 hb); have n7_ := Aside0.mk (below_step (upH HB) hb); clear HO_246000; clear HO_246001; clear HO_246002; clear BK245; clear HB; have HO_246000 := n0_; have HO_246001 := n1_; have HO_246002 := n2_; have HO263 := n3_; have HO266 := n4_; have HO269 := n5_; have BK245 := n6_; have HB := n7_; clear n0_ n1_ n2_ n3_ n4_ n5_ n6_ n7_; (try clear hb); (try clear hb2); (try clear hk); (try clear hi); (try clear ho0); (try clear ho1); (try clear ho2); obtain ⟨Ao44, co44, eo44⟩ := Kd.R_slice HO263.out; subst eo44; have hcz45_0 := cell0 BK245; have hcz45_1 := cell1 BK245; have hcz45_2 := cell2 BK245; have hfz45_0 := blk_frozen BK245.out 0; have hfz45_1 := blk_frozen BK245.out 1; have hfz45_2 := blk_frozen BK245.out 2; obtain ⟨Ao46, co46, eo46⟩ := Kd.R_slice HO266.out; subst eo46; obtain ⟨Ao47, co47, eo47⟩ := Kd.R_slice HO269.out; subst eo47))
            go_roundg k2
            case measure => have := HJ3.out; have := HK2.out; omega
            case rel => exact ⟨(wrap64 (x7_2 + 1)), (t261), (t264), (t267), (.slice Ao44 t261.length co44), (.slice Ao46 t264.length co46), (.slice Ao47 t267.length co47), (by first | rfl | (simp; done) | (simp [*]; done)), H', ⟨by have := HJ3.out; have := HK2.out; omega⟩, ⟨by (with_reducible repeat (first | apply Kd.R_alloc | apply Kd.R_drewN | apply Kd.R_drew)); exact Kd.R_mono (far3 HO263.out BK245) (fun _ hk => hk.1.1.1)⟩, ⟨by (with_reducible repeat (first | apply Kd.R_alloc | apply Kd.R_drewN | apply Kd.R_drew)); exact Kd.R_mono (far3 HO266.out BK245) (fun _ hk => hk.1.1.1)⟩, ⟨by (with_reducible repeat (first | apply Kd.R_alloc | apply Kd.R_drewN | apply Kd.R_drew)); exact Kd.R_mono (far3 HO269.out BK245) (fun _ hk => trivial)⟩, ⟨by (with_reducible repeat (first | refine blk_drewN ?_ _ | refine blk_drew ?_ | refine blk_alloc ?_ _)); refine blk_put (cs := #[.slice Ao44 t261.length co44, .slice Ao46 t264.length co46, .slice Ao40 x246002_2.length co40]) ?_ 2 _ rfl; (with_reducible repeat (first | refine blk_drewN ?_ _ | refine blk_drew ?_ | refine blk_alloc ?_ _)); refine blk_put (cs := #[.slice Ao44 t261.length co44, .slice Ao39 x246001_2.length co39, .slice Ao40 x246002_2.length co40]) ?_ 1 _ rfl; (with_reducible repeat (first | refine blk_drewN ?_ _ | refine blk_drew ?_ | refine blk_alloc ?_ _)); refine blk_put (cs := #[.slice Ao38 x246000_2.length co38, .slice Ao39 x246001_2.length co39, .slice Ao40 x246002_2.length co40]) ?_ 0 _ rfl; (with_reducible repeat (first | refine blk_drewN ?_ _ | refine blk_drew ?_ | refine blk_alloc ?_ _)); exact BK245.out⟩, ⟨upH HB⟩⟩
           ·
            rw [if_neg c36] at H
            have c36b0 : ((wrap64 ((t261.length : Int) + (t264.length : Int))) == (wrap64 ((t236.length : Int) + (t239.length : Int)))) = false := beq_eq_false_iff_ne.mpr c36
            have c36b1 : ((wrap64 ((t261.length : Int) + (t264.length : Int))) != (wrap64 ((t236.length : Int) + (t239.length : Int)))) = true := bne_iff_ne.mpr c36
            exact absurd H (by rw [HT.out]; simp)
          ·
           rw [if_neg c35] at H
           have c35b0 : (t271 == 0) = false := beq_eq_false_iff_ne.mpr c35
           have c35b1 : (t271 != 0) = true := bne_iff_ne.mpr c35
           exact absurd H (by rw [HT.out]; simp)
         ·
          rw [if_neg c33] at H
          have c33b0 : (t248 == 2) = false := beq_eq_false_iff_ne.mpr c33
          have c33b1 : (t248 != 2) = true := bne_iff_ne.mpr c33
          exact absurd H (by rw [HT.out]; simp)
       ·
        rw [if_neg c17] at H
        have c17b0 : (t249 == 0) = false := beq_eq_false_iff_ne.mpr c17
        have c17b1 : (t249 != 0) = true := bne_iff_ne.mpr c17
        exact absurd H (by rw [HT.out]; simp)
      ·
       rw [if_neg c15] at H
       have c15b0 : decide (x7_2 < t246) = false := decide_eq_false c15
       clear c15
       by_cases c48 : (wrap64 ((t236.length : Int) + (t239.length : Int))) = 0
       ·
        rw [if_pos c48] at H
        have c48b0 : ((wrap64 ((t236.length : Int) + (t239.length : Int))) == 0) = true := beq_iff_eq.mpr c48
        have c48b1 : ((wrap64 ((t236.length : Int) + (t239.length : Int))) != 0) = false := bne_eq_false_iff_eq.mpr c48
        clear c48
        by_cases c49 : t246 = 0
        ·
         rw [if_pos c49] at H
         have c49b0 : (t246 == 0) = true := beq_iff_eq.mpr c49
         have c49b1 : (t246 != 0) = false := bne_eq_false_iff_eq.mpr c49
         clear c49
         replace H := Option.bind_eq_some_iff.mp H
         obtain ⟨t272, A500, H⟩ := H
         replace H : (if t272 = true then ((headgatelaw31_awake.f k2).bind fun t273 => (some t273)) else (some false)) = some r := H
         have A50 := Aside0.mk A500
         clear A500
         by_cases c51 : t272 = true
         ·
          subst c51
          have H1 : ((headgatelaw31_awake.f k2).bind fun t273 => (some t273)) = some r := by rw [if_pos rfl] at H; exact H
          clear H
          have H := H1
          clear H1
          replace H := Option.bind_eq_some_iff.mp H
          obtain ⟨t273, A520, H⟩ := H
          replace H : (some t273) = some r := H
          have A52 := Aside0.mk A520
          clear A520
          obtain rfl := Option.some.inj H
          have hcz53_0 := cell0 BK245
          have hcz53_1 := cell1 BK245
          have hcz53_2 := cell2 BK245
          have hfz53_0 := blk_frozen BK245.out 0
          have hfz53_1 := blk_frozen BK245.out 1
          have hfz53_2 := blk_frozen BK245.out 2
          obtain ⟨Ao54, co54, eo54⟩ := Kd.R_slice HO_246000.out
          subst eo54
          obtain ⟨Ao55, co55, eo55⟩ := Kd.R_slice HO_246001.out
          subst eo55
          obtain ⟨Ao56, co56, eo56⟩ := Kd.R_slice HO_246002.out
          subst eo56
          go_wp2_with (first | (go_at_call 22; refine calls_of_args (args' := #[.agg #[.slice Ao54 x246000_2.length co54, .slice Ao55 x246001_2.length co55, .slice Ao56 x246002_2.length co56], .int .i64 0]) (by first | rfl) ?_; (with_reducible refine (headgatelaw31_which.calls k2 _ _ x246000_2 _ _ x246001_2 _ _ x246002_2 0 true _ ?side1 ?side2 ?side3 ?side4 ?side5 ?side6 A50.out).mono ?_); (case side1 => exact upc (Kd.R_reads' HO_246000.out).2.2); (case side2 => exact (Kd.R_reads' HO_246000.out).2.1); (case side3 => exact upc (Kd.R_reads' HO_246001.out).2.2); (case side4 => exact (Kd.R_reads' HO_246001.out).2.1); (case side5 => exact upc (Kd.R_reads' HO_246002.out).2.2); (case side6 => exact (Kd.R_reads' HO_246002.out).2.1); rintro e w57 ⟨rfl, hb⟩; have n0_ := Aside0.mk (Kd.R_below (upR HO_246000.out) hb); have n1_ := Aside0.mk (Kd.R_below (upR HO_246001.out) hb); have n2_ := Aside0.mk (Kd.R_below (upR HO_246002.out) hb); have n3_ := Aside0.mk (blkB BK245 hb); have n4_ := Aside0.mk (below_step (upH HB) hb); clear HO_246000; clear HO_246001; clear HO_246002; clear BK245; clear HB; have HO_246000 := n0_; have HO_246001 := n1_; have HO_246002 := n2_; have BK245 := n3_; have HB := n4_; clear n0_ n1_ n2_ n3_ n4_; (try clear hb); (try clear hb2); (try clear hk); (try clear hi)) | (go_at_call 12; refine calls_of_args (args' := #[]) (by first | rfl) ?_; (with_reducible refine (headgatelaw31_awake.calls k2  t273 _ A52.out).mono ?_); rintro e w58 ⟨rfl, hb⟩; have n0_ := Aside0.mk (Kd.R_below (upR HO_246000.out) hb); have n1_ := Aside0.mk (Kd.R_below (upR HO_246001.out) hb); have n2_ := Aside0.mk (Kd.R_below (upR HO_246002.out) hb); have n3_ := Aside0.mk (blkB BK245 hb); have n4_ := Aside0.mk (below_step (upH HB) hb); clear HO_246000; clear HO_246001; clear HO_246002; clear BK245; clear HB; have HO_246000 := n0_; have HO_246001 := n1_; have HO_246002 := n2_; have BK245 := n3_; have HB := n4_; clear n0_ n1_ n2_ n3_ n4_; (try clear hb); (try clear hb2); (try clear hk); (try clear hi)))
          go_ret
          exact ⟨by first | rfl | (simp [errW_none, errW_some] <;> rfl) | (simp [*, errW_none, errW_some] <;> rfl), by repeat (first | (with_reducible first | exact HB.out | apply below_alloc | apply pw_below_drewN | apply below_drew1 | refine below_set ?_ GE245.out) | exact HB.out)⟩
         ·
          replace c51 := Bool.eq_false_iff.mpr c51
          subst c51
          have H1 : (some false) = some r := by rw [if_neg (show ¬ (false = true) by decide)] at H; exact H
          clear H
          have H := H1
          clear H1
          exact absurd H (by rw [HT.out]; simp)
        ·
         rw [if_neg c49] at H
         have c49b0 : (t246 == 0) = false := beq_eq_false_iff_ne.mpr c49
         have c49b1 : (t246 != 0) = true := bne_iff_ne.mpr c49
         exact absurd H (by rw [HT.out]; simp)
       ·
        rw [if_neg c48] at H
        have c48b0 : ((wrap64 ((t236.length : Int) + (t239.length : Int))) == 0) = false := beq_eq_false_iff_ne.mpr c48
        have c48b1 : ((wrap64 ((t236.length : Int) + (t239.length : Int))) != 0) = true := bne_iff_ne.mpr c48
        replace H := Option.bind_eq_some_iff.mp H
        obtain ⟨⟨t274, t275⟩, A590, H⟩ := H
        replace H : (if t274 = 0 then (if t275 = 0 then ((headgatelaw31_which.f k2 x246000_2 x246001_2 x246002_2 3).bind fun t276 => (if t276 = true then ((headgatelaw31_awake.f k2).bind fun t277 => (some t277)) else (some false))) else (some false)) else (some false)) = some r := H
        have A59 := Aside0.mk A590
        clear A590
        by_cases c60 : t274 = 0
        ·
         rw [if_pos c60] at H
         have c60b0 : (t274 == 0) = true := beq_iff_eq.mpr c60
         have c60b1 : (t274 != 0) = false := bne_eq_false_iff_eq.mpr c60
         clear c60
         by_cases c61 : t275 = 0
         ·
          rw [if_pos c61] at H
          have c61b0 : (t275 == 0) = true := beq_iff_eq.mpr c61
          have c61b1 : (t275 != 0) = false := bne_eq_false_iff_eq.mpr c61
          clear c61
          replace H := Option.bind_eq_some_iff.mp H
          obtain ⟨t276, A620, H⟩ := H
          replace H : (if t276 = true then ((headgatelaw31_awake.f k2).bind fun t277 => (some t277)) else (some false)) = some r := H
          have A62 := Aside0.mk A620
          clear A620
          by_cases c63 : t276 = true
          ·
           subst c63
           have H1 : ((headgatelaw31_awake.f k2).bind fun t277 => (some t277)) = some r := by rw [if_pos rfl] at H; exact H
           clear H
           have H := H1
           clear H1
           replace H := Option.bind_eq_some_iff.mp H
           obtain ⟨t277, A640, H⟩ := H
           replace H : (some t277) = some r := H
           have A64 := Aside0.mk A640
           clear A640
           obtain rfl := Option.some.inj H
           have hcz65_0 := cell0 BK245
           have hcz65_1 := cell1 BK245
           have hcz65_2 := cell2 BK245
           have hfz65_0 := blk_frozen BK245.out 0
           have hfz65_1 := blk_frozen BK245.out 1
           have hfz65_2 := blk_frozen BK245.out 2
           obtain ⟨Ao66, co66, eo66⟩ := Kd.R_slice HO_246000.out
           subst eo66
           obtain ⟨Ao67, co67, eo67⟩ := Kd.R_slice HO_246001.out
           subst eo67
           obtain ⟨Ao68, co68, eo68⟩ := Kd.R_slice HO_246002.out
           subst eo68
           go_wp2_with (first | ((with_reducible refine gate_callee (f := 18) rfl ?_); refine goesL_ (some 90) rfl rfl Try.func18 (by kernel_rfl) rfl #[.agg #[.slice Ao66 x246000_2.length co66, .slice Ao67 x246001_2.length co67, .slice Ao68 x246002_2.length co68]] rfl (args_ (p := _)) ?_; (with_reducible refine (balance_Steps.calls k2 _ _ x246000_2 _ _ x246001_2 _ _ x246002_2 t274 t275 _ ?side1 ?side2 ?side3 ?side4 ?side5 ?side6 A59.out).mono ?_); (case side1 => exact upc (Kd.R_reads' HO_246000.out).2.2); (case side2 => exact (Kd.R_reads' HO_246000.out).2.1); (case side3 => exact upc (Kd.R_reads' HO_246001.out).2.2); (case side4 => exact (Kd.R_reads' HO_246001.out).2.1); (case side5 => exact upc (Kd.R_reads' HO_246002.out).2.2); (case side6 => exact (Kd.R_reads' HO_246002.out).2.1); rintro e w69 ⟨rfl, hb⟩; refine ⟨_, rfl, ?_⟩; have n0_ := Aside0.mk (Kd.R_below (upR HO_246000.out) hb); have n1_ := Aside0.mk (Kd.R_below (upR HO_246001.out) hb); have n2_ := Aside0.mk (Kd.R_below (upR HO_246002.out) hb); have n3_ := Aside0.mk (blkB BK245 hb); have n4_ := Aside0.mk (below_step (upH HB) hb); clear HO_246000; clear HO_246001; clear HO_246002; clear BK245; clear HB; have HO_246000 := n0_; have HO_246001 := n1_; have HO_246002 := n2_; have BK245 := n3_; have HB := n4_; clear n0_ n1_ n2_ n3_ n4_; (try clear hb); (try clear hb2); (try clear hk); (try clear hi); have hcz70_0 := cell0 BK245; have hcz70_1 := cell1 BK245; have hcz70_2 := cell2 BK245; have hfz70_0 := blk_frozen BK245.out 0; have hfz70_1 := blk_frozen BK245.out 1; have hfz70_2 := blk_frozen BK245.out 2) | (go_at_call 22; refine calls_of_args (args' := #[.agg #[.slice Ao66 x246000_2.length co66, .slice Ao67 x246001_2.length co67, .slice Ao68 x246002_2.length co68], .int .i64 3]) (by first | rfl) ?_; (with_reducible refine (headgatelaw31_which.calls k2 _ _ x246000_2 _ _ x246001_2 _ _ x246002_2 3 true _ ?side1 ?side2 ?side3 ?side4 ?side5 ?side6 A62.out).mono ?_); (case side1 => exact upc (Kd.R_reads' HO_246000.out).2.2); (case side2 => exact (Kd.R_reads' HO_246000.out).2.1); (case side3 => exact upc (Kd.R_reads' HO_246001.out).2.2); (case side4 => exact (Kd.R_reads' HO_246001.out).2.1); (case side5 => exact upc (Kd.R_reads' HO_246002.out).2.2); (case side6 => exact (Kd.R_reads' HO_246002.out).2.1); rintro e w71 ⟨rfl, hb⟩; have n0_ := Aside0.mk (Kd.R_below (upR HO_246000.out) hb); have n1_ := Aside0.mk (Kd.R_below (upR HO_246001.out) hb); have n2_ := Aside0.mk (Kd.R_below (upR HO_246002.out) hb); have n3_ := Aside0.mk (blkB BK245 hb); have n4_ := Aside0.mk (below_step (upH HB) hb); clear HO_246000; clear HO_246001; clear HO_246002; clear BK245; clear HB; have HO_246000 := n0_; have HO_246001 := n1_; have HO_246002 := n2_; have BK245 := n3_; have HB := n4_; clear n0_ n1_ n2_ n3_ n4_; (try clear hb); (try clear hb2); (try clear hk); (try clear hi)) | (go_at_call 12; refine calls_of_args (args' := #[]) (by first | rfl) ?_; (with_reducible refine (headgatelaw31_awake.calls k2  t277 _ A64.out).mono ?_); rintro e w72 ⟨rfl, hb⟩; have n0_ := Aside0.mk (Kd.R_below (upR HO_246000.out) hb); have n1_ := Aside0.mk (Kd.R_below (upR HO_246001.out) hb); have n2_ := Aside0.mk (Kd.R_below (upR HO_246002.out) hb); have n3_ := Aside0.mk (blkB BK245 hb); have n4_ := Aside0.mk (below_step (upH HB) hb); clear HO_246000; clear HO_246001; clear HO_246002; clear BK245; clear HB; have HO_246000 := n0_; have HO_246001 := n1_; have HO_246002 := n2_; have BK245 := n3_; have HB := n4_; clear n0_ n1_ n2_ n3_ n4_; (try clear hb); (try clear hb2); (try clear hk); (try clear hi)))
           go_ret
           exact ⟨by first | rfl | (simp [errW_none, errW_some] <;> rfl) | (simp [*, errW_none, errW_some] <;> rfl), by repeat (first | (with_reducible first | exact HB.out | apply below_alloc | apply pw_below_drewN | apply below_drew1 | refine below_set ?_ GE245.out) | exact HB.out)⟩
          ·
           replace c63 := Bool.eq_false_iff.mpr c63
           subst c63
           have H1 : (some false) = some r := by rw [if_neg (show ¬ (false = true) by decide)] at H; exact H
           clear H
           have H := H1
           clear H1
           exact absurd H (by rw [HT.out]; simp)
         ·
          rw [if_neg c61] at H
          have c61b0 : (t275 == 0) = false := beq_eq_false_iff_ne.mpr c61
          have c61b1 : (t275 != 0) = true := bne_iff_ne.mpr c61
          exact absurd H (by rw [HT.out]; simp)
        ·
         rw [if_neg c60] at H
         have c60b0 : (t274 == 0) = false := beq_eq_false_iff_ne.mpr c60
         have c60b1 : (t274 != 0) = true := bne_iff_ne.mpr c60
         exact absurd H (by rw [HT.out]; simp)

/-- THE ONE PURE STATEMENT of headgatelaw31_BalanceEnds: yours. -/
def headgatelaw31_BalanceEnds.Pure : Prop := ∀ (l0 : List Int), l0.length ≤ maxLen → l0.length * 8 ≤ 140737488351232 → (∀ x ∈ l0, (Lit.int .i64 x).wf = true) → ∃ k, headgatelaw31_BalanceEnds.f k l0 = some true
theorem headgatelaw31_BalanceEnds.walk (P : headgatelaw31_BalanceEnds.Pure) (a0 : Option Addr) (len0 cap0 : Nat) (z0 : List Int) (w : World) (w0 : (a0 = none ∧ len0 = 0 ∧ cap0 = 0 ∧ z0 = []) ∨ ∃ x, a0 = some x ∧ len0 ≤ cap0 ∧ cap0 ≤ maxLen ∧ z0.length = cap0 ∧ (∀ i, i < z0.length → w.cell? (x.add i) = some (.int .i64 (z0.getD i 0))) ∧ ∀ n ∈ z0, (Lit.int .i64 n).wf = true) (y0 : len0 * 8 ≤ 140737488351232) :
  Calls Try.prog 6 #[.slice a0 len0 cap0] w fun e w' => e = .returned (.bool true) ∧ Below w.heap.size w w' := by
 obtain ⟨l0, rfl, hr0, hm0, hw0, hc0⟩ := ReadsInt.ofRowC w0
 obtain ⟨k, h⟩ := P l0 hm0 y0 hw0
 refine (headgatelaw31_BalanceEnds.calls k _ _ l0 true w (Kd.C_of_reads (d := (0 : Int)) (h1 := fun _ => rfl) hr0) hc0 ⟨rfl⟩ h).mono ?_
 rintro e w' ⟨rfl, hd⟩
 exact ⟨rfl, hd⟩

end Go.Proofs.Ytnheknlmmmkbpaa.X
