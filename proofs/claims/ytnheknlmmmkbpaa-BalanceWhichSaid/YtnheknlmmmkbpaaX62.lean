/- What Go functions of this seat compute, told as Lean functions, and that each call of the Go code comes to that answer; for a law: its row, for every input. Written by a program of the session. -/
import Derived.Test.YtnheknlmmmkbpaaX0
import Derived.Test.YtnheknlmmmkbpaaX2
import Derived.Test.YtnheknlmmmkbpaaX13
import Derived.Test.YtnheknlmmmkbpaaX39
import Derived.Test.YtnheknlmmmkbpaaX43
import Derived.Test.YtnheknlmmmkbpaaX44
import Derived.Test.YtnheknlmmmkbpaaX56
import Derived.Test.YtnheknlmmmkbpaaX60
namespace Go.Proofs.Ytnheknlmmmkbpaa.X
open Go.RowKit Go.Proofs.YtnheknlmmmkbpaaW.PrintWords Go.Proofs.YtnheknlmmmkbpaaW.PrintLast Go.Proofs.YtnheknlmmmkbpaaW.PrintMore
attribute [local go_sem] max2_int min2_int max_two min_two max_three min_three max_four min_four   -- for this text's walks alone
set_option linter.unusedVariables false
set_option linter.unusedSimpArgs false

/-! ### headgatelaw31_BalanceWhich: function 7 -/
mutual
def headgatelaw31_BalanceWhich.j0 : Nat → Bool → List Int → List Int → List Bool → Option (Bool)
 | 0, _, _, _, _ => none
 | k + 1, x25, x438000, x438001, x438002 => if x25 = true then ((headgatelaw31_awake.f k).bind fun t438 => (some t438)) else ((headgatekit_OwnLists.f x438000 x438001 x438002).bind fun bt439 => ((balance_Which.f k bt439.1 bt439.2.1 bt439.2.2).bind fun bt449 => ((headgateref31_Which.f k x438000 x438001 x438002).bind fun bt451 => (if bt449.1 = bt451.1 then (headgatelaw31_BalanceWhich.j1 k (bt449.2 != bt451.2) x438000 x438001 x438002 bt439.1 bt439.2.1 bt439.2.2) else (headgatelaw31_BalanceWhich.j1 k true x438000 x438001 x438002 bt439.1 bt439.2.1 bt439.2.2)))))
def headgatelaw31_BalanceWhich.j1 : Nat → Bool → List Int → List Int → List Bool → List Int → List Int → List Bool → Option (Bool)
 | 0, _, _, _, _, _, _, _ => none
 | k + 1, x46, x438000, x438001, x438002, x449000, x449001, x449002 => if x46 = true then (some false) else ((balance_Lacks.f k x449000 x449001 x449002).bind fun bt453 => ((headgateref31_Lacks.f k x438000 x438001 x438002).bind fun bt455 => ((balance_Steps.f k x449000 x449001 x449002).bind fun bt457 => ((headgateref31_Steps.f k x438000 x438001 x438002).bind fun bt459 => (if bt453.1 = bt455.1 then (if bt453.2 = bt455.2 then (if bt457.1 = bt459.1 then (if bt457.2 = bt459.2 then ((headgatekit_SameLists.f k x449000 x449001 x449002 x438000 x438001 x438002).bind fun t461 => (if t461 = true then ((headgatelaw31_awake.f k).bind fun t462 => (some t462)) else (some false))) else (some false)) else (some false)) else (some false)) else (some false))))))
end
def headgatelaw31_BalanceWhich.f (k : Nat) (l0_0 : List Int) (l0_1 : List Int) (l0_2 : List Bool) : Option (Bool) := if (wrap64 ((l0_0.length : Int) + (l0_1.length : Int))) > 60 then (headgatelaw31_BalanceWhich.j0 k true l0_0 l0_1 l0_2) else (headgatelaw31_BalanceWhich.j0 k (decide ((l0_2.length : Int) > 260)) l0_0 l0_1 l0_2)
theorem headgatelaw31_BalanceWhich.mono_l : ∀ k, (∀ y0 y1 y2 y3, LeO (headgatelaw31_BalanceWhich.j0 k y0 y1 y2 y3) (headgatelaw31_BalanceWhich.j0 (k + 1) y0 y1 y2 y3)) ∧ (∀ y0 y1 y2 y3 y4 y5 y6, LeO (headgatelaw31_BalanceWhich.j1 k y0 y1 y2 y3 y4 y5 y6) (headgatelaw31_BalanceWhich.j1 (k + 1) y0 y1 y2 y3 y4 y5 y6))
 | 0 => ⟨fun _ _ _ _ r h => by simp [headgatelaw31_BalanceWhich.j0] at h, fun _ _ _ _ _ _ _ r h => by simp [headgatelaw31_BalanceWhich.j1] at h⟩
 | k + 1 => by
  obtain ⟨ih0, ih1⟩ := headgatelaw31_BalanceWhich.mono_l k
  refine ⟨?_, ?_⟩
  ·
   intro y0 y1 y2 y3
   unfold headgatelaw31_BalanceWhich.j0
   repeat' first
   | (with_reducible exact ih0 _ _ _ _)
   | (with_reducible exact ih1 _ _ _ _ _ _ _)
   | (with_reducible exact balance_Lacks.mono _ _ _ _)
   | (with_reducible exact balance_Steps.mono _ _ _ _)
   | (with_reducible exact balance_Which.mono _ _ _ _)
   | (with_reducible exact headgatekit_SameLists.mono _ _ _ _ _ _ _)
   | (with_reducible exact headgatelaw31_awake.mono _)
   | (with_reducible exact headgateref31_Lacks.mono _ _ _ _)
   | (with_reducible exact headgateref31_Steps.mono _ _ _ _)
   | (with_reducible exact headgateref31_Which.mono _ _ _ _)
   | (with_reducible exact LeO.refl _)
   | (with_reducible exact LeO.none _)
   | (with_reducible refine LeO.ite ?_ ?_)
   | (with_reducible refine LeO.bind ?_ (fun _ => ?_))
   | exact ih0 _ _ _ _
   | exact ih1 _ _ _ _ _ _ _
   | exact balance_Lacks.mono _ _ _ _
   | exact balance_Steps.mono _ _ _ _
   | exact balance_Which.mono _ _ _ _
   | exact headgatekit_SameLists.mono _ _ _ _ _ _ _
   | exact headgatelaw31_awake.mono _
   | exact headgateref31_Lacks.mono _ _ _ _
   | exact headgateref31_Steps.mono _ _ _ _
   | exact headgateref31_Which.mono _ _ _ _
   | exact LeO.none _
   | refine LeO.ite ?_ ?_
   | refine LeO.bind ?_ (fun _ => ?_)
  ·
   intro y0 y1 y2 y3 y4 y5 y6
   unfold headgatelaw31_BalanceWhich.j1
   repeat' first
   | (with_reducible exact ih0 _ _ _ _)
   | (with_reducible exact ih1 _ _ _ _ _ _ _)
   | (with_reducible exact balance_Lacks.mono _ _ _ _)
   | (with_reducible exact balance_Steps.mono _ _ _ _)
   | (with_reducible exact balance_Which.mono _ _ _ _)
   | (with_reducible exact headgatekit_SameLists.mono _ _ _ _ _ _ _)
   | (with_reducible exact headgatelaw31_awake.mono _)
   | (with_reducible exact headgateref31_Lacks.mono _ _ _ _)
   | (with_reducible exact headgateref31_Steps.mono _ _ _ _)
   | (with_reducible exact headgateref31_Which.mono _ _ _ _)
   | (with_reducible exact LeO.refl _)
   | (with_reducible exact LeO.none _)
   | (with_reducible refine LeO.ite ?_ ?_)
   | (with_reducible refine LeO.bind ?_ (fun _ => ?_))
   | exact ih0 _ _ _ _
   | exact ih1 _ _ _ _ _ _ _
   | exact balance_Lacks.mono _ _ _ _
   | exact balance_Steps.mono _ _ _ _
   | exact balance_Which.mono _ _ _ _
   | exact headgatekit_SameLists.mono _ _ _ _ _ _ _
   | exact headgatelaw31_awake.mono _
   | exact headgateref31_Lacks.mono _ _ _ _
   | exact headgateref31_Steps.mono _ _ _ _
   | exact headgateref31_Which.mono _ _ _ _
   | exact LeO.none _
   | refine LeO.ite ?_ ?_
   | refine LeO.bind ?_ (fun _ => ?_)
theorem headgatelaw31_BalanceWhich.mono : ∀ a0 a1 a2 k, LeO (headgatelaw31_BalanceWhich.f k a0 a1 a2) (headgatelaw31_BalanceWhich.f (k + 1) a0 a1 a2) := by
 intro a0 a1 a2 k
 obtain ⟨ih0, ih1⟩ := headgatelaw31_BalanceWhich.mono_l k
 unfold headgatelaw31_BalanceWhich.f
 repeat' first
   | (with_reducible exact ih0 _ _ _ _)
   | (with_reducible exact ih1 _ _ _ _ _ _ _)
   | (with_reducible exact balance_Lacks.mono _ _ _ _)
   | (with_reducible exact balance_Steps.mono _ _ _ _)
   | (with_reducible exact balance_Which.mono _ _ _ _)
   | (with_reducible exact headgatekit_SameLists.mono _ _ _ _ _ _ _)
   | (with_reducible exact headgatelaw31_awake.mono _)
   | (with_reducible exact headgateref31_Lacks.mono _ _ _ _)
   | (with_reducible exact headgateref31_Steps.mono _ _ _ _)
   | (with_reducible exact headgateref31_Which.mono _ _ _ _)
   | (with_reducible exact LeO.refl _)
   | (with_reducible exact LeO.none _)
   | (with_reducible refine LeO.ite ?_ ?_)
   | (with_reducible refine LeO.bind ?_ (fun _ => ?_))
   | exact ih0 _ _ _ _
   | exact ih1 _ _ _ _ _ _ _
   | exact balance_Lacks.mono _ _ _ _
   | exact balance_Steps.mono _ _ _ _
   | exact balance_Which.mono _ _ _ _
   | exact headgatekit_SameLists.mono _ _ _ _ _ _ _
   | exact headgatelaw31_awake.mono _
   | exact headgateref31_Lacks.mono _ _ _ _
   | exact headgateref31_Steps.mono _ _ _ _
   | exact headgateref31_Which.mono _ _ _ _
   | exact LeO.none _
   | refine LeO.ite ?_ ?_
   | refine LeO.bind ?_ (fun _ => ?_)
set_option maxHeartbeats 2000000 in
set_option maxRecDepth 100000 in
theorem headgatelaw31_BalanceWhich.calls (k : Nat) (A0_0 : Option Addr) (c0_0 : Nat) (l0_0 : List Int) (A0_1 : Option Addr) (c0_1 : Nat) (l0_1 : List Int) (A0_2 : Option Addr) (c0_2 : Nat) (l0_2 : List Bool) (r : Bool) (w : World) (hr0_0 : Kd.C (Kd.int .i64) w A0_0 l0_0.length l0_0) (hc0_0 : l0_0.length ≤ c0_0) (hr0_1 : Kd.C (Kd.int .i64) w A0_1 l0_1.length l0_1) (hc0_1 : l0_1.length ≤ c0_1) (hr0_2 : Kd.C Kd.bool w A0_2 l0_2.length l0_2) (hc0_2 : l0_2.length ≤ c0_2) (HT : Aside0 (r = true)) (h : headgatelaw31_BalanceWhich.f k l0_0 l0_1 l0_2 = some r) :
  Calls Try.prog 7 #[.agg #[.slice A0_0 l0_0.length c0_0, .slice A0_1 l0_1.length c0_1, .slice A0_2 l0_2.length c0_2]] w fun e w' => e = .returned (.bool r) ∧ Below w.heap.size w w' := by
 have hu33 := Try.underlying33
 have HR0_0 := Aside0.mk hr0_0
 have HC0_0 := Aside0.mk hc0_0
 clear hr0_0 hc0_0
 have HR0_1 := Aside0.mk hr0_1
 have HC0_1 := Aside0.mk hc0_1
 clear hr0_1 hc0_1
 have HR0_2 := Aside0.mk hr0_2
 have HC0_2 := Aside0.mk hc0_2
 clear hr0_2 hc0_2
 have HB := Aside0.mk (Below.refl w.heap.size w)
 have H : (if (wrap64 ((l0_0.length : Int) + (l0_1.length : Int))) > 60 then (headgatelaw31_BalanceWhich.j0 k true l0_0 l0_1 l0_2) else (headgatelaw31_BalanceWhich.j0 k (decide ((l0_2.length : Int) > 260)) l0_0 l0_1 l0_2)) = some r := h
 clear h
 have HC2 := Aside0.mk H
 clear H
 go_enter Try.func7, Try.ntmps7
 go_upto_region 1 with (first | ((with_reducible refine gate_dst (N := 1) rfl ?_); (try (refine gate_guard (by rfl) ?_; dsimp only)); refine box_event ?hg (N := 1) ?hd (cs := #[.slice A0_0 l0_0.length c0_0, .slice A0_1 l0_1.length c0_1, .slice A0_2 l0_2.length c0_2]) (t := 33) ?hr ?_; (case hd => rfl); (case hg => rfl); (case hr => first | (go_simp; done) | (go_simp; rfl)); intro gb437 hg w3 hbox hb; have n0_ := Aside0.mk (below_step (upH HB) hb); have n1_ := Aside0.mk (hbox); have n2_ := Aside0.mk ((by rw [hg]; exact (below_size (upH HB)) : w.heap.size ≤ gb437)); have n3_ := Aside0.mk ((by rw [hg]; exact (below_size (upH HB)) : w.heap.size ≤ gb437)); clear HB; have HB := n0_; have BK437 := n1_; have GW437 := n2_; have GE437 := n3_; clear n0_ n1_ n2_ n3_; clear hb hbox hg))
 (try simp only [Act.put, List.setIfInBounds_toArray, List.set_cons_zero, List.set_cons_succ])
 go_cut [25] (fun v25 wc => ∃ (kq : Nat) (x25_1 : Bool), v25 = .bool x25_1 ∧ Aside0 (headgatelaw31_BalanceWhich.j0 kq x25_1 l0_0 l0_1 l0_2 = some r) ∧ Aside0 (kq ≤ k) ∧ Aside0 (wc.heap[gb437]? = some (.cells #[(.slice A0_0 l0_0.length c0_0), (.slice A0_1 l0_1.length c0_1), (.slice A0_2 l0_2.length c0_2)] 33 (0, 0))) ∧ Aside0 (Below w.heap.size w wc))
 case first =>
  have H := HC2.out
  clear HC2
  by_cases c4 : (wrap64 ((l0_0.length : Int) + (l0_1.length : Int))) > 60
  ·
   rw [if_pos c4] at H
   have c4b0 : decide (60 < (wrap64 ((l0_0.length : Int) + (l0_1.length : Int)))) = true := decide_eq_true c4
   clear c4
   (first | rw [c4b0] | (simp only [i64_w, i32_w]; rw [c4b0]) | skip)
   have H' := Aside0.mk H
   clear H
   have hcz5_0 := cell0 BK437
   have hcz5_1 := cell1 BK437
   have hcz5_2 := cell2 BK437
   have hfz5_0 := blk_frozen BK437.out 0
   have hfz5_1 := blk_frozen BK437.out 1
   have hfz5_2 := blk_frozen BK437.out 2
   go_wp2
   go_meet
   case rel => exact ⟨_, (true), (by first | rfl | (simp; done) | (simp [*]; done)), H', ⟨by first | omega | exact Nat.le_refl _⟩, ⟨upB BK437⟩, ⟨upH HB⟩⟩
  ·
   rw [if_neg c4] at H
   have c4b0 : decide (60 < (wrap64 ((l0_0.length : Int) + (l0_1.length : Int)))) = false := decide_eq_false c4
   clear c4
   (first | rw [c4b0] | (simp only [i64_w, i32_w]; rw [c4b0]) | skip)
   have H' := Aside0.mk H
   clear H
   have hcz6_0 := cell0 BK437
   have hcz6_1 := cell1 BK437
   have hcz6_2 := cell2 BK437
   have hfz6_0 := blk_frozen BK437.out 0
   have hfz6_1 := blk_frozen BK437.out 1
   have hfz6_2 := blk_frozen BK437.out 2
   go_wp2
   go_meet
   case rel => exact ⟨_, (decide ((l0_2.length : Int) > 260)), (by first | rfl | (simp; done) | (simp [*]; done)), H', ⟨by first | omega | exact Nat.le_refl _⟩, ⟨upB BK437⟩, ⟨upH HB⟩⟩
 case rest =>
  clear HC2
  try clear p2
  try clear c4
  try clear c4b0
  try clear p6
  try clear hcz5_0
  try clear hcz5_1
  try clear hcz5_2
  try clear hcz6_0
  try clear hcz6_1
  try clear hcz6_2
  try clear hfz5_0
  try clear hfz5_1
  try clear hfz5_2
  try clear hfz6_0
  try clear hfz6_1
  try clear hfz6_2
  obtain ⟨kq, x25_1, rfl, HA, HJ1, BK437, HB⟩ := hcut
  cases kq with
  | zero => exact absurd HA.out (by simp [headgatelaw31_BalanceWhich.j0])
  | succ kj1 =>
   have H := HA.out
   clear HA
   simp only [headgatelaw31_BalanceWhich.j0] at H
   by_cases c7 : x25_1 = true
   ·
    subst c7
    have H1 : ((headgatelaw31_awake.f kj1).bind fun t438 => (some t438)) = some r := by rw [if_pos rfl] at H; exact H
    clear H
    have H := H1
    clear H1
    replace H := Option.bind_eq_some_iff.mp H
    obtain ⟨t438, A80, H⟩ := H
    replace H : (some t438) = some r := H
    have A8 := Aside0.mk A80
    clear A80
    obtain rfl := Option.some.inj H
    go_wp2_with (first | ((with_reducible refine gate_callee (f := 12) rfl ?_); refine goesL_ (some 26) rfl rfl Try.func12 (by kernel_rfl) rfl #[] rfl (args_ (p := _)) ?_; (with_reducible refine (headgatelaw31_awake.calls kj1  t438 _ A8.out).mono ?_); rintro e w9 ⟨rfl, hb⟩; refine ⟨_, rfl, ?_⟩; have n0_ := Aside0.mk (blkB BK437 hb); have n1_ := Aside0.mk (below_step (upH HB) hb); clear BK437; clear HB; have BK437 := n0_; have HB := n1_; clear n0_ n1_; (try clear hb); (try clear hb2); (try clear hk); (try clear hi)))
    go_ret
    exact ⟨by first | rfl | (simp [errW_none, errW_some] <;> rfl) | (simp [*, errW_none, errW_some] <;> rfl), by repeat (first | (with_reducible first | exact HB.out | apply below_alloc | apply pw_below_drewN | apply below_drew1 | refine below_set ?_ GE437.out) | exact HB.out)⟩
   ·
    replace c7 := Bool.eq_false_iff.mpr c7
    subst c7
    have H1 : ((headgatekit_OwnLists.f l0_0 l0_1 l0_2).bind fun bt439 => ((balance_Which.f kj1 bt439.1 bt439.2.1 bt439.2.2).bind fun bt449 => ((headgateref31_Which.f kj1 l0_0 l0_1 l0_2).bind fun bt451 => (if bt449.1 = bt451.1 then (headgatelaw31_BalanceWhich.j1 kj1 (bt449.2 != bt451.2) l0_0 l0_1 l0_2 bt439.1 bt439.2.1 bt439.2.2) else (headgatelaw31_BalanceWhich.j1 kj1 true l0_0 l0_1 l0_2 bt439.1 bt439.2.1 bt439.2.2))))) = some r := by rw [if_neg (show ¬ (false = true) by decide)] at H; exact H
    clear H
    have H := H1
    clear H1
    replace H := Option.bind_eq_some_iff.mp H
    obtain ⟨⟨t439, t442, t445⟩, A100, H⟩ := H
    replace H : ((balance_Which.f kj1 t439 t442 t445).bind fun bt449 => ((headgateref31_Which.f kj1 l0_0 l0_1 l0_2).bind fun bt451 => (if bt449.1 = bt451.1 then (headgatelaw31_BalanceWhich.j1 kj1 (bt449.2 != bt451.2) l0_0 l0_1 l0_2 t439 t442 t445) else (headgatelaw31_BalanceWhich.j1 kj1 true l0_0 l0_1 l0_2 t439 t442 t445)))) = some r := H
    have A10 := Aside0.mk A100
    clear A100
    replace H := Option.bind_eq_some_iff.mp H
    obtain ⟨⟨t449, t450⟩, A110, H⟩ := H
    replace H : ((headgateref31_Which.f kj1 l0_0 l0_1 l0_2).bind fun bt451 => (if t449 = bt451.1 then (headgatelaw31_BalanceWhich.j1 kj1 (t450 != bt451.2) l0_0 l0_1 l0_2 t439 t442 t445) else (headgatelaw31_BalanceWhich.j1 kj1 true l0_0 l0_1 l0_2 t439 t442 t445))) = some r := H
    have A11 := Aside0.mk A110
    clear A110
    replace H := Option.bind_eq_some_iff.mp H
    obtain ⟨⟨t451, t452⟩, A120, H⟩ := H
    replace H : (if t449 = t451 then (headgatelaw31_BalanceWhich.j1 kj1 (t450 != t452) l0_0 l0_1 l0_2 t439 t442 t445) else (headgatelaw31_BalanceWhich.j1 kj1 true l0_0 l0_1 l0_2 t439 t442 t445)) = some r := H
    have A12 := Aside0.mk A120
    clear A120
    have HC13 := Aside0.mk H
    clear H
    have hcz14_0 := cell0 BK437
    have hcz14_1 := cell1 BK437
    have hcz14_2 := cell2 BK437
    have hfz14_0 := blk_frozen BK437.out 0
    have hfz14_1 := blk_frozen BK437.out 1
    have hfz14_2 := blk_frozen BK437.out 2
    go_upto_region 6 with (first | ((with_reducible refine gate_callee (f := 23) rfl ?_); refine goesL_ (some 28) rfl rfl Try.func23 (by kernel_rfl) rfl #[.agg #[.slice A0_0 l0_0.length c0_0, .slice A0_1 l0_1.length c0_1, .slice A0_2 l0_2.length c0_2]] rfl (args_ (p := _)) ?_; (with_reducible refine (headgatekit_OwnLists.calls _ _ l0_0 _ _ l0_1 _ _ l0_2 t439 t442 t445 _ ?side1 ?side2 ?side3 ?side4 ?side5 ?side6 A10.out).mono ?_); (case side1 => exact upc (Kd.C_below HR0_0.out HB.out)); (case side2 => exact HC0_0.out); (case side3 => exact upc (Kd.C_below HR0_1.out HB.out)); (case side4 => exact HC0_1.out); (case side5 => exact upc (Kd.C_below HR0_2.out HB.out)); (case side6 => exact HC0_2.out); rintro e w15 ⟨v440, v443, v446, rfl, ho0, ho1, ho2, hb⟩; refine ⟨_, rfl, ?_⟩; have n0_ := Aside0.mk (Kd.R_lower ho0 (below_size (upH HB))); have n1_ := Aside0.mk (Kd.R_lower ho1 (below_size (upH HB))); have n2_ := Aside0.mk (Kd.R_lower ho2 (below_size (upH HB))); have n3_ := Aside0.mk (blkB BK437 hb); have n4_ := Aside0.mk (below_step (upH HB) hb); clear BK437; clear HB; have HO441 := n0_; have HO444 := n1_; have HO447 := n2_; have BK437 := n3_; have HB := n4_; clear n0_ n1_ n2_ n3_ n4_; (try clear hb); (try clear hb2); (try clear hk); (try clear hi); (try clear ho0); (try clear ho1); (try clear ho2)) | ((with_reducible refine gate_dst (N := 3) rfl ?_); (try (refine gate_guard (by rfl) ?_; dsimp only)); refine box_event ?hg (N := 3) ?hd (cs := #[.slice none 0 0, .slice none 0 0, .slice none 0 0]) (t := 33) ?hr ?_; (case hd => rfl); (case hg => rfl); (case hr => first | (go_simp; done) | (go_simp; rfl)); intro gb448 hg w16 hbox hb; have n0_ := Aside0.mk (Kd.R_below (upR HO441.out) hb); have n1_ := Aside0.mk (Kd.R_below (upR HO444.out) hb); have n2_ := Aside0.mk (Kd.R_below (upR HO447.out) hb); have n3_ := Aside0.mk (blkB BK437 hb); have n4_ := Aside0.mk (below_step (upH HB) hb); have n5_ := Aside0.mk (hbox); have n6_ := Aside0.mk ((by rw [hg]; exact (below_size (upH HB)) : w.heap.size ≤ gb448)); have n7_ := Aside0.mk ((by rw [hg]; exact (below_size (upH HB)) : w.heap.size ≤ gb448)); have n8_ := Aside0.mk ((by rw [hg]; exact Nat.ne_of_lt (blk_lt (g := gb437) (o := .cells #[.slice A0_0 l0_0.length c0_0, .slice A0_1 l0_1.length c0_1, .slice A0_2 l0_2.length c0_2] 33 (0, 0)) (upB BK437)) : gb437 ≠ gb448)); have n9_ := Aside0.mk ((by rw [hg]; exact Nat.ne_of_gt (blk_lt (g := gb437) (o := .cells #[.slice A0_0 l0_0.length c0_0, .slice A0_1 l0_1.length c0_1, .slice A0_2 l0_2.length c0_2] 33 (0, 0)) (upB BK437)) : gb448 ≠ gb437)); clear HO441; clear HO444; clear HO447; clear BK437; clear HB; have HO441 := n0_; have HO444 := n1_; have HO447 := n2_; have BK437 := n3_; have HB := n4_; have BK448 := n5_; have GW448 := n6_; have GE448 := n7_; have NB437_448 := n8_; have NB448_437 := n9_; clear n0_ n1_ n2_ n3_ n4_ n5_ n6_ n7_ n8_ n9_; clear hb hbox hg; obtain ⟨Ao17, co17, eo17⟩ := Kd.R_slice HO441.out; subst eo17; have hnb18 := NB448_437.out; have hnc18 := NB437_448.out; have hcz19_0 := cell0 BK448; have hcz19_1 := cell1 BK448; have hcz19_2 := cell2 BK448; have hfz19_0 := blk_frozen BK448.out 0; have hfz19_1 := blk_frozen BK448.out 1; have hfz19_2 := blk_frozen BK448.out 2; obtain ⟨Ao20, co20, eo20⟩ := Kd.R_slice HO444.out; subst eo20; obtain ⟨Ao21, co21, eo21⟩ := Kd.R_slice HO447.out; subst eo21) | ((with_reducible refine gate_callee (f := 19) rfl ?_); refine goesL_ (some 31) rfl rfl Try.func19 (by kernel_rfl) rfl #[.agg #[.slice Ao17 t439.length co17, .slice Ao20 t442.length co20, .slice Ao21 t445.length co21]] rfl (args_ (p := _)) ?_; (with_reducible refine (balance_Which.calls kj1 _ _ t439 _ _ t442 _ _ t445 t449 t450 _ ?side1 ?side2 ?side3 ?side4 ?side5 ?side6 A11.out).mono ?_); (case side1 => exact (Kd.R_reads' (upR (Kd.R_mono (far3 HO441.out BK448) (fun _ h_ => h_.1)))).2.2); (case side2 => exact (Kd.R_reads' HO441.out).2.1); (case side3 => exact (Kd.R_reads' (upR (Kd.R_mono (far3 HO444.out BK448) (fun _ h_ => h_.1)))).2.2); (case side4 => exact (Kd.R_reads' HO444.out).2.1); (case side5 => exact (Kd.R_reads' (upR (Kd.R_mono (far3 HO447.out BK448) (fun _ h_ => h_.1)))).2.2); (case side6 => exact (Kd.R_reads' HO447.out).2.1); rintro e w22 ⟨rfl, hb⟩; refine ⟨_, rfl, ?_⟩; have n0_ := Aside0.mk (Kd.R_below (upR (Kd.R_mono (far3 HO441.out BK448) (fun _ h_ => h_.1))) hb); have n1_ := Aside0.mk (Kd.R_below (upR (Kd.R_mono (far3 HO444.out BK448) (fun _ h_ => h_.1))) hb); have n2_ := Aside0.mk (Kd.R_below (upR (Kd.R_mono (far3 HO447.out BK448) (fun _ h_ => h_.1))) hb); have n3_ := Aside0.mk (blk_below (g := gb437) (o := .cells #[.slice A0_0 l0_0.length c0_0, .slice A0_1 l0_1.length c0_1, .slice A0_2 l0_2.length c0_2] 33 (0, 0)) (by (with_reducible repeat (first | refine blk_drewN ?_ _ | refine blk_drew ?_ | refine blk_alloc ?_ _)); refine blk_far ?_ NB437_448.out _; (with_reducible repeat (first | refine blk_drewN ?_ _ | refine blk_drew ?_ | refine blk_alloc ?_ _)); refine blk_far ?_ NB437_448.out _; (with_reducible repeat (first | refine blk_drewN ?_ _ | refine blk_drew ?_ | refine blk_alloc ?_ _)); refine blk_far ?_ NB437_448.out _; (with_reducible repeat (first | refine blk_drewN ?_ _ | refine blk_drew ?_ | refine blk_alloc ?_ _)); exact BK437.out) hb); have n4_ := Aside0.mk (blk_below (g := gb448) (o := .cells #[.slice Ao17 t439.length co17, .slice Ao20 t442.length co20, .slice Ao21 t445.length co21] 33 (0, 0)) (by (with_reducible repeat (first | refine blk_drewN ?_ _ | refine blk_drew ?_ | refine blk_alloc ?_ _)); refine blk_put (cs := #[.slice Ao17 t439.length co17, .slice Ao20 t442.length co20, .slice none 0 0]) ?_ 2 _ rfl; (with_reducible repeat (first | refine blk_drewN ?_ _ | refine blk_drew ?_ | refine blk_alloc ?_ _)); refine blk_put (cs := #[.slice Ao17 t439.length co17, .slice none 0 0, .slice none 0 0]) ?_ 1 _ rfl; (with_reducible repeat (first | refine blk_drewN ?_ _ | refine blk_drew ?_ | refine blk_alloc ?_ _)); refine blk_put (cs := #[.slice none 0 0, .slice none 0 0, .slice none 0 0]) ?_ 0 _ rfl; (with_reducible repeat (first | refine blk_drewN ?_ _ | refine blk_drew ?_ | refine blk_alloc ?_ _)); exact BK448.out) hb); have n5_ := Aside0.mk (below_step (upH HB) hb); clear HO441; clear HO444; clear HO447; clear BK437; clear BK448; clear HB; have HO441 := n0_; have HO444 := n1_; have HO447 := n2_; have BK437 := n3_; have BK448 := n4_; have HB := n5_; clear n0_ n1_ n2_ n3_ n4_ n5_; (try clear hb); (try clear hb2); (try clear hk); (try clear hi); have hcz23_0 := cell0 BK437; have hcz23_1 := cell1 BK437; have hcz23_2 := cell2 BK437; have hfz23_0 := blk_frozen BK437.out 0; have hfz23_1 := blk_frozen BK437.out 1; have hfz23_2 := blk_frozen BK437.out 2) | ((with_reducible refine gate_callee (f := 24) rfl ?_); refine goesL_ (some 36) rfl rfl Try.func24 (by kernel_rfl) rfl #[.agg #[.slice A0_0 l0_0.length c0_0, .slice A0_1 l0_1.length c0_1, .slice A0_2 l0_2.length c0_2]] rfl (args_ (p := _)) ?_; (with_reducible refine (headgateref31_Which.calls kj1 _ _ l0_0 _ _ l0_1 _ _ l0_2 t451 t452 _ ?side1 ?side2 ?side3 ?side4 ?side5 ?side6 A12.out).mono ?_); (case side1 => exact upc (Kd.C_below HR0_0.out HB.out)); (case side2 => exact HC0_0.out); (case side3 => exact upc (Kd.C_below HR0_1.out HB.out)); (case side4 => exact HC0_1.out); (case side5 => exact upc (Kd.C_below HR0_2.out HB.out)); (case side6 => exact HC0_2.out); rintro e w24 ⟨rfl, hb⟩; refine ⟨_, rfl, ?_⟩; have n0_ := Aside0.mk (Kd.R_below (upR HO441.out) hb); have n1_ := Aside0.mk (Kd.R_below (upR HO444.out) hb); have n2_ := Aside0.mk (Kd.R_below (upR HO447.out) hb); have n3_ := Aside0.mk (blkB BK437 hb); have n4_ := Aside0.mk (blkB BK448 hb); have n5_ := Aside0.mk (below_step (upH HB) hb); clear HO441; clear HO444; clear HO447; clear BK437; clear BK448; clear HB; have HO441 := n0_; have HO444 := n1_; have HO447 := n2_; have BK437 := n3_; have BK448 := n4_; have HB := n5_; clear n0_ n1_ n2_ n3_ n4_ n5_; (try clear hb); (try clear hb2); (try clear hk); (try clear hi)))
    (try simp only [Act.put, List.setIfInBounds_toArray, List.set_cons_zero, List.set_cons_succ])
    go_cut [46] (fun v46 wc => ∃ (kq : Nat) (x46_12 : Bool), v46 = .bool x46_12 ∧ Aside0 (headgatelaw31_BalanceWhich.j1 kq x46_12 l0_0 l0_1 l0_2 t439 t442 t445 = some r) ∧ Aside0 (kq ≤ kj1) ∧ Aside0 (Kd.R (Kd.int .i64) 3 wc w.heap.size (fun k_ => some k_ ≠ ((.slice Ao20 t442.length co20) : Value).ownBlock) (.slice Ao17 t439.length co17) t439) ∧ Aside0 (Kd.R (Kd.int .i64) 3 wc w.heap.size (fun k_ => some k_ ≠ ((.slice Ao17 t439.length co17) : Value).ownBlock) (.slice Ao20 t442.length co20) t442) ∧ Aside0 (Kd.R Kd.bool 4 wc w.heap.size (fun _ => True) (.slice Ao21 t445.length co21) t445) ∧ Aside0 (wc.heap[gb437]? = some (.cells #[(.slice A0_0 l0_0.length c0_0), (.slice A0_1 l0_1.length c0_1), (.slice A0_2 l0_2.length c0_2)] 33 (0, 0))) ∧ Aside0 (wc.heap[gb448]? = some (.cells #[(.slice Ao17 t439.length co17), (.slice Ao20 t442.length co20), (.slice Ao21 t445.length co21)] 33 (0, 0))) ∧ Aside0 (Below w.heap.size w wc))
    case first =>
     have H := HC13.out
     clear HC13
     by_cases c25 : t449 = t451
     ·
      rw [if_pos c25] at H
      have c25b0 : (t449 == t451) = true := beq_iff_eq.mpr c25
      have c25b1 : (t449 != t451) = false := bne_eq_false_iff_eq.mpr c25
      clear c25
      (first | rw [c25b0] | (simp only [i64_w, i32_w]; rw [c25b0]) | skip)
      have H' := Aside0.mk H
      clear H
      go_wp2
      go_meet
      case rel => exact ⟨_, ((t450 != t452)), (by first | rfl | (simp; done) | (simp [*]; done)), H', ⟨by have := HJ1.out; first | omega | exact Nat.le_refl _⟩, ⟨upR HO441.out⟩, ⟨upR HO444.out⟩, ⟨upR HO447.out⟩, ⟨upB BK437⟩, ⟨upB BK448⟩, ⟨upH HB⟩⟩
     ·
      rw [if_neg c25] at H
      have c25b0 : (t449 == t451) = false := beq_eq_false_iff_ne.mpr c25
      have c25b1 : (t449 != t451) = true := bne_iff_ne.mpr c25
      (first | rw [c25b0] | (simp only [i64_w, i32_w]; rw [c25b0]) | skip)
      have H' := Aside0.mk H
      clear H
      go_wp2
      go_meet
      case rel => exact ⟨_, (true), (by first | rfl | (simp; done) | (simp [*]; done)), H', ⟨by have := HJ1.out; first | omega | exact Nat.le_refl _⟩, ⟨upR HO441.out⟩, ⟨upR HO444.out⟩, ⟨upR HO447.out⟩, ⟨upB BK437⟩, ⟨upB BK448⟩, ⟨upH HB⟩⟩
    case rest =>
     clear HC13
     try clear c1
     try clear c2
     try clear p2
     try clear c4
     try clear c4b0
     try clear p6
     try clear c7
     try clear c12
     try clear c18
     try clear c19
     try clear c23
     try clear c24
     try clear c25
     try clear c25b0
     try clear c25b1
     try clear hcz14_0
     try clear hcz14_1
     try clear hcz14_2
     try clear hcz19_0
     try clear hcz19_1
     try clear hcz19_2
     try clear hcz23_0
     try clear hcz23_1
     try clear hcz23_2
     try clear hcz5_0
     try clear hcz5_1
     try clear hcz5_2
     try clear hcz6_0
     try clear hcz6_1
     try clear hcz6_2
     try clear hfz14_0
     try clear hfz14_1
     try clear hfz14_2
     try clear hfz19_0
     try clear hfz19_1
     try clear hfz19_2
     try clear hfz23_0
     try clear hfz23_1
     try clear hfz23_2
     try clear hfz5_0
     try clear hfz5_1
     try clear hfz5_2
     try clear hfz6_0
     try clear hfz6_1
     try clear hfz6_2
     try clear p2
     try clear p6
     obtain ⟨kq, x46_12, rfl, HA, HJ12, HO_449000, HO_449001, HO_449002, BK437, BK448, HB⟩ := hcut
     cases kq with
     | zero => exact absurd HA.out (by simp [headgatelaw31_BalanceWhich.j1])
     | succ kj12 =>
      have H := HA.out
      clear HA
      simp only [headgatelaw31_BalanceWhich.j1] at H
      by_cases c26 : x46_12 = true
      ·
       subst c26
       have H1 : (some false) = some r := by rw [if_pos rfl] at H; exact H
       clear H
       have H := H1
       clear H1
       exact absurd H (by rw [HT.out]; simp)
      ·
       replace c26 := Bool.eq_false_iff.mpr c26
       subst c26
       have H1 : ((balance_Lacks.f kj12 t439 t442 t445).bind fun bt453 => ((headgateref31_Lacks.f kj12 l0_0 l0_1 l0_2).bind fun bt455 => ((balance_Steps.f kj12 t439 t442 t445).bind fun bt457 => ((headgateref31_Steps.f kj12 l0_0 l0_1 l0_2).bind fun bt459 => (if bt453.1 = bt455.1 then (if bt453.2 = bt455.2 then (if bt457.1 = bt459.1 then (if bt457.2 = bt459.2 then ((headgatekit_SameLists.f kj12 t439 t442 t445 l0_0 l0_1 l0_2).bind fun t461 => (if t461 = true then ((headgatelaw31_awake.f kj12).bind fun t462 => (some t462)) else (some false))) else (some false)) else (some false)) else (some false)) else (some false)))))) = some r := by rw [if_neg (show ¬ (false = true) by decide)] at H; exact H
       clear H
       have H := H1
       clear H1
       replace H := Option.bind_eq_some_iff.mp H
       obtain ⟨⟨t453, t454⟩, A270, H⟩ := H
       replace H : ((headgateref31_Lacks.f kj12 l0_0 l0_1 l0_2).bind fun bt455 => ((balance_Steps.f kj12 t439 t442 t445).bind fun bt457 => ((headgateref31_Steps.f kj12 l0_0 l0_1 l0_2).bind fun bt459 => (if t453 = bt455.1 then (if t454 = bt455.2 then (if bt457.1 = bt459.1 then (if bt457.2 = bt459.2 then ((headgatekit_SameLists.f kj12 t439 t442 t445 l0_0 l0_1 l0_2).bind fun t461 => (if t461 = true then ((headgatelaw31_awake.f kj12).bind fun t462 => (some t462)) else (some false))) else (some false)) else (some false)) else (some false)) else (some false))))) = some r := H
       have A27 := Aside0.mk A270
       clear A270
       replace H := Option.bind_eq_some_iff.mp H
       obtain ⟨⟨t455, t456⟩, A280, H⟩ := H
       replace H : ((balance_Steps.f kj12 t439 t442 t445).bind fun bt457 => ((headgateref31_Steps.f kj12 l0_0 l0_1 l0_2).bind fun bt459 => (if t453 = t455 then (if t454 = t456 then (if bt457.1 = bt459.1 then (if bt457.2 = bt459.2 then ((headgatekit_SameLists.f kj12 t439 t442 t445 l0_0 l0_1 l0_2).bind fun t461 => (if t461 = true then ((headgatelaw31_awake.f kj12).bind fun t462 => (some t462)) else (some false))) else (some false)) else (some false)) else (some false)) else (some false)))) = some r := H
       have A28 := Aside0.mk A280
       clear A280
       replace H := Option.bind_eq_some_iff.mp H
       obtain ⟨⟨t457, t458⟩, A290, H⟩ := H
       replace H : ((headgateref31_Steps.f kj12 l0_0 l0_1 l0_2).bind fun bt459 => (if t453 = t455 then (if t454 = t456 then (if t457 = bt459.1 then (if t458 = bt459.2 then ((headgatekit_SameLists.f kj12 t439 t442 t445 l0_0 l0_1 l0_2).bind fun t461 => (if t461 = true then ((headgatelaw31_awake.f kj12).bind fun t462 => (some t462)) else (some false))) else (some false)) else (some false)) else (some false)) else (some false))) = some r := H
       have A29 := Aside0.mk A290
       clear A290
       replace H := Option.bind_eq_some_iff.mp H
       obtain ⟨⟨t459, t460⟩, A300, H⟩ := H
       replace H : (if t453 = t455 then (if t454 = t456 then (if t457 = t459 then (if t458 = t460 then ((headgatekit_SameLists.f kj12 t439 t442 t445 l0_0 l0_1 l0_2).bind fun t461 => (if t461 = true then ((headgatelaw31_awake.f kj12).bind fun t462 => (some t462)) else (some false))) else (some false)) else (some false)) else (some false)) else (some false)) = some r := H
       have A30 := Aside0.mk A300
       clear A300
       by_cases c31 : t453 = t455
       ·
        rw [if_pos c31] at H
        have c31b0 : (t453 == t455) = true := beq_iff_eq.mpr c31
        have c31b1 : (t453 != t455) = false := bne_eq_false_iff_eq.mpr c31
        clear c31
        by_cases c32 : t454 = t456
        ·
         rw [if_pos c32] at H
         have c32b0 : (t454 == t456) = true := beq_iff_eq.mpr c32
         have c32b1 : (t454 != t456) = false := bne_eq_false_iff_eq.mpr c32
         clear c32
         by_cases c33 : t457 = t459
         ·
          rw [if_pos c33] at H
          have c33b0 : (t457 == t459) = true := beq_iff_eq.mpr c33
          have c33b1 : (t457 != t459) = false := bne_eq_false_iff_eq.mpr c33
          clear c33
          by_cases c34 : t458 = t460
          ·
           rw [if_pos c34] at H
           have c34b0 : (t458 == t460) = true := beq_iff_eq.mpr c34
           have c34b1 : (t458 != t460) = false := bne_eq_false_iff_eq.mpr c34
           clear c34
           replace H := Option.bind_eq_some_iff.mp H
           obtain ⟨t461, A350, H⟩ := H
           replace H : (if t461 = true then ((headgatelaw31_awake.f kj12).bind fun t462 => (some t462)) else (some false)) = some r := H
           have A35 := Aside0.mk A350
           clear A350
           by_cases c36 : t461 = true
           ·
            subst c36
            have H1 : ((headgatelaw31_awake.f kj12).bind fun t462 => (some t462)) = some r := by rw [if_pos rfl] at H; exact H
            clear H
            have H := H1
            clear H1
            replace H := Option.bind_eq_some_iff.mp H
            obtain ⟨t462, A370, H⟩ := H
            replace H : (some t462) = some r := H
            have A37 := Aside0.mk A370
            clear A370
            obtain rfl := Option.some.inj H
            have hnb38 := NB448_437.out
            have hnc38 := NB437_448.out
            have hcz39_0 := cell0 BK448
            have hcz39_1 := cell1 BK448
            have hcz39_2 := cell2 BK448
            have hfz39_0 := blk_frozen BK448.out 0
            have hfz39_1 := blk_frozen BK448.out 1
            have hfz39_2 := blk_frozen BK448.out 2
            go_wp2_with (first | ((with_reducible refine gate_callee (f := 25) rfl ?_); refine goesL_ (some 49) rfl rfl Try.func25 (by kernel_rfl) rfl #[.agg #[.slice Ao17 t439.length co17, .slice Ao20 t442.length co20, .slice Ao21 t445.length co21]] rfl (args_ (p := _)) ?_; (with_reducible refine (balance_Lacks.calls kj12 _ _ t439 _ _ t442 _ _ t445 t453 t454 _ ?side1 ?side2 ?side3 ?side4 ?side5 ?side6 A27.out).mono ?_); (case side1 => exact upc (Kd.R_reads' HO_449000.out).2.2); (case side2 => exact (Kd.R_reads' HO_449000.out).2.1); (case side3 => exact upc (Kd.R_reads' HO_449001.out).2.2); (case side4 => exact (Kd.R_reads' HO_449001.out).2.1); (case side5 => exact upc (Kd.R_reads' HO_449002.out).2.2); (case side6 => exact (Kd.R_reads' HO_449002.out).2.1); rintro e w40 ⟨rfl, hb⟩; refine ⟨_, rfl, ?_⟩; have n0_ := Aside0.mk (Kd.R_below (upR HO_449000.out) hb); have n1_ := Aside0.mk (Kd.R_below (upR HO_449001.out) hb); have n2_ := Aside0.mk (Kd.R_below (upR HO_449002.out) hb); have n3_ := Aside0.mk (blkB BK437 hb); have n4_ := Aside0.mk (blkB BK448 hb); have n5_ := Aside0.mk (below_step (upH HB) hb); clear HO_449000; clear HO_449001; clear HO_449002; clear BK437; clear BK448; clear HB; have HO_449000 := n0_; have HO_449001 := n1_; have HO_449002 := n2_; have BK437 := n3_; have BK448 := n4_; have HB := n5_; clear n0_ n1_ n2_ n3_ n4_ n5_; (try clear hb); (try clear hb2); (try clear hk); (try clear hi); have hcz41_0 := cell0 BK437; have hcz41_1 := cell1 BK437; have hcz41_2 := cell2 BK437; have hfz41_0 := blk_frozen BK437.out 0; have hfz41_1 := blk_frozen BK437.out 1; have hfz41_2 := blk_frozen BK437.out 2) | ((with_reducible refine gate_callee (f := 26) rfl ?_); refine goesL_ (some 54) rfl rfl Try.func26 (by kernel_rfl) rfl #[.agg #[.slice A0_0 l0_0.length c0_0, .slice A0_1 l0_1.length c0_1, .slice A0_2 l0_2.length c0_2]] rfl (args_ (p := _)) ?_; (with_reducible refine (headgateref31_Lacks.calls kj12 _ _ l0_0 _ _ l0_1 _ _ l0_2 t455 t456 _ ?side1 ?side2 ?side3 ?side4 ?side5 ?side6 A28.out).mono ?_); (case side1 => exact upc (Kd.C_below HR0_0.out HB.out)); (case side2 => exact HC0_0.out); (case side3 => exact upc (Kd.C_below HR0_1.out HB.out)); (case side4 => exact HC0_1.out); (case side5 => exact upc (Kd.C_below HR0_2.out HB.out)); (case side6 => exact HC0_2.out); rintro e w42 ⟨rfl, hb⟩; refine ⟨_, rfl, ?_⟩; have n0_ := Aside0.mk (Kd.R_below (upR HO_449000.out) hb); have n1_ := Aside0.mk (Kd.R_below (upR HO_449001.out) hb); have n2_ := Aside0.mk (Kd.R_below (upR HO_449002.out) hb); have n3_ := Aside0.mk (blkB BK437 hb); have n4_ := Aside0.mk (blkB BK448 hb); have n5_ := Aside0.mk (below_step (upH HB) hb); clear HO_449000; clear HO_449001; clear HO_449002; clear BK437; clear BK448; clear HB; have HO_449000 := n0_; have HO_449001 := n1_; have HO_449002 := n2_; have BK437 := n3_; have BK448 := n4_; have HB := n5_; clear n0_ n1_ n2_ n3_ n4_ n5_; (try clear hb); (try clear hb2); (try clear hk); (try clear hi); have hcz43_0 := cell0 BK448; have hcz43_1 := cell1 BK448; have hcz43_2 := cell2 BK448; have hfz43_0 := blk_frozen BK448.out 0; have hfz43_1 := blk_frozen BK448.out 1; have hfz43_2 := blk_frozen BK448.out 2) | ((with_reducible refine gate_callee (f := 18) rfl ?_); refine goesL_ (some 59) rfl rfl Try.func18 (by kernel_rfl) rfl #[.agg #[.slice Ao17 t439.length co17, .slice Ao20 t442.length co20, .slice Ao21 t445.length co21]] rfl (args_ (p := _)) ?_; (with_reducible refine (balance_Steps.calls kj12 _ _ t439 _ _ t442 _ _ t445 t457 t458 _ ?side1 ?side2 ?side3 ?side4 ?side5 ?side6 A29.out).mono ?_); (case side1 => exact upc (Kd.R_reads' HO_449000.out).2.2); (case side2 => exact (Kd.R_reads' HO_449000.out).2.1); (case side3 => exact upc (Kd.R_reads' HO_449001.out).2.2); (case side4 => exact (Kd.R_reads' HO_449001.out).2.1); (case side5 => exact upc (Kd.R_reads' HO_449002.out).2.2); (case side6 => exact (Kd.R_reads' HO_449002.out).2.1); rintro e w44 ⟨rfl, hb⟩; refine ⟨_, rfl, ?_⟩; have n0_ := Aside0.mk (Kd.R_below (upR HO_449000.out) hb); have n1_ := Aside0.mk (Kd.R_below (upR HO_449001.out) hb); have n2_ := Aside0.mk (Kd.R_below (upR HO_449002.out) hb); have n3_ := Aside0.mk (blkB BK437 hb); have n4_ := Aside0.mk (blkB BK448 hb); have n5_ := Aside0.mk (below_step (upH HB) hb); clear HO_449000; clear HO_449001; clear HO_449002; clear BK437; clear BK448; clear HB; have HO_449000 := n0_; have HO_449001 := n1_; have HO_449002 := n2_; have BK437 := n3_; have BK448 := n4_; have HB := n5_; clear n0_ n1_ n2_ n3_ n4_ n5_; (try clear hb); (try clear hb2); (try clear hk); (try clear hi); have hcz45_0 := cell0 BK437; have hcz45_1 := cell1 BK437; have hcz45_2 := cell2 BK437; have hfz45_0 := blk_frozen BK437.out 0; have hfz45_1 := blk_frozen BK437.out 1; have hfz45_2 := blk_frozen BK437.out 2) | ((with_reducible refine gate_callee (f := 27) rfl ?_); refine goesL_ (some 64) rfl rfl Try.func27 (by kernel_rfl) rfl #[.agg #[.slice A0_0 l0_0.length c0_0, .slice A0_1 l0_1.length c0_1, .slice A0_2 l0_2.length c0_2]] rfl (args_ (p := _)) ?_; (with_reducible refine (headgateref31_Steps.calls kj12 (fun k_ => k_ < w.heap.size) _ _ l0_0 (fun k_ => k_ < w.heap.size) _ _ l0_1 (fun k_ => k_ < w.heap.size) _ _ l0_2 t459 t460 _ ?side1 ?side2 ?side3 A30.out).mono ?_); (case side1 => exact Kd.V_mk HC0_0.out (Kd.F_below (Kd.C_F (Kd.heap_int .i64) HR0_0.out) (upH HB))); (case side2 => exact Kd.V_mk HC0_1.out (Kd.F_below (Kd.C_F (Kd.heap_int .i64) HR0_1.out) (upH HB))); (case side3 => exact Kd.V_mk HC0_2.out (Kd.F_below (Kd.C_F Kd.heap_bool HR0_2.out) (upH HB))); rintro e w46 ⟨rfl, hb⟩; refine ⟨_, rfl, ?_⟩; have n0_ := Aside0.mk (Kd.R_below (upR HO_449000.out) hb); have n1_ := Aside0.mk (Kd.R_below (upR HO_449001.out) hb); have n2_ := Aside0.mk (Kd.R_below (upR HO_449002.out) hb); have n3_ := Aside0.mk (blkB BK437 hb); have n4_ := Aside0.mk (blkB BK448 hb); have n5_ := Aside0.mk (below_step (upH HB) hb); clear HO_449000; clear HO_449001; clear HO_449002; clear BK437; clear BK448; clear HB; have HO_449000 := n0_; have HO_449001 := n1_; have HO_449002 := n2_; have BK437 := n3_; have BK448 := n4_; have HB := n5_; clear n0_ n1_ n2_ n3_ n4_ n5_; (try clear hb); (try clear hb2); (try clear hk); (try clear hi); have hcz47_0 := cell0 BK448; have hcz47_1 := cell1 BK448; have hcz47_2 := cell2 BK448; have hfz47_0 := blk_frozen BK448.out 0; have hfz47_1 := blk_frozen BK448.out 1; have hfz47_2 := blk_frozen BK448.out 2; have hcz48_0 := cell0 BK437; have hcz48_1 := cell1 BK437; have hcz48_2 := cell2 BK437; have hfz48_0 := blk_frozen BK437.out 0; have hfz48_1 := blk_frozen BK437.out 1; have hfz48_2 := blk_frozen BK437.out 2) | (go_at_call 28; refine calls_of_args (args' := #[.agg #[.slice Ao17 t439.length co17, .slice Ao20 t442.length co20, .slice Ao21 t445.length co21], .agg #[.slice A0_0 l0_0.length c0_0, .slice A0_1 l0_1.length c0_1, .slice A0_2 l0_2.length c0_2]]) (by first | rfl) ?_; (with_reducible refine (headgatekit_SameLists.calls kj12 _ _ t439 _ _ t442 _ _ t445 _ _ l0_0 _ _ l0_1 _ _ l0_2 true _ ?side1 ?side2 ?side3 ?side4 ?side5 ?side6 ?side7 ?side8 ?side9 ?side10 ?side11 ?side12 A35.out).mono ?_); (case side1 => exact upc (Kd.R_reads' HO_449000.out).2.2); (case side2 => exact (Kd.R_reads' HO_449000.out).2.1); (case side3 => exact upc (Kd.R_reads' HO_449001.out).2.2); (case side4 => exact (Kd.R_reads' HO_449001.out).2.1); (case side5 => exact upc (Kd.R_reads' HO_449002.out).2.2); (case side6 => exact (Kd.R_reads' HO_449002.out).2.1); (case side7 => exact upc (Kd.C_below HR0_0.out HB.out)); (case side8 => exact HC0_0.out); (case side9 => exact upc (Kd.C_below HR0_1.out HB.out)); (case side10 => exact HC0_1.out); (case side11 => exact upc (Kd.C_below HR0_2.out HB.out)); (case side12 => exact HC0_2.out); rintro e w49 ⟨rfl, hb⟩; have n0_ := Aside0.mk (Kd.R_below (upR HO_449000.out) hb); have n1_ := Aside0.mk (Kd.R_below (upR HO_449001.out) hb); have n2_ := Aside0.mk (Kd.R_below (upR HO_449002.out) hb); have n3_ := Aside0.mk (blkB BK437 hb); have n4_ := Aside0.mk (blkB BK448 hb); have n5_ := Aside0.mk (below_step (upH HB) hb); clear HO_449000; clear HO_449001; clear HO_449002; clear BK437; clear BK448; clear HB; have HO_449000 := n0_; have HO_449001 := n1_; have HO_449002 := n2_; have BK437 := n3_; have BK448 := n4_; have HB := n5_; clear n0_ n1_ n2_ n3_ n4_ n5_; (try clear hb); (try clear hb2); (try clear hk); (try clear hi)) | (go_at_call 12; refine calls_of_args (args' := #[]) (by first | rfl) ?_; (with_reducible refine (headgatelaw31_awake.calls kj12  t462 _ A37.out).mono ?_); rintro e w50 ⟨rfl, hb⟩; have n0_ := Aside0.mk (Kd.R_below (upR HO_449000.out) hb); have n1_ := Aside0.mk (Kd.R_below (upR HO_449001.out) hb); have n2_ := Aside0.mk (Kd.R_below (upR HO_449002.out) hb); have n3_ := Aside0.mk (blkB BK437 hb); have n4_ := Aside0.mk (blkB BK448 hb); have n5_ := Aside0.mk (below_step (upH HB) hb); clear HO_449000; clear HO_449001; clear HO_449002; clear BK437; clear BK448; clear HB; have HO_449000 := n0_; have HO_449001 := n1_; have HO_449002 := n2_; have BK437 := n3_; have BK448 := n4_; have HB := n5_; clear n0_ n1_ n2_ n3_ n4_ n5_; (try clear hb); (try clear hb2); (try clear hk); (try clear hi)))
            go_ret
            exact ⟨by first | rfl | (simp [errW_none, errW_some] <;> rfl) | (simp [*, errW_none, errW_some] <;> rfl), by repeat (first | (with_reducible first | exact HB.out | apply below_alloc | apply pw_below_drewN | apply below_drew1 | refine below_set ?_ GE437.out | refine below_set ?_ GE448.out) | exact HB.out)⟩
           ·
            replace c36 := Bool.eq_false_iff.mpr c36
            subst c36
            have H1 : (some false) = some r := by rw [if_neg (show ¬ (false = true) by decide)] at H; exact H
            clear H
            have H := H1
            clear H1
            exact absurd H (by rw [HT.out]; simp)
          ·
           rw [if_neg c34] at H
           have c34b0 : (t458 == t460) = false := beq_eq_false_iff_ne.mpr c34
           have c34b1 : (t458 != t460) = true := bne_iff_ne.mpr c34
           exact absurd H (by rw [HT.out]; simp)
         ·
          rw [if_neg c33] at H
          have c33b0 : (t457 == t459) = false := beq_eq_false_iff_ne.mpr c33
          have c33b1 : (t457 != t459) = true := bne_iff_ne.mpr c33
          exact absurd H (by rw [HT.out]; simp)
        ·
         rw [if_neg c32] at H
         have c32b0 : (t454 == t456) = false := beq_eq_false_iff_ne.mpr c32
         have c32b1 : (t454 != t456) = true := bne_iff_ne.mpr c32
         exact absurd H (by rw [HT.out]; simp)
       ·
        rw [if_neg c31] at H
        have c31b0 : (t453 == t455) = false := beq_eq_false_iff_ne.mpr c31
        have c31b1 : (t453 != t455) = true := bne_iff_ne.mpr c31
        exact absurd H (by rw [HT.out]; simp)

/-- THE ONE PURE STATEMENT of headgatelaw31_BalanceWhich. -/
def headgatelaw31_BalanceWhich.Pure : Prop := ∀ (s0 : S33), ((s0.f0.length ≤ maxLen ∧ s0.f0.length * 8 ≤ 140737488351232 ∧ ∀ x ∈ s0.f0, (Lit.int .i64 x).wf = true) ∧ (s0.f1.length ≤ maxLen ∧ s0.f1.length * 8 ≤ 140737488351232 ∧ ∀ x ∈ s0.f1, (Lit.int .i64 x).wf = true) ∧ (s0.f2.length ≤ maxLen ∧ s0.f2.length * 1 ≤ 140737488351232 ∧ ∀ x ∈ s0.f2, True)) → ∃ k, headgatelaw31_BalanceWhich.f k s0.f0 s0.f1 s0.f2 = some true
theorem headgatelaw31_BalanceWhich.walk (P : headgatelaw31_BalanceWhich.Pure) (s0 : S33) (A0_0 : Option Addr) (c0_0 : Nat) (A0_1 : Option Addr) (c0_1 : Nat) (A0_2 : Option Addr) (c0_2 : Nat) (w : World) (hr0_0 : Kd.C (Kd.int .i64) w A0_0 s0.f0.length s0.f0) (hc0_0 : s0.f0.length ≤ c0_0) (hr0_1 : Kd.C (Kd.int .i64) w A0_1 s0.f1.length s0.f1) (hc0_1 : s0.f1.length ≤ c0_1) (hr0_2 : Kd.C Kd.bool w A0_2 s0.f2.length s0.f2) (hc0_2 : s0.f2.length ≤ c0_2) (w0 : (s0.f0.length ≤ maxLen ∧ s0.f0.length * 8 ≤ 140737488351232 ∧ ∀ x ∈ s0.f0, (Lit.int .i64 x).wf = true) ∧ (s0.f1.length ≤ maxLen ∧ s0.f1.length * 8 ≤ 140737488351232 ∧ ∀ x ∈ s0.f1, (Lit.int .i64 x).wf = true) ∧ (s0.f2.length ≤ maxLen ∧ s0.f2.length * 1 ≤ 140737488351232 ∧ ∀ x ∈ s0.f2, True)) :
  Calls Try.prog 7 #[.agg #[.slice A0_0 s0.f0.length c0_0, .slice A0_1 s0.f1.length c0_1, .slice A0_2 s0.f2.length c0_2]] w fun e w' => e = .returned (.bool true) ∧ Below w.heap.size w w' := by
 obtain ⟨k, h⟩ := P s0 w0
 refine (headgatelaw31_BalanceWhich.calls k A0_0 c0_0 s0.f0 A0_1 c0_1 s0.f1 A0_2 c0_2 s0.f2 true w hr0_0 hc0_0 hr0_1 hc0_1 hr0_2 hc0_2 ⟨rfl⟩ h).mono ?_
 rintro e w' ⟨rfl, hd⟩
 exact ⟨rfl, hd⟩

end Go.Proofs.Ytnheknlmmmkbpaa.X
