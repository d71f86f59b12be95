/- What Go functions of this seat compute, told as Lean functions, and that each call of the Go code comes to that answer; for a law: its row, for every input. Written by a program of the session. -/
import Derived.Test.YtnheknlmmmkbpaaX0
import Derived.Test.YtnheknlmmmkbpaaX2
import Derived.Test.YtnheknlmmmkbpaaX18
namespace Go.Proofs.Ytnheknlmmmkbpaa.X
open Go.RowKit Go.Proofs.YtnheknlmmmkbpaaW.PrintWords Go.Proofs.YtnheknlmmmkbpaaW.PrintLast Go.Proofs.YtnheknlmmmkbpaaW.PrintMore
attribute [local go_sem] max2_int min2_int max_two min_two max_three min_three max_four min_four   -- for this text's walks alone
set_option linter.unusedVariables false
set_option linter.unusedSimpArgs false

/-! ### headgateref07_Check: function 44 -/
/-- The marks say just what was seen. -/
def Marked (N : Nat) (T : List Bool) (seen : List Int) : Prop := T.length = N ∧ ∀ f : Nat, f < N → T.getD f false = seen.contains (f : Int)
theorem marked_nil (N : Nat) : Marked N (List.replicate N false) [] := ⟨by simp, fun f hf => by simp [List.getD_eq_getElem?_getD, List.getElem?_replicate, hf]⟩
theorem marked_put {N : Nat} {T : List Bool} {seen : List Int} (h : Marked N T seen) (x : Int) (h0 : 0 ≤ x) (h1 : x < (N : Int)) : Marked N (T.set x.toNat true) (x :: seen) := by
 refine ⟨by rw [List.length_set, h.1], fun f hf => ?_⟩
 have hT := h.2 f hf
 have hl := h.1
 simp only [List.getD_eq_getElem?_getD, List.getElem?_set] at hT ⊢
 by_cases c : x.toNat = f
 ·
  have : (f : Int) = x := by omega
  rw [if_pos c, if_pos (by omega), this]
  simp
 ·
  have : ((f : Int) == x) = false := beq_eq_false_iff_ne.mpr (by omega)
  rw [if_neg c, hT, List.contains_cons, this, Bool.false_or]
theorem marked_at {N : Nat} {T : List Bool} {seen : List Int} (h : Marked N T seen) (x : Int) (h0 : 0 ≤ x) (h1 : x < (N : Int)) : rdOf false T x = seen.contains x := by
 have := h.2 x.toNat (by omega)
 rw [show ((x.toNat : Nat) : Int) = x by omega] at this
 exact this
def headgateref07_Check.f (l0_0 : List Int) (l0_1 : List Int) (l0_2 : List Bool) : Option Int := some (lruCheck l0_0 l0_1 l0_2)
set_option maxHeartbeats 2000000 in
set_option maxRecDepth 100000 in
theorem headgateref07_Check.calls (A0_0 : Option Addr) (c0_0 : Nat) (l0_0 : List Int) (A0_1 : Option Addr) (c0_1 : Nat) (l0_1 : List Int) (A0_2 : Option Addr) (c0_2 : Nat) (l0_2 : List Bool) (r : Int) (w : World) (hr0_0 : Kd.C (Kd.int .i64) w A0_0 l0_0.length l0_0) (hc0_0 : l0_0.length ≤ c0_0) (hr0_1 : Kd.C (Kd.int .i64) w A0_1 l0_1.length l0_1) (hc0_1 : l0_1.length ≤ c0_1) (hr0_2 : Kd.C Kd.bool w A0_2 l0_2.length l0_2) (hc0_2 : l0_2.length ≤ c0_2) (h : headgateref07_Check.f l0_0 l0_1 l0_2 = some r) :
  Calls Try.prog 44 #[.agg #[.slice A0_0 l0_0.length c0_0, .slice A0_1 l0_1.length c0_1, .slice A0_2 l0_2.length c0_2]] w fun e w' => e = .returned (.int .i64 r) ∧ Below w.heap.size w w' := by
 have hu33 := Try.underlying33
 have hm0 := Kd.C_max hr0_0
 have hm1 := Kd.C_max hr0_1
 unfold headgateref07_Check.f at h
 have H := Option.some.inj h
 clear h
 unfold lruCheck at H
 by_cases c1 : l0_2.length < 1
 ·
  rw [if_pos c1] at H
  subst H
  have e1 : decide (l0_2.length < 1) = true := decide_eq_true c1
  have e1' : decide ((l0_2.length : Int) < 1) = true := decide_eq_true (by omega)
  go_enter Try.func44, Try.ntmps44
  go_wp2
  go_ret
  exact ⟨rfl, below_alloc (Below.refl _ _) _⟩
 ·
  by_cases c2 : 256 < l0_2.length
  ·
   rw [if_neg c1, if_pos c2] at H
   subst H
   have e1 : decide (l0_2.length < 1) = false := decide_eq_false c1
   have e2 : decide (256 < l0_2.length) = true := decide_eq_true c2
   have e1' : decide ((l0_2.length : Int) < 1) = false := decide_eq_false (by omega)
   have e2' : decide ((256 : Int) < l0_2.length) = true := decide_eq_true (by omega)
   go_enter Try.func44, Try.ntmps44
   go_wp2
   go_ret
   exact ⟨rfl, below_alloc (Below.refl _ _) _⟩
  ·
   rw [if_neg c1, if_neg c2] at H
   have e1 : decide (l0_2.length < 1) = false := decide_eq_false c1
   have e2 : decide (256 < l0_2.length) = false := decide_eq_false c2
   have e1' : decide ((l0_2.length : Int) < 1) = false := decide_eq_false (by omega)
   have e2' : decide ((256 : Int) < l0_2.length) = false := decide_eq_false (by omega)
   have HH := Aside0.mk H
   clear H
   go_enter Try.func44, Try.ntmps44
   go_wp2_with (first | ((with_reducible refine gate_dst (N := 22) rfl ?_); (try (refine gate_guard (by rfl) ?_; dsimp only)); refine Kd.R_make Kd.bool _ 4 rfl (N := 22) rfl 31 _ _ rfl (l0_2.length : Int) rfl rfl Try.underlying31 (.bool false) 1 info4 rfl (by decide) (by omega) false (ok := fun _ => True) (okp := fun _ => True) rfl (fun _ hk => hk) trivial (by omega) (by omega) (Below.refl _ _) (Nat.le_refl _) ?_; intro v204 w11 ho12 hb hg_ hnew_; clear hg_ hnew_; (rw [Int.toNat_natCast] at ho12); (obtain ⟨gm, cm, eo12, _, _, _, _⟩ := Kd.R_form ho12 (by rw [List.length_replicate]; omega)); (rw [List.length_replicate] at eo12); subst eo12; have HBX := Aside0.mk (blk_below (blk_new w _) hb); have HB := Aside0.mk (below_step (below_alloc (Below.refl _ _) _) hb); have HT := Aside0.mk ho12; clear hb ho12; have hc0 := (blk_cell HBX.out 0).trans rfl; have hc1 := (blk_cell HBX.out 1).trans rfl; have hc2 := (blk_cell HBX.out 2).trans rfl))
   have hm2 : l0_2.length ≤ 256 := by omega
   clear c1 c2
   go_loopg [29] 2 (fun g i wr => ∃ (n : Nat) (seen : List Int), n + g = 2 ∧ i = .int .i64 n ∧ Aside0 (lruOut l0_0 l0_1 l0_2 n seen = r) ∧ Aside0 (wr.heap[w.heap.size]? = some (.cells #[.slice A0_0 l0_0.length c0_0, .slice A0_1 l0_1.length c0_1, .slice A0_2 l0_2.length c0_2] 33 (0, 0))) ∧ Aside0 (wr.heap[w11.heap.size]? = some (.cells #[.slice A0_0 l0_0.length c0_0, .slice A0_1 l0_1.length c0_1] 30 (0, 0))) ∧ Aside0 (∃ T, Kd.R Kd.bool 4 wr (w.heap.size + 1) (fun _ => True) (.slice (some ⟨gm, 0, none⟩) l0_2.length cm) T ∧ Marked l0_2.length T seen) ∧ Aside0 (Below w.heap.size w wr))
   case atStart =>
    exact ⟨0, [], by omega, rfl, HH, ⟨blk_alloc HBX.out _⟩, ⟨blk_new w11 _⟩, ⟨_, by simpa using Kd.R_alloc HT.out _, marked_nil _⟩, ⟨below_alloc HB.out _⟩⟩
   case round =>
    clear hc0 hc1 hc2 HT HB HBX HH
    obtain ⟨n, seen, hng, rfl, HA, B1, B2, HM, HB⟩ := hrel
    obtain ⟨ga, rfl⟩ : ∃ ga, ga = gk := ⟨_, rfl⟩
    have hc0 := (blk_cell B1.out 0).trans rfl
    have hc1 := (blk_cell B1.out 1).trans rfl
    have hc2 := (blk_cell B1.out 2).trans rfl
    by_cases hn : n < 2
    ·
     obtain ⟨A, c, p, hcell, hr, H⟩ : ∃ (A : Option Addr) (c : Nat) (p : List Int), wr.cell? ⟨w11.heap.size, n, none⟩ = some (.slice A p.length c) ∧ Aside0 (Kd.C (Kd.int .i64) w A p.length p) ∧ Aside0 (lruIn l0_2.length (lruOut l0_0 l0_1 l0_2 (n + 1)) (p.drop 0) seen = r) := by
      have hn2 : n = 0 ∨ n = 1 := by omega
      rcases hn2 with rfl | rfl
      ·
       exact ⟨A0_0, c0_0, l0_0, (blk_cell B2.out 0).trans rfl, ⟨hr0_0⟩, ⟨HA.out⟩⟩
      ·
       exact ⟨A0_1, c0_1, l0_1, (blk_cell B2.out 1).trans rfl, ⟨hr0_1⟩, ⟨HA.out⟩⟩
     clear HA
     have hpm := Kd.C_max hr.out
     have hnl : decide ((n : Int) < 2) = true := decide_eq_true (by omega)
     go_wp2
     go_loopg [6] p.length (fun g v wr => ∃ (j : Nat) (seen : List Int), j + g = p.length ∧ v = .int .i64 j ∧ Aside0 (lruIn l0_2.length (lruOut l0_0 l0_1 l0_2 (n + 1)) (p.drop j) seen = r) ∧ Aside0 (wr.heap[w.heap.size]? = some (.cells #[.slice A0_0 l0_0.length c0_0, .slice A0_1 l0_1.length c0_1, .slice A0_2 l0_2.length c0_2] 33 (0, 0))) ∧ Aside0 (wr.heap[w11.heap.size]? = some (.cells #[.slice A0_0 l0_0.length c0_0, .slice A0_1 l0_1.length c0_1] 30 (0, 0))) ∧ Aside0 (∃ T, Kd.R Kd.bool 4 wr (w.heap.size + 1) (fun _ => True) (.slice (some ⟨gm, 0, none⟩) l0_2.length cm) T ∧ Marked l0_2.length T seen) ∧ Aside0 (Below w.heap.size w wr))
     case atStart => exact ⟨0, seen, by omega, rfl, H, B1, B2, HM, HB⟩
     case round =>
      clear H HM hc0 hc1 hc2 B1 B2 HB hcell
      obtain ⟨j, seen, hjg, rfl, HA, B1, B2, HM, HB⟩ := hrel
      have hc2 := (blk_cell B1.out 2).trans rfl
      by_cases hj : j < p.length
      ·
       have H := lruIn_step hj HA.out
       obtain ⟨ad, rfl, hcx⟩ := C_at_ hr.out 0 j hj
       have hcx' := (HB.out.cell (World.block_lt_of_cell? w _ hcx)).trans hcx
       clear HA hcx
       have hjl : decide ((j : Int) < (p.length : Int)) = true := decide_eq_true (by omega)
       have hjl' : decide (j < p.length) = true := decide_eq_true hj
       generalize p.getD j 0 = x at H hcx'
       by_cases x1 : x < 0
       ·
        rw [if_pos x1] at H
        have x1b := decide_eq_true x1
        subst H
        go_wp2
        go_ret
        exact ⟨rfl, HB.out⟩
       ·
        rw [if_neg x1] at H
        have x1b : decide (x < 0) = false := decide_eq_false x1
        by_cases x2 : (l0_2.length : Int) ≤ x
        ·
         rw [if_pos x2] at H
         have x2b := decide_eq_true x2
         subst H
         go_wp2
         go_ret
         exact ⟨rfl, HB.out⟩
        ·
         rw [if_neg x2] at H
         have x2b : decide ((l0_2.length : Int) ≤ x) = false := decide_eq_false x2
         obtain ⟨T, hT, hM⟩ := HM.out
         obtain ⟨hx, hf⟩ := Kd.R_celln false hT x (by omega) (by omega)
         rw [marked_at hM x (by omega) (by omega)] at hx
         have x0 := eq_true (show 0 ≤ x by omega)
         have x9 := eq_true (show x < (l0_2.length : Int) by omega)
         have HT := Aside0.mk hT
         have HMk := Aside0.mk hM
         clear HM hT hM
         by_cases x3 : seen.contains x = true
         ·
          rw [if_pos x3] at H
          rw [x3] at hx
          subst H
          go_wp2
          go_ret
          exact ⟨rfl, HB.out⟩
         ·
          rw [if_neg x3] at H
          rw [show seen.contains x = false by simpa using x3] at hx
          have HH := Aside0.mk H
          clear H x3
          go_wp2
          have hp := Kd.R_putg HT.out x true
          have n1 := Kd.R_ne HT.out B1.out (by decide)
          have n2 := Kd.R_ne HT.out B2.out (by decide)
          go_roundg (gk - 1)
          case measure => omega
          case rel => exact ⟨j + 1, x :: seen, by omega, by go_num, HH, ⟨blk_grown B1.out hp.2 n1⟩, ⟨blk_grown B2.out hp.2 n2⟩, ⟨_, hp.1, marked_put HMk.out x (by omega) (by omega)⟩, ⟨HB.out.setCell (p := ⟨gm, x.toNat, none⟩) (by have := Kd.R_base HT.out gm rfl; show w.heap.size ≤ gm; omega) _⟩⟩
      ·
       have hjl : decide ((j : Int) < (p.length : Int)) = false := decide_eq_false (by omega)
       have hjl' : decide (j < p.length) = false := decide_eq_false hj
       have HA2 := Aside0.mk (show lruOut l0_0 l0_1 l0_2 (n + 1) seen = r by have := HA.out; rw [List.drop_eq_nil_of_le (by omega)] at this; exact this)
       go_wp2
       go_roundg (ga - 1)
       case measure => omega
       case rel => exact ⟨n + 1, seen, by omega, by go_num, HA2, B1, B2, HM, HB⟩
    ·
     obtain rfl : n = 2 := by omega
     have H := Aside0.mk (show lruFrom seen (l0_2.drop 0) 0 = r from HA.out)
     clear HA
     go_wp2
     go_loopg [8] l0_2.length (fun g v wr => ∃ (j : Nat), j + g = l0_2.length ∧ v = .int .i64 j ∧ Aside0 (lruFrom seen (l0_2.drop j) j = r) ∧ Aside0 (wr.heap[w.heap.size]? = some (.cells #[.slice A0_0 l0_0.length c0_0, .slice A0_1 l0_1.length c0_1, .slice A0_2 l0_2.length c0_2] 33 (0, 0))) ∧ Aside0 (wr.heap[w11.heap.size]? = some (.cells #[.slice A0_0 l0_0.length c0_0, .slice A0_1 l0_1.length c0_1] 30 (0, 0))) ∧ Aside0 (∃ T, Kd.R Kd.bool 4 wr (w.heap.size + 1) (fun _ => True) (.slice (some ⟨gm, 0, none⟩) l0_2.length cm) T ∧ Marked l0_2.length T seen) ∧ Aside0 (Below w.heap.size w wr))
     case atStart => exact ⟨0, by omega, rfl, H, B1, B2, HM, HB⟩
     case round =>
      clear H HM hc0 hc1 hc2 B1 B2 HB
      obtain ⟨j, hjg, rfl, HA, B1, B2, HM, HB⟩ := hrel
      have hc2 := (blk_cell B1.out 2).trans rfl
      by_cases hj : j < l0_2.length
      ·
       have H := lruFrom_step hj HA.out
       obtain ⟨ad, rfl, hcx⟩ := C_at_ hr0_2 false j hj
       have hcx' := (HB.out.cell (World.block_lt_of_cell? w _ hcx)).trans hcx
       clear HA hcx
       have hjl : decide ((j : Int) < (l0_2.length : Int)) = true := decide_eq_true (by omega)
       have hjl' : decide (j < l0_2.length) = true := decide_eq_true hj
       obtain ⟨T, hT, hM⟩ := HM.out
       obtain ⟨hx, hf⟩ := Kd.R_celln false hT (j : Int) (by omega) (by omega)
       rw [marked_at hM (j : Int) (by omega) (by omega), Int.toNat_natCast] at hx
       have x0 := eq_true (show 0 ≤ (j : Int) by omega)
       have x9 := eq_true (show (j : Int) < (l0_2.length : Int) by omega)
       clear hT hM hf
       generalize l0_2.getD j false = b at H hcx'
       cases b with
       | true =>
        rw [if_pos rfl] at H
        by_cases x3 : seen.contains (j : Int) = true
        ·
         rw [if_pos x3] at H
         rw [x3] at hx
         have HH := Aside0.mk H
         clear H x3
         go_wp2
         go_roundg (gk - 1)
         case measure => omega
         case rel => exact ⟨j + 1, by omega, by go_num, HH, B1, B2, HM, HB⟩
        ·
         rw [if_neg x3] at H
         rw [show seen.contains (j : Int) = false by simpa using x3] at hx
         clear x3
         subst H
         go_wp2
         go_ret
         exact ⟨rfl, HB.out⟩
       | false =>
        rw [if_neg (by decide)] at H
        have HH := Aside0.mk H
        clear H
        go_wp2
        go_roundg (gk - 1)
        case measure => omega
        case rel => exact ⟨j + 1, by omega, by go_num, HH, B1, B2, HM, HB⟩
      ·
       have hjl : decide ((j : Int) < (l0_2.length : Int)) = false := decide_eq_false (by omega)
       have hjl' : decide (j < l0_2.length) = false := decide_eq_false hj
       have hr : (0 : Int) = r := by have := HA.out; rw [List.drop_eq_nil_of_le (by omega)] at this; exact this
       subst hr
       go_wp2
       go_ret
       exact ⟨rfl, HB.out⟩


end Go.Proofs.Ytnheknlmmmkbpaa.X

namespace Go.Proofs.Ytnheknlmmmkbpaa.X
open Go.RowKit Go.Proofs.YtnheknlmmmkbpaaW.PrintWords Go.Proofs.YtnheknlmmmkbpaaW.PrintLast Go.Proofs.YtnheknlmmmkbpaaW.PrintMore
attribute [local go_sem] max2_int min2_int max_two min_two max_three min_three max_four min_four   -- for this text's walks alone
set_option linter.unusedVariables false
set_option linter.unusedSimpArgs false

/-! ### headgateref31_lacks: function 45 -/
def headgateref31_lacks.f (k : Nat) (l0_0 : List Int) (l0_1 : List Int) (l0_2 : List Bool) : Option (Int) := (headgateref31_target.f k (wrap64 ((l0_0.length : Int) + (l0_1.length : Int)))).bind fun t279 => (some (mx 0 (wrap64 (t279 - (l0_1.length : Int)))))
theorem headgateref31_lacks.mono : ∀ a0 a1 a2 k, LeO (headgateref31_lacks.f k a0 a1 a2) (headgateref31_lacks.f (k + 1) a0 a1 a2) := by
 intro a0 a1 a2 k
 unfold headgateref31_lacks.f
 repeat' first
   | (with_reducible exact headgateref31_target.mono _ _)
   | (with_reducible exact LeO.refl _)
   | (with_reducible exact LeO.none _)
   | (with_reducible refine LeO.ite ?_ ?_)
   | (with_reducible refine LeO.bind ?_ (fun _ => ?_))
   | exact headgateref31_target.mono _ _
   | exact LeO.none _
   | refine LeO.ite ?_ ?_
   | refine LeO.bind ?_ (fun _ => ?_)
set_option maxHeartbeats 2000000 in
set_option maxRecDepth 100000 in
theorem headgateref31_lacks.calls (k : Nat) (A0_0 : Option Addr) (c0_0 : Nat) (l0_0 : List Int) (A0_1 : Option Addr) (c0_1 : Nat) (l0_1 : List Int) (A0_2 : Option Addr) (c0_2 : Nat) (l0_2 : List Bool) (r : Int) (w : World) (hr0_0 : Kd.C (Kd.int .i64) w A0_0 l0_0.length l0_0) (hc0_0 : l0_0.length ≤ c0_0) (hr0_1 : Kd.C (Kd.int .i64) w A0_1 l0_1.length l0_1) (hc0_1 : l0_1.length ≤ c0_1) (hr0_2 : Kd.C Kd.bool w A0_2 l0_2.length l0_2) (hc0_2 : l0_2.length ≤ c0_2) (h : headgateref31_lacks.f k l0_0 l0_1 l0_2 = some r) :
  Calls Try.prog 45 #[.agg #[.slice A0_0 l0_0.length c0_0, .slice A0_1 l0_1.length c0_1, .slice A0_2 l0_2.length c0_2]] w fun e w' => e = .returned (.int .i64 r) ∧ Below w.heap.size w w' := by
 have hu33 := Try.underlying33
 have HR0_0 := Aside0.mk hr0_0
 have HC0_0 := Aside0.mk hc0_0
 clear hr0_0 hc0_0
 have HR0_1 := Aside0.mk hr0_1
 have HC0_1 := Aside0.mk hc0_1
 clear hr0_1 hc0_1
 have HR0_2 := Aside0.mk hr0_2
 have HC0_2 := Aside0.mk hc0_2
 clear hr0_2 hc0_2
 have HB := Aside0.mk (Below.refl w.heap.size w)
 have H : ((headgateref31_target.f k (wrap64 ((l0_0.length : Int) + (l0_1.length : Int)))).bind fun t279 => (some (mx 0 (wrap64 (t279 - (l0_1.length : Int)))))) = some r := h
 clear h
 replace H := Option.bind_eq_some_iff.mp H
 obtain ⟨t279, A20, H⟩ := H
 replace H : (some (mx 0 (wrap64 (t279 - (l0_1.length : Int))))) = some r := H
 have A2 := Aside0.mk A20
 clear A20
 obtain ⟨ji3, hji3⟩ : ∃ j_ : Int, (mx 0 (wrap64 (t279 - (l0_1.length : Int)))) = j_ := ⟨_, rfl⟩
 replace H : (some ji3) = some r := by first | (rw [hji3] at H; exact H) | (simp only [hji3] at H ⊢; exact H)
 (try rw [hji3] at A2)
 (try (have hji3l : 0 ≤ ji3 := by (rw [← hji3]; unfold mx; (repeat' split) <;> omega)))
 (try (have hji3m : 0 ≤ ji3 := by omega))
 have hji3_ : (if 0 < (wrap64 (t279 - (l0_1.length : Int))) then (wrap64 (t279 - (l0_1.length : Int))) else 0) = ji3 := hji3
 obtain rfl := Option.some.inj H
 go_enter Try.func45, Try.ntmps45
 go_wp2_with (first | ((with_reducible refine gate_dst (N := 1) rfl ?_); refine box_event ?hg (N := 1) ?hd (cs := #[.slice A0_0 l0_0.length c0_0, .slice A0_1 l0_1.length c0_1, .slice A0_2 l0_2.length c0_2]) (t := 33) ?hr ?_; (case hd => rfl); (case hg => rfl); (case hr => first | (go_simp; done) | (go_simp; rfl)); intro gb278 hg w4 hbox hb; have n0_ := Aside0.mk (below_step (upH HB) hb); have n1_ := Aside0.mk (hbox); have n2_ := Aside0.mk ((by rw [hg]; exact (below_size (upH HB)) : w.heap.size ≤ gb278)); have n3_ := Aside0.mk ((by rw [hg]; exact (below_size (upH HB)) : w.heap.size ≤ gb278)); clear HB; have HB := n0_; have BK278 := n1_; have GW278 := n2_; have GE278 := n3_; clear n0_ n1_ n2_ n3_; clear hb hbox hg; have hcz5_0 := cell0 BK278; have hcz5_1 := cell1 BK278; have hcz5_2 := cell2 BK278; have hfz5_0 := blk_frozen BK278.out 0; have hfz5_1 := blk_frozen BK278.out 1; have hfz5_2 := blk_frozen BK278.out 2) | (go_at_call 36; refine calls_of_args (args' := #[.int .i64 (wrap64 ((l0_0.length : Int) + (l0_1.length : Int)))]) (by first | rfl) ?_; (with_reducible refine (headgateref31_target.calls k (wrap64 ((l0_0.length : Int) + (l0_1.length : Int))) t279 _ A2.out).mono ?_); rintro e w' ⟨rfl, ⟨nd, rfl⟩⟩; (try first | exact ⟨rfl, _, World.drewN_drewN _ _ _⟩ | exact ⟨rfl, _, Eq.trans (World.drewN_drewN _ _ _) (congrArg (World.drewN _) (Nat.add_assoc _ _ _))⟩)))
 repeat (go_quiet (first | ((with_reducible refine gate_dst (N := 1) rfl ?_); refine box_event ?hg (N := 1) ?hd (cs := #[.slice A0_0 l0_0.length c0_0, .slice A0_1 l0_1.length c0_1, .slice A0_2 l0_2.length c0_2]) (t := 33) ?hr ?_; (case hd => rfl); (case hg => rfl); (case hr => first | (go_simp; done) | (go_simp; rfl)); intro gb278 hg w4 hbox hb; have n0_ := Aside0.mk (below_step (upH HB) hb); have n1_ := Aside0.mk (hbox); have n2_ := Aside0.mk ((by rw [hg]; exact (below_size (upH HB)) : w.heap.size ≤ gb278)); have n3_ := Aside0.mk ((by rw [hg]; exact (below_size (upH HB)) : w.heap.size ≤ gb278)); clear HB; have HB := n0_; have BK278 := n1_; have GW278 := n2_; have GE278 := n3_; clear n0_ n1_ n2_ n3_; clear hb hbox hg; have hcz5_0 := cell0 BK278; have hcz5_1 := cell1 BK278; have hcz5_2 := cell2 BK278; have hfz5_0 := blk_frozen BK278.out 0; have hfz5_1 := blk_frozen BK278.out 1; have hfz5_2 := blk_frozen BK278.out 2) | (go_at_call 36; refine calls_of_args (args' := #[.int .i64 (wrap64 ((l0_0.length : Int) + (l0_1.length : Int)))]) (by first | rfl) ?_; (with_reducible refine (headgateref31_target.calls k (wrap64 ((l0_0.length : Int) + (l0_1.length : Int))) t279 _ A2.out).mono ?_); rintro e w' ⟨rfl, ⟨nd, rfl⟩⟩; (try first | exact ⟨rfl, _, World.drewN_drewN _ _ _⟩ | exact ⟨rfl, _, Eq.trans (World.drewN_drewN _ _ _) (congrArg (World.drewN _) (Nat.add_assoc _ _ _))⟩))); try go_wp2_with (first | ((with_reducible refine gate_dst (N := 1) rfl ?_); refine box_event ?hg (N := 1) ?hd (cs := #[.slice A0_0 l0_0.length c0_0, .slice A0_1 l0_1.length c0_1, .slice A0_2 l0_2.length c0_2]) (t := 33) ?hr ?_; (case hd => rfl); (case hg => rfl); (case hr => first | (go_simp; done) | (go_simp; rfl)); intro gb278 hg w4 hbox hb; have n0_ := Aside0.mk (below_step (upH HB) hb); have n1_ := Aside0.mk (hbox); have n2_ := Aside0.mk ((by rw [hg]; exact (below_size (upH HB)) : w.heap.size ≤ gb278)); have n3_ := Aside0.mk ((by rw [hg]; exact (below_size (upH HB)) : w.heap.size ≤ gb278)); clear HB; have HB := n0_; have BK278 := n1_; have GW278 := n2_; have GE278 := n3_; clear n0_ n1_ n2_ n3_; clear hb hbox hg; have hcz5_0 := cell0 BK278; have hcz5_1 := cell1 BK278; have hcz5_2 := cell2 BK278; have hfz5_0 := blk_frozen BK278.out 0; have hfz5_1 := blk_frozen BK278.out 1; have hfz5_2 := blk_frozen BK278.out 2) | (go_at_call 36; refine calls_of_args (args' := #[.int .i64 (wrap64 ((l0_0.length : Int) + (l0_1.length : Int)))]) (by first | rfl) ?_; (with_reducible refine (headgateref31_target.calls k (wrap64 ((l0_0.length : Int) + (l0_1.length : Int))) t279 _ A2.out).mono ?_); rintro e w' ⟨rfl, ⟨nd, rfl⟩⟩; (try first | exact ⟨rfl, _, World.drewN_drewN _ _ _⟩ | exact ⟨rfl, _, Eq.trans (World.drewN_drewN _ _ _) (congrArg (World.drewN _) (Nat.add_assoc _ _ _))⟩))))
 go_ret
 exact ⟨by first | rfl | (simp [errW_none, errW_some] <;> rfl) | (simp only [← hji3]; first | rfl | (simp [errW_none, errW_some] <;> rfl)) | (simp [*, errW_none, errW_some] <;> rfl), by repeat (first | (with_reducible first | exact HB.out | apply below_alloc | apply pw_below_drewN | apply below_drew1 | refine below_set ?_ GE278.out) | exact HB.out)⟩

end Go.Proofs.Ytnheknlmmmkbpaa.X

namespace Go.Proofs.Ytnheknlmmmkbpaa.X
open Go.RowKit Go.Proofs.YtnheknlmmmkbpaaW.PrintWords Go.Proofs.YtnheknlmmmkbpaaW.PrintLast Go.Proofs.YtnheknlmmmkbpaaW.PrintMore
attribute [local go_sem] max2_int min2_int max_two min_two max_three min_three max_four min_four   -- for this text's walks alone
set_option linter.unusedVariables false
set_option linter.unusedSimpArgs false

/-! ### headgateref31_Which: function 24 -/
mutual
def headgateref31_Which.j0 : Nat → Int → Bool → List Int → List Int → List Bool → Option (Int × Int)
 | 0, _, _, _, _, _ => none
 | k + 1, x5, x15, x281000, x281001, x281002 => if x15 = true then (some (1, 0)) else (if x5 > 0 then (if 0 ≤ (wrap64 (x5 - 1)) then (if (wrap64 (x5 - 1)) < (x281001.length : Int) then (if 0 ≤ (rd x281001 (wrap64 (x5 - 1))) then (if (rd x281001 (wrap64 (x5 - 1))) < (x281002.length : Int) then (headgateref31_Which.j1 k x5 (rdOf false x281002 (rd x281001 (wrap64 (x5 - 1))))) else (none)) else (none)) else (none)) else (none)) else (headgateref31_Which.j1 k x5 false))
def headgateref31_Which.j1 : Nat → Int → Bool → Option (Int × Int)
 | 0, _, _ => none
 | k + 1, x5, x25 => if x25 = true then (some (2, 0)) else (if x5 > 0 then (some (3, 0)) else (some (0, 0)))
end
def headgateref31_Which.f (k : Nat) (l0_0 : List Int) (l0_1 : List Int) (l0_2 : List Bool) : Option (Int × Int) := (headgateref07_Check.f l0_0 l0_1 l0_2).bind fun t281 => (if t281 = 0 then (if (l0_0.length : Int) > 0 then ((headgateref31_lacks.f k l0_0 l0_1 l0_2).bind fun t282 => (headgateref31_Which.j0 k (l0_1.length : Int) (decide (t282 > 0)) l0_0 l0_1 l0_2)) else (headgateref31_Which.j0 k (l0_1.length : Int) false l0_0 l0_1 l0_2)) else (some (0, t281)))
theorem headgateref31_Which.mono_l : ∀ k, (∀ y0 y1 y2 y3 y4, LeO (headgateref31_Which.j0 k y0 y1 y2 y3 y4) (headgateref31_Which.j0 (k + 1) y0 y1 y2 y3 y4)) ∧ (∀ y0 y1, LeO (headgateref31_Which.j1 k y0 y1) (headgateref31_Which.j1 (k + 1) y0 y1))
 | 0 => ⟨fun _ _ _ _ _ r h => by simp [headgateref31_Which.j0] at h, fun _ _ r h => by simp [headgateref31_Which.j1] at h⟩
 | k + 1 => by
  obtain ⟨ih0, ih1⟩ := headgateref31_Which.mono_l k
  refine ⟨?_, ?_⟩
  ·
   intro y0 y1 y2 y3 y4
   unfold headgateref31_Which.j0
   repeat' first
   | (with_reducible exact ih0 _ _ _ _ _)
   | (with_reducible exact ih1 _ _)
   | (with_reducible exact headgateref31_lacks.mono _ _ _ _)
   | (with_reducible exact LeO.refl _)
   | (with_reducible exact LeO.none _)
   | (with_reducible refine LeO.ite ?_ ?_)
   | (with_reducible refine LeO.bind ?_ (fun _ => ?_))
   | exact ih0 _ _ _ _ _
   | exact ih1 _ _
   | exact headgateref31_lacks.mono _ _ _ _
   | exact LeO.none _
   | refine LeO.ite ?_ ?_
   | refine LeO.bind ?_ (fun _ => ?_)
  ·
   intro y0 y1
   unfold headgateref31_Which.j1
   repeat' first
   | (with_reducible exact ih0 _ _ _ _ _)
   | (with_reducible exact ih1 _ _)
   | (with_reducible exact headgateref31_lacks.mono _ _ _ _)
   | (with_reducible exact LeO.refl _)
   | (with_reducible exact LeO.none _)
   | (with_reducible refine LeO.ite ?_ ?_)
   | (with_reducible refine LeO.bind ?_ (fun _ => ?_))
   | exact ih0 _ _ _ _ _
   | exact ih1 _ _
   | exact headgateref31_lacks.mono _ _ _ _
   | exact LeO.none _
   | refine LeO.ite ?_ ?_
   | refine LeO.bind ?_ (fun _ => ?_)
theorem headgateref31_Which.mono : ∀ a0 a1 a2 k, LeO (headgateref31_Which.f k a0 a1 a2) (headgateref31_Which.f (k + 1) a0 a1 a2) := by
 intro a0 a1 a2 k
 obtain ⟨ih0, ih1⟩ := headgateref31_Which.mono_l k
 unfold headgateref31_Which.f
 repeat' first
   | (with_reducible exact ih0 _ _ _ _ _)
   | (with_reducible exact ih1 _ _)
   | (with_reducible exact headgateref31_lacks.mono _ _ _ _)
   | (with_reducible exact LeO.refl _)
   | (with_reducible exact LeO.none _)
   | (with_reducible refine LeO.ite ?_ ?_)
   | (with_reducible refine LeO.bind ?_ (fun _ => ?_))
   | exact ih0 _ _ _ _ _
   | exact ih1 _ _
   | exact headgateref31_lacks.mono _ _ _ _
   | exact LeO.none _
   | refine LeO.ite ?_ ?_
   | refine LeO.bind ?_ (fun _ => ?_)
set_option maxHeartbeats 2000000 in
set_option maxRecDepth 100000 in
theorem headgateref31_Which.calls (k : Nat) (A0_0 : Option Addr) (c0_0 : Nat) (l0_0 : List Int) (A0_1 : Option Addr) (c0_1 : Nat) (l0_1 : List Int) (A0_2 : Option Addr) (c0_2 : Nat) (l0_2 : List Bool) (r1 : Int) (r2 : Int) (w : World) (hr0_0 : Kd.C (Kd.int .i64) w A0_0 l0_0.length l0_0) (hc0_0 : l0_0.length ≤ c0_0) (hr0_1 : Kd.C (Kd.int .i64) w A0_1 l0_1.length l0_1) (hc0_1 : l0_1.length ≤ c0_1) (hr0_2 : Kd.C Kd.bool w A0_2 l0_2.length l0_2) (hc0_2 : l0_2.length ≤ c0_2) (h : headgateref31_Which.f k l0_0 l0_1 l0_2 = some (r1, r2)) :
  Calls Try.prog 24 #[.agg #[.slice A0_0 l0_0.length c0_0, .slice A0_1 l0_1.length c0_1, .slice A0_2 l0_2.length c0_2]] w fun e w' => e = .returned (.tuple #[.int .i64 r1, .int .i64 r2]) ∧ Below w.heap.size w w' := by
 have hu33 := Try.underlying33
 have HR0_0 := Aside0.mk hr0_0
 have HC0_0 := Aside0.mk hc0_0
 clear hr0_0 hc0_0
 have HR0_1 := Aside0.mk hr0_1
 have HC0_1 := Aside0.mk hc0_1
 clear hr0_1 hc0_1
 have HR0_2 := Aside0.mk hr0_2
 have HC0_2 := Aside0.mk hc0_2
 clear hr0_2 hc0_2
 have HB := Aside0.mk (Below.refl w.heap.size w)
 have H : ((headgateref07_Check.f l0_0 l0_1 l0_2).bind fun t281 => (if t281 = 0 then (if (l0_0.length : Int) > 0 then ((headgateref31_lacks.f k l0_0 l0_1 l0_2).bind fun t282 => (headgateref31_Which.j0 k (l0_1.length : Int) (decide (t282 > 0)) l0_0 l0_1 l0_2)) else (headgateref31_Which.j0 k (l0_1.length : Int) false l0_0 l0_1 l0_2)) else (some (0, t281)))) = some (r1, r2) := h
 clear h
 replace H := Option.bind_eq_some_iff.mp H
 obtain ⟨t281, A20, H⟩ := H
 replace H : (if t281 = 0 then (if (l0_0.length : Int) > 0 then ((headgateref31_lacks.f k l0_0 l0_1 l0_2).bind fun t282 => (headgateref31_Which.j0 k (l0_1.length : Int) (decide (t282 > 0)) l0_0 l0_1 l0_2)) else (headgateref31_Which.j0 k (l0_1.length : Int) false l0_0 l0_1 l0_2)) else (some (0, t281))) = some (r1, r2) := H
 have A2 := Aside0.mk A20
 clear A20
 by_cases c3 : t281 = 0
 ·
  rw [if_pos c3] at H
  have c3b0 : (t281 == 0) = true := beq_iff_eq.mpr c3
  have c3b1 : (t281 != 0) = false := bne_eq_false_iff_eq.mpr c3
  clear c3
  have HC4 := Aside0.mk H
  clear H
  go_enter Try.func24, Try.ntmps24
  go_upto_region 5 with (first | ((with_reducible refine gate_dst (N := 1) rfl ?_); refine box_event ?hg (N := 1) ?hd (cs := #[.slice A0_0 l0_0.length c0_0, .slice A0_1 l0_1.length c0_1, .slice A0_2 l0_2.length c0_2]) (t := 33) ?hr ?_; (case hd => rfl); (case hg => rfl); (case hr => first | (go_simp; done) | (go_simp; rfl)); intro gb280 hg w5 hbox hb; have n0_ := Aside0.mk (below_step (upH HB) hb); have n1_ := Aside0.mk (hbox); have n2_ := Aside0.mk ((by rw [hg]; exact (below_size (upH HB)) : w.heap.size ≤ gb280)); have n3_ := Aside0.mk ((by rw [hg]; exact (below_size (upH HB)) : w.heap.size ≤ gb280)); clear HB; have HB := n0_; have BK280 := n1_; have GW280 := n2_; have GE280 := n3_; clear n0_ n1_ n2_ n3_; clear hb hbox hg; have hcz6_0 := cell0 BK280; have hcz6_1 := cell1 BK280; have hcz6_2 := cell2 BK280; have hfz6_0 := blk_frozen BK280.out 0; have hfz6_1 := blk_frozen BK280.out 1; have hfz6_2 := blk_frozen BK280.out 2) | (go_at_call 44; refine calls_of_args (args' := #[.agg #[.slice A0_0 l0_0.length c0_0, .slice A0_1 l0_1.length c0_1, .slice A0_2 l0_2.length c0_2]]) (by first | rfl) ?_; (with_reducible refine (headgateref07_Check.calls _ _ l0_0 _ _ l0_1 _ _ l0_2 t281 _ ?side1 ?side2 ?side3 ?side4 ?side5 ?side6 A2.out).mono ?_); (case side1 => exact upc (Kd.C_below HR0_0.out HB.out)); (case side2 => exact HC0_0.out); (case side3 => exact upc (Kd.C_below HR0_1.out HB.out)); (case side4 => exact HC0_1.out); (case side5 => exact upc (Kd.C_below HR0_2.out HB.out)); (case side6 => exact HC0_2.out); rintro e w7 ⟨rfl, hb⟩; have n0_ := Aside0.mk (blkB BK280 hb); have n1_ := Aside0.mk (below_step (upH HB) hb); clear BK280; clear HB; have BK280 := n0_; have HB := n1_; clear n0_ n1_; (try clear hb); (try clear hb2); (try clear hk); (try clear hi); have hcz8_0 := cell0 BK280; have hcz8_1 := cell1 BK280; have hcz8_2 := cell2 BK280; have hfz8_0 := blk_frozen BK280.out 0; have hfz8_1 := blk_frozen BK280.out 1; have hfz8_2 := blk_frozen BK280.out 2))
  repeat (go_quiet (first | ((with_reducible refine gate_dst (N := 1) rfl ?_); refine box_event ?hg (N := 1) ?hd (cs := #[.slice A0_0 l0_0.length c0_0, .slice A0_1 l0_1.length c0_1, .slice A0_2 l0_2.length c0_2]) (t := 33) ?hr ?_; (case hd => rfl); (case hg => rfl); (case hr => first | (go_simp; done) | (go_simp; rfl)); intro gb280 hg w5 hbox hb; have n0_ := Aside0.mk (below_step (upH HB) hb); have n1_ := Aside0.mk (hbox); have n2_ := Aside0.mk ((by rw [hg]; exact (below_size (upH HB)) : w.heap.size ≤ gb280)); have n3_ := Aside0.mk ((by rw [hg]; exact (below_size (upH HB)) : w.heap.size ≤ gb280)); clear HB; have HB := n0_; have BK280 := n1_; have GW280 := n2_; have GE280 := n3_; clear n0_ n1_ n2_ n3_; clear hb hbox hg; have hcz6_0 := cell0 BK280; have hcz6_1 := cell1 BK280; have hcz6_2 := cell2 BK280; have hfz6_0 := blk_frozen BK280.out 0; have hfz6_1 := blk_frozen BK280.out 1; have hfz6_2 := blk_frozen BK280.out 2) | (go_at_call 44; refine calls_of_args (args' := #[.agg #[.slice A0_0 l0_0.length c0_0, .slice A0_1 l0_1.length c0_1, .slice A0_2 l0_2.length c0_2]]) (by first | rfl) ?_; (with_reducible refine (headgateref07_Check.calls _ _ l0_0 _ _ l0_1 _ _ l0_2 t281 _ ?side1 ?side2 ?side3 ?side4 ?side5 ?side6 A2.out).mono ?_); (case side1 => exact upc (Kd.C_below HR0_0.out HB.out)); (case side2 => exact HC0_0.out); (case side3 => exact upc (Kd.C_below HR0_1.out HB.out)); (case side4 => exact HC0_1.out); (case side5 => exact upc (Kd.C_below HR0_2.out HB.out)); (case side6 => exact HC0_2.out); rintro e w7 ⟨rfl, hb⟩; have n0_ := Aside0.mk (blkB BK280 hb); have n1_ := Aside0.mk (below_step (upH HB) hb); clear BK280; clear HB; have BK280 := n0_; have HB := n1_; clear n0_ n1_; (try clear hb); (try clear hb2); (try clear hk); (try clear hi); have hcz8_0 := cell0 BK280; have hcz8_1 := cell1 BK280; have hcz8_2 := cell2 BK280; have hfz8_0 := blk_frozen BK280.out 0; have hfz8_1 := blk_frozen BK280.out 1; have hfz8_2 := blk_frozen BK280.out 2)); go_upto_region 5 with (first | ((with_reducible refine gate_dst (N := 1) rfl ?_); refine box_event ?hg (N := 1) ?hd (cs := #[.slice A0_0 l0_0.length c0_0, .slice A0_1 l0_1.length c0_1, .slice A0_2 l0_2.length c0_2]) (t := 33) ?hr ?_; (case hd => rfl); (case hg => rfl); (case hr => first | (go_simp; done) | (go_simp; rfl)); intro gb280 hg w5 hbox hb; have n0_ := Aside0.mk (below_step (upH HB) hb); have n1_ := Aside0.mk (hbox); have n2_ := Aside0.mk ((by rw [hg]; exact (below_size (upH HB)) : w.heap.size ≤ gb280)); have n3_ := Aside0.mk ((by rw [hg]; exact (below_size (upH HB)) : w.heap.size ≤ gb280)); clear HB; have HB := n0_; have BK280 := n1_; have GW280 := n2_; have GE280 := n3_; clear n0_ n1_ n2_ n3_; clear hb hbox hg; have hcz6_0 := cell0 BK280; have hcz6_1 := cell1 BK280; have hcz6_2 := cell2 BK280; have hfz6_0 := blk_frozen BK280.out 0; have hfz6_1 := blk_frozen BK280.out 1; have hfz6_2 := blk_frozen BK280.out 2) | (go_at_call 44; refine calls_of_args (args' := #[.agg #[.slice A0_0 l0_0.length c0_0, .slice A0_1 l0_1.length c0_1, .slice A0_2 l0_2.length c0_2]]) (by first | rfl) ?_; (with_reducible refine (headgateref07_Check.calls _ _ l0_0 _ _ l0_1 _ _ l0_2 t281 _ ?side1 ?side2 ?side3 ?side4 ?side5 ?side6 A2.out).mono ?_); (case side1 => exact upc (Kd.C_below HR0_0.out HB.out)); (case side2 => exact HC0_0.out); (case side3 => exact upc (Kd.C_below HR0_1.out HB.out)); (case side4 => exact HC0_1.out); (case side5 => exact upc (Kd.C_below HR0_2.out HB.out)); (case side6 => exact HC0_2.out); rintro e w7 ⟨rfl, hb⟩; have n0_ := Aside0.mk (blkB BK280 hb); have n1_ := Aside0.mk (below_step (upH HB) hb); clear BK280; clear HB; have BK280 := n0_; have HB := n1_; clear n0_ n1_; (try clear hb); (try clear hb2); (try clear hk); (try clear hi); have hcz8_0 := cell0 BK280; have hcz8_1 := cell1 BK280; have hcz8_2 := cell2 BK280; have hfz8_0 := blk_frozen BK280.out 0; have hfz8_1 := blk_frozen BK280.out 1; have hfz8_2 := blk_frozen BK280.out 2)))
  (try simp only [Act.put, List.setIfInBounds_toArray, List.set_cons_zero, List.set_cons_succ])
  go_cut [15] (fun v15 wc => ∃ (kq : Nat) (x15_3 : Bool), v15 = .bool x15_3 ∧ Aside0 (headgateref31_Which.j0 kq (l0_1.length : Int) x15_3 l0_0 l0_1 l0_2 = some (r1, r2)) ∧ Aside0 (kq ≤ k) ∧ Aside0 (wc.heap[gb280]? = some (.cells #[(.slice A0_0 l0_0.length c0_0), (.slice A0_1 l0_1.length c0_1), (.slice A0_2 l0_2.length c0_2)] 33 (0, 0))) ∧ Aside0 (Below w.heap.size w wc))
  case first =>
   have H := HC4.out
   clear HC4
   by_cases c9 : (l0_0.length : Int) > 0
   ·
    rw [if_pos c9] at H
    have c9b0 : decide (0 < (l0_0.length : Int)) = true := decide_eq_true c9
    have c9b1 : decide (0 < l0_0.length) = true := decide_eq_true (by omega)
    clear c9
    (first | rw [c9b0] | (simp only [i64_w, i32_w]; rw [c9b0]) | skip)
    replace H := Option.bind_eq_some_iff.mp H
    obtain ⟨t282, A100, H⟩ := H
    replace H : (headgateref31_Which.j0 k (l0_1.length : Int) (decide (t282 > 0)) l0_0 l0_1 l0_2) = some (r1, r2) := H
    have A10 := Aside0.mk A100
    clear A100
    have H' := Aside0.mk H
    clear H
    have hcz11_0 := cell0 BK280
    have hcz11_1 := cell1 BK280
    have hcz11_2 := cell2 BK280
    have hfz11_0 := blk_frozen BK280.out 0
    have hfz11_1 := blk_frozen BK280.out 1
    have hfz11_2 := blk_frozen BK280.out 2
    go_wp2_with (first | (go_at_call 45; refine calls_of_args (args' := #[.agg #[.slice A0_0 l0_0.length c0_0, .slice A0_1 l0_1.length c0_1, .slice A0_2 l0_2.length c0_2]]) (by first | rfl) ?_; (with_reducible refine (headgateref31_lacks.calls k _ _ l0_0 _ _ l0_1 _ _ l0_2 t282 _ ?side1 ?side2 ?side3 ?side4 ?side5 ?side6 A10.out).mono ?_); (case side1 => exact upc (Kd.C_below HR0_0.out HB.out)); (case side2 => exact HC0_0.out); (case side3 => exact upc (Kd.C_below HR0_1.out HB.out)); (case side4 => exact HC0_1.out); (case side5 => exact upc (Kd.C_below HR0_2.out HB.out)); (case side6 => exact HC0_2.out); rintro e w12 ⟨rfl, hb⟩; have n0_ := Aside0.mk (blkB BK280 hb); have n1_ := Aside0.mk (below_step (upH HB) hb); clear BK280; clear HB; have BK280 := n0_; have HB := n1_; clear n0_ n1_; (try clear hb); (try clear hb2); (try clear hk); (try clear hi)))
    repeat (go_quiet (first | (go_at_call 45; refine calls_of_args (args' := #[.agg #[.slice A0_0 l0_0.length c0_0, .slice A0_1 l0_1.length c0_1, .slice A0_2 l0_2.length c0_2]]) (by first | rfl) ?_; (with_reducible refine (headgateref31_lacks.calls k _ _ l0_0 _ _ l0_1 _ _ l0_2 t282 _ ?side1 ?side2 ?side3 ?side4 ?side5 ?side6 A10.out).mono ?_); (case side1 => exact upc (Kd.C_below HR0_0.out HB.out)); (case side2 => exact HC0_0.out); (case side3 => exact upc (Kd.C_below HR0_1.out HB.out)); (case side4 => exact HC0_1.out); (case side5 => exact upc (Kd.C_below HR0_2.out HB.out)); (case side6 => exact HC0_2.out); rintro e w12 ⟨rfl, hb⟩; have n0_ := Aside0.mk (blkB BK280 hb); have n1_ := Aside0.mk (below_step (upH HB) hb); clear BK280; clear HB; have BK280 := n0_; have HB := n1_; clear n0_ n1_; (try clear hb); (try clear hb2); (try clear hk); (try clear hi))); try go_wp2_with (first | (go_at_call 45; refine calls_of_args (args' := #[.agg #[.slice A0_0 l0_0.length c0_0, .slice A0_1 l0_1.length c0_1, .slice A0_2 l0_2.length c0_2]]) (by first | rfl) ?_; (with_reducible refine (headgateref31_lacks.calls k _ _ l0_0 _ _ l0_1 _ _ l0_2 t282 _ ?side1 ?side2 ?side3 ?side4 ?side5 ?side6 A10.out).mono ?_); (case side1 => exact upc (Kd.C_below HR0_0.out HB.out)); (case side2 => exact HC0_0.out); (case side3 => exact upc (Kd.C_below HR0_1.out HB.out)); (case side4 => exact HC0_1.out); (case side5 => exact upc (Kd.C_below HR0_2.out HB.out)); (case side6 => exact HC0_2.out); rintro e w12 ⟨rfl, hb⟩; have n0_ := Aside0.mk (blkB BK280 hb); have n1_ := Aside0.mk (below_step (upH HB) hb); clear BK280; clear HB; have BK280 := n0_; have HB := n1_; clear n0_ n1_; (try clear hb); (try clear hb2); (try clear hk); (try clear hi))))
    go_meet
    case rel => exact ⟨_, (decide (t282 > 0)), (by first | rfl | (simp; done) | (simp [*]; done)), H', ⟨by first | omega | exact Nat.le_refl _⟩, ⟨upB BK280⟩, ⟨upH HB⟩⟩
   ·
    rw [if_neg c9] at H
    have c9b0 : decide (0 < (l0_0.length : Int)) = false := decide_eq_false c9
    have c9b1 : decide (0 < l0_0.length) = false := decide_eq_false (by omega)
    clear c9
    (first | rw [c9b0] | (simp only [i64_w, i32_w]; rw [c9b0]) | skip)
    have H' := Aside0.mk H
    clear H
    have hcz13_0 := cell0 BK280
    have hcz13_1 := cell1 BK280
    have hcz13_2 := cell2 BK280
    have hfz13_0 := blk_frozen BK280.out 0
    have hfz13_1 := blk_frozen BK280.out 1
    have hfz13_2 := blk_frozen BK280.out 2
    go_wp2
    repeat (go_quiet (fail); try go_wp2)
    go_meet
    case rel => exact ⟨_, (false), (by first | rfl | (simp; done) | (simp [*]; done)), H', ⟨by first | omega | exact Nat.le_refl _⟩, ⟨upB BK280⟩, ⟨upH HB⟩⟩
  case rest =>
   clear HC4
   try clear c2
   try clear p2
   try clear c3
   try clear c3b0
   try clear c3b1
   try clear c9
   try clear c9b0
   try clear c9b1
   try clear hcz11_0
   try clear hcz11_1
   try clear hcz11_2
   try clear hcz13_0
   try clear hcz13_1
   try clear hcz13_2
   try clear hcz6_0
   try clear hcz6_1
   try clear hcz6_2
   try clear hcz8_0
   try clear hcz8_1
   try clear hcz8_2
   try clear hfz11_0
   try clear hfz11_1
   try clear hfz11_2
   try clear hfz13_0
   try clear hfz13_1
   try clear hfz13_2
   try clear hfz6_0
   try clear hfz6_1
   try clear hfz6_2
   try clear hfz8_0
   try clear hfz8_1
   try clear hfz8_2
   obtain ⟨kq, x15_3, rfl, HA, HJ3, BK280, HB⟩ := hcut
   cases kq with
   | zero => exact absurd HA.out (by simp [headgateref31_Which.j0])
   | succ kj3 =>
    have H := HA.out
    clear HA
    simp only [headgateref31_Which.j0] at H
    by_cases c14 : x15_3 = true
    ·
     subst c14
     have H1 : (some (1, 0)) = some (r1, r2) := by rw [if_pos rfl] at H; exact H
     clear H
     have H := H1
     clear H1
     simp only [Option.some.injEq, Prod.mk.injEq] at H
     obtain ⟨rfl, rfl⟩ := H
     go_wp2
     repeat (go_quiet (fail); try go_wp2)
     go_ret2
     exact ⟨by first | rfl | (simp [errW_none, errW_some] <;> rfl) | (simp [*, errW_none, errW_some] <;> rfl), by repeat (first | (with_reducible first | exact HB.out | apply below_alloc | apply pw_below_drewN | apply below_drew1 | refine below_set ?_ GE280.out) | exact HB.out)⟩
    ·
     replace c14 := Bool.eq_false_iff.mpr c14
     subst c14
     have H1 : (if (l0_1.length : Int) > 0 then (if 0 ≤ (wrap64 ((l0_1.length : Int) - 1)) then (if (wrap64 ((l0_1.length : Int) - 1)) < (l0_1.length : Int) then (if 0 ≤ (rd l0_1 (wrap64 ((l0_1.length : Int) - 1))) then (if (rd l0_1 (wrap64 ((l0_1.length : Int) - 1))) < (l0_2.length : Int) then (headgateref31_Which.j1 kj3 (l0_1.length : Int) (rdOf false l0_2 (rd l0_1 (wrap64 ((l0_1.length : Int) - 1))))) else (none)) else (none)) else (none)) else (none)) else (headgateref31_Which.j1 kj3 (l0_1.length : Int) false)) = some (r1, r2) := by rw [if_neg (show ¬ (false = true) by decide)] at H; exact H
     clear H
     have H := H1
     clear H1
     have HC15 := Aside0.mk H
     clear H
     go_upto_region 7 with (fail)
     repeat (go_quiet (fail); go_upto_region 7 with (fail))
     go_cut [25] (fun v25 wc => ∃ (kq : Nat) (x25_14 : Bool), v25 = .bool x25_14 ∧ Aside0 (headgateref31_Which.j1 kq (l0_1.length : Int) x25_14 = some (r1, r2)) ∧ Aside0 (kq ≤ kj3) ∧ Aside0 (wc.heap[gb280]? = some (.cells #[(.slice A0_0 l0_0.length c0_0), (.slice A0_1 l0_1.length c0_1), (.slice A0_2 l0_2.length c0_2)] 33 (0, 0))) ∧ Aside0 (Below w.heap.size w wc))
     case first =>
      have H := HC15.out
      clear HC15
      by_cases c16 : (l0_1.length : Int) > 0
      ·
       rw [if_pos c16] at H
       have c16b0 : decide (0 < (l0_1.length : Int)) = true := decide_eq_true c16
       have c16b1 : decide (0 < l0_1.length) = true := decide_eq_true (by omega)
       clear c16
       (first | rw [c16b0] | (simp only [i64_w, i32_w]; rw [c16b0]) | skip)
       obtain ⟨ji17, hji17⟩ : ∃ j_ : Int, (wrap64 ((l0_1.length : Int) - 1)) = j_ := ⟨_, rfl⟩
       replace H : (if 0 ≤ (ji17) then (if (ji17) < (l0_1.length : Int) then (if 0 ≤ (rd l0_1 (ji17)) then (if (rd l0_1 (ji17)) < (l0_2.length : Int) then (headgateref31_Which.j1 kj3 (l0_1.length : Int) (rdOf false l0_2 (rd l0_1 (ji17)))) else (none)) else (none)) else (none)) else (none)) = some (r1, r2) := by first | (rw [hji17] at H; exact H) | (simp only [hji17] at H ⊢; exact H)
       have hji17w : (IntKind.i64.wrap ((l0_1.length : Int) - 1)) = ji17 := (i64_w _).trans hji17
       by_cases c18 : 0 ≤ (ji17)
       ·
        rw [if_pos c18] at H
        have c18b0 : decide (0 ≤ (ji17)) = true := decide_eq_true c18
        clear c18
        by_cases c19 : (ji17) < (l0_1.length : Int)
        ·
         rw [if_pos c19] at H
         have c19b0 : decide ((ji17) < (l0_1.length : Int)) = true := decide_eq_true c19
         clear c19
         by_cases c20 : 0 ≤ (rd l0_1 (ji17))
         ·
          rw [if_pos c20] at H
          have c20b0 : decide (0 ≤ (rd l0_1 (ji17))) = true := decide_eq_true c20
          clear c20
          by_cases c21 : (rd l0_1 (ji17)) < (l0_2.length : Int)
          ·
           rw [if_pos c21] at H
           have c21b0 : decide ((rd l0_1 (ji17)) < (l0_2.length : Int)) = true := decide_eq_true c21
           clear c21
           have H' := Aside0.mk H
           clear H
           have hcz22_0 := cell0 BK280
           have hcz22_1 := cell1 BK280
           have hcz22_2 := cell2 BK280
           have hfz22_0 := blk_frozen BK280.out 0
           have hfz22_1 := blk_frozen BK280.out 1
           have hfz22_2 := blk_frozen BK280.out 2
           have p283 : 0 ≤ ((ji17) : Int) := of_decide_eq_true (asm_ (p := _))
           have q283 : (ji17) < (l0_1.length : Int) := of_decide_eq_true (asm_ (p := _))
           obtain ⟨ad283, e283, hx283_0⟩ := Kd.at_int HR0_1.out (ji17) p283 q283
           cases e283
           replace hx283_0 := (HB.out.cell (World.block_lt_of_cell? w _ hx283_0)).trans hx283_0
           replace p283 := eq_true p283
           replace q283 := eq_true q283
           have p284 : 0 ≤ ((rd l0_1 (ji17)) : Int) := of_decide_eq_true (asm_ (p := _))
           have q284 : (rd l0_1 (ji17)) < (l0_2.length : Int) := of_decide_eq_true (asm_ (p := _))
           obtain ⟨ad284, e284, hx284_0⟩ := Kd.at_bool HR0_2.out (rd l0_1 (ji17)) p284 q284
           cases e284
           replace hx284_0 := (HB.out.cell (World.block_lt_of_cell? w _ hx284_0)).trans hx284_0
           replace p284 := eq_true p284
           replace q284 := eq_true q284
           go_wp2
           repeat (go_quiet (fail); try go_wp2)
           go_meet
           case rel => exact ⟨_, (rdOf false l0_2 (rd l0_1 (ji17))), (by first | rfl | (simp; done) | (simp only [← hji17] <;> (first | rfl | simp)) | (simp [*]; done)), H', ⟨by have := HJ3.out; first | omega | exact Nat.le_refl _⟩, ⟨upB BK280⟩, ⟨upH HB⟩⟩
          ·
           rw [if_neg c21] at H
           exact absurd H (by simp)
         ·
          rw [if_neg c20] at H
          exact absurd H (by simp)
        ·
         rw [if_neg c19] at H
         exact absurd H (by simp)
       ·
        rw [if_neg c18] at H
        exact absurd H (by simp)
      ·
       rw [if_neg c16] at H
       have c16b0 : decide (0 < (l0_1.length : Int)) = false := decide_eq_false c16
       have c16b1 : decide (0 < l0_1.length) = false := decide_eq_false (by omega)
       clear c16
       (first | rw [c16b0] | (simp only [i64_w, i32_w]; rw [c16b0]) | skip)
       have H' := Aside0.mk H
       clear H
       go_wp2
       repeat (go_quiet (fail); try go_wp2)
       go_meet
       case rel => exact ⟨_, (false), (by first | rfl | (simp; done) | (simp [*]; done)), H', ⟨by have := HJ3.out; first | omega | exact Nat.le_refl _⟩, ⟨upB BK280⟩, ⟨upH HB⟩⟩
     case rest =>
      clear HC15
      try clear c1
      try clear c2
      try clear p2
      try clear q2
      try clear hx2
      try clear c3
      try clear c3b0
      try clear c3b1
      try clear p6
      try clear c9
      try clear c9b0
      try clear c9b1
      try clear c14
      try clear c16
      try clear c16b0
      try clear c16b1
      try clear c18
      try clear c18b0
      try clear c19
      try clear c19b0
      try clear c20
      try clear c20b0
      try clear c21
      try clear c21b0
      try clear hcz11_0
      try clear hcz11_1
      try clear hcz11_2
      try clear hcz13_0
      try clear hcz13_1
      try clear hcz13_2
      try clear hcz22_0
      try clear hcz22_1
      try clear hcz22_2
      try clear hcz6_0
      try clear hcz6_1
      try clear hcz6_2
      try clear hcz8_0
      try clear hcz8_1
      try clear hcz8_2
      try clear hfz11_0
      try clear hfz11_1
      try clear hfz11_2
      try clear hfz13_0
      try clear hfz13_1
      try clear hfz13_2
      try clear hfz22_0
      try clear hfz22_1
      try clear hfz22_2
      try clear hfz6_0
      try clear hfz6_1
      try clear hfz6_2
      try clear hfz8_0
      try clear hfz8_1
      try clear hfz8_2
      try clear hx283_0
      try clear hx284_0
      try clear p2
      try clear p283
      try clear p284
      try clear q283
      try clear q284
      obtain ⟨kq, x25_14, rfl, HA, HJ14, BK280, HB⟩ := hcut
      cases kq with
      | zero => exact absurd HA.out (by simp [headgateref31_Which.j1])
      | succ kj14 =>
       have H := HA.out
       clear HA
       simp only [headgateref31_Which.j1] at H
       by_cases c23 : x25_14 = true
       ·
        subst c23
        have H1 : (some (2, 0)) = some (r1, r2) := by rw [if_pos rfl] at H; exact H
        clear H
        have H := H1
        clear H1
        simp only [Option.some.injEq, Prod.mk.injEq] at H
        obtain ⟨rfl, rfl⟩ := H
        go_wp2
        repeat (go_quiet (fail); try go_wp2)
        go_ret2
        exact ⟨by first | rfl | (simp [errW_none, errW_some] <;> rfl) | (simp [*, errW_none, errW_some] <;> rfl), by repeat (first | (with_reducible first | exact HB.out | apply below_alloc | apply pw_below_drewN | apply below_drew1 | refine below_set ?_ GE280.out) | exact HB.out)⟩
       ·
        replace c23 := Bool.eq_false_iff.mpr c23
        subst c23
        have H1 : (if (l0_1.length : Int) > 0 then (some (3, 0)) else (some (0, 0))) = some (r1, r2) := by rw [if_neg (show ¬ (false = true) by decide)] at H; exact H
        clear H
        have H := H1
        clear H1
        by_cases c24 : (l0_1.length : Int) > 0
        ·
         rw [if_pos c24] at H
         have c24b0 : decide (0 < (l0_1.length : Int)) = true := decide_eq_true c24
         have c24b1 : decide (0 < l0_1.length) = true := decide_eq_true (by omega)
         clear c24
         simp only [Option.some.injEq, Prod.mk.injEq] at H
         obtain ⟨rfl, rfl⟩ := H
         go_wp2
         repeat (go_quiet (fail); try go_wp2)
         go_ret2
         exact ⟨by first | rfl | (simp [errW_none, errW_some] <;> rfl) | (simp [*, errW_none, errW_some] <;> rfl), by repeat (first | (with_reducible first | exact HB.out | apply below_alloc | apply pw_below_drewN | apply below_drew1 | refine below_set ?_ GE280.out) | exact HB.out)⟩
        ·
         rw [if_neg c24] at H
         have c24b0 : decide (0 < (l0_1.length : Int)) = false := decide_eq_false c24
         have c24b1 : decide (0 < l0_1.length) = false := decide_eq_false (by omega)
         clear c24
         simp only [Option.some.injEq, Prod.mk.injEq] at H
         obtain ⟨rfl, rfl⟩ := H
         go_wp2
         repeat (go_quiet (fail); try go_wp2)
         go_ret2
         exact ⟨by first | rfl | (simp [errW_none, errW_some] <;> rfl) | (simp [*, errW_none, errW_some] <;> rfl), by repeat (first | (with_reducible first | exact HB.out | apply below_alloc | apply pw_below_drewN | apply below_drew1 | refine below_set ?_ GE280.out) | exact HB.out)⟩
 ·
  rw [if_neg c3] at H
  have c3b0 : (t281 == 0) = false := beq_eq_false_iff_ne.mpr c3
  have c3b1 : (t281 != 0) = true := bne_iff_ne.mpr c3
  simp only [Option.some.injEq, Prod.mk.injEq] at H
  obtain ⟨rfl, rfl⟩ := H
  go_enter Try.func24, Try.ntmps24
  go_wp2_with (first | ((with_reducible refine gate_dst (N := 1) rfl ?_); refine box_event ?hg (N := 1) ?hd (cs := #[.slice A0_0 l0_0.length c0_0, .slice A0_1 l0_1.length c0_1, .slice A0_2 l0_2.length c0_2]) (t := 33) ?hr ?_; (case hd => rfl); (case hg => rfl); (case hr => first | (go_simp; done) | (go_simp; rfl)); intro gb280 hg w25 hbox hb; have n0_ := Aside0.mk (below_step (upH HB) hb); have n1_ := Aside0.mk (hbox); have n2_ := Aside0.mk ((by rw [hg]; exact (below_size (upH HB)) : w.heap.size ≤ gb280)); have n3_ := Aside0.mk ((by rw [hg]; exact (below_size (upH HB)) : w.heap.size ≤ gb280)); clear HB; have HB := n0_; have BK280 := n1_; have GW280 := n2_; have GE280 := n3_; clear n0_ n1_ n2_ n3_; clear hb hbox hg; have hcz26_0 := cell0 BK280; have hcz26_1 := cell1 BK280; have hcz26_2 := cell2 BK280; have hfz26_0 := blk_frozen BK280.out 0; have hfz26_1 := blk_frozen BK280.out 1; have hfz26_2 := blk_frozen BK280.out 2) | (go_at_call 44; refine calls_of_args (args' := #[.agg #[.slice A0_0 l0_0.length c0_0, .slice A0_1 l0_1.length c0_1, .slice A0_2 l0_2.length c0_2]]) (by first | rfl) ?_; (with_reducible refine (headgateref07_Check.calls _ _ l0_0 _ _ l0_1 _ _ l0_2 t281 _ ?side1 ?side2 ?side3 ?side4 ?side5 ?side6 A2.out).mono ?_); (case side1 => exact upc (Kd.C_below HR0_0.out HB.out)); (case side2 => exact HC0_0.out); (case side3 => exact upc (Kd.C_below HR0_1.out HB.out)); (case side4 => exact HC0_1.out); (case side5 => exact upc (Kd.C_below HR0_2.out HB.out)); (case side6 => exact HC0_2.out); rintro e w27 ⟨rfl, hb⟩; have n0_ := Aside0.mk (blkB BK280 hb); have n1_ := Aside0.mk (below_step (upH HB) hb); clear BK280; clear HB; have BK280 := n0_; have HB := n1_; clear n0_ n1_; (try clear hb); (try clear hb2); (try clear hk); (try clear hi); have hcz28_0 := cell0 BK280; have hcz28_1 := cell1 BK280; have hcz28_2 := cell2 BK280; have hfz28_0 := blk_frozen BK280.out 0; have hfz28_1 := blk_frozen BK280.out 1; have hfz28_2 := blk_frozen BK280.out 2))
  repeat (go_quiet (first | ((with_reducible refine gate_dst (N := 1) rfl ?_); refine box_event ?hg (N := 1) ?hd (cs := #[.slice A0_0 l0_0.length c0_0, .slice A0_1 l0_1.length c0_1, .slice A0_2 l0_2.length c0_2]) (t := 33) ?hr ?_; (case hd => rfl); (case hg => rfl); (case hr => first | (go_simp; done) | (go_simp; rfl)); intro gb280 hg w25 hbox hb; have n0_ := Aside0.mk (below_step (upH HB) hb); have n1_ := Aside0.mk (hbox); have n2_ := Aside0.mk ((by rw [hg]; exact (below_size (upH HB)) : w.heap.size ≤ gb280)); have n3_ := Aside0.mk ((by rw [hg]; exact (below_size (upH HB)) : w.heap.size ≤ gb280)); clear HB; have HB := n0_; have BK280 := n1_; have GW280 := n2_; have GE280 := n3_; clear n0_ n1_ n2_ n3_; clear hb hbox hg; have hcz26_0 := cell0 BK280; have hcz26_1 := cell1 BK280; have hcz26_2 := cell2 BK280; have hfz26_0 := blk_frozen BK280.out 0; have hfz26_1 := blk_frozen BK280.out 1; have hfz26_2 := blk_frozen BK280.out 2) | (go_at_call 44; refine calls_of_args (args' := #[.agg #[.slice A0_0 l0_0.length c0_0, .slice A0_1 l0_1.length c0_1, .slice A0_2 l0_2.length c0_2]]) (by first | rfl) ?_; (with_reducible refine (headgateref07_Check.calls _ _ l0_0 _ _ l0_1 _ _ l0_2 t281 _ ?side1 ?side2 ?side3 ?side4 ?side5 ?side6 A2.out).mono ?_); (case side1 => exact upc (Kd.C_below HR0_0.out HB.out)); (case side2 => exact HC0_0.out); (case side3 => exact upc (Kd.C_below HR0_1.out HB.out)); (case side4 => exact HC0_1.out); (case side5 => exact upc (Kd.C_below HR0_2.out HB.out)); (case side6 => exact HC0_2.out); rintro e w27 ⟨rfl, hb⟩; have n0_ := Aside0.mk (blkB BK280 hb); have n1_ := Aside0.mk (below_step (upH HB) hb); clear BK280; clear HB; have BK280 := n0_; have HB := n1_; clear n0_ n1_; (try clear hb); (try clear hb2); (try clear hk); (try clear hi); have hcz28_0 := cell0 BK280; have hcz28_1 := cell1 BK280; have hcz28_2 := cell2 BK280; have hfz28_0 := blk_frozen BK280.out 0; have hfz28_1 := blk_frozen BK280.out 1; have hfz28_2 := blk_frozen BK280.out 2)); try go_wp2_with (first | ((with_reducible refine gate_dst (N := 1) rfl ?_); refine box_event ?hg (N := 1) ?hd (cs := #[.slice A0_0 l0_0.length c0_0, .slice A0_1 l0_1.length c0_1, .slice A0_2 l0_2.length c0_2]) (t := 33) ?hr ?_; (case hd => rfl); (case hg => rfl); (case hr => first | (go_simp; done) | (go_simp; rfl)); intro gb280 hg w25 hbox hb; have n0_ := Aside0.mk (below_step (upH HB) hb); have n1_ := Aside0.mk (hbox); have n2_ := Aside0.mk ((by rw [hg]; exact (below_size (upH HB)) : w.heap.size ≤ gb280)); have n3_ := Aside0.mk ((by rw [hg]; exact (below_size (upH HB)) : w.heap.size ≤ gb280)); clear HB; have HB := n0_; have BK280 := n1_; have GW280 := n2_; have GE280 := n3_; clear n0_ n1_ n2_ n3_; clear hb hbox hg; have hcz26_0 := cell0 BK280; have hcz26_1 := cell1 BK280; have hcz26_2 := cell2 BK280; have hfz26_0 := blk_frozen BK280.out 0; have hfz26_1 := blk_frozen BK280.out 1; have hfz26_2 := blk_frozen BK280.out 2) | (go_at_call 44; refine calls_of_args (args' := #[.agg #[.slice A0_0 l0_0.length c0_0, .slice A0_1 l0_1.length c0_1, .slice A0_2 l0_2.length c0_2]]) (by first | rfl) ?_; (with_reducible refine (headgateref07_Check.calls _ _ l0_0 _ _ l0_1 _ _ l0_2 t281 _ ?side1 ?side2 ?side3 ?side4 ?side5 ?side6 A2.out).mono ?_); (case side1 => exact upc (Kd.C_below HR0_0.out HB.out)); (case side2 => exact HC0_0.out); (case side3 => exact upc (Kd.C_below HR0_1.out HB.out)); (case side4 => exact HC0_1.out); (case side5 => exact upc (Kd.C_below HR0_2.out HB.out)); (case side6 => exact HC0_2.out); rintro e w27 ⟨rfl, hb⟩; have n0_ := Aside0.mk (blkB BK280 hb); have n1_ := Aside0.mk (below_step (upH HB) hb); clear BK280; clear HB; have BK280 := n0_; have HB := n1_; clear n0_ n1_; (try clear hb); (try clear hb2); (try clear hk); (try clear hi); have hcz28_0 := cell0 BK280; have hcz28_1 := cell1 BK280; have hcz28_2 := cell2 BK280; have hfz28_0 := blk_frozen BK280.out 0; have hfz28_1 := blk_frozen BK280.out 1; have hfz28_2 := blk_frozen BK280.out 2)))
  go_ret2
  exact ⟨by first | rfl | (simp [errW_none, errW_some] <;> rfl) | (simp [*, errW_none, errW_some] <;> rfl), by repeat (first | (with_reducible first | exact HB.out | apply below_alloc | apply pw_below_drewN | apply below_drew1 | refine below_set ?_ GE280.out) | exact HB.out)⟩

end Go.Proofs.Ytnheknlmmmkbpaa.X

namespace Go.Proofs.Ytnheknlmmmkbpaa.X
open Go.RowKit Go.Proofs.YtnheknlmmmkbpaaW.PrintWords Go.Proofs.YtnheknlmmmkbpaaW.PrintLast Go.Proofs.YtnheknlmmmkbpaaW.PrintMore
attribute [local go_sem] max2_int min2_int max_two min_two max_three min_three max_four min_four   -- for this text's walks alone
set_option linter.unusedVariables false
set_option linter.unusedSimpArgs false

/-! ### headgateref31_Lacks: function 26 -/
def headgateref31_Lacks.f (k : Nat) (l0_0 : List Int) (l0_1 : List Int) (l0_2 : List Bool) : Option (Int × Int) := (headgateref07_Check.f l0_0 l0_1 l0_2).bind fun t289 => (if t289 = 0 then ((headgateref31_lacks.f k l0_0 l0_1 l0_2).bind fun t290 => (some (t290, 0))) else (some (0, t289)))
theorem headgateref31_Lacks.mono : ∀ a0 a1 a2 k, LeO (headgateref31_Lacks.f k a0 a1 a2) (headgateref31_Lacks.f (k + 1) a0 a1 a2) := by
 intro a0 a1 a2 k
 unfold headgateref31_Lacks.f
 repeat' first
   | (with_reducible exact headgateref31_lacks.mono _ _ _ _)
   | (with_reducible exact LeO.refl _)
   | (with_reducible exact LeO.none _)
   | (with_reducible refine LeO.ite ?_ ?_)
   | (with_reducible refine LeO.bind ?_ (fun _ => ?_))
   | exact headgateref31_lacks.mono _ _ _ _
   | exact LeO.none _
   | refine LeO.ite ?_ ?_
   | refine LeO.bind ?_ (fun _ => ?_)
set_option maxHeartbeats 2000000 in
set_option maxRecDepth 100000 in
theorem headgateref31_Lacks.calls (k : Nat) (A0_0 : Option Addr) (c0_0 : Nat) (l0_0 : List Int) (A0_1 : Option Addr) (c0_1 : Nat) (l0_1 : List Int) (A0_2 : Option Addr) (c0_2 : Nat) (l0_2 : List Bool) (r1 : Int) (r2 : Int) (w : World) (hr0_0 : Kd.C (Kd.int .i64) w A0_0 l0_0.length l0_0) (hc0_0 : l0_0.length ≤ c0_0) (hr0_1 : Kd.C (Kd.int .i64) w A0_1 l0_1.length l0_1) (hc0_1 : l0_1.length ≤ c0_1) (hr0_2 : Kd.C Kd.bool w A0_2 l0_2.length l0_2) (hc0_2 : l0_2.length ≤ c0_2) (h : headgateref31_Lacks.f k l0_0 l0_1 l0_2 = some (r1, r2)) :
  Calls Try.prog 26 #[.agg #[.slice A0_0 l0_0.length c0_0, .slice A0_1 l0_1.length c0_1, .slice A0_2 l0_2.length c0_2]] w fun e w' => e = .returned (.tuple #[.int .i64 r1, .int .i64 r2]) ∧ Below w.heap.size w w' := by
 have hu33 := Try.underlying33
 have HR0_0 := Aside0.mk hr0_0
 have HC0_0 := Aside0.mk hc0_0
 clear hr0_0 hc0_0
 have HR0_1 := Aside0.mk hr0_1
 have HC0_1 := Aside0.mk hc0_1
 clear hr0_1 hc0_1
 have HR0_2 := Aside0.mk hr0_2
 have HC0_2 := Aside0.mk hc0_2
 clear hr0_2 hc0_2
 have HB := Aside0.mk (Below.refl w.heap.size w)
 have H : ((headgateref07_Check.f l0_0 l0_1 l0_2).bind fun t289 => (if t289 = 0 then ((headgateref31_lacks.f k l0_0 l0_1 l0_2).bind fun t290 => (some (t290, 0))) else (some (0, t289)))) = some (r1, r2) := h
 clear h
 replace H := Option.bind_eq_some_iff.mp H
 obtain ⟨t289, A20, H⟩ := H
 replace H : (if t289 = 0 then ((headgateref31_lacks.f k l0_0 l0_1 l0_2).bind fun t290 => (some (t290, 0))) else (some (0, t289))) = some (r1, r2) := H
 have A2 := Aside0.mk A20
 clear A20
 by_cases c3 : t289 = 0
 ·
  rw [if_pos c3] at H
  have c3b0 : (t289 == 0) = true := beq_iff_eq.mpr c3
  have c3b1 : (t289 != 0) = false := bne_eq_false_iff_eq.mpr c3
  clear c3
  replace H := Option.bind_eq_some_iff.mp H
  obtain ⟨t290, A40, H⟩ := H
  replace H : (some (t290, 0)) = some (r1, r2) := H
  have A4 := Aside0.mk A40
  clear A40
  simp only [Option.some.injEq, Prod.mk.injEq] at H
  obtain ⟨rfl, rfl⟩ := H
  go_enter Try.func26, Try.ntmps26
  go_wp2_with (first | ((with_reducible refine gate_dst (N := 1) rfl ?_); refine box_event ?hg (N := 1) ?hd (cs := #[.slice A0_0 l0_0.length c0_0, .slice A0_1 l0_1.length c0_1, .slice A0_2 l0_2.length c0_2]) (t := 33) ?hr ?_; (case hd => rfl); (case hg => rfl); (case hr => first | (go_simp; done) | (go_simp; rfl)); intro gb288 hg w5 hbox hb; have n0_ := Aside0.mk (below_step (upH HB) hb); have n1_ := Aside0.mk (hbox); have n2_ := Aside0.mk ((by rw [hg]; exact (below_size (upH HB)) : w.heap.size ≤ gb288)); have n3_ := Aside0.mk ((by rw [hg]; exact (below_size (upH HB)) : w.heap.size ≤ gb288)); clear HB; have HB := n0_; have BK288 := n1_; have GW288 := n2_; have GE288 := n3_; clear n0_ n1_ n2_ n3_; clear hb hbox hg; have hcz6_0 := cell0 BK288; have hcz6_1 := cell1 BK288; have hcz6_2 := cell2 BK288; have hfz6_0 := blk_frozen BK288.out 0; have hfz6_1 := blk_frozen BK288.out 1; have hfz6_2 := blk_frozen BK288.out 2) | ((with_reducible refine gate_callee (f := 44) rfl ?_); refine goesL_ (some 6) rfl rfl Try.func44 (by kernel_rfl) rfl #[.agg #[.slice A0_0 l0_0.length c0_0, .slice A0_1 l0_1.length c0_1, .slice A0_2 l0_2.length c0_2]] rfl (args_ (p := _)) ?_; (with_reducible refine (headgateref07_Check.calls _ _ l0_0 _ _ l0_1 _ _ l0_2 t289 _ ?side1 ?side2 ?side3 ?side4 ?side5 ?side6 A2.out).mono ?_); (case side1 => exact upc (Kd.C_below HR0_0.out HB.out)); (case side2 => exact HC0_0.out); (case side3 => exact upc (Kd.C_below HR0_1.out HB.out)); (case side4 => exact HC0_1.out); (case side5 => exact upc (Kd.C_below HR0_2.out HB.out)); (case side6 => exact HC0_2.out); rintro e w7 ⟨rfl, hb⟩; refine ⟨_, rfl, ?_⟩; have n0_ := Aside0.mk (blkB BK288 hb); have n1_ := Aside0.mk (below_step (upH HB) hb); clear BK288; clear HB; have BK288 := n0_; have HB := n1_; clear n0_ n1_; (try clear hb); (try clear hb2); (try clear hk); (try clear hi); have hcz8_0 := cell0 BK288; have hcz8_1 := cell1 BK288; have hcz8_2 := cell2 BK288; have hfz8_0 := blk_frozen BK288.out 0; have hfz8_1 := blk_frozen BK288.out 1; have hfz8_2 := blk_frozen BK288.out 2) | ((with_reducible refine gate_callee (f := 45) rfl ?_); refine goesL_ (some 11) rfl rfl Try.func45 (by kernel_rfl) rfl #[.agg #[.slice A0_0 l0_0.length c0_0, .slice A0_1 l0_1.length c0_1, .slice A0_2 l0_2.length c0_2]] rfl (args_ (p := _)) ?_; (with_reducible refine (headgateref31_lacks.calls k _ _ l0_0 _ _ l0_1 _ _ l0_2 t290 _ ?side1 ?side2 ?side3 ?side4 ?side5 ?side6 A4.out).mono ?_); (case side1 => exact upc (Kd.C_below HR0_0.out HB.out)); (case side2 => exact HC0_0.out); (case side3 => exact upc (Kd.C_below HR0_1.out HB.out)); (case side4 => exact HC0_1.out); (case side5 => exact upc (Kd.C_below HR0_2.out HB.out)); (case side6 => exact HC0_2.out); rintro e w9 ⟨rfl, hb⟩; refine ⟨_, rfl, ?_⟩; have n0_ := Aside0.mk (blkB BK288 hb); have n1_ := Aside0.mk (below_step (upH HB) hb); clear BK288; clear HB; have BK288 := n0_; have HB := n1_; clear n0_ n1_; (try clear hb); (try clear hb2); (try clear hk); (try clear hi)))
  go_ret2
  exact ⟨by first | rfl | (simp [errW_none, errW_some] <;> rfl) | (simp [*, errW_none, errW_some] <;> rfl), by repeat (first | (with_reducible first | exact HB.out | apply below_alloc | apply pw_below_drewN | apply below_drew1 | refine below_set ?_ GE288.out) | exact HB.out)⟩
 ·
  rw [if_neg c3] at H
  have c3b0 : (t289 == 0) = false := beq_eq_false_iff_ne.mpr c3
  have c3b1 : (t289 != 0) = true := bne_iff_ne.mpr c3
  simp only [Option.some.injEq, Prod.mk.injEq] at H
  obtain ⟨rfl, rfl⟩ := H
  go_enter Try.func26, Try.ntmps26
  go_wp2_with (first | ((with_reducible refine gate_dst (N := 1) rfl ?_); refine box_event ?hg (N := 1) ?hd (cs := #[.slice A0_0 l0_0.length c0_0, .slice A0_1 l0_1.length c0_1, .slice A0_2 l0_2.length c0_2]) (t := 33) ?hr ?_; (case hd => rfl); (case hg => rfl); (case hr => first | (go_simp; done) | (go_simp; rfl)); intro gb288 hg w10 hbox hb; have n0_ := Aside0.mk (below_step (upH HB) hb); have n1_ := Aside0.mk (hbox); have n2_ := Aside0.mk ((by rw [hg]; exact (below_size (upH HB)) : w.heap.size ≤ gb288)); have n3_ := Aside0.mk ((by rw [hg]; exact (below_size (upH HB)) : w.heap.size ≤ gb288)); clear HB; have HB := n0_; have BK288 := n1_; have GW288 := n2_; have GE288 := n3_; clear n0_ n1_ n2_ n3_; clear hb hbox hg; have hcz11_0 := cell0 BK288; have hcz11_1 := cell1 BK288; have hcz11_2 := cell2 BK288; have hfz11_0 := blk_frozen BK288.out 0; have hfz11_1 := blk_frozen BK288.out 1; have hfz11_2 := blk_frozen BK288.out 2) | ((with_reducible refine gate_callee (f := 44) rfl ?_); refine goesL_ (some 6) rfl rfl Try.func44 (by kernel_rfl) rfl #[.agg #[.slice A0_0 l0_0.length c0_0, .slice A0_1 l0_1.length c0_1, .slice A0_2 l0_2.length c0_2]] rfl (args_ (p := _)) ?_; (with_reducible refine (headgateref07_Check.calls _ _ l0_0 _ _ l0_1 _ _ l0_2 t289 _ ?side1 ?side2 ?side3 ?side4 ?side5 ?side6 A2.out).mono ?_); (case side1 => exact upc (Kd.C_below HR0_0.out HB.out)); (case side2 => exact HC0_0.out); (case side3 => exact upc (Kd.C_below HR0_1.out HB.out)); (case side4 => exact HC0_1.out); (case side5 => exact upc (Kd.C_below HR0_2.out HB.out)); (case side6 => exact HC0_2.out); rintro e w12 ⟨rfl, hb⟩; refine ⟨_, rfl, ?_⟩; have n0_ := Aside0.mk (blkB BK288 hb); have n1_ := Aside0.mk (below_step (upH HB) hb); clear BK288; clear HB; have BK288 := n0_; have HB := n1_; clear n0_ n1_; (try clear hb); (try clear hb2); (try clear hk); (try clear hi)))
  go_ret2
  exact ⟨by first | rfl | (simp [errW_none, errW_some] <;> rfl) | (simp [*, errW_none, errW_some] <;> rfl), by repeat (first | (with_reducible first | exact HB.out | apply below_alloc | apply pw_below_drewN | apply below_drew1 | refine below_set ?_ GE288.out) | exact HB.out)⟩

end Go.Proofs.Ytnheknlmmmkbpaa.X

namespace Go.Proofs.Ytnheknlmmmkbpaa.X
open Go.RowKit Go.Proofs.YtnheknlmmmkbpaaW.PrintWords Go.Proofs.YtnheknlmmmkbpaaW.PrintLast Go.Proofs.YtnheknlmmmkbpaaW.PrintMore
attribute [local go_sem] max2_int min2_int max_two min_two max_three min_three max_four min_four   -- for this text's walks alone
set_option linter.unusedVariables false
set_option linter.unusedSimpArgs false

/-! ### headgateref07_asks: function 63 -/
def headgateref07_asks.f (l0_0 : List Int) (l0_1 : List Int) (l0_2 : List Bool) (a1 : Int) : Option (Int) := (headgateref07_Check.f l0_0 l0_1 l0_2).bind fun t292 => (if t292 = 0 then (if a1 < 0 then (some 2) else (if a1 ≥ (l0_2.length : Int) then (some 2) else (some t292))) else (some t292))
set_option maxHeartbeats 2000000 in
set_option maxRecDepth 100000 in
theorem headgateref07_asks.calls (A0_0 : Option Addr) (c0_0 : Nat) (l0_0 : List Int) (A0_1 : Option Addr) (c0_1 : Nat) (l0_1 : List Int) (A0_2 : Option Addr) (c0_2 : Nat) (l0_2 : List Bool) (a1 : Int) (r : Int) (w : World) (hr0_0 : Kd.C (Kd.int .i64) w A0_0 l0_0.length l0_0) (hc0_0 : l0_0.length ≤ c0_0) (hr0_1 : Kd.C (Kd.int .i64) w A0_1 l0_1.length l0_1) (hc0_1 : l0_1.length ≤ c0_1) (hr0_2 : Kd.C Kd.bool w A0_2 l0_2.length l0_2) (hc0_2 : l0_2.length ≤ c0_2) (h : headgateref07_asks.f l0_0 l0_1 l0_2 a1 = some r) :
  Calls Try.prog 63 #[.agg #[.slice A0_0 l0_0.length c0_0, .slice A0_1 l0_1.length c0_1, .slice A0_2 l0_2.length c0_2], .int .i64 a1] w fun e w' => e = .returned (.int .i64 r) ∧ Below w.heap.size w w' := by
 have hu33 := Try.underlying33
 have HR0_0 := Aside0.mk hr0_0
 have HC0_0 := Aside0.mk hc0_0
 clear hr0_0 hc0_0
 have HR0_1 := Aside0.mk hr0_1
 have HC0_1 := Aside0.mk hc0_1
 clear hr0_1 hc0_1
 have HR0_2 := Aside0.mk hr0_2
 have HC0_2 := Aside0.mk hc0_2
 clear hr0_2 hc0_2
 have HB := Aside0.mk (Below.refl w.heap.size w)
 have H : ((headgateref07_Check.f l0_0 l0_1 l0_2).bind fun t292 => (if t292 = 0 then (if a1 < 0 then (some 2) else (if a1 ≥ (l0_2.length : Int) then (some 2) else (some t292))) else (some t292))) = some r := h
 clear h
 replace H := Option.bind_eq_some_iff.mp H
 obtain ⟨t292, A30, H⟩ := H
 replace H : (if t292 = 0 then (if a1 < 0 then (some 2) else (if a1 ≥ (l0_2.length : Int) then (some 2) else (some t292))) else (some t292)) = some r := H
 have A3 := Aside0.mk A30
 clear A30
 by_cases c4 : t292 = 0
 ·
  rw [if_pos c4] at H
  have c4b0 : (t292 == 0) = true := beq_iff_eq.mpr c4
  have c4b1 : (t292 != 0) = false := bne_eq_false_iff_eq.mpr c4
  clear c4
  by_cases c5 : a1 < 0
  ·
   rw [if_pos c5] at H
   have c5b0 : decide (a1 < 0) = true := decide_eq_true c5
   clear c5
   obtain rfl := Option.some.inj H
   go_enter Try.func63, Try.ntmps63
   go_wp2_with (first | ((with_reducible refine gate_dst (N := 2) rfl ?_); (try (refine gate_guard (by rfl) ?_; dsimp only)); refine box_event ?hg (N := 2) ?hd (cs := #[.slice A0_0 l0_0.length c0_0, .slice A0_1 l0_1.length c0_1, .slice A0_2 l0_2.length c0_2]) (t := 33) ?hr ?_; (case hd => rfl); (case hg => rfl); (case hr => first | (go_simp; done) | (go_simp; rfl)); intro gb291 hg w6 hbox hb; have n0_ := Aside0.mk (below_step (upH HB) hb); have n1_ := Aside0.mk (hbox); have n2_ := Aside0.mk ((by rw [hg]; exact (below_size (upH HB)) : w.heap.size ≤ gb291)); have n3_ := Aside0.mk ((by rw [hg]; exact (below_size (upH HB)) : w.heap.size ≤ gb291)); clear HB; have HB := n0_; have BK291 := n1_; have GW291 := n2_; have GE291 := n3_; clear n0_ n1_ n2_ n3_; clear hb hbox hg; have hcz7_0 := cell0 BK291; have hcz7_1 := cell1 BK291; have hcz7_2 := cell2 BK291; have hfz7_0 := blk_frozen BK291.out 0; have hfz7_1 := blk_frozen BK291.out 1; have hfz7_2 := blk_frozen BK291.out 2) | ((with_reducible refine gate_callee (f := 44) rfl ?_); refine goesL_ (some 7) rfl rfl Try.func44 (by kernel_rfl) rfl #[.agg #[.slice A0_0 l0_0.length c0_0, .slice A0_1 l0_1.length c0_1, .slice A0_2 l0_2.length c0_2]] rfl (args_ (p := _)) ?_; (with_reducible refine (headgateref07_Check.calls _ _ l0_0 _ _ l0_1 _ _ l0_2 t292 _ ?side1 ?side2 ?side3 ?side4 ?side5 ?side6 A3.out).mono ?_); (case side1 => exact upc (Kd.C_below HR0_0.out HB.out)); (case side2 => exact HC0_0.out); (case side3 => exact upc (Kd.C_below HR0_1.out HB.out)); (case side4 => exact HC0_1.out); (case side5 => exact upc (Kd.C_below HR0_2.out HB.out)); (case side6 => exact HC0_2.out); rintro e w8 ⟨rfl, hb⟩; refine ⟨_, rfl, ?_⟩; have n0_ := Aside0.mk (blkB BK291 hb); have n1_ := Aside0.mk (below_step (upH HB) hb); clear BK291; clear HB; have BK291 := n0_; have HB := n1_; clear n0_ n1_; (try clear hb); (try clear hb2); (try clear hk); (try clear hi)))
   go_ret
   exact ⟨by first | rfl | (simp [errW_none, errW_some] <;> rfl) | (simp [*, errW_none, errW_some] <;> rfl), by repeat (first | (with_reducible first | exact HB.out | apply below_alloc | apply pw_below_drewN | apply below_drew1 | refine below_set ?_ GE291.out) | exact HB.out)⟩
  ·
   rw [if_neg c5] at H
   have c5b0 : decide (a1 < 0) = false := decide_eq_false c5
   clear c5
   by_cases c9 : a1 ≥ (l0_2.length : Int)
   ·
    rw [if_pos c9] at H
    have c9b0 : decide ((l0_2.length : Int) ≤ a1) = true := decide_eq_true c9
    clear c9
    obtain rfl := Option.some.inj H
    go_enter Try.func63, Try.ntmps63
    go_wp2_with (first | ((with_reducible refine gate_dst (N := 2) rfl ?_); (try (refine gate_guard (by rfl) ?_; dsimp only)); refine box_event ?hg (N := 2) ?hd (cs := #[.slice A0_0 l0_0.length c0_0, .slice A0_1 l0_1.length c0_1, .slice A0_2 l0_2.length c0_2]) (t := 33) ?hr ?_; (case hd => rfl); (case hg => rfl); (case hr => first | (go_simp; done) | (go_simp; rfl)); intro gb291 hg w10 hbox hb; have n0_ := Aside0.mk (below_step (upH HB) hb); have n1_ := Aside0.mk (hbox); have n2_ := Aside0.mk ((by rw [hg]; exact (below_size (upH HB)) : w.heap.size ≤ gb291)); have n3_ := Aside0.mk ((by rw [hg]; exact (below_size (upH HB)) : w.heap.size ≤ gb291)); clear HB; have HB := n0_; have BK291 := n1_; have GW291 := n2_; have GE291 := n3_; clear n0_ n1_ n2_ n3_; clear hb hbox hg; have hcz11_0 := cell0 BK291; have hcz11_1 := cell1 BK291; have hcz11_2 := cell2 BK291; have hfz11_0 := blk_frozen BK291.out 0; have hfz11_1 := blk_frozen BK291.out 1; have hfz11_2 := blk_frozen BK291.out 2) | ((with_reducible refine gate_callee (f := 44) rfl ?_); refine goesL_ (some 7) rfl rfl Try.func44 (by kernel_rfl) rfl #[.agg #[.slice A0_0 l0_0.length c0_0, .slice A0_1 l0_1.length c0_1, .slice A0_2 l0_2.length c0_2]] rfl (args_ (p := _)) ?_; (with_reducible refine (headgateref07_Check.calls _ _ l0_0 _ _ l0_1 _ _ l0_2 t292 _ ?side1 ?side2 ?side3 ?side4 ?side5 ?side6 A3.out).mono ?_); (case side1 => exact upc (Kd.C_below HR0_0.out HB.out)); (case side2 => exact HC0_0.out); (case side3 => exact upc (Kd.C_below HR0_1.out HB.out)); (case side4 => exact HC0_1.out); (case side5 => exact upc (Kd.C_below HR0_2.out HB.out)); (case side6 => exact HC0_2.out); rintro e w12 ⟨rfl, hb⟩; refine ⟨_, rfl, ?_⟩; have n0_ := Aside0.mk (blkB BK291 hb); have n1_ := Aside0.mk (below_step (upH HB) hb); clear BK291; clear HB; have BK291 := n0_; have HB := n1_; clear n0_ n1_; (try clear hb); (try clear hb2); (try clear hk); (try clear hi); have hcz13_0 := cell0 BK291; have hcz13_1 := cell1 BK291; have hcz13_2 := cell2 BK291; have hfz13_0 := blk_frozen BK291.out 0; have hfz13_1 := blk_frozen BK291.out 1; have hfz13_2 := blk_frozen BK291.out 2))
    go_ret
    exact ⟨by first | rfl | (simp [errW_none, errW_some] <;> rfl) | (simp [*, errW_none, errW_some] <;> rfl), by repeat (first | (with_reducible first | exact HB.out | apply below_alloc | apply pw_below_drewN | apply below_drew1 | refine below_set ?_ GE291.out) | exact HB.out)⟩
   ·
    rw [if_neg c9] at H
    have c9b0 : decide ((l0_2.length : Int) ≤ a1) = false := decide_eq_false c9
    clear c9
    obtain rfl := Option.some.inj H
    go_enter Try.func63, Try.ntmps63
    go_wp2_with (first | ((with_reducible refine gate_dst (N := 2) rfl ?_); (try (refine gate_guard (by rfl) ?_; dsimp only)); refine box_event ?hg (N := 2) ?hd (cs := #[.slice A0_0 l0_0.length c0_0, .slice A0_1 l0_1.length c0_1, .slice A0_2 l0_2.length c0_2]) (t := 33) ?hr ?_; (case hd => rfl); (case hg => rfl); (case hr => first | (go_simp; done) | (go_simp; rfl)); intro gb291 hg w14 hbox hb; have n0_ := Aside0.mk (below_step (upH HB) hb); have n1_ := Aside0.mk (hbox); have n2_ := Aside0.mk ((by rw [hg]; exact (below_size (upH HB)) : w.heap.size ≤ gb291)); have n3_ := Aside0.mk ((by rw [hg]; exact (below_size (upH HB)) : w.heap.size ≤ gb291)); clear HB; have HB := n0_; have BK291 := n1_; have GW291 := n2_; have GE291 := n3_; clear n0_ n1_ n2_ n3_; clear hb hbox hg; have hcz15_0 := cell0 BK291; have hcz15_1 := cell1 BK291; have hcz15_2 := cell2 BK291; have hfz15_0 := blk_frozen BK291.out 0; have hfz15_1 := blk_frozen BK291.out 1; have hfz15_2 := blk_frozen BK291.out 2) | ((with_reducible refine gate_callee (f := 44) rfl ?_); refine goesL_ (some 7) rfl rfl Try.func44 (by kernel_rfl) rfl #[.agg #[.slice A0_0 l0_0.length c0_0, .slice A0_1 l0_1.length c0_1, .slice A0_2 l0_2.length c0_2]] rfl (args_ (p := _)) ?_; (with_reducible refine (headgateref07_Check.calls _ _ l0_0 _ _ l0_1 _ _ l0_2 t292 _ ?side1 ?side2 ?side3 ?side4 ?side5 ?side6 A3.out).mono ?_); (case side1 => exact upc (Kd.C_below HR0_0.out HB.out)); (case side2 => exact HC0_0.out); (case side3 => exact upc (Kd.C_below HR0_1.out HB.out)); (case side4 => exact HC0_1.out); (case side5 => exact upc (Kd.C_below HR0_2.out HB.out)); (case side6 => exact HC0_2.out); rintro e w16 ⟨rfl, hb⟩; refine ⟨_, rfl, ?_⟩; have n0_ := Aside0.mk (blkB BK291 hb); have n1_ := Aside0.mk (below_step (upH HB) hb); clear BK291; clear HB; have BK291 := n0_; have HB := n1_; clear n0_ n1_; (try clear hb); (try clear hb2); (try clear hk); (try clear hi); have hcz17_0 := cell0 BK291; have hcz17_1 := cell1 BK291; have hcz17_2 := cell2 BK291; have hfz17_0 := blk_frozen BK291.out 0; have hfz17_1 := blk_frozen BK291.out 1; have hfz17_2 := blk_frozen BK291.out 2))
    go_ret
    exact ⟨by first | rfl | (simp [errW_none, errW_some] <;> rfl) | (simp [*, errW_none, errW_some] <;> rfl), by repeat (first | (with_reducible first | exact HB.out | apply below_alloc | apply pw_below_drewN | apply below_drew1 | refine below_set ?_ GE291.out) | exact HB.out)⟩
 ·
  rw [if_neg c4] at H
  have c4b0 : (t292 == 0) = false := beq_eq_false_iff_ne.mpr c4
  have c4b1 : (t292 != 0) = true := bne_iff_ne.mpr c4
  obtain rfl := Option.some.inj H
  go_enter Try.func63, Try.ntmps63
  go_wp2_with (first | ((with_reducible refine gate_dst (N := 2) rfl ?_); (try (refine gate_guard (by rfl) ?_; dsimp only)); refine box_event ?hg (N := 2) ?hd (cs := #[.slice A0_0 l0_0.length c0_0, .slice A0_1 l0_1.length c0_1, .slice A0_2 l0_2.length c0_2]) (t := 33) ?hr ?_; (case hd => rfl); (case hg => rfl); (case hr => first | (go_simp; done) | (go_simp; rfl)); intro gb291 hg w18 hbox hb; have n0_ := Aside0.mk (below_step (upH HB) hb); have n1_ := Aside0.mk (hbox); have n2_ := Aside0.mk ((by rw [hg]; exact (below_size (upH HB)) : w.heap.size ≤ gb291)); have n3_ := Aside0.mk ((by rw [hg]; exact (below_size (upH HB)) : w.heap.size ≤ gb291)); clear HB; have HB := n0_; have BK291 := n1_; have GW291 := n2_; have GE291 := n3_; clear n0_ n1_ n2_ n3_; clear hb hbox hg; have hcz19_0 := cell0 BK291; have hcz19_1 := cell1 BK291; have hcz19_2 := cell2 BK291; have hfz19_0 := blk_frozen BK291.out 0; have hfz19_1 := blk_frozen BK291.out 1; have hfz19_2 := blk_frozen BK291.out 2) | ((with_reducible refine gate_callee (f := 44) rfl ?_); refine goesL_ (some 7) rfl rfl Try.func44 (by kernel_rfl) rfl #[.agg #[.slice A0_0 l0_0.length c0_0, .slice A0_1 l0_1.length c0_1, .slice A0_2 l0_2.length c0_2]] rfl (args_ (p := _)) ?_; (with_reducible refine (headgateref07_Check.calls _ _ l0_0 _ _ l0_1 _ _ l0_2 t292 _ ?side1 ?side2 ?side3 ?side4 ?side5 ?side6 A3.out).mono ?_); (case side1 => exact upc (Kd.C_below HR0_0.out HB.out)); (case side2 => exact HC0_0.out); (case side3 => exact upc (Kd.C_below HR0_1.out HB.out)); (case side4 => exact HC0_1.out); (case side5 => exact upc (Kd.C_below HR0_2.out HB.out)); (case side6 => exact HC0_2.out); rintro e w20 ⟨rfl, hb⟩; refine ⟨_, rfl, ?_⟩; have n0_ := Aside0.mk (blkB BK291 hb); have n1_ := Aside0.mk (below_step (upH HB) hb); clear BK291; clear HB; have BK291 := n0_; have HB := n1_; clear n0_ n1_; (try clear hb); (try clear hb2); (try clear hk); (try clear hi)))
  go_ret
  exact ⟨by first | rfl | (simp [errW_none, errW_some] <;> rfl) | (simp [*, errW_none, errW_some] <;> rfl), by repeat (first | (with_reducible first | exact HB.out | apply below_alloc | apply pw_below_drewN | apply below_drew1 | refine below_set ?_ GE291.out) | exact HB.out)⟩

end Go.Proofs.Ytnheknlmmmkbpaa.X

namespace Go.Proofs.Ytnheknlmmmkbpaa.X
open Go.RowKit Go.Proofs.YtnheknlmmmkbpaaW.PrintWords Go.Proofs.YtnheknlmmmkbpaaW.PrintLast Go.Proofs.YtnheknlmmmkbpaaW.PrintMore
attribute [local go_sem] max2_int min2_int max_two min_two max_three min_three max_four min_four   -- for this text's walks alone
set_option linter.unusedVariables false
set_option linter.unusedSimpArgs false

/-! ### headgateref07_place: function 64 -/
def headgateref07_place.l0 : Nat → List Int → Int → Int → Option (Int)
 | 0, _, _, _ => none
 | k + 1, x0, x1, x5 => if x5 < (x0.length : Int) then (if 0 ≤ x5 then (if (rd x0 x5) = x1 then (some x5) else (headgateref07_place.l0 k x0 x1 (wrap64 (x5 + 1)))) else (none)) else (some (-1))
def headgateref07_place.f (k : Nat) (l0 : List Int) (a1 : Int) : Option (Int) := headgateref07_place.l0 k l0 a1 0
theorem headgateref07_place.mono_l : ∀ k, (∀ y0 y1 y2, LeO (headgateref07_place.l0 k y0 y1 y2) (headgateref07_place.l0 (k + 1) y0 y1 y2))
 | 0 => fun _ _ _ r h => by simp [headgateref07_place.l0] at h
 | k + 1 => by
  have ih0 := headgateref07_place.mono_l k
  ·
   intro y0 y1 y2
   unfold headgateref07_place.l0
   repeat' first
   | (with_reducible exact ih0 _ _ _)
   | (with_reducible exact LeO.refl _)
   | (with_reducible exact LeO.none _)
   | (with_reducible refine LeO.ite ?_ ?_)
   | (with_reducible refine LeO.bind ?_ (fun _ => ?_))
   | exact ih0 _ _ _
   | exact LeO.none _
   | refine LeO.ite ?_ ?_
   | refine LeO.bind ?_ (fun _ => ?_)
theorem headgateref07_place.mono : ∀ a0 a1 k, LeO (headgateref07_place.f k a0 a1) (headgateref07_place.f (k + 1) a0 a1) := by
 intro a0 a1 k
 have ih0 := headgateref07_place.mono_l k
 unfold headgateref07_place.f
 repeat' first
   | (with_reducible exact ih0 _ _ _)
   | (with_reducible exact LeO.refl _)
   | (with_reducible exact LeO.none _)
   | (with_reducible refine LeO.ite ?_ ?_)
   | (with_reducible refine LeO.bind ?_ (fun _ => ?_))
   | exact ih0 _ _ _
   | exact LeO.none _
   | refine LeO.ite ?_ ?_
   | refine LeO.bind ?_ (fun _ => ?_)
set_option maxHeartbeats 2000000 in
set_option maxRecDepth 100000 in
theorem headgateref07_place.calls (k : Nat) (A0 : Option Addr) (c0 : Nat) (l0 : List Int) (a1 : Int) (r : Int) (w : World) (hr0 : Kd.C (Kd.int .i64) w A0 l0.length l0) (hc0 : l0.length ≤ c0) (h : headgateref07_place.f k l0 a1 = some r) :
  Calls Try.prog 64 #[.slice A0 l0.length c0, .int .i64 a1] w fun e w' => e = .returned (.int .i64 r) ∧ Drawn0 w w' := by
 have HR0 := Aside0.mk hr0
 have HC0 := Aside0.mk hc0
 clear hr0 hc0
 have H : (headgateref07_place.l0 k l0 a1 0) = some r := h
 clear h
 have H' := Aside0.mk H
 clear H
 go_enter Try.func64, Try.ntmps64
 go_wp2
 go_loopg [5] k (fun kq v5 w' => ∃ (x5_1 : Int), v5 = .int .i64 x5_1 ∧ Aside0 (headgateref07_place.l0 kq l0 a1 x5_1 = some r) ∧ Aside0 (kq ≤ k) ∧ Drawn0 w w')
 case atStart => exact ⟨(0), (by first | rfl | (simp; done) | (simp [*]; done)), H', ⟨Nat.le_refl _⟩, by repeat (first | exact Drawn0.refl _ | apply Drawn0.step)⟩
 case round =>
  clear H'
  try clear p2
  obtain ⟨x5_1, rfl, HA, HK1, ⟨m1, rfl⟩⟩ := hrel
  cases gk with
  | zero => exact absurd HA.out (by simp [headgateref07_place.l0])
  | succ k1 =>
   have H := HA.out
   clear HA
   simp only [headgateref07_place.l0] at H
   by_cases c3 : x5_1 < (l0.length : Int)
   ·
    rw [if_pos c3] at H
    have c3b0 : decide (x5_1 < (l0.length : Int)) = true := decide_eq_true c3
    clear c3
    by_cases c4 : 0 ≤ x5_1
    ·
     rw [if_pos c4] at H
     have c4b0 : decide (0 ≤ x5_1) = true := decide_eq_true c4
     clear c4
     by_cases c5 : (rd l0 x5_1) = a1
     ·
      rw [if_pos c5] at H
      have c5b0 : ((rd l0 x5_1) == a1) = true := beq_iff_eq.mpr c5
      have c5b1 : ((rd l0 x5_1) != a1) = false := bne_eq_false_iff_eq.mpr c5
      clear c5
      obtain rfl := Option.some.inj H
      have p293 : 0 ≤ (x5_1 : Int) := of_decide_eq_true (asm_ (p := _))
      have q293 : x5_1 < (l0.length : Int) := of_decide_eq_true (asm_ (p := _))
      obtain ⟨ad293, e293, hx293_0⟩ := Kd.at_int HR0.out x5_1 p293 q293
      cases e293
      replace p293 := eq_true p293
      replace q293 := eq_true q293
      go_wp2
      go_ret
      exact ⟨by first | rfl | (simp; done) | (simp [*]; done), by repeat (first | exact Drawn0.refl _ | apply Drawn0.step)⟩
     ·
      rw [if_neg c5] at H
      have c5b0 : ((rd l0 x5_1) == a1) = false := beq_eq_false_iff_ne.mpr c5
      have c5b1 : ((rd l0 x5_1) != a1) = true := bne_iff_ne.mpr c5
      have H' := Aside0.mk H
      clear H
      have p293 : 0 ≤ (x5_1 : Int) := of_decide_eq_true (asm_ (p := _))
      have q293 : x5_1 < (l0.length : Int) := of_decide_eq_true (asm_ (p := _))
      obtain ⟨ad293, e293, hx293_0⟩ := Kd.at_int HR0.out x5_1 p293 q293
      cases e293
      replace p293 := eq_true p293
      replace q293 := eq_true q293
      go_wp2
      go_roundg k1
      case measure => have := HK1.out; omega
      case rel => exact ⟨(wrap64 (x5_1 + 1)), (by first | rfl | (simp; done) | (simp [*]; done)), H', ⟨by have := HK1.out; omega⟩, by repeat (first | exact Drawn0.refl _ | apply Drawn0.step)⟩
    ·
     rw [if_neg c4] at H
     exact absurd H (by simp)
   ·
    rw [if_neg c3] at H
    have c3b0 : decide (x5_1 < (l0.length : Int)) = false := decide_eq_false c3
    clear c3
    obtain rfl := Option.some.inj H
    go_wp2
    go_ret
    exact ⟨by first | rfl | (simp; done) | (simp [*]; done), by repeat (first | exact Drawn0.refl _ | apply Drawn0.step)⟩

end Go.Proofs.Ytnheknlmmmkbpaa.X
