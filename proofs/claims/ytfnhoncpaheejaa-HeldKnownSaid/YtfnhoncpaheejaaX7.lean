/- What Go functions of this seat compute, told as Lean functions, and that each call of the Go code comes to that answer; for a law: its row, for every input. Written by a program of the session. -/
import Derived.Test.YtfnhoncpaheejaaX0
import Derived.Test.YtfnhoncpaheejaaX5
import Derived.Test.YtfnhoncpaheejaaX6
namespace Go.Proofs.Ytfnhoncpaheejaa.X
open Go.RowKit Go.Proofs.YtfnhoncpaheejaaW.PrintWords Go.Proofs.YtfnhoncpaheejaaW.PrintLast Go.Proofs.YtfnhoncpaheejaaW.PrintMore
attribute [local go_sem] max2_int min2_int max_two min_two max_three min_three max_four min_four   -- for this text's walks alone
set_option linter.unusedVariables false
set_option linter.unusedSimpArgs false

/-! ### held_check: function 36 -/
theorem heldBad_ways {s f c : Int} (h : heldBad s f c = true) : decide (s < 0) = true ∨ (decide (s < 0) = false ∧ decide (256 ≤ s) = true) ∨ (decide (s < 0) = false ∧ decide (256 ≤ s) = false ∧ decide (f < 0) = true) ∨ (decide (s < 0) = false ∧ decide (256 ≤ s) = false ∧ decide (f < 0) = false ∧ decide (256 ≤ f) = true) ∨ (decide (s < 0) = false ∧ decide (256 ≤ s) = false ∧ decide (f < 0) = false ∧ decide (256 ≤ f) = false ∧ decide (c < 0) = true) ∨ (decide (s < 0) = false ∧ decide (256 ≤ s) = false ∧ decide (f < 0) = false ∧ decide (256 ≤ f) = false ∧ decide (c < 0) = false ∧ decide (8 < c) = true) := by
 simp [heldBad] at h ⊢
 omega
theorem heldBad_no {s f c : Int} (h : heldBad s f c = false) : (0 ≤ s ∧ s < 256) ∧ (0 ≤ f ∧ f < 256) ∧ 0 ≤ c ∧ c ≤ 8 := by
 simp [heldBad] at h
 omega
def heldScan (i : Nat) (g : Int × Int → Option Int) : List S32 → Int × Int × (Int × Int → Option Int)
 | [] => (0, 0, g)
 | x :: xs => if heldBad x.f0 x.f1 x.f2 = true then (2, i, g) else if heldFree g (heldKeys x.f0 x.f1 x.f2) = true then heldScan (i + 1) (heldPut (heldKeys x.f0 x.f1 x.f2) i g) xs else (7, i, g)
def heldCheck (l : List S32) : Int × Int × (Int × Int → Option Int) := if 16 < l.length then (5, 0, fun _ => none) else heldScan 0 (fun _ => none) l
theorem heldScan_step {i : Nat} {g : Int × Int → Option Int} {l : List S32} {j : Nat} (hj : j < l.length) : heldScan i g (l.drop j) = if heldBad (rd_T32 l j).f0 (rd_T32 l j).f1 (rd_T32 l j).f2 = true then (2, (i : Int), g) else if heldFree g (heldKeys (rd_T32 l j).f0 (rd_T32 l j).f1 (rd_T32 l j).f2) = true then heldScan (i + 1) (heldPut (heldKeys (rd_T32 l j).f0 (rd_T32 l j).f1 (rd_T32 l j).f2) i g) (l.drop (j + 1)) else (7, (i : Int), g) := by
 rw [List.drop_eq_getElem_cons hj, heldScan]
 have e : l[j] = rd_T32 l j := by simp [rd_T32, List.getD_eq_getElem?_getD, List.getElem?_eq_getElem hj]
 rw [e]
def HeldPost (l : List S32) (w : World) (e : Ending) (w' : World) : Prop :=
 (∃ m : Option Nat, e = .returned (.tuple #[.map m, .int .i64 (heldCheck l).1, .int .i64 (heldCheck l).2.1]) ∧ ((heldCheck l).1 = 0 → ∃ b, m = some b ∧ w.heap.size ≤ b ∧ HeldMap w' b 48 (heldCheck l).2.2)) ∧ Below w.heap.size w w'
theorem heldPost_mk {l : List S32} {w w' : World} {x y : Int} {g : Int × Int → Option Int} {m : Option Nat} (hc : (x, y, g) = heldCheck l) (hm : x = 0 → ∃ b, m = some b ∧ w.heap.size ≤ b ∧ HeldMap w' b 48 g) (hb : Below w.heap.size w w') : HeldPost l w (.returned (.tuple #[.map m, .int .i64 x, .int .i64 y])) w' := by
 unfold HeldPost
 rw [← hc]
 exact ⟨⟨m, rfl, hm⟩, hb⟩
set_option maxHeartbeats 4000000 in
set_option maxRecDepth 100000 in
theorem held_check.calls (A : Option Addr) (c : Nat) (l : List S32) (w : World) (hr : Kd.C k32 w A l.length l) (hc : l.length ≤ c) :
  Calls Try.prog 36 #[.slice A l.length c] w (HeldPost l w) := by
 have huW := Try.underlying32
 have hmm := @run_makeMap Try.prog
 have HR := Aside0.mk hr
 clear hr
 by_cases c1 : 16 < l.length
 ·
  have c1b : decide (16 < (l.length : Int)) = true := decide_eq_true (by omega)
  have c1c : decide (16 < l.length) = true := decide_eq_true c1
  have HC := Aside0.mk (show (5, 0, fun _ => none) = heldCheck l by unfold heldCheck; rw [if_pos c1])
  go_enter Try.func36, Try.ntmps36
  go_wp2
  go_ret3
  exact heldPost_mk HC.out (fun h => by cases h) (Below.refl _ _)
 ·
  have c1b : decide (16 < (l.length : Int)) = false := decide_eq_false (by omega)
  have c1c : decide (16 < l.length) = false := decide_eq_false c1
  have HC := Aside0.mk (show heldScan 0 (fun _ => none) (l.drop 0) = heldCheck l by unfold heldCheck; rw [if_neg c1]; rfl)
  go_enter Try.func36, Try.ntmps36
  go_wp2
  go_loopg [14] l.length (fun gg v wr => ∃ (j : Nat) (g : Int × Int → Option Int), j + gg = l.length ∧ v = .int .i64 j ∧ Aside0 (heldScan j g (l.drop j) = heldCheck l) ∧ Aside0 (HeldMap wr w.heap.size (3 * j) g) ∧ Aside0 (Below w.heap.size w wr))
  case atStart => exact ⟨0, fun _ => none, by omega, rfl, HC, ⟨mapOf_made w⟩, ⟨below_alloc (Below.refl _ _) _⟩⟩
  case round =>
   clear HC
   obtain ⟨j, g, hj, rfl, HS, HG, HB⟩ := hrel
   by_cases hjl : j < l.length
   ·
    have hs := HS.out
    rw [heldScan_step hjl] at hs
    obtain ⟨ad, hA, hx0, hx1, hx2⟩ := at_T32 HR.out j (by omega) (by omega)
    subst hA
    generalize rd_T32 l j = x at hs hx0 hx1 hx2
    have hy0 := pw_cell_below HB.out hx0
    have hy1 := pw_cell_below HB.out hx1
    have hy2 := pw_cell_below HB.out hx2
    simp only [Int.toNat_natCast] at hy0 hy1 hy2
    clear hx0 hx1 hx2 HS
    have hjb : decide ((j : Int) < (l.length : Int)) = true := decide_eq_true (by omega)
    have hjb' : decide (j < l.length) = true := decide_eq_true hjl
    cases hbad : heldBad x.f0 x.f1 x.f2 with
    | true =>
     rw [hbad, if_pos rfl] at hs
     have HE := Aside0.mk hs
     clear hs
     rcases heldBad_ways hbad with h | ⟨h, h'⟩ | ⟨h, h', h2⟩ | ⟨h, h', h2, h3⟩ | ⟨h, h', h2, h3, h4⟩ | ⟨h, h', h2, h3, h4, h5⟩ <;> clear hbad
     all_goals
      go_wp2
      go_ret3
      exact heldPost_mk HE.out (fun h => by cases h) (below_alloc HB.out _)
    | false =>
     rw [hbad, if_neg (by decide)] at hs
     obtain ⟨⟨b1, b2⟩, ⟨b3, b4⟩, b5, b6⟩ := heldBad_no hbad
     have d1 : decide (x.f0 < 0) = false := decide_eq_false (by omega)
     have d2 : decide (256 ≤ x.f0) = false := decide_eq_false (by omega)
     have d3 : decide (x.f1 < 0) = false := decide_eq_false (by omega)
     have d4 : decide (256 ≤ x.f1) = false := decide_eq_false (by omega)
     have d5 : decide (x.f2 < 0) = false := decide_eq_false (by omega)
     have d6 : decide (8 < x.f2) = false := decide_eq_false (by omega)
     have W0 := Aside0.mk (show (Lit.int .i64 x.f0).wf = true from WalkArith.wf_i64 (by omega))
     have W1 := Aside0.mk (show (Lit.int .i64 x.f1).wf = true from WalkArith.wf_i64 (by omega))
     have W2 := Aside0.mk (show (Lit.int .i64 x.f2).wf = true from WalkArith.wf_i64 (by omega))
     clear hbad
     cases hfree : heldFree g (heldKeys x.f0 x.f1 x.f2) with
     | true =>
      rw [hfree, if_pos rfl] at hs
      have HF := Aside0.mk hfree
      have HS := Aside0.mk hs
      clear hs hfree
      go_wp2_with fail
      refine (index_add.calls w.heap.size (3 * j) g x.f0 x.f1 x.f2 j _ (HG.out.alloc _) (by omega) W0.out W1.out W2.out (WalkArith.wf_i64 (by omega))).mono ?_
      rintro e w5 h5
      unfold AddPost at h5
      rw [HF.out] at h5
      obtain ⟨rfl, hm, hg5⟩ := h5
      have HM := Aside0.mk hm
      have HB5 := Aside0.mk ((below_alloc HB.out _).grown hg5 (by have := HB.out.size; simp; omega) (by intro z hz; cases hz; omega))
      clear hm hg5
      go_wp2
      go_roundg (gk - 1)
      case measure => omega
      case rel => exact ⟨j + 1, _, by omega, by go_num, HS, ⟨HM.out⟩, ⟨HB5.out⟩⟩
     | false =>
      rw [hfree, if_neg (by decide)] at hs
      have HF := Aside0.mk hfree
      have HE := Aside0.mk hs
      clear hs hfree
      go_wp2_with fail
      refine (index_add.calls w.heap.size (3 * j) g x.f0 x.f1 x.f2 j _ (HG.out.alloc _) (by omega) W0.out W1.out W2.out (WalkArith.wf_i64 (by omega))).mono ?_
      rintro e w5 h5
      unfold AddPost at h5
      rw [HF.out] at h5
      obtain ⟨rfl, hm, hg5⟩ := h5
      have HB5 := Aside0.mk ((below_alloc HB.out _).grown hg5 (by have := HB.out.size; simp; omega) (by intro z hz; cases hz; omega))
      clear hm hg5
      go_wp2
      go_ret3
      exact heldPost_mk HE.out (fun h => by cases h) HB5.out
   ·
    have hjb : decide ((j : Int) < (l.length : Int)) = false := decide_eq_false (by omega)
    have hjb' : decide (j < l.length) = false := decide_eq_false hjl
    have hs := HS.out
    rw [List.drop_eq_nil_of_le (by omega)] at hs
    have HE := Aside0.mk (show (0, 0, g) = heldCheck l from hs)
    clear hs HS
    go_wp2
    go_ret3
    exact heldPost_mk HE.out (fun _ => ⟨_, rfl, Nat.le_refl _, HG.out.mono (by omega)⟩) HB.out


end Go.Proofs.Ytfnhoncpaheejaa.X
