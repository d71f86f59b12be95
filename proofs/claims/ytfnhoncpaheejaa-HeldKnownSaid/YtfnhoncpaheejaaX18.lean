/- What Go functions of this seat compute, told as Lean functions, and that each call of the Go code comes to that answer; for a law: its row, for every input. Written by a program of the session. -/
import Derived.Test.YtfnhoncpaheejaaX0
import Derived.Test.YtfnhoncpaheejaaX5
import Derived.Test.YtfnhoncpaheejaaX7
import Derived.Test.YtfnhoncpaheejaaX8
import Derived.Test.YtfnhoncpaheejaaX10
import Derived.Test.YtfnhoncpaheejaaX11
import Derived.Test.YtfnhoncpaheejaaX14
namespace Go.Proofs.Ytfnhoncpaheejaa.X
open Go.RowKit Go.Proofs.YtfnhoncpaheejaaW.PrintWords Go.Proofs.YtfnhoncpaheejaaW.PrintLast Go.Proofs.YtfnhoncpaheejaaW.PrintMore
attribute [local go_sem] max2_int min2_int max_two min_two max_three min_three max_four min_four   -- for this text's walks alone
set_option linter.unusedVariables false
set_option linter.unusedSimpArgs false

/-! ### held_Of: function 14 -/
def heldOf (l : List S32) (proc : Int) : Int × Int × Int × Bool × Int :=
 if numsErr (heldCheck l).1 [proc, 1, 9] = 0 then (match (heldCheck l).2.2 (2, proc) with
  | none => (0, 0, 0, false, 0)
  | some i => ((l.getD i.toNat z32).f0, (l.getD i.toNat z32).f1, (l.getD i.toNat z32).f2, true, 0)) else (0, 0, 0, false, numsErr (heldCheck l).1 [proc, 1, 9])
def held_Of.f (l0 : List S32) (a1 : Int) : Option (Int × Int × Int × Bool × Int) := some (heldOf l0 a1)
set_option maxHeartbeats 4000000 in
set_option maxRecDepth 100000 in
theorem held_Of.calls (A0 : Option Addr) (c0 : Nat) (l0 : List S32) (a1 : Int) (r1 r2 r3 : Int) (r4 : Bool) (r5 : Int) (w : World) (hr0 : Kd.C k32 w A0 l0.length l0) (hc0 : l0.length ≤ c0) (h : held_Of.f l0 a1 = some (r1, r2, r3, r4, r5)) :
  Calls Try.prog 14 #[.slice A0 l0.length c0, .int .i64 a1] w fun e w' => e = .returned (.tuple #[.agg #[.int .i64 r1, .int .i64 r2, .int .i64 r3], .bool r4, .int .i64 r5]) ∧ Below w.heap.size w w' := by
 have huW := Try.underlying32
 have H := Option.some.inj h
 unfold heldOf at H
 clear h
 have HR := Aside0.mk hr0
 clear hr0
 go_enter Try.func14, Try.ntmps14
 go_wp2_with fail
 refine (held_opened.calls A0 c0 l0 _ _ [a1, 1, 9] _ (Kd.C_alloc (Kd.C_alloc HR.out _) _) hc0 (lit_Cb _ 3 _ (by simp) _ (by simp)) (by simp)).mono ?_
 rintro e w1 ⟨⟨m, rfl, hm⟩, hb1⟩
 have HM := Aside0.mk hm
 have HB1 := Aside0.mk (below_then (below_alloc (below_alloc (Below.refl w.heap.size w) _) _) (by simp; omega) hb1)
 have hbk : w1.heap[w.heap.size]? = some (.cells #[.int .i64 0, .int .i64 0, .int .i64 0] 32 (0, 0)) := blk_below (blk_alloc (blk_new _ _) _) hb1
 have hx0 := (blk_cell hbk 0).trans rfl
 have hx1 := (blk_cell hbk 1).trans rfl
 have hx2 := (blk_cell hbk 2).trans rfl
 have hf0 := blk_frozen hbk 0
 have hf1 := blk_frozen hbk 1
 have hf2 := blk_frozen hbk 2
 have BK := Aside0.mk hbk
 clear hm hb1 hbk
 by_cases e0 : numsErr (heldCheck l0).1 [a1, 1, 9] = 0
 case neg =>
  rw [if_neg e0] at H
  generalize numsErr (heldCheck l0).1 [a1, 1, 9] = er at e0 H
  simp only [Prod.mk.injEq] at H
  obtain ⟨rfl, rfl, rfl, rfl, hr5⟩ := H
  subst hr5
  have eb : (er != 0) = true := bne_iff_ne.mpr e0
  clear e0
  go_wp2
  refine bodyPost_ret (results_ctt rfl _ _ _ 32 #[.int .i64 0, .int .i64 0, .int .i64 0] (0, 0) _ rfl (blk_put (blk_put (blk_put BK.out 0 _ rfl) 1 _ rfl) 2 _ rfl) Try.underlying32 rfl (by kernel_rfl)) rfl ?_
  exact ⟨rfl, ((HB1.out.setCell (p := ⟨_, 0, none⟩) (Nat.le_refl _) _).setCell (p := ⟨_, 1, none⟩) (Nat.le_refl _) _).setCell (p := ⟨_, 2, none⟩) (Nat.le_refl _) _⟩
 rw [if_pos e0] at H
 have he := (numsErr_zero e0).1
 have hl := heldCheck_len he
 have hnb := (numsErr_zero e0).2
 obtain ⟨b, rfl, hb, hmap⟩ := HM.out he
 rw [e0]
 have hin := fun x h => heldCheck_in (l := l0) (k := (2, a1)) (x := x) h
 generalize (heldCheck l0).2.2 = g at H hmap hin
 have HMap := Aside0.mk hmap
 have HK := Aside0.mk (show keyOk (2, a1) from ⟨rfl, WalkArith.wf_i64 (by simp [numsBad] at hnb; omega)⟩)
 have HL := Aside0.mk hl
 clear e0 he hnb hmap HM hl
 cases hg : g (2, a1) with
 | none =>
  rw [hg] at H
  simp only [Prod.mk.injEq] at H
  obtain ⟨rfl, rfl, rfl, rfl, rfl⟩ := H
  have HG := Aside0.mk hg
  clear hg hin
  go_wp2_with (first | (at_lookup; refine wpList_look_ok held_keyBy held_elem rfl _ _ _ rfl Try.underlying52 rfl HMap.out (2, a1) rfl HK.out ?_; rw [HG.out]; dsimp only [Option.getD, Option.isSome]))
  refine bodyPost_ret (results_ctt rfl _ _ _ 32 #[.int .i64 0, .int .i64 0, .int .i64 0] (0, 0) _ rfl (blk_put (blk_put (blk_put BK.out 0 _ rfl) 1 _ rfl) 2 _ rfl) Try.underlying32 rfl (by kernel_rfl)) rfl ?_
  exact ⟨rfl, ((HB1.out.setCell (p := ⟨_, 0, none⟩) (Nat.le_refl _) _).setCell (p := ⟨_, 1, none⟩) (Nat.le_refl _) _).setCell (p := ⟨_, 2, none⟩) (Nat.le_refl _) _⟩
 | some i =>
  rw [hg] at H
  dsimp only at H
  obtain ⟨hi0, hi1⟩ := hin i hg
  have HG := Aside0.mk hg
  clear hg hin
  obtain ⟨ad, hA, hy0, hy1, hy2⟩ := at_T32 HR.out i hi0 hi1
  subst hA
  replace hy0 := pw_cell_below HB1.out hy0
  replace hy1 := pw_cell_below HB1.out hy1
  replace hy2 := pw_cell_below HB1.out hy2
  have hr : rd_T32 l0 i = l0.getD i.toNat z32 := rfl
  rw [hr] at hy0 hy1 hy2
  clear hr
  generalize l0.getD i.toNat z32 = x at H hy0 hy1 hy2
  simp only [Prod.mk.injEq] at H
  obtain ⟨rfl, rfl, rfl, rfl, rfl⟩ := H
  have hib : decide (i < (l0.length : Int)) = true := decide_eq_true hi1
  have hib0 : decide (0 ≤ i) = true := decide_eq_true hi0
  go_wp2_with (first | (at_lookup; refine wpList_look_ok held_keyBy held_elem rfl _ _ _ rfl Try.underlying52 rfl HMap.out (2, a1) rfl HK.out ?_; rw [HG.out]; dsimp only [Option.getD, Option.isSome]))
  refine bodyPost_ret (results_ctt rfl _ _ _ 32 #[.int .i64 x.f0, .int .i64 x.f1, .int .i64 x.f2] (0, 0) _ rfl (blk_put (blk_put (blk_put BK.out 0 _ rfl) 1 _ rfl) 2 _ rfl) Try.underlying32 rfl (by kernel_rfl)) rfl ?_
  exact ⟨rfl, ((HB1.out.setCell (p := ⟨_, 0, none⟩) (Nat.le_refl _) _).setCell (p := ⟨_, 1, none⟩) (Nat.le_refl _) _).setCell (p := ⟨_, 2, none⟩) (Nat.le_refl _) _⟩


end Go.Proofs.Ytfnhoncpaheejaa.X
