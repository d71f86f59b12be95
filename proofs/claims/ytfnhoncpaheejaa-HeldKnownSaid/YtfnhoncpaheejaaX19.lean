/- What Go functions of this seat compute, told as Lean functions, and that each call of the Go code comes to that answer; for a law: its row, for every input. Written by a program of the session. -/
import Derived.Test.YtfnhoncpaheejaaX0
import Derived.Test.YtfnhoncpaheejaaX5
import Derived.Test.YtfnhoncpaheejaaX7
import Derived.Test.YtfnhoncpaheejaaX8
import Derived.Test.YtfnhoncpaheejaaX9
import Derived.Test.YtfnhoncpaheejaaX10
import Derived.Test.YtfnhoncpaheejaaX11
import Derived.Test.YtfnhoncpaheejaaX14
namespace Go.Proofs.Ytfnhoncpaheejaa.X
open Go.RowKit Go.Proofs.YtfnhoncpaheejaaW.PrintWords Go.Proofs.YtfnhoncpaheejaaW.PrintLast Go.Proofs.YtfnhoncpaheejaaW.PrintMore
attribute [local go_sem] max2_int min2_int max_two min_two max_three min_three max_four min_four   -- for this text's walks alone
set_option linter.unusedVariables false
set_option linter.unusedSimpArgs false

/-! ### held_Unclaim: function 15 -/
def heldUnclaim (l : List S32) (proc : Int) : List S32 × Bool × Int :=
 if numsErr (heldCheck l).1 [proc, 1, 9] = 0 then (match (heldCheck l).2.2 (2, proc) with
  | none => (l, false, 0)
  | some i => (heldSet l i.toNat 0, true, 0)) else ([], false, numsErr (heldCheck l).1 [proc, 1, 9])
def held_Unclaim.f (l0 : List S32) (a1 : Int) : Option (List S32 × Bool × Int) := some (heldUnclaim l0 a1)
set_option maxHeartbeats 4000000 in
set_option maxRecDepth 100000 in
theorem held_Unclaim.calls (A0 : Option Addr) (c0 : Nat) (l0 : List S32) (a1 : Int) (r1 : List S32) (r2 : Bool) (r3 : Int) (w : World) (hr0 : Kd.C k32 w A0 l0.length l0) (hc0 : l0.length ≤ c0) (h : held_Unclaim.f l0 a1 = some (r1, r2, r3)) :
  Calls Try.prog 15 #[.slice A0 l0.length c0, .int .i64 a1] w fun e w' => ∃ v0_ : Value, e = .returned (.tuple #[v0_, .bool r2, .int .i64 r3]) ∧ Kd.R k32 32 w' w.heap.size (fun _ => True) v0_ r1 ∧ Below w.heap.size w w' := by
 have huW := Try.underlying32
 have H := Option.some.inj h
 unfold heldUnclaim at H
 clear h
 have HR := Aside0.mk hr0
 clear hr0
 go_enter Try.func15, Try.ntmps15
 go_wp2_with fail
 refine (held_opened.calls A0 c0 l0 _ _ [a1, 1, 9] _ (Kd.C_alloc HR.out _) hc0 (lit_C _ 3 _ (by simp)) (by simp)).mono ?_
 rintro e w1 ⟨⟨m, rfl, hm⟩, hb1⟩
 have HM := Aside0.mk hm
 have HB1 := Aside0.mk (below_then (below_alloc (Below.refl w.heap.size w) _) (by simp) hb1)
 clear hm hb1
 by_cases e0 : numsErr (heldCheck l0).1 [a1, 1, 9] = 0
 case neg =>
  rw [if_neg e0] at H
  generalize numsErr (heldCheck l0).1 [a1, 1, 9] = er at e0 H
  simp only [Prod.mk.injEq] at H
  obtain ⟨rfl, rfl, hr3⟩ := H
  subst hr3
  have H := True.intro
  have eb : (er != 0) = true := bne_iff_ne.mpr e0
  clear H e0
  go_wp2
  go_ret3
  exact ⟨_, rfl, Kd.R_nil _ _ _ _ _, HB1.out⟩
 rw [if_pos e0] at H
 have he := (numsErr_zero e0).1
 have hl := heldCheck_len he
 have hnb := (numsErr_zero e0).2
 obtain ⟨b, rfl, hb, hmap⟩ := HM.out he
 rw [e0]
 have hin := fun x h => heldCheck_in (l := l0) (k := (2, a1)) (x := x) h
 generalize (heldCheck l0).2.2 = g at H hmap hin
 have HMap := Aside0.mk hmap
 have HK := Aside0.mk (show keyOk (2, a1) from ⟨rfl, WalkArith.wf_i64 (by simp [numsBad] at hnb; omega)⟩)
 have HL := Aside0.mk hl
 clear e0 he hnb hmap HM hl
 cases hg : g (2, a1) with
 | none =>
  rw [hg] at H
  simp only [Prod.mk.injEq] at H
  obtain ⟨rfl, rfl, rfl⟩ := H
  have HG := Aside0.mk hg
  clear hg hin
  go_wp2_with fail
  refine (api_WriteView_34.calls _ _ l0 l0 _ (Kd.C_below HR.out HB1.out) hc0 (by unfold api_WriteView_34.f; rw [if_pos (by have := HL.out; omega)])).mono ?_
  rintro e w2 ⟨v0, rfl, ho, hb2⟩
  have HMap2 := Aside0.mk (MapOf.below HMap.out hb2)
  have HB2 := Aside0.mk (below_then HB1.out (by have := HB1.out.size; omega) hb2)
  have HO := Aside0.mk (Kd.R_lower ho (by have := HB1.out.size; omega : w.heap.size ≤ w1.heap.size))
  clear ho hb2
  go_wp2_with (first | (at_lookup; refine wpList_look_ok held_keyBy held_elem rfl _ _ _ rfl Try.underlying52 rfl HMap2.out (2, a1) rfl HK.out ?_; rw [HG.out]; dsimp only [Option.getD, Option.isSome]))
  go_ret3
  exact ⟨_, rfl, HO.out, HB2.out⟩
 | some i =>
  rw [hg] at H
  simp only [Prod.mk.injEq] at H
  obtain ⟨rfl, rfl, rfl⟩ := H
  obtain ⟨hi0, hi1⟩ := hin i hg
  have HG := Aside0.mk hg
  clear hg hin
  have hib : decide (i < (l0.length : Int)) = true := decide_eq_true hi1
  have hib0 : decide (0 ≤ i) = true := decide_eq_true hi0
  go_wp2_with fail
  refine (api_WriteView_34.calls _ _ l0 l0 _ (Kd.C_below HR.out HB1.out) hc0 (by unfold api_WriteView_34.f; rw [if_pos (by have := HL.out; omega)])).mono ?_
  rintro e w2 ⟨v0, rfl, ho, hb2⟩
  have HMap2 := Aside0.mk (MapOf.below HMap.out hb2)
  have HB2 := Aside0.mk (below_then HB1.out (by have := HB1.out.size; omega) hb2)
  have HO := Aside0.mk (Kd.R_lower ho (by have := HB1.out.size; omega : w.heap.size ≤ w1.heap.size))
  clear ho hb2
  obtain ⟨g0, k0, rfl, hg0, hl0, hcl0⟩ := Kd.R_form HO.out (by omega)
  obtain ⟨c, hcs, hcM, hcc, hcf⟩ := Kd.R_elem (g := g0) HO.out z32 i hi0 hi1
  obtain rfl := k32_openM hcM
  have hy := hcc 2 _ rfl
  have hz := hcf 2
  rw [show k32.sz = 3 from rfl] at hy hz
  have HS := Aside0.mk (Kd.R_seg HO.out i hi0 hi1 (seg := [.int .i64 0]) (j := 2) (x' := ⟨(l0.getD i.toNat z32).f0, (l0.getD i.toNat z32).f1, 0⟩) hcs hcc (Nat.le_refl 3) (k32_mkM _ _ (fun k => True ∧ k ≠ g0) ⟨(l0.getD i.toNat z32).f0, (l0.getD i.toNat z32).f1, 0⟩) (fun _ h => h))
  clear hcM hcc hcf hcs hcl0
  go_wp2_with (first | (at_lookup; refine wpList_look_ok held_keyBy held_elem rfl _ _ _ rfl Try.underlying52 rfl HMap2.out (2, a1) rfl HK.out ?_; rw [HG.out]; dsimp only [Option.getD, Option.isSome]))
  go_ret3
  exact ⟨_, rfl, HS.out.1, HB2.out.grown HS.out.2 (by have := HB2.out.size; omega) (by intro z hz; cases hz; omega)⟩


end Go.Proofs.Ytfnhoncpaheejaa.X
