/- What Go functions of this seat compute, told as Lean functions, and that each call of the Go code comes to that answer; for a law: its row, for every input. Written by a program of the session. -/
import Derived.Test.YtfnhoncpaheejaaX0
import Derived.Test.YtfnhoncpaheejaaX5
import Derived.Test.YtfnhoncpaheejaaX7
import Derived.Test.YtfnhoncpaheejaaX8
import Derived.Test.YtfnhoncpaheejaaX10
import Derived.Test.YtfnhoncpaheejaaX14
namespace Go.Proofs.Ytfnhoncpaheejaa.X
open Go.RowKit Go.Proofs.YtfnhoncpaheejaaW.PrintWords Go.Proofs.YtfnhoncpaheejaaW.PrintLast Go.Proofs.YtfnhoncpaheejaaW.PrintMore
attribute [local go_sem] max2_int min2_int max_two min_two max_three min_three max_four min_four   -- for this text's walks alone
set_option linter.unusedVariables false
set_option linter.unusedSimpArgs false

/-! ### held_Find: function 23 -/
def heldFind (l : List S32) (slot : Int) : Int × Int :=
 if numsErr (heldCheck l).1 [slot, 0, 256] = 0 then (if ((heldCheck l).2.2 (0, slot)).isSome = true then (((heldCheck l).2.2 (0, slot)).getD 0, 0) else (0, 6)) else (0, numsErr (heldCheck l).1 [slot, 0, 256])
def held_Find.f (l0 : List S32) (a1 : Int) : Option (Int × Int) := some (heldFind l0 a1)
set_option maxHeartbeats 4000000 in
set_option maxRecDepth 100000 in
theorem held_Find.calls (A0 : Option Addr) (c0 : Nat) (l0 : List S32) (a1 : Int) (r1 : Int) (r2 : Int) (w : World) (hr0 : Kd.C k32 w A0 l0.length l0) (hc0 : l0.length ≤ c0) (h : held_Find.f l0 a1 = some (r1, r2)) :
  Calls Try.prog 23 #[.slice A0 l0.length c0, .int .i64 a1] w fun e w' => e = .returned (.tuple #[.int .i64 r1, .int .i64 r2]) ∧ Below w.heap.size w w' := by
 have H := Option.some.inj h
 unfold heldFind at H
 clear h
 have HR := Aside0.mk hr0
 clear hr0
 go_enter Try.func23, Try.ntmps23
 go_wp2_with fail
 refine (held_opened.calls A0 c0 l0 _ _ [a1, 0, 256] _ (Kd.C_alloc HR.out _) hc0 (lit_C _ 3 _ (by simp)) (by simp)).mono ?_
 rintro e w1 ⟨⟨m, rfl, hm⟩, hb1⟩
 have HM := Aside0.mk hm
 have HB1 := Aside0.mk (below_then (below_alloc (Below.refl w.heap.size w) _) (by simp) hb1)
 clear hm hb1
 by_cases e0 : numsErr (heldCheck l0).1 [a1, 0, 256] = 0
 case neg =>
  rw [if_neg e0] at H
  generalize numsErr (heldCheck l0).1 [a1, 0, 256] = er at e0 H
  obtain ⟨rfl, rfl⟩ := Prod.mk.inj H
  have eb : (er != 0) = true := bne_iff_ne.mpr e0
  clear H e0
  go_wp2
  go_ret2
  exact ⟨rfl, HB1.out⟩
 rw [if_pos e0] at H
 have he := (numsErr_zero e0).1
 have hl := heldCheck_len he
 have hnb := (numsErr_zero e0).2
 obtain ⟨b, rfl, hb, hmap⟩ := HM.out he
 rw [e0]
 generalize (heldCheck l0).2.2 = g at H hmap
 have HMap := Aside0.mk hmap
 have HK := Aside0.mk (show keyOk (0, a1) from ⟨rfl, WalkArith.wf_i64 (by simp [numsBad] at hnb; omega)⟩)
 clear e0 he hnb hmap HM hl
 cases hg : (g (0, a1)).isSome with
 | true =>
  rw [hg, if_pos rfl] at H
  obtain ⟨rfl, rfl⟩ := Prod.mk.inj H
  have HG := Aside0.mk hg
  clear H hg
  go_wp2_with (first | (at_lookup; refine wpList_look_ok held_keyBy held_elem rfl _ _ _ rfl Try.underlying52 rfl HMap.out (0, a1) rfl HK.out ?_; rw [HG.out]))
  go_ret2
  exact ⟨rfl, HB1.out⟩
 | false =>
  rw [hg, if_neg (by decide)] at H
  obtain ⟨rfl, rfl⟩ := Prod.mk.inj H
  have HG := Aside0.mk hg
  clear H hg
  go_wp2_with (first | (at_lookup; refine wpList_look_ok held_keyBy held_elem rfl _ _ _ rfl Try.underlying52 rfl HMap.out (0, a1) rfl HK.out ?_; rw [HG.out]))
  go_ret2
  exact ⟨rfl, HB1.out⟩


end Go.Proofs.Ytfnhoncpaheejaa.X
