/- What Go functions of this seat compute, told as Lean functions, and that each call of the Go code comes to that answer; for a law: its row, for every input. Written by a program of the session. -/
import Derived.Test.YtfnhoncpaheejaaX0
import Derived.Test.YtfnhoncpaheejaaX5
import Derived.Test.YtfnhoncpaheejaaX7
import Derived.Test.YtfnhoncpaheejaaX8
import Derived.Test.YtfnhoncpaheejaaX9
import Derived.Test.YtfnhoncpaheejaaX10
import Derived.Test.YtfnhoncpaheejaaX14
namespace Go.Proofs.Ytfnhoncpaheejaa.X
open Go.RowKit Go.Proofs.YtfnhoncpaheejaaW.PrintWords Go.Proofs.YtfnhoncpaheejaaW.PrintLast Go.Proofs.YtfnhoncpaheejaaW.PrintMore
attribute [local go_sem] max2_int min2_int max_two min_two max_three min_three max_four min_four   -- for this text's walks alone
set_option linter.unusedVariables false
set_option linter.unusedSimpArgs false

/-! ### held_Claim: function 12 -/
def heldSet (l : List S32) (i : Nat) (c : Int) : List S32 := l.set i ⟨(l.getD i z32).f0, (l.getD i z32).f1, c⟩
def heldClaim (l : List S32) (slot proc : Int) : List S32 × Int :=
 if numsErr (heldCheck l).1 [slot, 0, 256, proc, 1, 9] = 0 then (match (heldCheck l).2.2 (0, slot) with
  | none => ([], 6)
  | some i => if (l.getD i.toNat z32).f2 > 0 then ([], 9) else if ((heldCheck l).2.2 (2, proc)).isSome = true then ([], 7) else (heldSet l i.toNat proc, 0)) else ([], numsErr (heldCheck l).1 [slot, 0, 256, proc, 1, 9])
def held_Claim.f (l0 : List S32) (a1 : Int) (a2 : Int) : Option (List S32 × Int) := some (heldClaim l0 a1 a2)
/-- Whatever an index holds of a list that is valid stands in it. -/
theorem heldPut_in {ks : List (Int × Int)} {i : Int} {g : Int × Int → Option Int} {k : Int × Int} {x : Int} (h : heldPut ks i g k = some x) : x = i ∨ g k = some x := by
 induction ks generalizing g with
 | nil => exact .inr h
 | cons q r ih =>
  rcases ih (g := fun p => if p = q then some i else g p) h with e | e
  ·
   exact .inl e
  ·
   by_cases c : k = q
   ·
    simp only [c, if_true] at e
    exact .inl (Option.some.inj e).symm
   ·
    simp only [c, if_false] at e
    exact .inr e
theorem heldScan_in : ∀ (l : List S32) (i : Nat) (g : Int × Int → Option Int) (n : Nat), i + l.length = n → (∀ k x, g k = some x → 0 ≤ x ∧ x < n) → ∀ k x, (heldScan i g l).2.2 k = some x → 0 ≤ x ∧ x < n
 | [], i, g, n, hn, hg => hg
 | y :: ys, i, g, n, hn, hg => by
  intro k x h
  unfold heldScan at h
  by_cases hb : heldBad y.f0 y.f1 y.f2 = true
  ·
   rw [if_pos hb] at h; exact hg k x h
  ·
   rw [if_neg hb] at h
   by_cases hf : heldFree g (heldKeys y.f0 y.f1 y.f2) = true
   ·
    rw [if_pos hf] at h
    simp only [List.length_cons] at hn
    exact heldScan_in ys (i + 1) _ n (by omega) (fun k x h => by
     rcases heldPut_in h with e | e
     ·
      omega
     ·
      exact hg k x e) k x h
   ·
    rw [if_neg hf] at h; exact hg k x h
theorem heldCheck_in {l : List S32} {k : Int × Int} {x : Int} (h : (heldCheck l).2.2 k = some x) : 0 ≤ x ∧ x < l.length := by
 unfold heldCheck at h
 by_cases hc : 16 < l.length
 ·
  rw [if_pos hc] at h; cases h
 ·
  rw [if_neg hc] at h
  exact heldScan_in l 0 _ l.length (by omega) (fun k x h => by cases h) k x h
set_option maxHeartbeats 4000000 in
set_option maxRecDepth 100000 in
theorem held_Claim.calls (A0 : Option Addr) (c0 : Nat) (l0 : List S32) (a1 : Int) (a2 : Int) (r1 : List S32) (r2 : Int) (w : World) (hr0 : Kd.C k32 w A0 l0.length l0) (hc0 : l0.length ≤ c0) (h : held_Claim.f l0 a1 a2 = some (r1, r2)) :
  Calls Try.prog 12 #[.slice A0 l0.length c0, .int .i64 a1, .int .i64 a2] w fun e w' => ∃ v0_ : Value, e = .returned (.tuple #[v0_, .int .i64 r2]) ∧ Kd.R k32 32 w' w.heap.size (fun _ => True) v0_ r1 ∧ Below w.heap.size w w' := by
 have huW := Try.underlying32
 have H := Option.some.inj h
 unfold heldClaim at H
 clear h
 have HR := Aside0.mk hr0
 clear hr0
 go_enter Try.func12, Try.ntmps12
 go_wp2_with fail
 refine (held_opened.calls A0 c0 l0 _ _ [a1, 0, 256, a2, 1, 9] _ (Kd.C_alloc HR.out _) hc0 (lit_C _ 3 _ (by simp)) (by simp)).mono ?_
 rintro e w1 ⟨⟨m, rfl, hm⟩, hb1⟩
 have HM := Aside0.mk hm
 have HB1 := Aside0.mk (below_then (below_alloc (Below.refl w.heap.size w) _) (by simp) hb1)
 clear hm hb1
 by_cases e0 : numsErr (heldCheck l0).1 [a1, 0, 256, a2, 1, 9] = 0
 case neg =>
  rw [if_neg e0] at H
  generalize numsErr (heldCheck l0).1 [a1, 0, 256, a2, 1, 9] = er at e0 H
  obtain ⟨rfl, rfl⟩ := Prod.mk.inj H
  have eb : (er != 0) = true := bne_iff_ne.mpr e0
  clear H e0
  go_wp2
  go_ret2
  exact ⟨_, rfl, Kd.R_nil _ _ _ _ _, HB1.out⟩
 rw [if_pos e0] at H
 have he := (numsErr_zero e0).1
 have hl := heldCheck_len he
 have hnb := (numsErr_zero e0).2
 obtain ⟨b, rfl, hb, hmap⟩ := HM.out he
 rw [e0]
 have hin := fun x h => heldCheck_in (l := l0) (k := (0, a1)) (x := x) h
 generalize (heldCheck l0).2.2 = g at H hmap hin
 have HMap := Aside0.mk hmap
 have hb2 : (0 ≤ a1 ∧ a1 < 256) ∧ 1 ≤ a2 ∧ a2 < 9 := by
  simp [numsBad] at hnb
  omega
 have HK := Aside0.mk (show keyOk (0, a1) from ⟨rfl, WalkArith.wf_i64 (by omega)⟩)
 have HK2 := Aside0.mk (show keyOk (2, a2) from ⟨rfl, WalkArith.wf_i64 (by omega)⟩)
 have HL := Aside0.mk hl
 clear e0 he hnb hmap HM hb2 hl
 have hcw : ∀ x : Int, 0 ≤ x → x < l0.length → ∃ ad, A0 = some ad ∧ w1.cell? ⟨(ad.add (x.toNat * 3)).block, (ad.add (x.toNat * 3)).off + 2, none⟩ = some (.int .i64 (l0.getD x.toNat z32).f2) := fun x h0 h1 => by
  obtain ⟨ad, hA, _, _, hx2⟩ := at_T32 HR.out x h0 h1
  exact ⟨ad, hA, pw_cell_below HB1.out hx2⟩
 cases hg : g (0, a1) with
 | none =>
  rw [hg] at H
  obtain ⟨rfl, rfl⟩ := Prod.mk.inj H
  have HG := Aside0.mk (show (g (0, a1)).isSome = false by rw [hg]; rfl)
  clear H hg hin hcw
  go_wp2_with (first | (at_lookup; refine wpList_look_ok held_keyBy held_elem rfl _ _ _ rfl Try.underlying52 rfl HMap.out (0, a1) rfl HK.out ?_; rw [HG.out]) | (at_lookup; refine wpList_look_ok held_keyBy held_elem rfl _ _ _ rfl Try.underlying52 rfl HMap.out (2, a2) rfl HK2.out ?_))
  go_ret2
  exact ⟨_, rfl, Kd.R_nil _ _ _ _ _, HB1.out⟩
 | some i =>
  rw [hg] at H
  obtain ⟨hi0, hi1⟩ := hin i hg
  have HG := Aside0.mk hg
  obtain ⟨ad, hA, hx2⟩ := hcw i hi0 hi1
  subst hA
  clear hg hin hcw
  dsimp only at H
  have hib : decide (i < (l0.length : Int)) = true := decide_eq_true hi1
  have hib0 : decide (0 ≤ i) = true := decide_eq_true hi0
  by_cases hc : (l0.getD i.toNat z32).f2 > 0
  ·
   rw [if_pos hc] at H
   obtain ⟨rfl, rfl⟩ := Prod.mk.inj H
   have hcb : decide (0 < (l0.getD i.toNat z32).f2) = true := decide_eq_true hc
   generalize (l0.getD i.toNat z32).f2 = cl at hx2 hcb
   clear H hc
   go_wp2_with (first | (at_lookup; refine wpList_look_ok held_keyBy held_elem rfl _ _ _ rfl Try.underlying52 rfl HMap.out (0, a1) rfl HK.out ?_; rw [HG.out]; dsimp only [Option.getD, Option.isSome]) | (at_lookup; refine wpList_look_ok held_keyBy held_elem rfl _ _ _ rfl Try.underlying52 rfl HMap.out (2, a2) rfl HK2.out ?_))
   go_ret2
   exact ⟨_, rfl, Kd.R_nil _ _ _ _ _, HB1.out⟩
  ·
   rw [if_neg hc] at H
   have hcb : decide (0 < (l0.getD i.toNat z32).f2) = false := decide_eq_false hc
   cases hg2 : (g (2, a2)).isSome with
   | true =>
    rw [hg2, if_pos rfl] at H
    obtain ⟨rfl, rfl⟩ := Prod.mk.inj H
    have HG2 := Aside0.mk hg2
    generalize (l0.getD i.toNat z32).f2 = cl at hx2 hcb
    clear H hc hg2
    go_wp2_with (first | (at_lookup; refine wpList_look_ok held_keyBy held_elem rfl _ _ _ rfl Try.underlying52 rfl HMap.out (0, a1) rfl HK.out ?_; rw [HG.out]; dsimp only [Option.getD, Option.isSome]) | (at_lookup; refine wpList_look_ok held_keyBy held_elem rfl _ _ _ rfl Try.underlying52 rfl HMap.out (2, a2) rfl HK2.out ?_; rw [HG2.out]))
    go_ret2
    exact ⟨_, rfl, Kd.R_nil _ _ _ _ _, HB1.out⟩
   | false =>
    rw [hg2, if_neg (by decide)] at H
    obtain ⟨rfl, rfl⟩ := Prod.mk.inj H
    have HG2 := Aside0.mk hg2
    clear H hc hg2
    generalize hcl : (l0.getD i.toNat z32).f2 = cl at hx2 hcb
    go_wp2_with (first | (at_lookup; refine wpList_look_ok held_keyBy held_elem rfl _ _ _ rfl Try.underlying52 rfl HMap.out (0, a1) rfl HK.out ?_; rw [HG.out]; dsimp only [Option.getD, Option.isSome]) | (at_lookup; refine wpList_look_ok held_keyBy held_elem rfl _ _ _ rfl Try.underlying52 rfl HMap.out (2, a2) rfl HK2.out ?_; rw [HG2.out]))
    refine (api_WriteView_34.calls _ _ l0 l0 _ (Kd.C_below HR.out HB1.out) hc0 (by unfold api_WriteView_34.f; rw [if_pos (by have := HL.out; omega)])).mono ?_
    rintro e w2 ⟨v0, rfl, ho, hb2⟩
    have HB2 := Aside0.mk (below_then HB1.out (by have := HB1.out.size; omega) hb2)
    have HO := Aside0.mk (Kd.R_lower ho (by have := HB1.out.size; omega : w.heap.size ≤ w1.heap.size))
    clear ho hb2 hx2
    obtain ⟨g0, k0, rfl, hg0, hl0, hcl0⟩ := Kd.R_form HO.out (by omega)
    obtain ⟨c, hcs, hcM, hcc, hcf⟩ := Kd.R_elem (g := g0) HO.out z32 i hi0 hi1
    obtain rfl := k32_openM hcM
    have hy := hcc 2 _ rfl
    have hz := hcf 2
    rw [show k32.sz = 3 from rfl] at hy hz
    have HS := Aside0.mk (Kd.R_seg HO.out i hi0 hi1 (seg := [.int .i64 a2]) (j := 2) (x' := ⟨(l0.getD i.toNat z32).f0, (l0.getD i.toNat z32).f1, a2⟩) hcs hcc (Nat.le_refl 3) (k32_mkM _ _ (fun k => True ∧ k ≠ g0) ⟨(l0.getD i.toNat z32).f0, (l0.getD i.toNat z32).f1, a2⟩) (fun _ h => h))
    clear hcM hcc hcf hcs hcl0
    go_wp2
    go_ret2
    exact ⟨_, rfl, HS.out.1, HB2.out.grown HS.out.2 (by have := HB2.out.size; omega) (by intro z hz; cases hz; omega)⟩


end Go.Proofs.Ytfnhoncpaheejaa.X
