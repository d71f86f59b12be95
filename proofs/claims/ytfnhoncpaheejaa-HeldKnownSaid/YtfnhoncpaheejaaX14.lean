/- What Go functions of this seat compute, told as Lean functions, and that each call of the Go code comes to that answer; for a law: its row, for every input. Written by a program of the session. -/
import Derived.Test.YtfnhoncpaheejaaX0
import Derived.Test.YtfnhoncpaheejaaX5
import Derived.Test.YtfnhoncpaheejaaX6
import Derived.Test.YtfnhoncpaheejaaX7
import Derived.Test.YtfnhoncpaheejaaX8
import Derived.Test.YtfnhoncpaheejaaX10
namespace Go.Proofs.Ytfnhoncpaheejaa.X
open Go.RowKit Go.Proofs.YtfnhoncpaheejaaW.PrintWords Go.Proofs.YtfnhoncpaheejaaW.PrintLast Go.Proofs.YtfnhoncpaheejaaW.PrintMore
attribute [local go_sem] max2_int min2_int max_two min_two max_three min_three max_four min_four   -- for this text's walks alone
set_option linter.unusedVariables false
set_option linter.unusedSimpArgs false

/-! ### held_Add: function 21 -/
def viewCells (x : S32) : List Value := [.int .i64 x.f0, .int .i64 x.f1, .int .i64 x.f2]
def heldAdd (l : List S32) (slot frame : Int) : List S32 × Int :=
 if numsErr (heldCheck l).1 [slot, 0, 256, frame, 0, 256] = 0 then (if heldFree (heldCheck l).2.2 (heldKeys slot frame 0) = true then (if l.length = 16 then ([], 5) else (l ++ [⟨slot, frame, 0⟩], 0)) else ([], 7)) else ([], numsErr (heldCheck l).1 [slot, 0, 256, frame, 0, 256])
def held_Add.f (l0 : List S32) (a1 : Int) (a2 : Int) : Option (List S32 × Int) := some (heldAdd l0 a1 a2)
theorem numsErr_zero {e : Int} {ns : List Int} (h : numsErr e ns = 0) : e = 0 ∧ numsBad ns = false := by
 unfold numsErr at h
 by_cases h0 : e = 0
 ·
  rw [if_pos h0] at h
  cases hb : numsBad ns
  ·
   exact ⟨h0, rfl⟩
  ·
   rw [hb, if_pos rfl] at h; cases h
 ·
  rw [if_neg h0] at h
  exact absurd h h0
theorem heldCheck_len {l : List S32} (h : (heldCheck l).1 = 0) : l.length ≤ 16 := by
 unfold heldCheck at h
 by_cases hc : 16 < l.length
 ·
  rw [if_pos hc] at h; cases h
 ·
  omega
set_option maxHeartbeats 4000000 in
set_option maxRecDepth 100000 in
theorem held_Add.calls (A0 : Option Addr) (c0 : Nat) (l0 : List S32) (a1 : Int) (a2 : Int) (r1 : List S32) (r2 : Int) (w : World) (hr0 : Kd.C k32 w A0 l0.length l0) (hc0 : l0.length ≤ c0) (h : held_Add.f l0 a1 a2 = some (r1, r2)) :
  Calls Try.prog 21 #[.slice A0 l0.length c0, .int .i64 a1, .int .i64 a2] w fun e w' => ∃ v0_ : Value, e = .returned (.tuple #[v0_, .int .i64 r2]) ∧ Kd.R k32 32 w' w.heap.size (fun _ => True) v0_ r1 ∧ Below w.heap.size w w' := by
 have huW := Try.underlying32
 have H := Option.some.inj h
 unfold heldAdd at H
 clear h
 have HR := Aside0.mk hr0
 clear hr0
 go_enter Try.func21, Try.ntmps21
 go_wp2_with fail
 refine (held_opened.calls A0 c0 l0 _ _ [a1, 0, 256, a2, 0, 256] _ (Kd.C_alloc HR.out _) hc0 (lit_C w 3 _ (by simp)) (by simp)).mono ?_
 rintro e w1 ⟨⟨m, rfl, hm⟩, hb1⟩
 have HM := Aside0.mk hm
 have HB1 := Aside0.mk (below_then (below_alloc (Below.refl w.heap.size w) _) (by simp) hb1)
 clear hm hb1
 by_cases e0 : numsErr (heldCheck l0).1 [a1, 0, 256, a2, 0, 256] = 0
 ·
  rw [if_pos e0] at H
  have he := (numsErr_zero e0).1
  have hl := heldCheck_len he
  obtain ⟨b, rfl, hb, hmap⟩ := HM.out he
  have hnb := (numsErr_zero e0).2
  have hb2 : (0 ≤ a1 ∧ a1 < 256) ∧ 0 ≤ a2 ∧ a2 < 256 := by
   simp [numsBad] at hnb
   omega
  rw [e0]
  generalize (heldCheck l0).2.2 = g at H hmap
  have HMap := Aside0.mk hmap
  have HL := Aside0.mk hl
  have W0 := Aside0.mk (show (Lit.int .i64 a1).wf = true from WalkArith.wf_i64 (by omega))
  have W1 := Aside0.mk (show (Lit.int .i64 a2).wf = true from WalkArith.wf_i64 (by omega))
  have W2 := Aside0.mk (show (Lit.int .i64 (l0.length : Int)).wf = true from WalkArith.wf_i64 (by omega))
  have hbs : w.heap.size ≤ b := by simp at hb; omega
  clear e0 he hmap hnb hb2 HM hl hb
  cases hf : heldFree g (heldKeys a1 a2 0) with
  | false =>
   rw [hf, if_neg (by decide)] at H
   obtain ⟨rfl, rfl⟩ := Prod.mk.inj H
   have HF := Aside0.mk hf
   clear hf H
   go_wp2_with fail
   refine (index_add.calls b 48 g a1 a2 0 l0.length _ (HMap.out.alloc _) (by omega) W0.out W1.out (by decide) W2.out).mono ?_
   rintro e w5 h5
   unfold AddPost at h5
   rw [HF.out] at h5
   obtain ⟨rfl, hm, hg5⟩ := h5
   have HB5 := Aside0.mk ((below_alloc HB1.out _).grown hg5 (by have := HB1.out.size; simp; omega) (by intro z hz; cases hz; omega))
   clear hm hg5
   go_wp2
   go_ret2
   exact ⟨_, rfl, Kd.R_nil _ _ _ _ _, HB5.out⟩
  | true =>
   rw [hf, if_pos rfl] at H
   have HF := Aside0.mk hf
   clear hf
   by_cases h16 : l0.length = 16
   ·
    rw [if_pos h16] at H
    obtain ⟨rfl, rfl⟩ := Prod.mk.inj H
    have h16b : ((l0.length : Int) == 16) = true := by rw [h16]; rfl
    have h16c : (l0.length == 16) = true := by rw [h16]; rfl
    clear H h16
    go_wp2_with fail
    refine (index_add.calls b 48 g a1 a2 0 l0.length _ (HMap.out.alloc _) (by omega) W0.out W1.out (by decide) W2.out).mono ?_
    rintro e w5 h5
    unfold AddPost at h5
    rw [HF.out] at h5
    obtain ⟨rfl, hm, hg5⟩ := h5
    have HB5 := Aside0.mk ((below_alloc HB1.out _).grown hg5 (by have := HB1.out.size; simp; omega) (by intro z hz; cases hz; omega))
    clear hm hg5
    go_wp2
    go_ret2
    exact ⟨_, rfl, Kd.R_nil _ _ _ _ _, HB5.out⟩
   ·
    rw [if_neg h16] at H
    obtain ⟨rfl, rfl⟩ := Prod.mk.inj H
    have h16b : ((l0.length : Int) == 16) = false := beq_eq_false_iff_ne.mpr (by omega)
    have h16c : (l0.length == 16) = false := beq_eq_false_iff_ne.mpr h16
    clear H h16
    go_wp2_with fail
    refine (index_add.calls b 48 g a1 a2 0 l0.length _ (HMap.out.alloc _) (by omega) W0.out W1.out (by decide) W2.out).mono ?_
    rintro e w5 h5
    unfold AddPost at h5
    rw [HF.out] at h5
    obtain ⟨rfl, hm, hg5⟩ := h5
    have HB5 := Aside0.mk ((below_alloc HB1.out _).grown hg5 (by have := HB1.out.size; simp; omega) (by intro z hz; cases hz; omega))
    have BX := Aside0.mk (blk_grown (blk_new w1 (.cells #[.int .i64 a1, .int .i64 a2, .int .i64 0] 32)) hg5 (by have := HMap.out.lt; intro e; injection e; omega))
    clear hm hg5
    obtain ⟨i0, hi, hz0, hz1, hz2⟩ := info_parts info32
    go_wp2
    have hx0 := (blk_cell BX.out 0).trans rfl
    have hx1 := (blk_cell BX.out 1).trans rfl
    have hx2 := (blk_cell BX.out 2).trans rfl
    have hcap : (l0.length : Int) ≤ (c0 : Int) := by omega
    have HN := Aside0.mk (show A0 = none → l0.length = 0 ∧ l0.length = 0 from fun e => by
     subst e
     cases hl0 : l0 with
     | nil => exact ⟨rfl, rfl⟩
     | cons x xs =>
      obtain ⟨ad, _, e, _⟩ := Kd.C_get HR.out x 0 (by omega) (by rw [hl0]; simp <;> omega)
      cases e)
    have HO := Aside0.mk (show ∀ W', Below w.heap.size w W' → ∀ b, A0 = some b → ∀ j u, (l0.flatMap viewCells)[j]? = some u → W'.cell? (b.add j) = some u from fun W' hb b e j u hu => by
     have hC := HR.out
     rw [e] at hC
     exact pw_cell_below hb (flat_cells (f := viewCells) (fun _ => rfl) (by decide) (fun _ _ _ h => k32_open h) hC j u hu))
    have HLe := HL.out
    go_region_law (first | (refine step_append_grows rfl (.tmp 42) (.tmp 44) 23 rfl 32 i0 _ 3 24 Try.underlying23 hi hz0 hz1 hz2 rfl (by decide) A0 l0.length l0.length (l0.flatMap viewCells) (by rfl) HN.out (flat_length _ 3 (fun _ => rfl) _) (HO.out _ (by exact below_alloc (below_drew HB5.out) _)) ⟨w5.heap.size, 0, none⟩ 1 1 (viewCells ⟨a1, a2, 0⟩) (by rfl) rfl (World.news_of_block (heap_alloc_new _ _)) (by simp [viewCells, Value.oneCell']) (by omega) (by unfold maxLen; omega) (by omega) ?_; intro v' w6 hown hgrow; have HW := Aside0.mk (show w6.ownsRow _ 32 3 v' (l0 ++ [(⟨a1, a2, 0⟩ : S32)]).length ((l0 ++ [(⟨a1, a2, 0⟩ : S32)]).flatMap viewCells) from by rw [List.flatMap_append, List.length_append]; simpa using hown); have HB6 := Aside0.mk ((below_alloc (below_drew HB5.out) (.cells (viewCells ⟨a1, a2, 0⟩).toArray 32)).grown hgrow (by have := HB5.out.size; simp; omega) (by intro z hz; cases hz)); clear hown hgrow))
    all_goals
     go_wp2
     go_ret2
     exact ⟨_, rfl, Kd.R_lower (flat_own (d := k32) (f := viewCells) (fun _ => rfl) (fun w base ok x => k32_mkM w base ok x) HW.out) (by have := HB5.out.size; simp; omega), HB6.out⟩
 ·
  rw [if_neg e0] at H
  generalize numsErr (heldCheck l0).1 [a1, 0, 256, a2, 0, 256] = er at e0 H
  obtain ⟨rfl, rfl⟩ := Prod.mk.inj H
  have eb : (er != 0) = true := bne_iff_ne.mpr e0
  clear H e0
  go_wp2
  go_ret2
  exact ⟨_, rfl, Kd.R_nil _ _ _ _ _, below_alloc HB1.out _⟩


end Go.Proofs.Ytfnhoncpaheejaa.X
