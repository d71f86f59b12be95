/- What Go functions of this seat compute, told as Lean functions, and that each call of the Go code comes to that answer; for a law: its row, for every input. Written by a program of the session. -/
import Derived.Test.YtfnhoncpaheejaaX0
import Derived.Test.YtfnhoncpaheejaaX7
import Derived.Test.YtfnhoncpaheejaaX8
import Derived.Test.YtfnhoncpaheejaaX11
import Derived.Test.YtfnhoncpaheejaaX14
import Derived.Test.YtfnhoncpaheejaaX21
import Derived.Test.YtfnhoncpaheejaaX23
import Derived.Test.YtfnhoncpaheejaaX24
import Derived.Test.YtfnhoncpaheejaaX25
namespace Go.Proofs.Ytfnhoncpaheejaa.X
open Go.RowKit Go.Proofs.YtfnhoncpaheejaaW.PrintWords Go.Proofs.YtfnhoncpaheejaaW.PrintLast Go.Proofs.YtfnhoncpaheejaaW.PrintMore
attribute [local go_sem] max2_int min2_int max_two min_two max_three min_three max_four min_four   -- for this text's walks alone
set_option linter.unusedVariables false
set_option linter.unusedSimpArgs false

/-! ### held_Remove: function 17 -/
def heldRemove (l : List S32) (slot : Int) : List S32 × Int × Int × Int × Int :=
 if (heldFind l slot).2 = 0 then (l.take (heldFind l slot).1.toNat ++ l.drop ((heldFind l slot).1.toNat + 1), (l.getD (heldFind l slot).1.toNat z32).f0, (l.getD (heldFind l slot).1.toNat z32).f1, (l.getD (heldFind l slot).1.toNat z32).f2, 0) else ([], 0, 0, 0, (heldFind l slot).2)
def held_Remove.f (l0 : List S32) (a1 : Int) : Option (List S32 × Int × Int × Int × Int) := some (heldRemove l0 a1)
theorem heldFind_in {l : List S32} {s : Int} (h : (heldFind l s).2 = 0) : 0 ≤ (heldFind l s).1 ∧ (heldFind l s).1 < l.length ∧ l.length ≤ 16 := by
 unfold heldFind at h ⊢
 by_cases e0 : numsErr (heldCheck l).1 [s, 0, 256] = 0
 ·
  rw [if_pos e0] at h ⊢
  cases hg : (heldCheck l).2.2 (0, s) with
  | none => rw [hg] at h; simp at h
  | some i =>
   obtain ⟨h0, h1⟩ := heldCheck_in hg
   simp only [Option.isSome_some, if_true, Option.getD_some]
   exact ⟨h0, h1, heldCheck_len (numsErr_zero e0).1⟩
 ·
  rw [if_neg e0] at h
  exact absurd h e0
def held_Remove.T4 : Bool × List (List Nat × List Nat) := (true, [([], []), ([], []), ([], []), ([0, 1, 2], [0, 1, 2]), ([], []), ([], []), ([5], [5]), ([4, 6], [4, 6]), ([3, 7], [3, 7]), ([8], [8]), ([], []), ([], []), ([10, 11], [10, 11]), ([12], [12]), ([9, 9, 0, 1, 2, 3, 4, 5, 6, 7, 8, 9], [9]), ([13, 14, 0, 1, 2, 3, 4, 5, 6, 7, 8, 9, 10, 11, 12, 13, 14], [13]), ([15, 0, 1, 2, 3, 4, 5, 6, 7, 8, 9, 10, 11, 12, 13, 14, 15], [])])
def held_Remove.B4 : List Nat := [0, 0, 0, 7, 0, 0, 32, 112, 255, 511, 0, 0, 3072, 7168, 1023, 32767, 65535]
theorem held_Remove.tab4 : rtab .any (opsOf Try.f17 4) = held_Remove.T4 := by kernel_rfl
theorem held_Remove.bits4 : waitsOk held_Remove.T4.2 held_Remove.B4 = true := by kernel_rfl
set_option maxHeartbeats 4000000 in
set_option maxRecDepth 100000 in
theorem held_Remove.calls (A0 : Option Addr) (c0 : Nat) (l0 : List S32) (a1 : Int) (r1 : List S32) (r2 r3 r4 r5 : Int) (w : World) (hr0 : Kd.C k32 w A0 l0.length l0) (hc0 : l0.length ≤ c0) (h : held_Remove.f l0 a1 = some (r1, r2, r3, r4, r5)) :
  Calls Try.prog 17 #[.slice A0 l0.length c0, .int .i64 a1] w fun e w' => ∃ v0_ : Value, e = .returned (.tuple #[v0_, .agg #[.int .i64 r2, .int .i64 r3, .int .i64 r4], .int .i64 r5]) ∧ Kd.R k32 32 w' w.heap.size (fun _ => True) v0_ r1 ∧ Below w.heap.size w w' := by
 have huW := Try.underlying32
 have H := Option.some.inj h
 unfold heldRemove at H
 clear h
 have HR := Aside0.mk hr0
 clear hr0
 go_enter Try.func17, Try.ntmps17
 go_wp2_with fail
 refine (held_Find.calls A0 c0 l0 a1 (heldFind l0 a1).1 (heldFind l0 a1).2 _ (Kd.C_alloc HR.out _) hc0 rfl).mono ?_
 rintro e w1 ⟨rfl, hb1⟩
 have HB1 := Aside0.mk (below_then (below_alloc (Below.refl w.heap.size w) _) (by simp) hb1)
 have hbk : w1.heap[w.heap.size]? = some (.cells #[.int .i64 0, .int .i64 0, .int .i64 0] 32 (0, 0)) := blk_below (blk_new _ _) hb1
 have hx0 := (blk_cell hbk 0).trans rfl
 have hx1 := (blk_cell hbk 1).trans rfl
 have hx2 := (blk_cell hbk 2).trans rfl
 have hf0 := blk_frozen hbk 0
 have hf1 := blk_frozen hbk 1
 have hf2 := blk_frozen hbk 2
 have BK := Aside0.mk hbk
 have HS1 := Aside0.mk (show w.heap.size + 1 ≤ w1.heap.size by have := hb1.size; simpa using this)
 clear hb1 hbk
 by_cases e0 : (heldFind l0 a1).2 = 0
 case neg =>
  rw [if_neg e0] at H
  generalize heldFind l0 a1 = fi at e0 H
  obtain ⟨at_, er⟩ := fi
  simp only [Prod.mk.injEq] at H e0
  obtain ⟨rfl, rfl, rfl, rfl, hr5⟩ := H
  subst hr5
  have eb : (er != 0) = true := bne_iff_ne.mpr e0
  clear e0
  go_wp2
  refine bodyPost_ret (results_list (rs := [.tmp 4, .cell 5 32, .tmp 6]) rfl (by simp) (.tmp (.cell w.heap.size 32 #[.int .i64 0, .int .i64 0, .int .i64 0] (0, 0) _ rfl (blk_put (blk_put (blk_put BK.out 0 _ rfl) 1 _ rfl) 2 _ rfl) Try.underlying32 rfl (by kernel_rfl) (.tmp .nil)))) rfl ?_
  exact ⟨_, rfl, Kd.R_nil _ _ _ _ _, ((HB1.out.setCell (p := ⟨_, 0, none⟩) (Nat.le_refl _) _).setCell (p := ⟨_, 1, none⟩) (Nat.le_refl _) _).setCell (p := ⟨_, 2, none⟩) (Nat.le_refl _) _⟩
 rw [if_pos e0] at H
 obtain ⟨i0, i1, i2⟩ := heldFind_in e0
 generalize heldFind l0 a1 = fi at e0 H i0 i1
 obtain ⟨at_, er⟩ := fi
 simp only at e0 H i0 i1
 subst e0
 obtain ⟨n, rfl⟩ : ∃ n : Nat, at_ = n := ⟨at_.toNat, by omega⟩
 obtain ⟨ad, hA, hy0, hy1, hy2⟩ := at_T32 HR.out n i0 i1
 subst hA
 have hr : rd_T32 l0 (n : Int) = l0.getD n z32 := rfl
 rw [hr] at hy0 hy1 hy2
 simp only [Int.toNat_natCast] at H hy0 hy1 hy2
 clear hr
 have hnl : n < l0.length := by omega
 replace hy0 := pw_cell_below HB1.out hy0
 replace hy1 := pw_cell_below HB1.out hy1
 replace hy2 := pw_cell_below HB1.out hy2
 generalize l0.getD n z32 = x at H hy0 hy1 hy2
 simp only [Prod.mk.injEq] at H
 obtain ⟨rfl, rfl, rfl, rfl, rfl⟩ := H
 have HL := Aside0.mk i2
 have d1 : decide ((n : Int) < (l0.length : Int)) = true := decide_eq_true i1
 have d2 : decide (n < l0.length) = true := decide_eq_true hnl
 have d3 : decide ((n : Int) ≤ (c0 : Int)) = true := decide_eq_true (by omega)
 have d4 : decide (n ≤ c0) = true := decide_eq_true (by omega)
 have u1 : IntKind.i64.wrap ((n : Int) + 1) = (n : Int) + 1 := IntWalk.i64_in _ (by omega)
 have d5 : decide ((n : Int) + 1 ≤ (l0.length : Int)) = true := decide_eq_true (by omega)
 have d6 : decide (n + 1 ≤ l0.length) = true := decide_eq_true (by omega)
 obtain ⟨B1, hB1, hCd⟩ : ∃ B1, (if c0 = n + 1 then some ad else (some ad).map (·.add ((n + 1) * 3))) = B1 ∧ Kd.C k32 w B1 (l0.drop (n + 1)).length (l0.drop (n + 1)) := ⟨_, rfl, Kd.C_drop HR.out (m := n + 1) (by omega) hc0⟩
 have HCd := Aside0.mk (Kd.C_below hCd HB1.out)
 have HCt := Aside0.mk (Kd.C_below (Kd.C_take HR.out (m := n) (by omega)) HB1.out)
 have hrun1 := cutn_at (P := Try.prog) Try.underlying23 (s := 3) (fun W => by kernel_rfl) (some ad) l0.length c0 n (by omega)
 have hrun2 : ∀ W : World, (Instr.slice 23 (.slice (some ad) l0.length c0) (some (.int .i64 ((n : Int) + 1))) none none).run Try.prog W = .ok (.slice B1 (l0.length - (n + 1)) (c0 - (n + 1))) W := fun W => by
  have := cutn_from (P := Try.prog) Try.underlying23 (s := 3) (fun W => by kernel_rfl) (some ad) l0.length c0 (n + 1) (by omega) W
  rw [hB1] at this
  exact this
 have HB1v := Aside0.mk hB1
 clear i2 hCd hB1 d1 d2 d3 d4 d5 d6
 go_wp2
 refine shut_tail 17 15 [19, 20, 21, 22, 23, 24, 25, 26, 27, 28, 29, 30, 31, 32, 4] [litF (.slice (some ad) l0.length c0), litF (.int .i64 n), litF (.int .i64 n), litF (.slice (some ad) n n), litF (.slice (some ad) l0.length c0), litF (.int .i64 n), litF (.int .i64 ((n : Int) + 1)), litF (.slice B1 (l0.length - (n + 1)) (c0 - (n + 1))), rowF (Kd.slice 32 k32) [l0.take n, l0.drop (n + 1)], ownF k32 32 (w.heap.size + 1) (l0.take n ++ l0.drop (n + 1)), litF (.slice (some ad) l0.length c0), litF (.int .i64 n), litF (.pointer (some (ad.add (n * 3)))), litF (.agg #[.int .i64 x.f0, .int .i64 x.f1, .int .i64 x.f2]), ownF k32 32 (w.heap.size + 1) (l0.take n ++ l0.drop (n + 1))] (by kernel_rfl) rfl (by omega) held_Remove.tab4 held_Remove.bits4 (by kernel_rfl) (by kernel_rfl) (by kernel_rfl) rfl (by kernel_rfl) (by kernel_rfl) ?_ ?_
 ·
  rw [show List.range 15 = [0, 1, 2, 3, 4, 5, 6, 7, 8, 9, 10, 11, 12, 13, 14] from rfl]
  refine opLaws_cons ?_ ?_
  ·
   intro a w' hB hoff hon
   refine ⟨_, rfl, fun K hK => ?_⟩
   have e0 : a.tmps[0]? = some (.slice (some ad) l0.length c0) := (hoff 0 (by kernel_rfl)).trans rfl
   refine value_ (w1 := w') (v := .slice (some ad) l0.length c0) (by rfl) rfl ?_ ?_
   ·
    go_simp; try rfl
   exact hK.out _ _ _ rfl rfl (Below.refl _ _)
  refine opLaws_cons ?_ ?_
  ·
   intro a w' hB hoff hon
   refine ⟨_, rfl, fun K hK => ?_⟩
   have e7 : a.tmps[7]? = some (.int .i64 n) := (hoff 7 (by kernel_rfl)).trans rfl
   refine value_ (w1 := w') (v := .int .i64 n) (by rfl) rfl ?_ ?_
   ·
    go_simp; try rfl
   exact hK.out _ _ _ rfl rfl (Below.refl _ _)
  refine opLaws_cons ?_ ?_
  ·
   intro a w' hB hoff hon
   refine ⟨_, rfl, fun K hK => ?_⟩
   have e7 : a.tmps[7]? = some (.int .i64 n) := (hoff 7 (by kernel_rfl)).trans rfl
   refine value_ (w1 := w') (v := .int .i64 n) (by rfl) rfl ?_ ?_
   ·
    go_simp; try rfl
   exact hK.out _ _ _ rfl rfl (Below.refl _ _)
  refine opLaws_cons ?_ ?_
  ·
   intro a w' hB hoff hon
   refine ⟨_, rfl, fun K hK => ?_⟩
   obtain ⟨x19, e19, f19⟩ := hon 0 19 _ (by kernel_rfl) rfl rfl
   replace f19 : x19 = .slice (some ad) l0.length c0 := f19
   subst f19
   obtain ⟨x20, e20, f20⟩ := hon 1 20 _ (by kernel_rfl) rfl rfl
   replace f20 : x20 = .int .i64 n := f20
   subst f20
   obtain ⟨x21, e21, f21⟩ := hon 2 21 _ (by kernel_rfl) rfl rfl
   replace f21 : x21 = .int .i64 n := f21
   subst f21
   refine value_ (w1 := w') (v := .slice (some ad) n n) (by rfl) rfl ?_ ?_
   ·
    go_simp; try rfl
   exact hK.out _ _ _ rfl rfl (Below.refl _ _)
  refine opLaws_cons ?_ ?_
  ·
   intro a w' hB hoff hon
   refine ⟨_, rfl, fun K hK => ?_⟩
   have e0 : a.tmps[0]? = some (.slice (some ad) l0.length c0) := (hoff 0 (by kernel_rfl)).trans rfl
   refine value_ (w1 := w') (v := .slice (some ad) l0.length c0) (by rfl) rfl ?_ ?_
   ·
    go_simp; try rfl
   exact hK.out _ _ _ rfl rfl (Below.refl _ _)
  refine opLaws_cons ?_ ?_
  ·
   intro a w' hB hoff hon
   refine ⟨_, rfl, fun K hK => ?_⟩
   have e7 : a.tmps[7]? = some (.int .i64 n) := (hoff 7 (by kernel_rfl)).trans rfl
   refine value_ (w1 := w') (v := .int .i64 n) (by rfl) rfl ?_ ?_
   ·
    go_simp; try rfl
   exact hK.out _ _ _ rfl rfl (Below.refl _ _)
  refine opLaws_cons ?_ ?_
  ·
   intro a w' hB hoff hon
   refine ⟨_, rfl, fun K hK => ?_⟩
   obtain ⟨x24, e24, f24⟩ := hon 5 24 _ (by kernel_rfl) rfl rfl
   replace f24 : x24 = .int .i64 n := f24
   subst f24
   refine value_ (w1 := w') (v := .int .i64 ((n : Int) + 1)) (by rfl) rfl ?_ ?_
   ·
    go_simp; try rfl
   exact hK.out _ _ _ rfl rfl (Below.refl _ _)
  refine opLaws_cons ?_ ?_
  ·
   intro a w' hB hoff hon
   refine ⟨_, rfl, fun K hK => ?_⟩
   obtain ⟨x23, e23, f23⟩ := hon 4 23 _ (by kernel_rfl) rfl rfl
   replace f23 : x23 = .slice (some ad) l0.length c0 := f23
   subst f23
   obtain ⟨x25, e25, f25⟩ := hon 6 25 _ (by kernel_rfl) rfl rfl
   replace f25 : x25 = .int .i64 ((n : Int) + 1) := f25
   subst f25
   refine value_ (w1 := w') (v := .slice B1 (l0.length - (n + 1)) (c0 - (n + 1))) (by rfl) rfl ?_ ?_
   ·
    go_simp; try rfl
   exact hK.out _ _ _ rfl rfl (Below.refl _ _)
  refine opLaws_cons ?_ ?_
  ·
   intro a w' hB hoff hon
   refine ⟨_, rfl, fun K hK => ?_⟩
   obtain ⟨x22, e22, f22⟩ := hon 3 22 _ (by kernel_rfl) rfl rfl
   replace f22 : x22 = .slice (some ad) n n := f22
   subst f22
   obtain ⟨x26, e26, f26⟩ := hon 7 26 _ (by kernel_rfl) rfl rfl
   replace f26 : x26 = .slice B1 (l0.length - (n + 1)) (c0 - (n + 1)) := f26
   subst f26
   refine value_ (w1 := w'.alloc (.cells #[.slice (some ad) n n, .slice B1 (l0.length - (n + 1)) (c0 - (n + 1))] 23)) (v := .slice (some ⟨w'.heap.size, 0, none⟩) 2 2) (by rfl) rfl ?_ ?_
   ·
    go_simp; try rfl
   exact hK.out _ _ _ rfl ⟨_, 2, rfl, by simp, rows_mk (blk_new _ _) rfl (by simp) (fun i hi => by
   rcases i with _ | _ | i
   ·
    exact ⟨some ad, n, by simp; omega, by simp; omega, Kd.C_below (HCt.out) (below_alloc hB _)⟩
   ·
    exact ⟨B1, c0 - (n + 1), by simp, by simp; omega, Kd.C_below (HCd.out) (below_alloc hB _)⟩
   ·
    simp at hi; omega) rfl⟩ (below_alloc (Below.refl _ _) _)
  refine opLaws_cons ?_ ?_
  ·
   intro a w' hB hoff hon
   refine ⟨_, rfl, fun K hK => ?_⟩
   obtain ⟨x27, e27, f27⟩ := hon 8 27 _ (by kernel_rfl) rfl rfl
   obtain ⟨A27, c27, rfl, l27, h27⟩ := f27
   refine goes_ Try.func35 (by kernel_rfl) rfl #[.slice A27 [l0.take n, l0.drop (n + 1)].length c27] (by rfl) rfl rfl (by first | (simp only [List.map_toArray, List.map_cons, List.map_nil, Act.eval, Array.getD_eq_getD_getElem?, Option.getD_some, e27]; done) | (simp only [List.map_toArray, List.map_cons, List.map_nil, Act.eval, Array.getD_eq_getD_getElem?, Option.getD_some, e27]; rfl) | rfl) ?_
   refine (api_WriteView_35.calls A27 c27 [l0.take n, l0.drop (n + 1)] _ w' h27 l27 (by unfold api_WriteView_35.f; rw [if_pos (by have := HL.out; simp [catLen]; omega)])).mono ?_
   rintro e w2 ⟨v, rfl, ho, hb⟩
   exact ⟨_, rfl, hK.out _ _ _ rfl (by have h2 := Kd.R_lower ho (show w.heap.size + 1 ≤ w'.heap.size from Nat.le_trans HS1.out hB.size); simpa [ownF] using h2) hb⟩
  refine opLaws_cons ?_ ?_
  ·
   intro a w' hB hoff hon
   refine ⟨_, rfl, fun K hK => ?_⟩
   have e0 : a.tmps[0]? = some (.slice (some ad) l0.length c0) := (hoff 0 (by kernel_rfl)).trans rfl
   refine value_ (w1 := w') (v := .slice (some ad) l0.length c0) (by rfl) rfl ?_ ?_
   ·
    go_simp; try rfl
   exact hK.out _ _ _ rfl rfl (Below.refl _ _)
  refine opLaws_cons ?_ ?_
  ·
   intro a w' hB hoff hon
   refine ⟨_, rfl, fun K hK => ?_⟩
   have e7 : a.tmps[7]? = some (.int .i64 n) := (hoff 7 (by kernel_rfl)).trans rfl
   refine value_ (w1 := w') (v := .int .i64 n) (by rfl) rfl ?_ ?_
   ·
    go_simp; try rfl
   exact hK.out _ _ _ rfl rfl (Below.refl _ _)
  refine opLaws_cons ?_ ?_
  ·
   intro a w' hB hoff hon
   refine ⟨_, rfl, fun K hK => ?_⟩
   obtain ⟨x29, e29, f29⟩ := hon 10 29 _ (by kernel_rfl) rfl rfl
   replace f29 : x29 = .slice (some ad) l0.length c0 := f29
   subst f29
   obtain ⟨x30, e30, f30⟩ := hon 11 30 _ (by kernel_rfl) rfl rfl
   replace f30 : x30 = .int .i64 n := f30
   subst f30
   refine value_ (w1 := w') (v := .pointer (some (ad.add (n * 3)))) (by rfl) rfl ?_ ?_
   ·
    go_simp; try rfl
   exact hK.out _ _ _ rfl rfl (Below.refl _ _)
  refine opLaws_cons ?_ ?_
  ·
   intro a w' hB hoff hon
   refine ⟨_, rfl, fun K hK => ?_⟩
   obtain ⟨x31, e31, f31⟩ := hon 12 31 _ (by kernel_rfl) rfl rfl
   replace f31 : x31 = .pointer (some (ad.add (n * 3))) := f31
   subst f31
   have z0 := pw_cell_below hB hy0
   have z1 := pw_cell_below hB hy1
   have z2 := pw_cell_below hB hy2
   refine value_ (w1 := w') (v := .agg #[.int .i64 x.f0, .int .i64 x.f1, .int .i64 x.f2]) (by rfl) rfl ?_ ?_
   ·
    go_simp; try rfl
   exact hK.out _ _ _ rfl rfl (Below.refl _ _)
  refine opLaws_cons ?_ ?_
  ·
   intro a w' hB hoff hon
   refine ⟨_, rfl, fun K hK => ?_⟩
   obtain ⟨x28, e28, f28⟩ := hon 9 28 _ (by kernel_rfl) rfl rfl
   have h28 := f28
   refine value_ (w1 := w') (v := x28) (by rfl) rfl ?_ ?_
   ·
    go_simp; try rfl
   exact hK.out _ _ _ rfl h28 (Below.refl _ _)
  exact opLaws_nil
 intro vals w2 hb hv
 have hR : Kd.R k32 32 w2 (w.heap.size + 1) (fun _ => True) (vals 14) (l0.take n ++ l0.drop (n + 1)) := hv 14 _ rfl
 have q13 : vals 13 = .agg #[.int .i64 x.f0, .int .i64 x.f1, .int .i64 x.f2] := hv 13 _ rfl
 have hbk2 := blk_below BK.out hb
 have hx0 := (blk_cell hbk2 0).trans rfl
 have hx1 := (blk_cell hbk2 1).trans rfl
 have hx2 := (blk_cell hbk2 2).trans rfl
 have hf0 := blk_frozen hbk2 0
 have hf1 := blk_frozen hbk2 1
 have hf2 := blk_frozen hbk2 2
 have HB2 := Aside0.mk (below_then HB1.out HB1.out.size hb)
 replace BK := Aside0.mk hbk2
 simp only [selOf, List.zipIdx_cons, List.zipIdx_nil, List.map_cons, List.map_nil, Nat.zero_add, Nat.reduceAdd, putSel, if_true, Act.put, List.setIfInBounds_toArray, List.set_cons_zero, List.set_cons_succ, q13]
 generalize vals 14 = v14 at hR ⊢
 have HR2 := Aside0.mk hR
 clear hv q13 hR hb hbk2
 show tailOk _ _ _ [_, _] _ _
 refine tail_skip rfl rfl (w1 := ((w2.setCell ⟨w.heap.size, 0, none⟩ (.int .i64 x.f0)).setCell ⟨w.heap.size, 1, none⟩ (.int .i64 x.f1)).setCell ⟨w.heap.size, 2, none⟩ (.int .i64 x.f2)) (by go_simp; try rfl) ?_
 refine tail_value rfl rfl (v := .int .i64 0) (by go_simp; try rfl) rfl ?_
 refine tail_nil ?_
 go_wp2
 refine bodyPost_ret (results_list (rs := [.tmp 4, .cell 5 32, .tmp 6]) rfl (by simp) (.tmp (.cell w.heap.size 32 #[.int .i64 x.f0, .int .i64 x.f1, .int .i64 x.f2] (0, 0) _ rfl (blk_put (blk_put (blk_put BK.out 0 _ rfl) 1 _ rfl) 2 _ rfl) Try.underlying32 rfl (by kernel_rfl) (.tmp .nil)))) rfl ?_
 exact ⟨_, rfl, Kd.R_lower (R_past (R_past (R_past HR2.out 0 _) 1 _) 2 _) (by omega), ((HB2.out.setCell (p := ⟨_, 0, none⟩) (Nat.le_refl _) _).setCell (p := ⟨_, 1, none⟩) (Nat.le_refl _) _).setCell (p := ⟨_, 2, none⟩) (Nat.le_refl _) _⟩


end Go.Proofs.Ytfnhoncpaheejaa.X
