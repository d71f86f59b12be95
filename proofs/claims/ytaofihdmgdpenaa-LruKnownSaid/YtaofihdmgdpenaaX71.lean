/- What Go functions of this seat compute, told as Lean functions, and that each call of the Go code comes to that answer; for a law: its row, for every input. Written by a program of the session. -/
import Derived.Test.YtaofihdmgdpenaaX71D
import Derived.Test.YtaofihdmgdpenaaX0
import Derived.Test.YtaofihdmgdpenaaX10
import Derived.Test.YtaofihdmgdpenaaX17
import Derived.Test.YtaofihdmgdpenaaX23
import Derived.Test.YtaofihdmgdpenaaX35
import Derived.Test.YtaofihdmgdpenaaX40
import Derived.Test.YtaofihdmgdpenaaX47
import Derived.Test.YtaofihdmgdpenaaX12
namespace Go.Proofs.Ytaofihdmgdpenaa.X
open Go.RowKit Go.Proofs.YtaofihdmgdpenaaW.PrintWords Go.Proofs.YtaofihdmgdpenaaW.PrintLast Go.Proofs.YtaofihdmgdpenaaW.PrintMore
attribute [local go_sem] max2_int min2_int max_two min_two max_three min_three max_four min_four   -- for this text's walks alone
set_option linter.unusedVariables false
set_option linter.unusedSimpArgs false


set_option maxHeartbeats 4000000 in
set_option maxRecDepth 100000 in
theorem headgatelaw07_LruKnown.calls (r : Bool) (w : World) (h : headgatelaw07_LruKnown.f = some r) :
  Calls Try.prog 9 #[] w fun e w' => e = .returned (.bool r) ∧ Below w.heap.size w w' := by
 obtain rfl := Option.some.inj h
 have HB := Aside0.mk (Below.refl w.heap.size w)
 have hu25 := Try.underlying25
 go_enter Try.func9, Try.ntmps9
 go_wp2_with fail
 refine (headgatelaw07_lists.calls 60 (fun _ => True) _ _ ([3, 2, 1] : List Int) (fun _ => True) _ _ ([] : List Int) _ _ ([1] : List Int) ([3, 2, 1] : List Int) ([] : List Int) ([false, true, false, false, false, false, false, false] : List Bool) _ ?s0 ?s1 ?s2 ?t2 (by first | decide +kernel | kernel_rfl)).mono ?_
 case s0 => exact Kd.V_mono (Kd.V_mk (Nat.le_refl _) (Kd.C_F (Kd.heap_int .i64) (by repeat (first | exact lit_Cb _ _ _ (by simp) _ (by simp) | (with_reducible refine Kd.C_alloc ?_ _) | (with_reducible refine Kd.C_drewN ?_ _) | (with_reducible refine Kd.C_drew ?_))))) (fun _ _ => trivial)
 case s1 => exact Kd.V_mono (Kd.V_mk (c := 0) (Nat.zero_le _) (Kd.C_F (Kd.heap_int .i64) (Kd.C_nil _ _))) (fun _ _ => trivial)
 case s2 => repeat (first | exact lit_Cb _ _ _ (by simp) _ (by simp) | (with_reducible refine Kd.C_alloc ?_ _) | (with_reducible refine Kd.C_drewN ?_ _) | (with_reducible refine Kd.C_drew ?_))
 case t2 => exact Nat.le_refl _
 rintro e w1 ⟨v3, v4, v5, rfl, ho3, ho4, ho5, hb⟩
 replace HB := Aside0.mk (below_step (upH HB) hb)
 obtain ⟨A3, c3, rfl, l3, h3⟩ : IsRow (Kd.int .i64) ([3, 2, 1] : List Int) v3 w1 := by first | exact IsRow.of ho3 | exact IsRow.ofV ho3
 have H3 := Aside0.mk h3
 clear h3 ho3
 obtain ⟨A4, c4, rfl, l4, h4⟩ : IsRow (Kd.int .i64) ([] : List Int) v4 w1 := by first | exact IsRow.of ho4 | exact IsRow.ofV ho4
 have H4 := Aside0.mk h4
 clear h4 ho4
 obtain ⟨A5, c5, rfl, l5, h5⟩ : IsRow Kd.bool ([false, true, false, false, false, false, false, false] : List Bool) v5 w1 := by first | exact IsRow.of ho5 | exact IsRow.ofV ho5
 have H5 := Aside0.mk h5
 clear h5 ho5
 clear hb
 go_wp2_with fail
 refine (lru_Demote.calls _ _ ([3, 2, 1] : List Int) _ _ ([] : List Int) _ _ ([false, true, false, false, false, false, false, false] : List Bool) ([3, 2] : List Int) ([1] : List Int) ([false, false, false, false, false, false, false, false] : List Bool) 1 0 _ ?s0 ?t0 ?s1 ?t1 ?s2 ?t2 (by first | decide +kernel | kernel_rfl)).mono ?_
 case s0 => repeat (first | exact H3.out | (with_reducible refine Kd.C_alloc ?_ _) | (with_reducible refine Kd.C_drewN ?_ _) | (with_reducible refine Kd.C_drew ?_))
 case t0 => exact l3
 case s1 => repeat (first | exact H4.out | (with_reducible refine Kd.C_alloc ?_ _) | (with_reducible refine Kd.C_drewN ?_ _) | (with_reducible refine Kd.C_drew ?_))
 case t1 => exact l4
 case s2 => repeat (first | exact H5.out | (with_reducible refine Kd.C_alloc ?_ _) | (with_reducible refine Kd.C_drewN ?_ _) | (with_reducible refine Kd.C_drew ?_))
 case t2 => exact l5
 rintro e w2 ⟨v6, v7, v8, rfl, ho6, ho7, ho8, hb⟩
 clear H3
 clear H4
 clear H5
 replace HB := Aside0.mk (below_step (upH HB) hb)
 obtain ⟨A6, c6, rfl, l6, h6⟩ := IsRow.of ho6
 have HO6 := Aside0.mk ho6
 have H6 := Aside0.mk h6
 clear h6 ho6
 obtain ⟨A7, c7, rfl, l7, h7⟩ := IsRow.of ho7
 have HO7 := Aside0.mk ho7
 have H7 := Aside0.mk h7
 clear h7 ho7
 obtain ⟨A8, c8, rfl, l8, h8⟩ := IsRow.of ho8
 have HO8 := Aside0.mk ho8
 have H8 := Aside0.mk h8
 clear h8 ho8
 clear hb
 go_wp2_with fail
 refine (lru_Demote.calls _ _ ([3, 2] : List Int) _ _ ([1] : List Int) _ _ ([false, false, false, false, false, false, false, false] : List Bool) ([3] : List Int) ([2, 1] : List Int) ([false, false, false, false, false, false, false, false] : List Bool) 2 0 _ ?s0 ?t0 ?s1 ?t1 ?s2 ?t2 (by first | decide +kernel | kernel_rfl)).mono ?_
 case s0 => repeat (first | exact H6.out | (with_reducible refine Kd.C_alloc ?_ _) | (with_reducible refine Kd.C_drewN ?_ _) | (with_reducible refine Kd.C_drew ?_))
 case t0 => exact l6
 case s1 => repeat (first | exact H7.out | (with_reducible refine Kd.C_alloc ?_ _) | (with_reducible refine Kd.C_drewN ?_ _) | (with_reducible refine Kd.C_drew ?_))
 case t1 => exact l7
 case s2 => repeat (first | exact H8.out | (with_reducible refine Kd.C_alloc ?_ _) | (with_reducible refine Kd.C_drewN ?_ _) | (with_reducible refine Kd.C_drew ?_))
 case t2 => exact l8
 rintro e w3 ⟨v10, v11, v12, rfl, ho10, ho11, ho12, hb⟩
 replace H6 : Aside0 (Kd.C (Kd.int .i64) w3 A6 ([3, 2] : List Int).length ([3, 2] : List Int)) := ⟨Kd.C_below (by repeat (first | exact H6.out | (with_reducible refine Kd.C_alloc ?_ _) | (with_reducible refine Kd.C_drewN ?_ _) | (with_reducible refine Kd.C_drew ?_))) hb⟩
 replace H7 : Aside0 (Kd.C (Kd.int .i64) w3 A7 ([1] : List Int).length ([1] : List Int)) := ⟨Kd.C_below (by repeat (first | exact H7.out | (with_reducible refine Kd.C_alloc ?_ _) | (with_reducible refine Kd.C_drewN ?_ _) | (with_reducible refine Kd.C_drew ?_))) hb⟩
 replace H8 : Aside0 (Kd.C Kd.bool w3 A8 ([false, false, false, false, false, false, false, false] : List Bool).length ([false, false, false, false, false, false, false, false] : List Bool)) := ⟨Kd.C_below (by repeat (first | exact H8.out | (with_reducible refine Kd.C_alloc ?_ _) | (with_reducible refine Kd.C_drewN ?_ _) | (with_reducible refine Kd.C_drew ?_))) hb⟩
 have BK9 : Aside0 (w3.heap[w2.heap.size]? = some (.cells #[.slice A6 ([3, 2] : List Int).length c6, .slice A7 ([1] : List Int).length c7, .slice A8 ([false, false, false, false, false, false, false, false] : List Bool).length c8] 25 (0, 0))) := ⟨blk_below (by repeat (first | exact blk_newb _ _ _ (by simp) | refine blk_alloc ?_ _)) hb⟩
 replace HB := Aside0.mk (below_step (upH HB) hb)
 obtain ⟨A10, c10, rfl, l10, h10⟩ := IsRow.of ho10
 have HO10 := Aside0.mk ho10
 have H10 := Aside0.mk h10
 clear h10 ho10
 obtain ⟨A11, c11, rfl, l11, h11⟩ := IsRow.of ho11
 have HO11 := Aside0.mk ho11
 have H11 := Aside0.mk h11
 clear h11 ho11
 obtain ⟨A12, c12, rfl, l12, h12⟩ := IsRow.of ho12
 have HO12 := Aside0.mk ho12
 have H12 := Aside0.mk h12
 clear h12 ho12
 clear hb
 go_wp2_with fail
 have BK13 := Aside0.mk (blk_newb w3 (.cells #[.slice A10 ([3] : List Int).length c10, .slice A11 ([2, 1] : List Int).length c11, .slice A12 ([false, false, false, false, false, false, false, false] : List Bool).length c12] 25) (w3.heap.size) (by simp))
 refine shut_code 24 [33, 34, 35, 36, 37, 38, 39, 40, 41, 42, 43, 44, 45, 46, 47, 48, 49, 50, 51, 52, 53, 54, 55, 56] [litF (.int .i64 1), litF (.bool false), litF (.bool false), litF (.int .i64 2), litF (.bool false), litF (.bool false), litF (.bool false), aggF [rowF (Kd.int .i64) ([3, 2] : List Int), rowF (Kd.int .i64) ([1] : List Int), rowF Kd.bool ([false, false, false, false, false, false, false, false] : List Bool)], rowF (Kd.int .i64) ([3, 2] : List Int), rowF (Kd.int .i64) ([1] : List Int), aggF [rowF (Kd.int .i64) ([3, 2] : List Int), rowF (Kd.int .i64) ([1] : List Int), rowF Kd.bool ([false, false, false, false, false, false, false, false] : List Bool)], litF (.int .i64 0), litF (.bool true), litF (.bool false), litF (.bool false), litF (.bool false), aggF [rowF (Kd.int .i64) ([3] : List Int), rowF (Kd.int .i64) ([2, 1] : List Int), rowF Kd.bool ([false, false, false, false, false, false, false, false] : List Bool)], rowF (Kd.int .i64) ([3] : List Int), rowF (Kd.int .i64) ([2, 1] : List Int), aggF [rowF (Kd.int .i64) ([3] : List Int), rowF (Kd.int .i64) ([2, 1] : List Int), rowF Kd.bool ([false, false, false, false, false, false, false, false] : List Bool)], litF (.int .i64 0), litF (.bool true), litF (.bool false), litF (.bool false)] (by kernel_rfl) rfl headgatelaw07_LruKnown.tab3 headgatelaw07_LruKnown.bits3 (by kernel_rfl) (by kernel_rfl) (by kernel_rfl) rfl (by kernel_rfl) ?_ ?_
 · as_aux_lemma =>
  rw [show List.range 24 = [0, 1, 2, 3, 4, 5, 6, 7, 8, 9, 10, 11, 12, 13, 14, 15, 16, 17, 18, 19, 20, 21, 22, 23] from rfl]
  refine opLaws_cons ?_ ?_
  ·
   intro a w' hB hoff hon
   refine ⟨_, rfl, fun K hK => ?_⟩
   have e2 : a.tmps[2]? = some (.int .i64 1) := (hoff 2 (by kernel_rfl)).trans rfl
   refine value_ (w1 := w') (v := .int .i64 1) (by rfl) rfl ?_ ?_
   ·
    go_simp; try rfl
   exact hK.out _ _ _ rfl rfl (Below.refl _ _)
  refine opLaws_cons ?_ ?_
  ·
   intro a w' hB hoff hon
   refine ⟨_, rfl, fun K hK => ?_⟩
   obtain ⟨x33, e33, f33⟩ := hon 0 33 _ (by kernel_rfl) rfl rfl
   replace f33 : x33 = .int .i64 1 := f33
   subst f33
   refine value_ (w1 := w') (v := .bool false) (by rfl) rfl ?_ ?_
   ·
    go_simp; try rfl
   exact hK.out _ _ _ rfl rfl (Below.refl _ _)
  refine opLaws_cons ?_ ?_
  ·
   intro a w' hB hoff hon
   refine ⟨_, rfl, fun K hK => ?_⟩
   obtain ⟨x34, e34, f34⟩ := hon 1 34 _ (by kernel_rfl) rfl rfl
   replace f34 : x34 = .bool false := f34
   subst f34
   refine value_ (w1 := w') (v := .bool false) (by rfl) rfl ?_ ?_
   ·
    go_simp; try rfl
   exact hK.out _ _ _ rfl rfl (Below.refl _ _)
  refine opLaws_cons ?_ ?_
  ·
   intro a w' hB hoff hon
   refine ⟨_, rfl, fun K hK => ?_⟩
   have e5 : a.tmps[5]? = some (.int .i64 2) := (hoff 5 (by kernel_rfl)).trans rfl
   obtain ⟨x35, e35, f35⟩ := hon 2 35 _ (by kernel_rfl) rfl rfl
   replace f35 : x35 = .bool false := f35
   subst f35
   refine value_ (w1 := w') (v := .int .i64 2) (wanted_on rfl rfl rfl e35) rfl ?_ ?_
   ·
    go_simp; try rfl
   exact hK.out _ _ _ rfl rfl (Below.refl _ _)
  refine opLaws_cons ?_ ?_
  ·
   intro a w' hB hoff hon
   refine ⟨_, rfl, fun K hK => ?_⟩
   obtain ⟨x36, e36, f36⟩ := hon 3 36 _ (by kernel_rfl) rfl rfl
   replace f36 : x36 = .int .i64 2 := f36
   subst f36
   obtain ⟨x35, e35, f35⟩ := hon 2 35 _ (by kernel_rfl) rfl rfl
   replace f35 : x35 = .bool false := f35
   subst f35
   refine value_ (w1 := w') (v := .bool false) (wanted_on rfl rfl rfl e35) rfl ?_ ?_
   ·
    go_simp; try rfl
   exact hK.out _ _ _ rfl rfl (Below.refl _ _)
  refine opLaws_cons ?_ ?_
  ·
   intro a w' hB hoff hon
   refine ⟨_, rfl, fun K hK => ?_⟩
   obtain ⟨x35, e35, f35⟩ := hon 2 35 _ (by kernel_rfl) rfl rfl
   replace f35 : x35 = .bool false := f35
   subst f35
   obtain ⟨x37, e37, f37⟩ := hon 4 37 _ (by kernel_rfl) rfl rfl
   replace f37 : x37 = .bool false := f37
   subst f37
   refine value_ (w1 := w') (v := .bool false) (by rfl) rfl ?_ ?_
   ·
    go_simp; try rfl
   exact hK.out _ _ _ rfl rfl (Below.refl _ _)
  refine opLaws_cons ?_ ?_
  ·
   intro a w' hB hoff hon
   refine ⟨_, rfl, fun K hK => ?_⟩
   obtain ⟨x38, e38, f38⟩ := hon 5 38 _ (by kernel_rfl) rfl rfl
   replace f38 : x38 = .bool false := f38
   subst f38
   refine value_ (w1 := w') (v := .bool false) (by rfl) rfl ?_ ?_
   ·
    go_simp; try rfl
   exact hK.out _ _ _ rfl rfl (Below.refl _ _)
  refine opLaws_cons ?_ ?_
  ·
   intro a w' hB hoff hon
   refine ⟨_, rfl, fun K hK => ?_⟩
   have e1 : a.tmps[1]? = some (.pointer (some ⟨w2.heap.size, 0, none⟩)) := (hoff 1 (by kernel_rfl)).trans rfl
   obtain ⟨x39, e39, f39⟩ := hon 6 39 _ (by kernel_rfl) rfl rfl
   replace f39 : x39 = .bool false := f39
   subst f39
   have bk : w'.heap[w2.heap.size]? = some (.cells #[.slice A6 ([3, 2] : List Int).length c6, .slice A7 ([1] : List Int).length c7, .slice A8 ([false, false, false, false, false, false, false, false] : List Bool).length c8] 25 (0, 0)) := blk_below (by repeat (first | exact BK9.out | refine blk_alloc ?_ _)) hB
   have z0 : w'.cell? ⟨_, 0, none⟩ = some (.slice A6 ([3, 2] : List Int).length c6) := (blk_cell bk 0).trans rfl
   have z1 : w'.cell? ⟨_, 1, none⟩ = some (.slice A7 ([1] : List Int).length c7) := (blk_cell bk 1).trans rfl
   have z2 : w'.cell? ⟨_, 2, none⟩ = some (.slice A8 ([false, false, false, false, false, false, false, false] : List Bool).length c8) := (blk_cell bk 2).trans rfl
   refine value_ (w1 := w') (v := .agg #[.slice A6 ([3, 2] : List Int).length c6, .slice A7 ([1] : List Int).length c7, .slice A8 ([false, false, false, false, false, false, false, false] : List Bool).length c8]) (wanted_on rfl rfl rfl e39) rfl ?_ ?_
   ·
    go_simp; try rfl
   exact hK.out _ _ _ rfl ⟨_, rfl, ⟨_, _, rfl, ⟨_, _, rfl, l6, Kd.C_below (by repeat (first | exact H6.out | (with_reducible refine Kd.C_alloc ?_ _))) hB⟩, ⟨_, _, rfl, ⟨_, _, rfl, l7, Kd.C_below (by repeat (first | exact H7.out | (with_reducible refine Kd.C_alloc ?_ _))) hB⟩, ⟨_, _, rfl, ⟨_, _, rfl, l8, Kd.C_below (by repeat (first | exact H8.out | (with_reducible refine Kd.C_alloc ?_ _))) hB⟩, rfl⟩⟩⟩⟩ (Below.refl _ _)
  refine opLaws_cons ?_ ?_
  ·
   intro a w' hB hoff hon
   refine ⟨_, rfl, fun K hK => ?_⟩
   obtain ⟨x39, e39, f39⟩ := hon 6 39 _ (by kernel_rfl) rfl rfl
   replace f39 : x39 = .bool false := f39
   subst f39
   refine Kd.R_lit_step (Kd.int .i64) _ 3 ?hg (N := 41) ?hd (xs := ([3, 2] : List Int)) (inner := [.int .i64 3, .int .i64 2]) (ok := fun _ => True) (okp := fun _ => True) ?hr ?hp (fun _ hk => hk) trivial (Below.refl _ _) (Nat.le_refl _) (by simp) ?_
   case hd => rfl
   case hg => exact (wanted_on rfl rfl rfl e39)
   case hr => first | (go_simp; done) | (go_simp; rfl)
   case hp => exact (Reps.one (show Kd.M (Kd.int .i64) _ _ _ 3 [.int .i64 3] from rfl) (Reps.one (show Kd.M (Kd.int .i64) _ _ _ 2 [.int .i64 2] from rfl) (Reps.none _ _)))
   intro v w2 ho hb _ _
   exact hK.out _ _ _ rfl (IsRow.of ho) hb
  refine opLaws_cons ?_ ?_
  ·
   intro a w' hB hoff hon
   refine ⟨_, rfl, fun K hK => ?_⟩
   obtain ⟨x39, e39, f39⟩ := hon 6 39 _ (by kernel_rfl) rfl rfl
   replace f39 : x39 = .bool false := f39
   subst f39
   refine Kd.R_lit_step (Kd.int .i64) _ 3 ?hg (N := 42) ?hd (xs := ([1] : List Int)) (inner := [.int .i64 1]) (ok := fun _ => True) (okp := fun _ => True) ?hr ?hp (fun _ hk => hk) trivial (Below.refl _ _) (Nat.le_refl _) (by simp) ?_
   case hd => rfl
   case hg => exact (wanted_on rfl rfl rfl e39)
   case hr => first | (go_simp; done) | (go_simp; rfl)
   case hp => exact (Reps.one (show Kd.M (Kd.int .i64) _ _ _ 1 [.int .i64 1] from rfl) (Reps.none _ _))
   intro v w2 ho hb _ _
   exact hK.out _ _ _ rfl (IsRow.of ho) hb
  refine opLaws_cons ?_ ?_
  ·
   intro a w' hB hoff hon
   refine ⟨_, rfl, fun K hK => ?_⟩
   obtain ⟨x41, e41, f41⟩ := hon 8 41 _ (by kernel_rfl) rfl rfl
   obtain ⟨A14x, c14x, rfl, l14x, h14x⟩ := f41
   obtain ⟨x42, e42, f42⟩ := hon 9 42 _ (by kernel_rfl) rfl rfl
   obtain ⟨A15x, c15x, rfl, l15x, h15x⟩ := f42
   obtain ⟨x39, e39, f39⟩ := hon 6 39 _ (by kernel_rfl) rfl rfl
   replace f39 : x39 = .bool false := f39
   subst f39
   refine goes_ Try.func42 (by kernel_rfl) rfl #[.slice A14x ([3, 2] : List Int).length c14x, .slice A15x ([1] : List Int).length c15x, .slice none 0 0] (wanted_on rfl rfl rfl e39) rfl rfl (by first | (simp only [List.map_toArray, List.map_cons, List.map_nil, Act.eval, Array.getD_eq_getD_getElem?, Option.getD_some, e41, e42, e39]; done) | (simp only [List.map_toArray, List.map_cons, List.map_nil, Act.eval, Array.getD_eq_getD_getElem?, Option.getD_some, e41, e42, e39]; rfl) | rfl) ?_
   refine (headgatelaw07_lists.calls 60 _ _ _ ([3, 2] : List Int) _ _ _ ([1] : List Int) _ _ ([] : List Int) ([3, 2] : List Int) ([1] : List Int) ([false, false, false, false, false, false, false, false] : List Bool) _ (Kd.V_mk l14x (Kd.C_F (Kd.heap_int .i64) h14x)) (Kd.V_mk l15x (Kd.C_F (Kd.heap_int .i64) h15x)) (Kd.C_nil _ _) (Nat.zero_le _) (by first | decide +kernel | kernel_rfl)).mono ?_
   rintro e w2 ⟨v16, v17, v18, rfl, ho16, ho17, ho18, hb⟩
   exact ⟨_, rfl, hK.out _ _ _ rfl ⟨_, rfl, ⟨_, _, rfl, (by first | exact IsRow.of ho16 | exact IsRow.ofV ho16), ⟨_, _, rfl, (by first | exact IsRow.of ho17 | exact IsRow.ofV ho17), ⟨_, _, rfl, (by first | exact IsRow.of ho18 | exact IsRow.ofV ho18), rfl⟩⟩⟩⟩ hb⟩
  refine opLaws_cons ?_ ?_
  ·
   intro a w' hB hoff hon
   refine ⟨_, rfl, fun K hK => ?_⟩
   have e3 : a.tmps[3]? = some (.int .i64 0) := (hoff 3 (by kernel_rfl)).trans rfl
   obtain ⟨x39, e39, f39⟩ := hon 6 39 _ (by kernel_rfl) rfl rfl
   replace f39 : x39 = .bool false := f39
   subst f39
   refine value_ (w1 := w') (v := .int .i64 0) (wanted_on rfl rfl rfl e39) rfl ?_ ?_
   ·
    go_simp; try rfl
   exact hK.out _ _ _ rfl rfl (Below.refl _ _)
  refine opLaws_cons ?_ ?_
  ·
   intro a w' hB hoff hon
   refine ⟨_, rfl, fun K hK => ?_⟩
   obtain ⟨x40, e40, f40⟩ := hon 7 40 _ (by kernel_rfl) rfl rfl
   obtain ⟨_, rfl, ⟨_, _, rfl, ⟨A6x, c6x, rfl, l6x, h6x⟩, ⟨_, _, rfl, ⟨A7x, c7x, rfl, l7x, h7x⟩, ⟨_, _, rfl, ⟨A8x, c8x, rfl, l8x, h8x⟩, rfl⟩⟩⟩⟩ := f40
   obtain ⟨x43, e43, f43⟩ := hon 10 43 _ (by kernel_rfl) rfl rfl
   obtain ⟨_, rfl, ⟨_, _, rfl, ⟨A16x, c16x, rfl, l16x, h16x⟩, ⟨_, _, rfl, ⟨A17x, c17x, rfl, l17x, h17x⟩, ⟨_, _, rfl, ⟨A18x, c18x, rfl, l18x, h18x⟩, rfl⟩⟩⟩⟩ := f43
   obtain ⟨x44, e44, f44⟩ := hon 11 44 _ (by kernel_rfl) rfl rfl
   replace f44 : x44 = .int .i64 0 := f44
   subst f44
   obtain ⟨x39, e39, f39⟩ := hon 6 39 _ (by kernel_rfl) rfl rfl
   replace f39 : x39 = .bool false := f39
   subst f39
   refine goes_ Try.func28 (by kernel_rfl) rfl #[.agg #[.slice A6x ([3, 2] : List Int).length c6x, .slice A7x ([1] : List Int).length c7x, .slice A8x ([false, false, false, false, false, false, false, false] : List Bool).length c8x], .agg #[.slice A16x ([3, 2] : List Int).length c16x, .slice A17x ([1] : List Int).length c17x, .slice A18x ([false, false, false, false, false, false, false, false] : List Bool).length c18x], .int .i64 0] (wanted_on rfl rfl rfl e39) rfl rfl (by first | (simp only [List.map_toArray, List.map_cons, List.map_nil, Act.eval, Array.getD_eq_getD_getElem?, Option.getD_some, e40, e43, e44, e39]; done) | (simp only [List.map_toArray, List.map_cons, List.map_nil, Act.eval, Array.getD_eq_getD_getElem?, Option.getD_some, e40, e43, e44, e39]; rfl) | rfl) ?_
   refine (headgatelaw07_is.calls 60 _ _ ([3, 2] : List Int) _ _ ([1] : List Int) _ _ ([false, false, false, false, false, false, false, false] : List Bool) _ _ ([3, 2] : List Int) _ _ ([1] : List Int) _ _ ([false, false, false, false, false, false, false, false] : List Bool) 0 true _ h6x l6x h7x l7x h8x l8x h16x l16x h17x l17x h18x l18x (by first | decide +kernel | kernel_rfl)).mono ?_
   rintro e w2 ⟨rfl, hb⟩
   exact ⟨_, rfl, hK.out _ _ _ rfl rfl hb⟩
  refine opLaws_cons ?_ ?_
  ·
   intro a w' hB hoff hon
   refine ⟨_, rfl, fun K hK => ?_⟩
   obtain ⟨x45, e45, f45⟩ := hon 12 45 _ (by kernel_rfl) rfl rfl
   replace f45 : x45 = .bool true := f45
   subst f45
   obtain ⟨x39, e39, f39⟩ := hon 6 39 _ (by kernel_rfl) rfl rfl
   replace f39 : x39 = .bool false := f39
   subst f39
   refine value_ (w1 := w') (v := .bool false) (wanted_on rfl rfl rfl e39) rfl ?_ ?_
   ·
    go_simp; try rfl
   exact hK.out _ _ _ rfl rfl (Below.refl _ _)
  refine opLaws_cons ?_ ?_
  ·
   intro a w' hB hoff hon
   refine ⟨_, rfl, fun K hK => ?_⟩
   obtain ⟨x39, e39, f39⟩ := hon 6 39 _ (by kernel_rfl) rfl rfl
   replace f39 : x39 = .bool false := f39
   subst f39
   obtain ⟨x46, e46, f46⟩ := hon 13 46 _ (by kernel_rfl) rfl rfl
   replace f46 : x46 = .bool false := f46
   subst f46
   refine value_ (w1 := w') (v := .bool false) (by rfl) rfl ?_ ?_
   ·
    go_simp; try rfl
   exact hK.out _ _ _ rfl rfl (Below.refl _ _)
  refine opLaws_cons ?_ ?_
  ·
   intro a w' hB hoff hon
   refine ⟨_, rfl, fun K hK => ?_⟩
   obtain ⟨x47, e47, f47⟩ := hon 14 47 _ (by kernel_rfl) rfl rfl
   replace f47 : x47 = .bool false := f47
   subst f47
   refine value_ (w1 := w') (v := .bool false) (by rfl) rfl ?_ ?_
   ·
    go_simp; try rfl
   exact hK.out _ _ _ rfl rfl (Below.refl _ _)
  refine opLaws_cons ?_ ?_
  ·
   intro a w' hB hoff hon
   refine ⟨_, rfl, fun K hK => ?_⟩
   have e4 : a.tmps[4]? = some (.pointer (some ⟨w3.heap.size, 0, none⟩)) := (hoff 4 (by kernel_rfl)).trans rfl
   obtain ⟨x48, e48, f48⟩ := hon 15 48 _ (by kernel_rfl) rfl rfl
   replace f48 : x48 = .bool false := f48
   subst f48
   have bk : w'.heap[w3.heap.size]? = some (.cells #[.slice A10 ([3] : List Int).length c10, .slice A11 ([2, 1] : List Int).length c11, .slice A12 ([false, false, false, false, false, false, false, false] : List Bool).length c12] 25 (0, 0)) := blk_below (by repeat (first | exact BK13.out | refine blk_alloc ?_ _)) hB
   have z0 : w'.cell? ⟨_, 0, none⟩ = some (.slice A10 ([3] : List Int).length c10) := (blk_cell bk 0).trans rfl
   have z1 : w'.cell? ⟨_, 1, none⟩ = some (.slice A11 ([2, 1] : List Int).length c11) := (blk_cell bk 1).trans rfl
   have z2 : w'.cell? ⟨_, 2, none⟩ = some (.slice A12 ([false, false, false, false, false, false, false, false] : List Bool).length c12) := (blk_cell bk 2).trans rfl
   refine value_ (w1 := w') (v := .agg #[.slice A10 ([3] : List Int).length c10, .slice A11 ([2, 1] : List Int).length c11, .slice A12 ([false, false, false, false, false, false, false, false] : List Bool).length c12]) (wanted_on rfl rfl rfl e48) rfl ?_ ?_
   ·
    go_simp; try rfl
   exact hK.out _ _ _ rfl ⟨_, rfl, ⟨_, _, rfl, ⟨_, _, rfl, l10, Kd.C_below (by repeat (first | exact H10.out | (with_reducible refine Kd.C_alloc ?_ _))) hB⟩, ⟨_, _, rfl, ⟨_, _, rfl, l11, Kd.C_below (by repeat (first | exact H11.out | (with_reducible refine Kd.C_alloc ?_ _))) hB⟩, ⟨_, _, rfl, ⟨_, _, rfl, l12, Kd.C_below (by repeat (first | exact H12.out | (with_reducible refine Kd.C_alloc ?_ _))) hB⟩, rfl⟩⟩⟩⟩ (Below.refl _ _)
  refine opLaws_cons ?_ ?_
  ·
   intro a w' hB hoff hon
   refine ⟨_, rfl, fun K hK => ?_⟩
   obtain ⟨x48, e48, f48⟩ := hon 15 48 _ (by kernel_rfl) rfl rfl
   replace f48 : x48 = .bool false := f48
   subst f48
   refine Kd.R_lit_step (Kd.int .i64) _ 3 ?hg (N := 50) ?hd (xs := ([3] : List Int)) (inner := [.int .i64 3]) (ok := fun _ => True) (okp := fun _ => True) ?hr ?hp (fun _ hk => hk) trivial (Below.refl _ _) (Nat.le_refl _) (by simp) ?_
   case hd => rfl
   case hg => exact (wanted_on rfl rfl rfl e48)
   case hr => first | (go_simp; done) | (go_simp; rfl)
   case hp => exact (Reps.one (show Kd.M (Kd.int .i64) _ _ _ 3 [.int .i64 3] from rfl) (Reps.none _ _))
   intro v w2 ho hb _ _
   exact hK.out _ _ _ rfl (IsRow.of ho) hb
  refine opLaws_cons ?_ ?_
  ·
   intro a w' hB hoff hon
   refine ⟨_, rfl, fun K hK => ?_⟩
   obtain ⟨x48, e48, f48⟩ := hon 15 48 _ (by kernel_rfl) rfl rfl
   replace f48 : x48 = .bool false := f48
   subst f48
   refine Kd.R_lit_step (Kd.int .i64) _ 3 ?hg (N := 51) ?hd (xs := ([2, 1] : List Int)) (inner := [.int .i64 2, .int .i64 1]) (ok := fun _ => True) (okp := fun _ => True) ?hr ?hp (fun _ hk => hk) trivial (Below.refl _ _) (Nat.le_refl _) (by simp) ?_
   case hd => rfl
   case hg => exact (wanted_on rfl rfl rfl e48)
   case hr => first | (go_simp; done) | (go_simp; rfl)
   case hp => exact (Reps.one (show Kd.M (Kd.int .i64) _ _ _ 2 [.int .i64 2] from rfl) (Reps.one (show Kd.M (Kd.int .i64) _ _ _ 1 [.int .i64 1] from rfl) (Reps.none _ _)))
   intro v w2 ho hb _ _
   exact hK.out _ _ _ rfl (IsRow.of ho) hb
  refine opLaws_cons ?_ ?_
  ·
   intro a w' hB hoff hon
   refine ⟨_, rfl, fun K hK => ?_⟩
   obtain ⟨x50, e50, f50⟩ := hon 17 50 _ (by kernel_rfl) rfl rfl
   obtain ⟨A19x, c19x, rfl, l19x, h19x⟩ := f50
   obtain ⟨x51, e51, f51⟩ := hon 18 51 _ (by kernel_rfl) rfl rfl
   obtain ⟨A20x, c20x, rfl, l20x, h20x⟩ := f51
   obtain ⟨x48, e48, f48⟩ := hon 15 48 _ (by kernel_rfl) rfl rfl
   replace f48 : x48 = .bool false := f48
   subst f48
   refine goes_ Try.func42 (by kernel_rfl) rfl #[.slice A19x ([3] : List Int).length c19x, .slice A20x ([2, 1] : List Int).length c20x, .slice none 0 0] (wanted_on rfl rfl rfl e48) rfl rfl (by first | (simp only [List.map_toArray, List.map_cons, List.map_nil, Act.eval, Array.getD_eq_getD_getElem?, Option.getD_some, e50, e51, e48]; done) | (simp only [List.map_toArray, List.map_cons, List.map_nil, Act.eval, Array.getD_eq_getD_getElem?, Option.getD_some, e50, e51, e48]; rfl) | rfl) ?_
   refine (headgatelaw07_lists.calls 60 _ _ _ ([3] : List Int) _ _ _ ([2, 1] : List Int) _ _ ([] : List Int) ([3] : List Int) ([2, 1] : List Int) ([false, false, false, false, false, false, false, false] : List Bool) _ (Kd.V_mk l19x (Kd.C_F (Kd.heap_int .i64) h19x)) (Kd.V_mk l20x (Kd.C_F (Kd.heap_int .i64) h20x)) (Kd.C_nil _ _) (Nat.zero_le _) (by first | decide +kernel | kernel_rfl)).mono ?_
   rintro e w2 ⟨v21, v22, v23, rfl, ho21, ho22, ho23, hb⟩
   exact ⟨_, rfl, hK.out _ _ _ rfl ⟨_, rfl, ⟨_, _, rfl, (by first | exact IsRow.of ho21 | exact IsRow.ofV ho21), ⟨_, _, rfl, (by first | exact IsRow.of ho22 | exact IsRow.ofV ho22), ⟨_, _, rfl, (by first | exact IsRow.of ho23 | exact IsRow.ofV ho23), rfl⟩⟩⟩⟩ hb⟩
  refine opLaws_cons ?_ ?_
  ·
   intro a w' hB hoff hon
   refine ⟨_, rfl, fun K hK => ?_⟩
   have e6 : a.tmps[6]? = some (.int .i64 0) := (hoff 6 (by kernel_rfl)).trans rfl
   obtain ⟨x48, e48, f48⟩ := hon 15 48 _ (by kernel_rfl) rfl rfl
   replace f48 : x48 = .bool false := f48
   subst f48
   refine value_ (w1 := w') (v := .int .i64 0) (wanted_on rfl rfl rfl e48) rfl ?_ ?_
   ·
    go_simp; try rfl
   exact hK.out _ _ _ rfl rfl (Below.refl _ _)
  refine opLaws_cons ?_ ?_
  ·
   intro a w' hB hoff hon
   refine ⟨_, rfl, fun K hK => ?_⟩
   obtain ⟨x49, e49, f49⟩ := hon 16 49 _ (by kernel_rfl) rfl rfl
   obtain ⟨_, rfl, ⟨_, _, rfl, ⟨A10x, c10x, rfl, l10x, h10x⟩, ⟨_, _, rfl, ⟨A11x, c11x, rfl, l11x, h11x⟩, ⟨_, _, rfl, ⟨A12x, c12x, rfl, l12x, h12x⟩, rfl⟩⟩⟩⟩ := f49
   obtain ⟨x52, e52, f52⟩ := hon 19 52 _ (by kernel_rfl) rfl rfl
   obtain ⟨_, rfl, ⟨_, _, rfl, ⟨A21x, c21x, rfl, l21x, h21x⟩, ⟨_, _, rfl, ⟨A22x, c22x, rfl, l22x, h22x⟩, ⟨_, _, rfl, ⟨A23x, c23x, rfl, l23x, h23x⟩, rfl⟩⟩⟩⟩ := f52
   obtain ⟨x53, e53, f53⟩ := hon 20 53 _ (by kernel_rfl) rfl rfl
   replace f53 : x53 = .int .i64 0 := f53
   subst f53
   obtain ⟨x48, e48, f48⟩ := hon 15 48 _ (by kernel_rfl) rfl rfl
   replace f48 : x48 = .bool false := f48
   subst f48
   refine goes_ Try.func28 (by kernel_rfl) rfl #[.agg #[.slice A10x ([3] : List Int).length c10x, .slice A11x ([2, 1] : List Int).length c11x, .slice A12x ([false, false, false, false, false, false, false, false] : List Bool).length c12x], .agg #[.slice A21x ([3] : List Int).length c21x, .slice A22x ([2, 1] : List Int).length c22x, .slice A23x ([false, false, false, false, false, false, false, false] : List Bool).length c23x], .int .i64 0] (wanted_on rfl rfl rfl e48) rfl rfl (by first | (simp only [List.map_toArray, List.map_cons, List.map_nil, Act.eval, Array.getD_eq_getD_getElem?, Option.getD_some, e49, e52, e53, e48]; done) | (simp only [List.map_toArray, List.map_cons, List.map_nil, Act.eval, Array.getD_eq_getD_getElem?, Option.getD_some, e49, e52, e53, e48]; rfl) | rfl) ?_
   refine (headgatelaw07_is.calls 60 _ _ ([3] : List Int) _ _ ([2, 1] : List Int) _ _ ([false, false, false, false, false, false, false, false] : List Bool) _ _ ([3] : List Int) _ _ ([2, 1] : List Int) _ _ ([false, false, false, false, false, false, false, false] : List Bool) 0 true _ h10x l10x h11x l11x h12x l12x h21x l21x h22x l22x h23x l23x (by first | decide +kernel | kernel_rfl)).mono ?_
   rintro e w2 ⟨rfl, hb⟩
   exact ⟨_, rfl, hK.out _ _ _ rfl rfl hb⟩
  refine opLaws_cons ?_ ?_
  ·
   intro a w' hB hoff hon
   refine ⟨_, rfl, fun K hK => ?_⟩
   obtain ⟨x54, e54, f54⟩ := hon 21 54 _ (by kernel_rfl) rfl rfl
   replace f54 : x54 = .bool true := f54
   subst f54
   obtain ⟨x48, e48, f48⟩ := hon 15 48 _ (by kernel_rfl) rfl rfl
   replace f48 : x48 = .bool false := f48
   subst f48
   refine value_ (w1 := w') (v := .bool false) (wanted_on rfl rfl rfl e48) rfl ?_ ?_
   ·
    go_simp; try rfl
   exact hK.out _ _ _ rfl rfl (Below.refl _ _)
  refine opLaws_cons ?_ ?_
  ·
   intro a w' hB hoff hon
   refine ⟨_, rfl, fun K hK => ?_⟩
   obtain ⟨x48, e48, f48⟩ := hon 15 48 _ (by kernel_rfl) rfl rfl
   replace f48 : x48 = .bool false := f48
   subst f48
   obtain ⟨x55, e55, f55⟩ := hon 22 55 _ (by kernel_rfl) rfl rfl
   replace f55 : x55 = .bool false := f55
   subst f55
   refine value_ (w1 := w') (v := .bool false) (by rfl) rfl ?_ ?_
   ·
    go_simp; try rfl
   exact hK.out _ _ _ rfl rfl (Below.refl _ _)
  exact opLaws_nil
 intro vals w4 hb hv
 have q23 : vals 23 = .bool false := hv 23 _ rfl
 simp only [selOf, List.zipIdx_cons, List.zipIdx_nil, List.map_cons, List.map_nil, Nat.zero_add, Nat.reduceAdd, putSel, if_true, Act.put, List.setIfInBounds_toArray, List.set_cons_zero, List.set_cons_succ, q23]
 clear hv q23
 clear H6
 clear H7
 clear H8
 replace H10 : Aside0 (Kd.C (Kd.int .i64) w4 A10 ([3] : List Int).length ([3] : List Int)) := ⟨Kd.C_below (by repeat (first | exact H10.out | (with_reducible refine Kd.C_alloc ?_ _) | (with_reducible refine Kd.C_drewN ?_ _) | (with_reducible refine Kd.C_drew ?_))) hb⟩
 replace H11 : Aside0 (Kd.C (Kd.int .i64) w4 A11 ([2, 1] : List Int).length ([2, 1] : List Int)) := ⟨Kd.C_below (by repeat (first | exact H11.out | (with_reducible refine Kd.C_alloc ?_ _) | (with_reducible refine Kd.C_drewN ?_ _) | (with_reducible refine Kd.C_drew ?_))) hb⟩
 replace H12 : Aside0 (Kd.C Kd.bool w4 A12 ([false, false, false, false, false, false, false, false] : List Bool).length ([false, false, false, false, false, false, false, false] : List Bool)) := ⟨Kd.C_below (by repeat (first | exact H12.out | (with_reducible refine Kd.C_alloc ?_ _) | (with_reducible refine Kd.C_drewN ?_ _) | (with_reducible refine Kd.C_drew ?_))) hb⟩
 clear BK9
 replace BK13 : Aside0 (w4.heap[w3.heap.size]? = some (.cells #[.slice A10 ([3] : List Int).length c10, .slice A11 ([2, 1] : List Int).length c11, .slice A12 ([false, false, false, false, false, false, false, false] : List Bool).length c12] 25 (0, 0))) := ⟨blk_below (by repeat (first | exact BK13.out | refine blk_drewN ?_ _ | refine blk_drew ?_ | refine blk_alloc ?_ _)) hb⟩
 replace HB := Aside0.mk (below_step (upH HB) hb)
 clear hb
 have zd13_0 := (blk_cell BK13.out 0).trans rfl
 have zd13_1 := (blk_cell BK13.out 1).trans rfl
 have zd13_2 := (blk_cell BK13.out 2).trans rfl
 go_wp2_with fail
 clear zd13_0 zd13_1 zd13_2
 refine (lru_Touch.calls 60 _ _ ([3] : List Int) _ _ ([2, 1] : List Int) _ _ ([false, false, false, false, false, false, false, false] : List Bool) 1 ([3] : List Int) ([2, 1] : List Int) ([false, true, false, false, false, false, false, false] : List Bool) 0 _ ?s0 ?t0 ?s1 ?t1 ?s2 ?t2 (by first | decide +kernel | kernel_rfl)).mono ?_
 case s0 => repeat (first | exact H10.out | (with_reducible refine Kd.C_alloc ?_ _) | (with_reducible refine Kd.C_drewN ?_ _) | (with_reducible refine Kd.C_drew ?_))
 case t0 => exact l10
 case s1 => repeat (first | exact H11.out | (with_reducible refine Kd.C_alloc ?_ _) | (with_reducible refine Kd.C_drewN ?_ _) | (with_reducible refine Kd.C_drew ?_))
 case t1 => exact l11
 case s2 => repeat (first | exact H12.out | (with_reducible refine Kd.C_alloc ?_ _) | (with_reducible refine Kd.C_drewN ?_ _) | (with_reducible refine Kd.C_drew ?_))
 case t2 => exact l12
 rintro e w5 ⟨v24, v25, v26, rfl, ho24, ho25, ho26, hb⟩
 clear H10
 clear H11
 clear H12
 clear BK13
 replace HB := Aside0.mk (below_step (upH HB) hb)
 obtain ⟨A24, c24, rfl, l24, h24⟩ := IsRow.of ho24
 have HO24 := Aside0.mk ho24
 have H24 := Aside0.mk h24
 clear h24 ho24
 obtain ⟨A25, c25, rfl, l25, h25⟩ := IsRow.of ho25
 have HO25 := Aside0.mk ho25
 have H25 := Aside0.mk h25
 clear h25 ho25
 obtain ⟨A26, c26, rfl, l26, h26⟩ := IsRow.of ho26
 have HO26 := Aside0.mk ho26
 have H26 := Aside0.mk h26
 clear h26 ho26
 clear hb
 go_wp2_with fail
 refine (lru_Promote.calls _ _ ([3] : List Int) _ _ ([2, 1] : List Int) _ _ ([false, true, false, false, false, false, false, false] : List Bool) ([1, 3] : List Int) ([2] : List Int) ([false, false, false, false, false, false, false, false] : List Bool) 1 0 _ ?s0 ?t0 ?s1 ?t1 ?s2 ?t2 (by first | decide +kernel | kernel_rfl)).mono ?_
 case s0 => repeat (first | exact H24.out | (with_reducible refine Kd.C_alloc ?_ _) | (with_reducible refine Kd.C_drewN ?_ _) | (with_reducible refine Kd.C_drew ?_))
 case t0 => exact l24
 case s1 => repeat (first | exact H25.out | (with_reducible refine Kd.C_alloc ?_ _) | (with_reducible refine Kd.C_drewN ?_ _) | (with_reducible refine Kd.C_drew ?_))
 case t1 => exact l25
 case s2 => repeat (first | exact H26.out | (with_reducible refine Kd.C_alloc ?_ _) | (with_reducible refine Kd.C_drewN ?_ _) | (with_reducible refine Kd.C_drew ?_))
 case t2 => exact l26
 rintro e w6 ⟨v28, v29, v30, rfl, ho28, ho29, ho30, hb⟩
 replace H24 : Aside0 (Kd.C (Kd.int .i64) w6 A24 ([3] : List Int).length ([3] : List Int)) := ⟨Kd.C_below (by repeat (first | exact H24.out | (with_reducible refine Kd.C_alloc ?_ _) | (with_reducible refine Kd.C_drewN ?_ _) | (with_reducible refine Kd.C_drew ?_))) hb⟩
 replace H25 : Aside0 (Kd.C (Kd.int .i64) w6 A25 ([2, 1] : List Int).length ([2, 1] : List Int)) := ⟨Kd.C_below (by repeat (first | exact H25.out | (with_reducible refine Kd.C_alloc ?_ _) | (with_reducible refine Kd.C_drewN ?_ _) | (with_reducible refine Kd.C_drew ?_))) hb⟩
 replace H26 : Aside0 (Kd.C Kd.bool w6 A26 ([false, true, false, false, false, false, false, false] : List Bool).length ([false, true, false, false, false, false, false, false] : List Bool)) := ⟨Kd.C_below (by repeat (first | exact H26.out | (with_reducible refine Kd.C_alloc ?_ _) | (with_reducible refine Kd.C_drewN ?_ _) | (with_reducible refine Kd.C_drew ?_))) hb⟩
 have BK27 : Aside0 (w6.heap[w5.heap.size]? = some (.cells #[.slice A24 ([3] : List Int).length c24, .slice A25 ([2, 1] : List Int).length c25, .slice A26 ([false, true, false, false, false, false, false, false] : List Bool).length c26] 25 (0, 0))) := ⟨blk_below (by repeat (first | exact blk_newb _ _ _ (by simp) | refine blk_alloc ?_ _)) hb⟩
 replace HB := Aside0.mk (below_step (upH HB) hb)
 obtain ⟨A28, c28, rfl, l28, h28⟩ := IsRow.of ho28
 have HO28 := Aside0.mk ho28
 have H28 := Aside0.mk h28
 clear h28 ho28
 obtain ⟨A29, c29, rfl, l29, h29⟩ := IsRow.of ho29
 have HO29 := Aside0.mk ho29
 have H29 := Aside0.mk h29
 clear h29 ho29
 obtain ⟨A30, c30, rfl, l30, h30⟩ := IsRow.of ho30
 have HO30 := Aside0.mk ho30
 have H30 := Aside0.mk h30
 clear h30 ho30
 clear hb
 go_wp2_with fail
 have BK31 := Aside0.mk (blk_newb w6 (.cells #[.slice A28 ([1, 3] : List Int).length c28, .slice A29 ([2] : List Int).length c29, .slice A30 ([false, false, false, false, false, false, false, false] : List Bool).length c30] 25) (w6.heap.size) (by simp))
 refine shut_code 21 [68, 69, 70, 71, 72, 73, 74, 75, 76, 77, 78, 79, 80, 81, 82, 83, 84, 85, 86, 87, 88] [litF (.int .i64 1), litF (.bool false), litF (.bool false), aggF [rowF (Kd.int .i64) ([3] : List Int), rowF (Kd.int .i64) ([2, 1] : List Int), rowF Kd.bool ([false, true, false, false, false, false, false, false] : List Bool)], rowF (Kd.int .i64) ([3] : List Int), rowF (Kd.int .i64) ([2, 1] : List Int), rowF (Kd.int .i64) ([1] : List Int), aggF [rowF (Kd.int .i64) ([3] : List Int), rowF (Kd.int .i64) ([2, 1] : List Int), rowF Kd.bool ([false, true, false, false, false, false, false, false] : List Bool)], litF (.int .i64 0), litF (.bool true), litF (.bool false), litF (.bool false), litF (.bool false), aggF [rowF (Kd.int .i64) ([1, 3] : List Int), rowF (Kd.int .i64) ([2] : List Int), rowF Kd.bool ([false, false, false, false, false, false, false, false] : List Bool)], rowF (Kd.int .i64) ([1, 3] : List Int), rowF (Kd.int .i64) ([2] : List Int), aggF [rowF (Kd.int .i64) ([1, 3] : List Int), rowF (Kd.int .i64) ([2] : List Int), rowF Kd.bool ([false, false, false, false, false, false, false, false] : List Bool)], litF (.int .i64 0), litF (.bool true), litF (.bool false), litF (.bool false)] (by kernel_rfl) rfl headgatelaw07_LruKnown.tab7 headgatelaw07_LruKnown.bits7 (by kernel_rfl) (by kernel_rfl) (by kernel_rfl) rfl (by kernel_rfl) ?_ ?_
 · as_aux_lemma =>
  rw [show List.range 21 = [0, 1, 2, 3, 4, 5, 6, 7, 8, 9, 10, 11, 12, 13, 14, 15, 16, 17, 18, 19, 20] from rfl]
  refine opLaws_cons ?_ ?_
  ·
   intro a w' hB hoff hon
   refine ⟨_, rfl, fun K hK => ?_⟩
   have e2 : a.tmps[2]? = some (.int .i64 1) := (hoff 2 (by kernel_rfl)).trans rfl
   refine value_ (w1 := w') (v := .int .i64 1) (by rfl) rfl ?_ ?_
   ·
    go_simp; try rfl
   exact hK.out _ _ _ rfl rfl (Below.refl _ _)
  refine opLaws_cons ?_ ?_
  ·
   intro a w' hB hoff hon
   refine ⟨_, rfl, fun K hK => ?_⟩
   obtain ⟨x68, e68, f68⟩ := hon 0 68 _ (by kernel_rfl) rfl rfl
   replace f68 : x68 = .int .i64 1 := f68
   subst f68
   refine value_ (w1 := w') (v := .bool false) (by rfl) rfl ?_ ?_
   ·
    go_simp; try rfl
   exact hK.out _ _ _ rfl rfl (Below.refl _ _)
  refine opLaws_cons ?_ ?_
  ·
   intro a w' hB hoff hon
   refine ⟨_, rfl, fun K hK => ?_⟩
   obtain ⟨x69, e69, f69⟩ := hon 1 69 _ (by kernel_rfl) rfl rfl
   replace f69 : x69 = .bool false := f69
   subst f69
   refine value_ (w1 := w') (v := .bool false) (by rfl) rfl ?_ ?_
   ·
    go_simp; try rfl
   exact hK.out _ _ _ rfl rfl (Below.refl _ _)
  refine opLaws_cons ?_ ?_
  ·
   intro a w' hB hoff hon
   refine ⟨_, rfl, fun K hK => ?_⟩
   have e7 : a.tmps[7]? = some (.pointer (some ⟨w5.heap.size, 0, none⟩)) := (hoff 7 (by kernel_rfl)).trans rfl
   obtain ⟨x70, e70, f70⟩ := hon 2 70 _ (by kernel_rfl) rfl rfl
   replace f70 : x70 = .bool false := f70
   subst f70
   have bk : w'.heap[w5.heap.size]? = some (.cells #[.slice A24 ([3] : List Int).length c24, .slice A25 ([2, 1] : List Int).length c25, .slice A26 ([false, true, false, false, false, false, false, false] : List Bool).length c26] 25 (0, 0)) := blk_below (by repeat (first | exact BK27.out | refine blk_alloc ?_ _)) hB
   have z0 : w'.cell? ⟨_, 0, none⟩ = some (.slice A24 ([3] : List Int).length c24) := (blk_cell bk 0).trans rfl
   have z1 : w'.cell? ⟨_, 1, none⟩ = some (.slice A25 ([2, 1] : List Int).length c25) := (blk_cell bk 1).trans rfl
   have z2 : w'.cell? ⟨_, 2, none⟩ = some (.slice A26 ([false, true, false, false, false, false, false, false] : List Bool).length c26) := (blk_cell bk 2).trans rfl
   refine value_ (w1 := w') (v := .agg #[.slice A24 ([3] : List Int).length c24, .slice A25 ([2, 1] : List Int).length c25, .slice A26 ([false, true, false, false, false, false, false, false] : List Bool).length c26]) (wanted_on rfl rfl rfl e70) rfl ?_ ?_
   ·
    go_simp; try rfl
   exact hK.out _ _ _ rfl ⟨_, rfl, ⟨_, _, rfl, ⟨_, _, rfl, l24, Kd.C_below (by repeat (first | exact H24.out | (with_reducible refine Kd.C_alloc ?_ _))) hB⟩, ⟨_, _, rfl, ⟨_, _, rfl, l25, Kd.C_below (by repeat (first | exact H25.out | (with_reducible refine Kd.C_alloc ?_ _))) hB⟩, ⟨_, _, rfl, ⟨_, _, rfl, l26, Kd.C_below (by repeat (first | exact H26.out | (with_reducible refine Kd.C_alloc ?_ _))) hB⟩, rfl⟩⟩⟩⟩ (Below.refl _ _)
  refine opLaws_cons ?_ ?_
  ·
   intro a w' hB hoff hon
   refine ⟨_, rfl, fun K hK => ?_⟩
   obtain ⟨x70, e70, f70⟩ := hon 2 70 _ (by kernel_rfl) rfl rfl
   replace f70 : x70 = .bool false := f70
   subst f70
   refine Kd.R_lit_step (Kd.int .i64) _ 3 ?hg (N := 72) ?hd (xs := ([3] : List Int)) (inner := [.int .i64 3]) (ok := fun _ => True) (okp := fun _ => True) ?hr ?hp (fun _ hk => hk) trivial (Below.refl _ _) (Nat.le_refl _) (by simp) ?_
   case hd => rfl
   case hg => exact (wanted_on rfl rfl rfl e70)
   case hr => first | (go_simp; done) | (go_simp; rfl)
   case hp => exact (Reps.one (show Kd.M (Kd.int .i64) _ _ _ 3 [.int .i64 3] from rfl) (Reps.none _ _))
   intro v w2 ho hb _ _
   exact hK.out _ _ _ rfl (IsRow.of ho) hb
  refine opLaws_cons ?_ ?_
  ·
   intro a w' hB hoff hon
   refine ⟨_, rfl, fun K hK => ?_⟩
   obtain ⟨x70, e70, f70⟩ := hon 2 70 _ (by kernel_rfl) rfl rfl
   replace f70 : x70 = .bool false := f70
   subst f70
   refine Kd.R_lit_step (Kd.int .i64) _ 3 ?hg (N := 73) ?hd (xs := ([2, 1] : List Int)) (inner := [.int .i64 2, .int .i64 1]) (ok := fun _ => True) (okp := fun _ => True) ?hr ?hp (fun _ hk => hk) trivial (Below.refl _ _) (Nat.le_refl _) (by simp) ?_
   case hd => rfl
   case hg => exact (wanted_on rfl rfl rfl e70)
   case hr => first | (go_simp; done) | (go_simp; rfl)
   case hp => exact (Reps.one (show Kd.M (Kd.int .i64) _ _ _ 2 [.int .i64 2] from rfl) (Reps.one (show Kd.M (Kd.int .i64) _ _ _ 1 [.int .i64 1] from rfl) (Reps.none _ _)))
   intro v w2 ho hb _ _
   exact hK.out _ _ _ rfl (IsRow.of ho) hb
  refine opLaws_cons ?_ ?_
  ·
   intro a w' hB hoff hon
   refine ⟨_, rfl, fun K hK => ?_⟩
   obtain ⟨x70, e70, f70⟩ := hon 2 70 _ (by kernel_rfl) rfl rfl
   replace f70 : x70 = .bool false := f70
   subst f70
   refine Kd.R_lit_step (Kd.int .i64) _ 3 ?hg (N := 74) ?hd (xs := ([1] : List Int)) (inner := [.int .i64 1]) (ok := fun _ => True) (okp := fun _ => True) ?hr ?hp (fun _ hk => hk) trivial (Below.refl _ _) (Nat.le_refl _) (by simp) ?_
   case hd => rfl
   case hg => exact (wanted_on rfl rfl rfl e70)
   case hr => first | (go_simp; done) | (go_simp; rfl)
   case hp => exact (Reps.one (show Kd.M (Kd.int .i64) _ _ _ 1 [.int .i64 1] from rfl) (Reps.none _ _))
   intro v w2 ho hb _ _
   exact hK.out _ _ _ rfl (IsRow.of ho) hb
  refine opLaws_cons ?_ ?_
  ·
   intro a w' hB hoff hon
   refine ⟨_, rfl, fun K hK => ?_⟩
   obtain ⟨x72, e72, f72⟩ := hon 4 72 _ (by kernel_rfl) rfl rfl
   obtain ⟨A32x, c32x, rfl, l32x, h32x⟩ := f72
   obtain ⟨x73, e73, f73⟩ := hon 5 73 _ (by kernel_rfl) rfl rfl
   obtain ⟨A33x, c33x, rfl, l33x, h33x⟩ := f73
   obtain ⟨x74, e74, f74⟩ := hon 6 74 _ (by kernel_rfl) rfl rfl
   obtain ⟨A34x, c34x, rfl, l34x, h34x⟩ := f74
   obtain ⟨x70, e70, f70⟩ := hon 2 70 _ (by kernel_rfl) rfl rfl
   replace f70 : x70 = .bool false := f70
   subst f70
   refine goes_ Try.func42 (by kernel_rfl) rfl #[.slice A32x ([3] : List Int).length c32x, .slice A33x ([2, 1] : List Int).length c33x, .slice A34x ([1] : List Int).length c34x] (wanted_on rfl rfl rfl e70) rfl rfl (by first | (simp only [List.map_toArray, List.map_cons, List.map_nil, Act.eval, Array.getD_eq_getD_getElem?, Option.getD_some, e72, e73, e74, e70]; done) | (simp only [List.map_toArray, List.map_cons, List.map_nil, Act.eval, Array.getD_eq_getD_getElem?, Option.getD_some, e72, e73, e74, e70]; rfl) | rfl) ?_
   refine (headgatelaw07_lists.calls 60 _ _ _ ([3] : List Int) _ _ _ ([2, 1] : List Int) _ _ ([1] : List Int) ([3] : List Int) ([2, 1] : List Int) ([false, true, false, false, false, false, false, false] : List Bool) _ (Kd.V_mk l32x (Kd.C_F (Kd.heap_int .i64) h32x)) (Kd.V_mk l33x (Kd.C_F (Kd.heap_int .i64) h33x)) h34x l34x (by first | decide +kernel | kernel_rfl)).mono ?_
   rintro e w2 ⟨v35, v36, v37, rfl, ho35, ho36, ho37, hb⟩
   exact ⟨_, rfl, hK.out _ _ _ rfl ⟨_, rfl, ⟨_, _, rfl, (by first | exact IsRow.of ho35 | exact IsRow.ofV ho35), ⟨_, _, rfl, (by first | exact IsRow.of ho36 | exact IsRow.ofV ho36), ⟨_, _, rfl, (by first | exact IsRow.of ho37 | exact IsRow.ofV ho37), rfl⟩⟩⟩⟩ hb⟩
  refine opLaws_cons ?_ ?_
  ·
   intro a w' hB hoff hon
   refine ⟨_, rfl, fun K hK => ?_⟩
   have e3 : a.tmps[3]? = some (.int .i64 0) := (hoff 3 (by kernel_rfl)).trans rfl
   obtain ⟨x70, e70, f70⟩ := hon 2 70 _ (by kernel_rfl) rfl rfl
   replace f70 : x70 = .bool false := f70
   subst f70
   refine value_ (w1 := w') (v := .int .i64 0) (wanted_on rfl rfl rfl e70) rfl ?_ ?_
   ·
    go_simp; try rfl
   exact hK.out _ _ _ rfl rfl (Below.refl _ _)
  refine opLaws_cons ?_ ?_
  ·
   intro a w' hB hoff hon
   refine ⟨_, rfl, fun K hK => ?_⟩
   obtain ⟨x71, e71, f71⟩ := hon 3 71 _ (by kernel_rfl) rfl rfl
   obtain ⟨_, rfl, ⟨_, _, rfl, ⟨A24x, c24x, rfl, l24x, h24x⟩, ⟨_, _, rfl, ⟨A25x, c25x, rfl, l25x, h25x⟩, ⟨_, _, rfl, ⟨A26x, c26x, rfl, l26x, h26x⟩, rfl⟩⟩⟩⟩ := f71
   obtain ⟨x75, e75, f75⟩ := hon 7 75 _ (by kernel_rfl) rfl rfl
   obtain ⟨_, rfl, ⟨_, _, rfl, ⟨A35x, c35x, rfl, l35x, h35x⟩, ⟨_, _, rfl, ⟨A36x, c36x, rfl, l36x, h36x⟩, ⟨_, _, rfl, ⟨A37x, c37x, rfl, l37x, h37x⟩, rfl⟩⟩⟩⟩ := f75
   obtain ⟨x76, e76, f76⟩ := hon 8 76 _ (by kernel_rfl) rfl rfl
   replace f76 : x76 = .int .i64 0 := f76
   subst f76
   obtain ⟨x70, e70, f70⟩ := hon 2 70 _ (by kernel_rfl) rfl rfl
   replace f70 : x70 = .bool false := f70
   subst f70
   refine goes_ Try.func28 (by kernel_rfl) rfl #[.agg #[.slice A24x ([3] : List Int).length c24x, .slice A25x ([2, 1] : List Int).length c25x, .slice A26x ([false, true, false, false, false, false, false, false] : List Bool).length c26x], .agg #[.slice A35x ([3] : List Int).length c35x, .slice A36x ([2, 1] : List Int).length c36x, .slice A37x ([false, true, false, false, false, false, false, false] : List Bool).length c37x], .int .i64 0] (wanted_on rfl rfl rfl e70) rfl rfl (by first | (simp only [List.map_toArray, List.map_cons, List.map_nil, Act.eval, Array.getD_eq_getD_getElem?, Option.getD_some, e71, e75, e76, e70]; done) | (simp only [List.map_toArray, List.map_cons, List.map_nil, Act.eval, Array.getD_eq_getD_getElem?, Option.getD_some, e71, e75, e76, e70]; rfl) | rfl) ?_
   refine (headgatelaw07_is.calls 60 _ _ ([3] : List Int) _ _ ([2, 1] : List Int) _ _ ([false, true, false, false, false, false, false, false] : List Bool) _ _ ([3] : List Int) _ _ ([2, 1] : List Int) _ _ ([false, true, false, false, false, false, false, false] : List Bool) 0 true _ h24x l24x h25x l25x h26x l26x h35x l35x h36x l36x h37x l37x (by first | decide +kernel | kernel_rfl)).mono ?_
   rintro e w2 ⟨rfl, hb⟩
   exact ⟨_, rfl, hK.out _ _ _ rfl rfl hb⟩
  refine opLaws_cons ?_ ?_
  ·
   intro a w' hB hoff hon
   refine ⟨_, rfl, fun K hK => ?_⟩
   obtain ⟨x77, e77, f77⟩ := hon 9 77 _ (by kernel_rfl) rfl rfl
   replace f77 : x77 = .bool true := f77
   subst f77
   obtain ⟨x70, e70, f70⟩ := hon 2 70 _ (by kernel_rfl) rfl rfl
   replace f70 : x70 = .bool false := f70
   subst f70
   refine value_ (w1 := w') (v := .bool false) (wanted_on rfl rfl rfl e70) rfl ?_ ?_
   ·
    go_simp; try rfl
   exact hK.out _ _ _ rfl rfl (Below.refl _ _)
  refine opLaws_cons ?_ ?_
  ·
   intro a w' hB hoff hon
   refine ⟨_, rfl, fun K hK => ?_⟩
   obtain ⟨x70, e70, f70⟩ := hon 2 70 _ (by kernel_rfl) rfl rfl
   replace f70 : x70 = .bool false := f70
   subst f70
   obtain ⟨x78, e78, f78⟩ := hon 10 78 _ (by kernel_rfl) rfl rfl
   replace f78 : x78 = .bool false := f78
   subst f78
   refine value_ (w1 := w') (v := .bool false) (by rfl) rfl ?_ ?_
   ·
    go_simp; try rfl
   exact hK.out _ _ _ rfl rfl (Below.refl _ _)
  refine opLaws_cons ?_ ?_
  ·
   intro a w' hB hoff hon
   refine ⟨_, rfl, fun K hK => ?_⟩
   obtain ⟨x79, e79, f79⟩ := hon 11 79 _ (by kernel_rfl) rfl rfl
   replace f79 : x79 = .bool false := f79
   subst f79
   refine value_ (w1 := w') (v := .bool false) (by rfl) rfl ?_ ?_
   ·
    go_simp; try rfl
   exact hK.out _ _ _ rfl rfl (Below.refl _ _)
  refine opLaws_cons ?_ ?_
  ·
   intro a w' hB hoff hon
   refine ⟨_, rfl, fun K hK => ?_⟩
   have e8 : a.tmps[8]? = some (.pointer (some ⟨w6.heap.size, 0, none⟩)) := (hoff 8 (by kernel_rfl)).trans rfl
   obtain ⟨x80, e80, f80⟩ := hon 12 80 _ (by kernel_rfl) rfl rfl
   replace f80 : x80 = .bool false := f80
   subst f80
   have bk : w'.heap[w6.heap.size]? = some (.cells #[.slice A28 ([1, 3] : List Int).length c28, .slice A29 ([2] : List Int).length c29, .slice A30 ([false, false, false, false, false, false, false, false] : List Bool).length c30] 25 (0, 0)) := blk_below (by repeat (first | exact BK31.out | refine blk_alloc ?_ _)) hB
   have z0 : w'.cell? ⟨_, 0, none⟩ = some (.slice A28 ([1, 3] : List Int).length c28) := (blk_cell bk 0).trans rfl
   have z1 : w'.cell? ⟨_, 1, none⟩ = some (.slice A29 ([2] : List Int).length c29) := (blk_cell bk 1).trans rfl
   have z2 : w'.cell? ⟨_, 2, none⟩ = some (.slice A30 ([false, false, false, false, false, false, false, false] : List Bool).length c30) := (blk_cell bk 2).trans rfl
   refine value_ (w1 := w') (v := .agg #[.slice A28 ([1, 3] : List Int).length c28, .slice A29 ([2] : List Int).length c29, .slice A30 ([false, false, false, false, false, false, false, false] : List Bool).length c30]) (wanted_on rfl rfl rfl e80) rfl ?_ ?_
   ·
    go_simp; try rfl
   exact hK.out _ _ _ rfl ⟨_, rfl, ⟨_, _, rfl, ⟨_, _, rfl, l28, Kd.C_below (by repeat (first | exact H28.out | (with_reducible refine Kd.C_alloc ?_ _))) hB⟩, ⟨_, _, rfl, ⟨_, _, rfl, l29, Kd.C_below (by repeat (first | exact H29.out | (with_reducible refine Kd.C_alloc ?_ _))) hB⟩, ⟨_, _, rfl, ⟨_, _, rfl, l30, Kd.C_below (by repeat (first | exact H30.out | (with_reducible refine Kd.C_alloc ?_ _))) hB⟩, rfl⟩⟩⟩⟩ (Below.refl _ _)
  refine opLaws_cons ?_ ?_
  ·
   intro a w' hB hoff hon
   refine ⟨_, rfl, fun K hK => ?_⟩
   obtain ⟨x80, e80, f80⟩ := hon 12 80 _ (by kernel_rfl) rfl rfl
   replace f80 : x80 = .bool false := f80
   subst f80
   refine Kd.R_lit_step (Kd.int .i64) _ 3 ?hg (N := 82) ?hd (xs := ([1, 3] : List Int)) (inner := [.int .i64 1, .int .i64 3]) (ok := fun _ => True) (okp := fun _ => True) ?hr ?hp (fun _ hk => hk) trivial (Below.refl _ _) (Nat.le_refl _) (by simp) ?_
   case hd => rfl
   case hg => exact (wanted_on rfl rfl rfl e80)
   case hr => first | (go_simp; done) | (go_simp; rfl)
   case hp => exact (Reps.one (show Kd.M (Kd.int .i64) _ _ _ 1 [.int .i64 1] from rfl) (Reps.one (show Kd.M (Kd.int .i64) _ _ _ 3 [.int .i64 3] from rfl) (Reps.none _ _)))
   intro v w2 ho hb _ _
   exact hK.out _ _ _ rfl (IsRow.of ho) hb
  refine opLaws_cons ?_ ?_
  ·
   intro a w' hB hoff hon
   refine ⟨_, rfl, fun K hK => ?_⟩
   obtain ⟨x80, e80, f80⟩ := hon 12 80 _ (by kernel_rfl) rfl rfl
   replace f80 : x80 = .bool false := f80
   subst f80
   refine Kd.R_lit_step (Kd.int .i64) _ 3 ?hg (N := 83) ?hd (xs := ([2] : List Int)) (inner := [.int .i64 2]) (ok := fun _ => True) (okp := fun _ => True) ?hr ?hp (fun _ hk => hk) trivial (Below.refl _ _) (Nat.le_refl _) (by simp) ?_
   case hd => rfl
   case hg => exact (wanted_on rfl rfl rfl e80)
   case hr => first | (go_simp; done) | (go_simp; rfl)
   case hp => exact (Reps.one (show Kd.M (Kd.int .i64) _ _ _ 2 [.int .i64 2] from rfl) (Reps.none _ _))
   intro v w2 ho hb _ _
   exact hK.out _ _ _ rfl (IsRow.of ho) hb
  refine opLaws_cons ?_ ?_
  ·
   intro a w' hB hoff hon
   refine ⟨_, rfl, fun K hK => ?_⟩
   obtain ⟨x82, e82, f82⟩ := hon 14 82 _ (by kernel_rfl) rfl rfl
   obtain ⟨A38x, c38x, rfl, l38x, h38x⟩ := f82
   obtain ⟨x83, e83, f83⟩ := hon 15 83 _ (by kernel_rfl) rfl rfl
   obtain ⟨A39x, c39x, rfl, l39x, h39x⟩ := f83
   obtain ⟨x80, e80, f80⟩ := hon 12 80 _ (by kernel_rfl) rfl rfl
   replace f80 : x80 = .bool false := f80
   subst f80
   refine goes_ Try.func42 (by kernel_rfl) rfl #[.slice A38x ([1, 3] : List Int).length c38x, .slice A39x ([2] : List Int).length c39x, .slice none 0 0] (wanted_on rfl rfl rfl e80) rfl rfl (by first | (simp only [List.map_toArray, List.map_cons, List.map_nil, Act.eval, Array.getD_eq_getD_getElem?, Option.getD_some, e82, e83, e80]; done) | (simp only [List.map_toArray, List.map_cons, List.map_nil, Act.eval, Array.getD_eq_getD_getElem?, Option.getD_some, e82, e83, e80]; rfl) | rfl) ?_
   refine (headgatelaw07_lists.calls 60 _ _ _ ([1, 3] : List Int) _ _ _ ([2] : List Int) _ _ ([] : List Int) ([1, 3] : List Int) ([2] : List Int) ([false, false, false, false, false, false, false, false] : List Bool) _ (Kd.V_mk l38x (Kd.C_F (Kd.heap_int .i64) h38x)) (Kd.V_mk l39x (Kd.C_F (Kd.heap_int .i64) h39x)) (Kd.C_nil _ _) (Nat.zero_le _) (by first | decide +kernel | kernel_rfl)).mono ?_
   rintro e w2 ⟨v40, v41, v42, rfl, ho40, ho41, ho42, hb⟩
   exact ⟨_, rfl, hK.out _ _ _ rfl ⟨_, rfl, ⟨_, _, rfl, (by first | exact IsRow.of ho40 | exact IsRow.ofV ho40), ⟨_, _, rfl, (by first | exact IsRow.of ho41 | exact IsRow.ofV ho41), ⟨_, _, rfl, (by first | exact IsRow.of ho42 | exact IsRow.ofV ho42), rfl⟩⟩⟩⟩ hb⟩
  refine opLaws_cons ?_ ?_
  ·
   intro a w' hB hoff hon
   refine ⟨_, rfl, fun K hK => ?_⟩
   have e6 : a.tmps[6]? = some (.int .i64 0) := (hoff 6 (by kernel_rfl)).trans rfl
   obtain ⟨x80, e80, f80⟩ := hon 12 80 _ (by kernel_rfl) rfl rfl
   replace f80 : x80 = .bool false := f80
   subst f80
   refine value_ (w1 := w') (v := .int .i64 0) (wanted_on rfl rfl rfl e80) rfl ?_ ?_
   ·
    go_simp; try rfl
   exact hK.out _ _ _ rfl rfl (Below.refl _ _)
  refine opLaws_cons ?_ ?_
  ·
   intro a w' hB hoff hon
   refine ⟨_, rfl, fun K hK => ?_⟩
   obtain ⟨x81, e81, f81⟩ := hon 13 81 _ (by kernel_rfl) rfl rfl
   obtain ⟨_, rfl, ⟨_, _, rfl, ⟨A28x, c28x, rfl, l28x, h28x⟩, ⟨_, _, rfl, ⟨A29x, c29x, rfl, l29x, h29x⟩, ⟨_, _, rfl, ⟨A30x, c30x, rfl, l30x, h30x⟩, rfl⟩⟩⟩⟩ := f81
   obtain ⟨x84, e84, f84⟩ := hon 16 84 _ (by kernel_rfl) rfl rfl
   obtain ⟨_, rfl, ⟨_, _, rfl, ⟨A40x, c40x, rfl, l40x, h40x⟩, ⟨_, _, rfl, ⟨A41x, c41x, rfl, l41x, h41x⟩, ⟨_, _, rfl, ⟨A42x, c42x, rfl, l42x, h42x⟩, rfl⟩⟩⟩⟩ := f84
   obtain ⟨x85, e85, f85⟩ := hon 17 85 _ (by kernel_rfl) rfl rfl
   replace f85 : x85 = .int .i64 0 := f85
   subst f85
   obtain ⟨x80, e80, f80⟩ := hon 12 80 _ (by kernel_rfl) rfl rfl
   replace f80 : x80 = .bool false := f80
   subst f80
   refine goes_ Try.func28 (by kernel_rfl) rfl #[.agg #[.slice A28x ([1, 3] : List Int).length c28x, .slice A29x ([2] : List Int).length c29x, .slice A30x ([false, false, false, false, false, false, false, false] : List Bool).length c30x], .agg #[.slice A40x ([1, 3] : List Int).length c40x, .slice A41x ([2] : List Int).length c41x, .slice A42x ([false, false, false, false, false, false, false, false] : List Bool).length c42x], .int .i64 0] (wanted_on rfl rfl rfl e80) rfl rfl (by first | (simp only [List.map_toArray, List.map_cons, List.map_nil, Act.eval, Array.getD_eq_getD_getElem?, Option.getD_some, e81, e84, e85, e80]; done) | (simp only [List.map_toArray, List.map_cons, List.map_nil, Act.eval, Array.getD_eq_getD_getElem?, Option.getD_some, e81, e84, e85, e80]; rfl) | rfl) ?_
   refine (headgatelaw07_is.calls 60 _ _ ([1, 3] : List Int) _ _ ([2] : List Int) _ _ ([false, false, false, false, false, false, false, false] : List Bool) _ _ ([1, 3] : List Int) _ _ ([2] : List Int) _ _ ([false, false, false, false, false, false, false, false] : List Bool) 0 true _ h28x l28x h29x l29x h30x l30x h40x l40x h41x l41x h42x l42x (by first | decide +kernel | kernel_rfl)).mono ?_
   rintro e w2 ⟨rfl, hb⟩
   exact ⟨_, rfl, hK.out _ _ _ rfl rfl hb⟩
  refine opLaws_cons ?_ ?_
  ·
   intro a w' hB hoff hon
   refine ⟨_, rfl, fun K hK => ?_⟩
   obtain ⟨x86, e86, f86⟩ := hon 18 86 _ (by kernel_rfl) rfl rfl
   replace f86 : x86 = .bool true := f86
   subst f86
   obtain ⟨x80, e80, f80⟩ := hon 12 80 _ (by kernel_rfl) rfl rfl
   replace f80 : x80 = .bool false := f80
   subst f80
   refine value_ (w1 := w') (v := .bool false) (wanted_on rfl rfl rfl e80) rfl ?_ ?_
   ·
    go_simp; try rfl
   exact hK.out _ _ _ rfl rfl (Below.refl _ _)
  refine opLaws_cons ?_ ?_
  ·
   intro a w' hB hoff hon
   refine ⟨_, rfl, fun K hK => ?_⟩
   obtain ⟨x80, e80, f80⟩ := hon 12 80 _ (by kernel_rfl) rfl rfl
   replace f80 : x80 = .bool false := f80
   subst f80
   obtain ⟨x87, e87, f87⟩ := hon 19 87 _ (by kernel_rfl) rfl rfl
   replace f87 : x87 = .bool false := f87
   subst f87
   refine value_ (w1 := w') (v := .bool false) (by rfl) rfl ?_ ?_
   ·
    go_simp; try rfl
   exact hK.out _ _ _ rfl rfl (Below.refl _ _)
  exact opLaws_nil
 intro vals w7 hb hv
 have q20 : vals 20 = .bool false := hv 20 _ rfl
 simp only [selOf, List.zipIdx_cons, List.zipIdx_nil, List.map_cons, List.map_nil, Nat.zero_add, Nat.reduceAdd, putSel, if_true, Act.put, List.setIfInBounds_toArray, List.set_cons_zero, List.set_cons_succ, q20]
 clear hv q20
 clear H24
 clear H25
 clear H26
 replace H28 : Aside0 (Kd.C (Kd.int .i64) w7 A28 ([1, 3] : List Int).length ([1, 3] : List Int)) := ⟨Kd.C_below (by repeat (first | exact H28.out | (with_reducible refine Kd.C_alloc ?_ _) | (with_reducible refine Kd.C_drewN ?_ _) | (with_reducible refine Kd.C_drew ?_))) hb⟩
 replace H29 : Aside0 (Kd.C (Kd.int .i64) w7 A29 ([2] : List Int).length ([2] : List Int)) := ⟨Kd.C_below (by repeat (first | exact H29.out | (with_reducible refine Kd.C_alloc ?_ _) | (with_reducible refine Kd.C_drewN ?_ _) | (with_reducible refine Kd.C_drew ?_))) hb⟩
 replace H30 : Aside0 (Kd.C Kd.bool w7 A30 ([false, false, false, false, false, false, false, false] : List Bool).length ([false, false, false, false, false, false, false, false] : List Bool)) := ⟨Kd.C_below (by repeat (first | exact H30.out | (with_reducible refine Kd.C_alloc ?_ _) | (with_reducible refine Kd.C_drewN ?_ _) | (with_reducible refine Kd.C_drew ?_))) hb⟩
 clear BK27
 replace BK31 : Aside0 (w7.heap[w6.heap.size]? = some (.cells #[.slice A28 ([1, 3] : List Int).length c28, .slice A29 ([2] : List Int).length c29, .slice A30 ([false, false, false, false, false, false, false, false] : List Bool).length c30] 25 (0, 0))) := ⟨blk_below (by repeat (first | exact BK31.out | refine blk_drewN ?_ _ | refine blk_drew ?_ | refine blk_alloc ?_ _)) hb⟩
 replace HB := Aside0.mk (below_step (upH HB) hb)
 clear hb
 have zd31_0 := (blk_cell BK31.out 0).trans rfl
 have zd31_1 := (blk_cell BK31.out 1).trans rfl
 have zd31_2 := (blk_cell BK31.out 2).trans rfl
 go_wp2_with fail
 clear zd31_0 zd31_1 zd31_2
 refine (lru_Last.calls (fun _ => True) _ _ ([1, 3] : List Int) (fun _ => True) _ _ ([2] : List Int) _ _ ([false, false, false, false, false, false, false, false] : List Bool) 2 0 _ ?s0 ?s1 ?s2 ?t2 (by first | decide +kernel | kernel_rfl)).mono ?_
 case s0 => exact Kd.V_mono (Kd.V_mk (l28) (Kd.C_F (Kd.heap_int .i64) (by repeat (first | exact H28.out | (with_reducible refine Kd.C_alloc ?_ _) | (with_reducible refine Kd.C_drewN ?_ _) | (with_reducible refine Kd.C_drew ?_))))) (fun _ _ => trivial)
 case s1 => exact Kd.V_mono (Kd.V_mk (l29) (Kd.C_F (Kd.heap_int .i64) (by repeat (first | exact H29.out | (with_reducible refine Kd.C_alloc ?_ _) | (with_reducible refine Kd.C_drewN ?_ _) | (with_reducible refine Kd.C_drew ?_))))) (fun _ _ => trivial)
 case s2 => repeat (first | exact H30.out | (with_reducible refine Kd.C_alloc ?_ _) | (with_reducible refine Kd.C_drewN ?_ _) | (with_reducible refine Kd.C_drew ?_))
 case t2 => exact l30
 rintro e w8 ⟨rfl, hb⟩
 replace H28 : Aside0 (Kd.C (Kd.int .i64) w8 A28 ([1, 3] : List Int).length ([1, 3] : List Int)) := ⟨Kd.C_below (by repeat (first | exact H28.out | (with_reducible refine Kd.C_alloc ?_ _) | (with_reducible refine Kd.C_drewN ?_ _) | (with_reducible refine Kd.C_drew ?_))) hb⟩
 replace H29 : Aside0 (Kd.C (Kd.int .i64) w8 A29 ([2] : List Int).length ([2] : List Int)) := ⟨Kd.C_below (by repeat (first | exact H29.out | (with_reducible refine Kd.C_alloc ?_ _) | (with_reducible refine Kd.C_drewN ?_ _) | (with_reducible refine Kd.C_drew ?_))) hb⟩
 replace H30 : Aside0 (Kd.C Kd.bool w8 A30 ([false, false, false, false, false, false, false, false] : List Bool).length ([false, false, false, false, false, false, false, false] : List Bool)) := ⟨Kd.C_below (by repeat (first | exact H30.out | (with_reducible refine Kd.C_alloc ?_ _) | (with_reducible refine Kd.C_drewN ?_ _) | (with_reducible refine Kd.C_drew ?_))) hb⟩
 replace BK31 : Aside0 (w8.heap[w6.heap.size]? = some (.cells #[.slice A28 ([1, 3] : List Int).length c28, .slice A29 ([2] : List Int).length c29, .slice A30 ([false, false, false, false, false, false, false, false] : List Bool).length c30] 25 (0, 0))) := ⟨blk_below (by repeat (first | exact BK31.out | refine blk_drewN ?_ _ | refine blk_drew ?_ | refine blk_alloc ?_ _)) hb⟩
 replace HB := Aside0.mk (below_step (upH HB) hb)
 clear hb
 have zd31_0 := (blk_cell BK31.out 0).trans rfl
 have zd31_1 := (blk_cell BK31.out 1).trans rfl
 have zd31_2 := (blk_cell BK31.out 2).trans rfl
 go_wp2_with fail
 clear zd31_0 zd31_1 zd31_2
 refine (lru_Where.calls 60 _ _ ([1, 3] : List Int) _ _ ([2] : List Int) _ _ ([false, false, false, false, false, false, false, false] : List Bool) 2 2 0 _ ?s0 ?t0 ?s1 ?t1 ?s2 ?t2 (by first | decide +kernel | kernel_rfl)).mono ?_
 case s0 => repeat (first | exact H28.out | (with_reducible refine Kd.C_alloc ?_ _) | (with_reducible refine Kd.C_drewN ?_ _) | (with_reducible refine Kd.C_drew ?_))
 case t0 => exact l28
 case s1 => repeat (first | exact H29.out | (with_reducible refine Kd.C_alloc ?_ _) | (with_reducible refine Kd.C_drewN ?_ _) | (with_reducible refine Kd.C_drew ?_))
 case t1 => exact l29
 case s2 => repeat (first | exact H30.out | (with_reducible refine Kd.C_alloc ?_ _) | (with_reducible refine Kd.C_drewN ?_ _) | (with_reducible refine Kd.C_drew ?_))
 case t2 => exact l30
 rintro e w9 ⟨rfl, hb⟩
 replace H28 : Aside0 (Kd.C (Kd.int .i64) w9 A28 ([1, 3] : List Int).length ([1, 3] : List Int)) := ⟨Kd.C_below (by repeat (first | exact H28.out | (with_reducible refine Kd.C_alloc ?_ _) | (with_reducible refine Kd.C_drewN ?_ _) | (with_reducible refine Kd.C_drew ?_))) hb⟩
 replace H29 : Aside0 (Kd.C (Kd.int .i64) w9 A29 ([2] : List Int).length ([2] : List Int)) := ⟨Kd.C_below (by repeat (first | exact H29.out | (with_reducible refine Kd.C_alloc ?_ _) | (with_reducible refine Kd.C_drewN ?_ _) | (with_reducible refine Kd.C_drew ?_))) hb⟩
 replace H30 : Aside0 (Kd.C Kd.bool w9 A30 ([false, false, false, false, false, false, false, false] : List Bool).length ([false, false, false, false, false, false, false, false] : List Bool)) := ⟨Kd.C_below (by repeat (first | exact H30.out | (with_reducible refine Kd.C_alloc ?_ _) | (with_reducible refine Kd.C_drewN ?_ _) | (with_reducible refine Kd.C_drew ?_))) hb⟩
 replace BK31 : Aside0 (w9.heap[w6.heap.size]? = some (.cells #[.slice A28 ([1, 3] : List Int).length c28, .slice A29 ([2] : List Int).length c29, .slice A30 ([false, false, false, false, false, false, false, false] : List Bool).length c30] 25 (0, 0))) := ⟨blk_below (by repeat (first | exact BK31.out | refine blk_drewN ?_ _ | refine blk_drew ?_ | refine blk_alloc ?_ _)) hb⟩
 replace HB := Aside0.mk (below_step (upH HB) hb)
 clear hb
 have zd31_0 := (blk_cell BK31.out 0).trans rfl
 have zd31_1 := (blk_cell BK31.out 1).trans rfl
 have zd31_2 := (blk_cell BK31.out 2).trans rfl
 go_wp2_with fail
 clear zd31_0 zd31_1 zd31_2
 refine (lru_Where.calls 60 _ _ ([1, 3] : List Int) _ _ ([2] : List Int) _ _ ([false, false, false, false, false, false, false, false] : List Bool) 3 1 0 _ ?s0 ?t0 ?s1 ?t1 ?s2 ?t2 (by first | decide +kernel | kernel_rfl)).mono ?_
 case s0 => repeat (first | exact H28.out | (with_reducible refine Kd.C_alloc ?_ _) | (with_reducible refine Kd.C_drewN ?_ _) | (with_reducible refine Kd.C_drew ?_))
 case t0 => exact l28
 case s1 => repeat (first | exact H29.out | (with_reducible refine Kd.C_alloc ?_ _) | (with_reducible refine Kd.C_drewN ?_ _) | (with_reducible refine Kd.C_drew ?_))
 case t1 => exact l29
 case s2 => repeat (first | exact H30.out | (with_reducible refine Kd.C_alloc ?_ _) | (with_reducible refine Kd.C_drewN ?_ _) | (with_reducible refine Kd.C_drew ?_))
 case t2 => exact l30
 rintro e w10 ⟨rfl, hb⟩
 replace H28 : Aside0 (Kd.C (Kd.int .i64) w10 A28 ([1, 3] : List Int).length ([1, 3] : List Int)) := ⟨Kd.C_below (by repeat (first | exact H28.out | (with_reducible refine Kd.C_alloc ?_ _) | (with_reducible refine Kd.C_drewN ?_ _) | (with_reducible refine Kd.C_drew ?_))) hb⟩
 replace H29 : Aside0 (Kd.C (Kd.int .i64) w10 A29 ([2] : List Int).length ([2] : List Int)) := ⟨Kd.C_below (by repeat (first | exact H29.out | (with_reducible refine Kd.C_alloc ?_ _) | (with_reducible refine Kd.C_drewN ?_ _) | (with_reducible refine Kd.C_drew ?_))) hb⟩
 replace H30 : Aside0 (Kd.C Kd.bool w10 A30 ([false, false, false, false, false, false, false, false] : List Bool).length ([false, false, false, false, false, false, false, false] : List Bool)) := ⟨Kd.C_below (by repeat (first | exact H30.out | (with_reducible refine Kd.C_alloc ?_ _) | (with_reducible refine Kd.C_drewN ?_ _) | (with_reducible refine Kd.C_drew ?_))) hb⟩
 replace BK31 : Aside0 (w10.heap[w6.heap.size]? = some (.cells #[.slice A28 ([1, 3] : List Int).length c28, .slice A29 ([2] : List Int).length c29, .slice A30 ([false, false, false, false, false, false, false, false] : List Bool).length c30] 25 (0, 0))) := ⟨blk_below (by repeat (first | exact BK31.out | refine blk_drewN ?_ _ | refine blk_drew ?_ | refine blk_alloc ?_ _)) hb⟩
 replace HB := Aside0.mk (below_step (upH HB) hb)
 clear hb
 have zd31_0 := (blk_cell BK31.out 0).trans rfl
 have zd31_1 := (blk_cell BK31.out 1).trans rfl
 have zd31_2 := (blk_cell BK31.out 2).trans rfl
 go_wp2_with fail
 clear zd31_0 zd31_1 zd31_2
 refine (lru_Where.calls 60 _ _ ([1, 3] : List Int) _ _ ([2] : List Int) _ _ ([false, false, false, false, false, false, false, false] : List Bool) 5 0 0 _ ?s0 ?t0 ?s1 ?t1 ?s2 ?t2 (by first | decide +kernel | kernel_rfl)).mono ?_
 case s0 => repeat (first | exact H28.out | (with_reducible refine Kd.C_alloc ?_ _) | (with_reducible refine Kd.C_drewN ?_ _) | (with_reducible refine Kd.C_drew ?_))
 case t0 => exact l28
 case s1 => repeat (first | exact H29.out | (with_reducible refine Kd.C_alloc ?_ _) | (with_reducible refine Kd.C_drewN ?_ _) | (with_reducible refine Kd.C_drew ?_))
 case t1 => exact l29
 case s2 => repeat (first | exact H30.out | (with_reducible refine Kd.C_alloc ?_ _) | (with_reducible refine Kd.C_drewN ?_ _) | (with_reducible refine Kd.C_drew ?_))
 case t2 => exact l30
 rintro e w11 ⟨rfl, hb⟩
 replace H28 : Aside0 (Kd.C (Kd.int .i64) w11 A28 ([1, 3] : List Int).length ([1, 3] : List Int)) := ⟨Kd.C_below (by repeat (first | exact H28.out | (with_reducible refine Kd.C_alloc ?_ _) | (with_reducible refine Kd.C_drewN ?_ _) | (with_reducible refine Kd.C_drew ?_))) hb⟩
 replace H29 : Aside0 (Kd.C (Kd.int .i64) w11 A29 ([2] : List Int).length ([2] : List Int)) := ⟨Kd.C_below (by repeat (first | exact H29.out | (with_reducible refine Kd.C_alloc ?_ _) | (with_reducible refine Kd.C_drewN ?_ _) | (with_reducible refine Kd.C_drew ?_))) hb⟩
 replace H30 : Aside0 (Kd.C Kd.bool w11 A30 ([false, false, false, false, false, false, false, false] : List Bool).length ([false, false, false, false, false, false, false, false] : List Bool)) := ⟨Kd.C_below (by repeat (first | exact H30.out | (with_reducible refine Kd.C_alloc ?_ _) | (with_reducible refine Kd.C_drewN ?_ _) | (with_reducible refine Kd.C_drew ?_))) hb⟩
 replace BK31 : Aside0 (w11.heap[w6.heap.size]? = some (.cells #[.slice A28 ([1, 3] : List Int).length c28, .slice A29 ([2] : List Int).length c29, .slice A30 ([false, false, false, false, false, false, false, false] : List Bool).length c30] 25 (0, 0))) := ⟨blk_below (by repeat (first | exact BK31.out | refine blk_drewN ?_ _ | refine blk_drew ?_ | refine blk_alloc ?_ _)) hb⟩
 replace HB := Aside0.mk (below_step (upH HB) hb)
 clear hb
 have zd31_0 := (blk_cell BK31.out 0).trans rfl
 have zd31_1 := (blk_cell BK31.out 1).trans rfl
 have zd31_2 := (blk_cell BK31.out 2).trans rfl
 go_wp2_with fail
 clear zd31_0 zd31_1 zd31_2
 refine (lru_Where.calls 60 _ _ ([1, 3] : List Int) _ _ ([2] : List Int) _ _ ([false, false, false, false, false, false, false, false] : List Bool) 8 0 2 _ ?s0 ?t0 ?s1 ?t1 ?s2 ?t2 (by first | decide +kernel | kernel_rfl)).mono ?_
 case s0 => repeat (first | exact H28.out | (with_reducible refine Kd.C_alloc ?_ _) | (with_reducible refine Kd.C_drewN ?_ _) | (with_reducible refine Kd.C_drew ?_))
 case t0 => exact l28
 case s1 => repeat (first | exact H29.out | (with_reducible refine Kd.C_alloc ?_ _) | (with_reducible refine Kd.C_drewN ?_ _) | (with_reducible refine Kd.C_drew ?_))
 case t1 => exact l29
 case s2 => repeat (first | exact H30.out | (with_reducible refine Kd.C_alloc ?_ _) | (with_reducible refine Kd.C_drewN ?_ _) | (with_reducible refine Kd.C_drew ?_))
 case t2 => exact l30
 rintro e w12 ⟨rfl, hb⟩
 replace H28 : Aside0 (Kd.C (Kd.int .i64) w12 A28 ([1, 3] : List Int).length ([1, 3] : List Int)) := ⟨Kd.C_below (by repeat (first | exact H28.out | (with_reducible refine Kd.C_alloc ?_ _) | (with_reducible refine Kd.C_drewN ?_ _) | (with_reducible refine Kd.C_drew ?_))) hb⟩
 replace H29 : Aside0 (Kd.C (Kd.int .i64) w12 A29 ([2] : List Int).length ([2] : List Int)) := ⟨Kd.C_below (by repeat (first | exact H29.out | (with_reducible refine Kd.C_alloc ?_ _) | (with_reducible refine Kd.C_drewN ?_ _) | (with_reducible refine Kd.C_drew ?_))) hb⟩
 replace H30 : Aside0 (Kd.C Kd.bool w12 A30 ([false, false, false, false, false, false, false, false] : List Bool).length ([false, false, false, false, false, false, false, false] : List Bool)) := ⟨Kd.C_below (by repeat (first | exact H30.out | (with_reducible refine Kd.C_alloc ?_ _) | (with_reducible refine Kd.C_drewN ?_ _) | (with_reducible refine Kd.C_drew ?_))) hb⟩
 replace BK31 : Aside0 (w12.heap[w6.heap.size]? = some (.cells #[.slice A28 ([1, 3] : List Int).length c28, .slice A29 ([2] : List Int).length c29, .slice A30 ([false, false, false, false, false, false, false, false] : List Bool).length c30] 25 (0, 0))) := ⟨blk_below (by repeat (first | exact BK31.out | refine blk_drewN ?_ _ | refine blk_drew ?_ | refine blk_alloc ?_ _)) hb⟩
 replace HB := Aside0.mk (below_step (upH HB) hb)
 clear hb
 have zd31_0 := (blk_cell BK31.out 0).trans rfl
 have zd31_1 := (blk_cell BK31.out 1).trans rfl
 have zd31_2 := (blk_cell BK31.out 2).trans rfl
 go_wp2_with fail
 clear zd31_0 zd31_1 zd31_2
 refine (lru_Remove.calls 60 _ _ ([1, 3] : List Int) _ _ ([2] : List Int) _ _ ([false, false, false, false, false, false, false, false] : List Bool) 2 ([1, 3] : List Int) ([] : List Int) ([false, false, false, false, false, false, false, false] : List Bool) 0 _ ?s0 ?t0 ?s1 ?t1 ?s2 ?t2 (by first | decide +kernel | kernel_rfl)).mono ?_
 case s0 => repeat (first | exact H28.out | (with_reducible refine Kd.C_alloc ?_ _) | (with_reducible refine Kd.C_drewN ?_ _) | (with_reducible refine Kd.C_drew ?_))
 case t0 => exact l28
 case s1 => repeat (first | exact H29.out | (with_reducible refine Kd.C_alloc ?_ _) | (with_reducible refine Kd.C_drewN ?_ _) | (with_reducible refine Kd.C_drew ?_))
 case t1 => exact l29
 case s2 => repeat (first | exact H30.out | (with_reducible refine Kd.C_alloc ?_ _) | (with_reducible refine Kd.C_drewN ?_ _) | (with_reducible refine Kd.C_drew ?_))
 case t2 => exact l30
 rintro e w13 ⟨v43, v44, v45, rfl, ho43, ho44, ho45, hb⟩
 replace H28 : Aside0 (Kd.C (Kd.int .i64) w13 A28 ([1, 3] : List Int).length ([1, 3] : List Int)) := ⟨Kd.C_below (by repeat (first | exact H28.out | (with_reducible refine Kd.C_alloc ?_ _) | (with_reducible refine Kd.C_drewN ?_ _) | (with_reducible refine Kd.C_drew ?_))) hb⟩
 replace H29 : Aside0 (Kd.C (Kd.int .i64) w13 A29 ([2] : List Int).length ([2] : List Int)) := ⟨Kd.C_below (by repeat (first | exact H29.out | (with_reducible refine Kd.C_alloc ?_ _) | (with_reducible refine Kd.C_drewN ?_ _) | (with_reducible refine Kd.C_drew ?_))) hb⟩
 replace H30 : Aside0 (Kd.C Kd.bool w13 A30 ([false, false, false, false, false, false, false, false] : List Bool).length ([false, false, false, false, false, false, false, false] : List Bool)) := ⟨Kd.C_below (by repeat (first | exact H30.out | (with_reducible refine Kd.C_alloc ?_ _) | (with_reducible refine Kd.C_drewN ?_ _) | (with_reducible refine Kd.C_drew ?_))) hb⟩
 replace BK31 : Aside0 (w13.heap[w6.heap.size]? = some (.cells #[.slice A28 ([1, 3] : List Int).length c28, .slice A29 ([2] : List Int).length c29, .slice A30 ([false, false, false, false, false, false, false, false] : List Bool).length c30] 25 (0, 0))) := ⟨blk_below (by repeat (first | exact BK31.out | refine blk_drewN ?_ _ | refine blk_drew ?_ | refine blk_alloc ?_ _)) hb⟩
 replace HB := Aside0.mk (below_step (upH HB) hb)
 obtain ⟨A43, c43, rfl, l43, h43⟩ := IsRow.of ho43
 have HO43 := Aside0.mk ho43
 have H43 := Aside0.mk h43
 clear h43 ho43
 obtain ⟨A44, c44, rfl, l44, h44⟩ := IsRow.of ho44
 have HO44 := Aside0.mk ho44
 have H44 := Aside0.mk h44
 clear h44 ho44
 obtain ⟨A45, c45, rfl, l45, h45⟩ := IsRow.of ho45
 have HO45 := Aside0.mk ho45
 have H45 := Aside0.mk h45
 clear h45 ho45
 clear hb
 have zd31_0 := (blk_cell BK31.out 0).trans rfl
 have zd31_1 := (blk_cell BK31.out 1).trans rfl
 have zd31_2 := (blk_cell BK31.out 2).trans rfl
 go_wp2_with fail
 clear zd31_0 zd31_1 zd31_2
 refine (lru_Last.calls (fun _ => True) _ _ ([1, 3] : List Int) (fun _ => True) _ _ ([] : List Int) _ _ ([false, false, false, false, false, false, false, false] : List Bool) 3 0 _ ?s0 ?s1 ?s2 ?t2 (by first | decide +kernel | kernel_rfl)).mono ?_
 case s0 => exact Kd.V_mono (Kd.V_mk (l43) (Kd.C_F (Kd.heap_int .i64) (by repeat (first | exact H43.out | (with_reducible refine Kd.C_alloc ?_ _) | (with_reducible refine Kd.C_drewN ?_ _) | (with_reducible refine Kd.C_drew ?_))))) (fun _ _ => trivial)
 case s1 => exact Kd.V_mono (Kd.V_mk (l44) (Kd.C_F (Kd.heap_int .i64) (by repeat (first | exact H44.out | (with_reducible refine Kd.C_alloc ?_ _) | (with_reducible refine Kd.C_drewN ?_ _) | (with_reducible refine Kd.C_drew ?_))))) (fun _ _ => trivial)
 case s2 => repeat (first | exact H45.out | (with_reducible refine Kd.C_alloc ?_ _) | (with_reducible refine Kd.C_drewN ?_ _) | (with_reducible refine Kd.C_drew ?_))
 case t2 => exact l45
 rintro e w14 ⟨rfl, hb⟩
 replace H28 : Aside0 (Kd.C (Kd.int .i64) w14 A28 ([1, 3] : List Int).length ([1, 3] : List Int)) := ⟨Kd.C_below (by repeat (first | exact H28.out | (with_reducible refine Kd.C_alloc ?_ _) | (with_reducible refine Kd.C_drewN ?_ _) | (with_reducible refine Kd.C_drew ?_))) hb⟩
 replace H29 : Aside0 (Kd.C (Kd.int .i64) w14 A29 ([2] : List Int).length ([2] : List Int)) := ⟨Kd.C_below (by repeat (first | exact H29.out | (with_reducible refine Kd.C_alloc ?_ _) | (with_reducible refine Kd.C_drewN ?_ _) | (with_reducible refine Kd.C_drew ?_))) hb⟩
 replace H30 : Aside0 (Kd.C Kd.bool w14 A30 ([false, false, false, false, false, false, false, false] : List Bool).length ([false, false, false, false, false, false, false, false] : List Bool)) := ⟨Kd.C_below (by repeat (first | exact H30.out | (with_reducible refine Kd.C_alloc ?_ _) | (with_reducible refine Kd.C_drewN ?_ _) | (with_reducible refine Kd.C_drew ?_))) hb⟩
 replace H43 : Aside0 (Kd.C (Kd.int .i64) w14 A43 ([1, 3] : List Int).length ([1, 3] : List Int)) := ⟨Kd.C_below (by repeat (first | exact H43.out | (with_reducible refine Kd.C_alloc ?_ _) | (with_reducible refine Kd.C_drewN ?_ _) | (with_reducible refine Kd.C_drew ?_))) hb⟩
 replace H44 : Aside0 (Kd.C (Kd.int .i64) w14 A44 ([] : List Int).length ([] : List Int)) := ⟨Kd.C_below (by repeat (first | exact H44.out | (with_reducible refine Kd.C_alloc ?_ _) | (with_reducible refine Kd.C_drewN ?_ _) | (with_reducible refine Kd.C_drew ?_))) hb⟩
 replace H45 : Aside0 (Kd.C Kd.bool w14 A45 ([false, false, false, false, false, false, false, false] : List Bool).length ([false, false, false, false, false, false, false, false] : List Bool)) := ⟨Kd.C_below (by repeat (first | exact H45.out | (with_reducible refine Kd.C_alloc ?_ _) | (with_reducible refine Kd.C_drewN ?_ _) | (with_reducible refine Kd.C_drew ?_))) hb⟩
 replace BK31 : Aside0 (w14.heap[w6.heap.size]? = some (.cells #[.slice A28 ([1, 3] : List Int).length c28, .slice A29 ([2] : List Int).length c29, .slice A30 ([false, false, false, false, false, false, false, false] : List Bool).length c30] 25 (0, 0))) := ⟨blk_below (by repeat (first | exact BK31.out | refine blk_drewN ?_ _ | refine blk_drew ?_ | refine blk_alloc ?_ _)) hb⟩
 have BK46 : Aside0 (w14.heap[w13.heap.size]? = some (.cells #[.slice A43 ([1, 3] : List Int).length c43, .slice A44 ([] : List Int).length c44, .slice A45 ([false, false, false, false, false, false, false, false] : List Bool).length c45] 25 (0, 0))) := ⟨blk_below (by repeat (first | exact blk_newb _ _ _ (by simp) | refine blk_alloc ?_ _)) hb⟩
 replace HB := Aside0.mk (below_step (upH HB) hb)
 clear hb
 have zd31_0 := (blk_cell BK31.out 0).trans rfl
 have zd31_1 := (blk_cell BK31.out 1).trans rfl
 have zd31_2 := (blk_cell BK31.out 2).trans rfl
 have zd46_0 := (blk_cell BK46.out 0).trans rfl
 have zd46_1 := (blk_cell BK46.out 1).trans rfl
 have zd46_2 := (blk_cell BK46.out 2).trans rfl
 go_wp2_with fail
 clear zd31_0 zd31_1 zd31_2 zd46_0 zd46_1 zd46_2
 refine (lru_Remove.calls 60 _ _ ([1, 3] : List Int) _ _ ([2] : List Int) _ _ ([false, false, false, false, false, false, false, false] : List Bool) 5 ([] : List Int) ([] : List Int) ([] : List Bool) 6 _ ?s0 ?t0 ?s1 ?t1 ?s2 ?t2 (by first | decide +kernel | kernel_rfl)).mono ?_
 case s0 => repeat (first | exact H28.out | (with_reducible refine Kd.C_alloc ?_ _) | (with_reducible refine Kd.C_drewN ?_ _) | (with_reducible refine Kd.C_drew ?_))
 case t0 => exact l28
 case s1 => repeat (first | exact H29.out | (with_reducible refine Kd.C_alloc ?_ _) | (with_reducible refine Kd.C_drewN ?_ _) | (with_reducible refine Kd.C_drew ?_))
 case t1 => exact l29
 case s2 => repeat (first | exact H30.out | (with_reducible refine Kd.C_alloc ?_ _) | (with_reducible refine Kd.C_drewN ?_ _) | (with_reducible refine Kd.C_drew ?_))
 case t2 => exact l30
 rintro e w15 ⟨v47, v48, v49, rfl, ho47, ho48, ho49, hb⟩
 replace H28 : Aside0 (Kd.C (Kd.int .i64) w15 A28 ([1, 3] : List Int).length ([1, 3] : List Int)) := ⟨Kd.C_below (by repeat (first | exact H28.out | (with_reducible refine Kd.C_alloc ?_ _) | (with_reducible refine Kd.C_drewN ?_ _) | (with_reducible refine Kd.C_drew ?_))) hb⟩
 replace H29 : Aside0 (Kd.C (Kd.int .i64) w15 A29 ([2] : List Int).length ([2] : List Int)) := ⟨Kd.C_below (by repeat (first | exact H29.out | (with_reducible refine Kd.C_alloc ?_ _) | (with_reducible refine Kd.C_drewN ?_ _) | (with_reducible refine Kd.C_drew ?_))) hb⟩
 replace H30 : Aside0 (Kd.C Kd.bool w15 A30 ([false, false, false, false, false, false, false, false] : List Bool).length ([false, false, false, false, false, false, false, false] : List Bool)) := ⟨Kd.C_below (by repeat (first | exact H30.out | (with_reducible refine Kd.C_alloc ?_ _) | (with_reducible refine Kd.C_drewN ?_ _) | (with_reducible refine Kd.C_drew ?_))) hb⟩
 replace H43 : Aside0 (Kd.C (Kd.int .i64) w15 A43 ([1, 3] : List Int).length ([1, 3] : List Int)) := ⟨Kd.C_below (by repeat (first | exact H43.out | (with_reducible refine Kd.C_alloc ?_ _) | (with_reducible refine Kd.C_drewN ?_ _) | (with_reducible refine Kd.C_drew ?_))) hb⟩
 replace H44 : Aside0 (Kd.C (Kd.int .i64) w15 A44 ([] : List Int).length ([] : List Int)) := ⟨Kd.C_below (by repeat (first | exact H44.out | (with_reducible refine Kd.C_alloc ?_ _) | (with_reducible refine Kd.C_drewN ?_ _) | (with_reducible refine Kd.C_drew ?_))) hb⟩
 replace H45 : Aside0 (Kd.C Kd.bool w15 A45 ([false, false, false, false, false, false, false, false] : List Bool).length ([false, false, false, false, false, false, false, false] : List Bool)) := ⟨Kd.C_below (by repeat (first | exact H45.out | (with_reducible refine Kd.C_alloc ?_ _) | (with_reducible refine Kd.C_drewN ?_ _) | (with_reducible refine Kd.C_drew ?_))) hb⟩
 replace BK31 : Aside0 (w15.heap[w6.heap.size]? = some (.cells #[.slice A28 ([1, 3] : List Int).length c28, .slice A29 ([2] : List Int).length c29, .slice A30 ([false, false, false, false, false, false, false, false] : List Bool).length c30] 25 (0, 0))) := ⟨blk_below (by repeat (first | exact BK31.out | refine blk_drewN ?_ _ | refine blk_drew ?_ | refine blk_alloc ?_ _)) hb⟩
 replace BK46 : Aside0 (w15.heap[w13.heap.size]? = some (.cells #[.slice A43 ([1, 3] : List Int).length c43, .slice A44 ([] : List Int).length c44, .slice A45 ([false, false, false, false, false, false, false, false] : List Bool).length c45] 25 (0, 0))) := ⟨blk_below (by repeat (first | exact BK46.out | refine blk_drewN ?_ _ | refine blk_drew ?_ | refine blk_alloc ?_ _)) hb⟩
 replace HB := Aside0.mk (below_step (upH HB) hb)
 obtain ⟨A47, c47, rfl, l47, h47⟩ := IsRow.of ho47
 clear h47 ho47
 obtain ⟨A48, c48, rfl, l48, h48⟩ := IsRow.of ho48
 clear h48 ho48
 obtain ⟨A49, c49, rfl, l49, h49⟩ := IsRow.of ho49
 clear h49 ho49
 clear hb
 have zd31_0 := (blk_cell BK31.out 0).trans rfl
 have zd31_1 := (blk_cell BK31.out 1).trans rfl
 have zd31_2 := (blk_cell BK31.out 2).trans rfl
 have zd46_0 := (blk_cell BK46.out 0).trans rfl
 have zd46_1 := (blk_cell BK46.out 1).trans rfl
 have zd46_2 := (blk_cell BK46.out 2).trans rfl
 go_wp2_with fail
 clear zd31_0 zd31_1 zd31_2 zd46_0 zd46_1 zd46_2
 refine (lru_Add.calls 60 _ _ ([1, 3] : List Int) _ _ ([2] : List Int) _ _ ([false, false, false, false, false, false, false, false] : List Bool) 3 ([] : List Int) ([] : List Int) ([] : List Bool) 7 _ ?s0 ?t0 ?s1 ?t1 ?s2 ?t2 (by first | decide +kernel | kernel_rfl)).mono ?_
 case s0 => repeat (first | exact H28.out | (with_reducible refine Kd.C_alloc ?_ _) | (with_reducible refine Kd.C_drewN ?_ _) | (with_reducible refine Kd.C_drew ?_))
 case t0 => exact l28
 case s1 => repeat (first | exact H29.out | (with_reducible refine Kd.C_alloc ?_ _) | (with_reducible refine Kd.C_drewN ?_ _) | (with_reducible refine Kd.C_drew ?_))
 case t1 => exact l29
 case s2 => repeat (first | exact H30.out | (with_reducible refine Kd.C_alloc ?_ _) | (with_reducible refine Kd.C_drewN ?_ _) | (with_reducible refine Kd.C_drew ?_))
 case t2 => exact l30
 rintro e w16 ⟨v50, v51, v52, rfl, ho50, ho51, ho52, hb⟩
 clear H28
 clear H29
 clear H30
 replace H43 : Aside0 (Kd.C (Kd.int .i64) w16 A43 ([1, 3] : List Int).length ([1, 3] : List Int)) := ⟨Kd.C_below (by repeat (first | exact H43.out | (with_reducible refine Kd.C_alloc ?_ _) | (with_reducible refine Kd.C_drewN ?_ _) | (with_reducible refine Kd.C_drew ?_))) hb⟩
 replace H44 : Aside0 (Kd.C (Kd.int .i64) w16 A44 ([] : List Int).length ([] : List Int)) := ⟨Kd.C_below (by repeat (first | exact H44.out | (with_reducible refine Kd.C_alloc ?_ _) | (with_reducible refine Kd.C_drewN ?_ _) | (with_reducible refine Kd.C_drew ?_))) hb⟩
 replace H45 : Aside0 (Kd.C Kd.bool w16 A45 ([false, false, false, false, false, false, false, false] : List Bool).length ([false, false, false, false, false, false, false, false] : List Bool)) := ⟨Kd.C_below (by repeat (first | exact H45.out | (with_reducible refine Kd.C_alloc ?_ _) | (with_reducible refine Kd.C_drewN ?_ _) | (with_reducible refine Kd.C_drew ?_))) hb⟩
 clear BK31
 replace BK46 : Aside0 (w16.heap[w13.heap.size]? = some (.cells #[.slice A43 ([1, 3] : List Int).length c43, .slice A44 ([] : List Int).length c44, .slice A45 ([false, false, false, false, false, false, false, false] : List Bool).length c45] 25 (0, 0))) := ⟨blk_below (by repeat (first | exact BK46.out | refine blk_drewN ?_ _ | refine blk_drew ?_ | refine blk_alloc ?_ _)) hb⟩
 replace HB := Aside0.mk (below_step (upH HB) hb)
 obtain ⟨A50, c50, rfl, l50, h50⟩ := IsRow.of ho50
 clear h50 ho50
 obtain ⟨A51, c51, rfl, l51, h51⟩ := IsRow.of ho51
 clear h51 ho51
 obtain ⟨A52, c52, rfl, l52, h52⟩ := IsRow.of ho52
 clear h52 ho52
 clear hb
 have zd46_0 := (blk_cell BK46.out 0).trans rfl
 have zd46_1 := (blk_cell BK46.out 1).trans rfl
 have zd46_2 := (blk_cell BK46.out 2).trans rfl
 go_wp2_with fail
 clear zd46_0 zd46_1 zd46_2
 refine (headgatelaw07_lists.calls 60 (fun _ => True) _ _ ([3, 2] : List Int) (fun _ => True) _ _ ([1, 0] : List Int) _ _ ([] : List Int) ([3, 2] : List Int) ([1, 0] : List Int) ([false, false, false, false, false, false, false, false] : List Bool) _ ?s0 ?s1 ?s2 ?t2 (by first | decide +kernel | kernel_rfl)).mono ?_
 case s0 => exact Kd.V_mono (Kd.V_mk (Nat.le_refl _) (Kd.C_F (Kd.heap_int .i64) (by repeat (first | exact lit_Cb _ _ _ (by simp) _ (by simp) | (with_reducible refine Kd.C_alloc ?_ _) | (with_reducible refine Kd.C_drewN ?_ _) | (with_reducible refine Kd.C_drew ?_))))) (fun _ _ => trivial)
 case s1 => exact Kd.V_mono (Kd.V_mk (Nat.le_refl _) (Kd.C_F (Kd.heap_int .i64) (by repeat (first | exact lit_Cb _ _ _ (by simp) _ (by simp) | (with_reducible refine Kd.C_alloc ?_ _) | (with_reducible refine Kd.C_drewN ?_ _) | (with_reducible refine Kd.C_drew ?_))))) (fun _ _ => trivial)
 case s2 => repeat (first | exact Kd.C_nil _ _ | (with_reducible refine Kd.C_alloc ?_ _) | (with_reducible refine Kd.C_drewN ?_ _) | (with_reducible refine Kd.C_drew ?_))
 case t2 => exact Nat.zero_le _
 rintro e w17 ⟨v55, v56, v57, rfl, ho55, ho56, ho57, hb⟩
 replace H43 : Aside0 (Kd.C (Kd.int .i64) w17 A43 ([1, 3] : List Int).length ([1, 3] : List Int)) := ⟨Kd.C_below (by repeat (first | exact H43.out | (with_reducible refine Kd.C_alloc ?_ _) | (with_reducible refine Kd.C_drewN ?_ _) | (with_reducible refine Kd.C_drew ?_))) hb⟩
 replace H44 : Aside0 (Kd.C (Kd.int .i64) w17 A44 ([] : List Int).length ([] : List Int)) := ⟨Kd.C_below (by repeat (first | exact H44.out | (with_reducible refine Kd.C_alloc ?_ _) | (with_reducible refine Kd.C_drewN ?_ _) | (with_reducible refine Kd.C_drew ?_))) hb⟩
 replace H45 : Aside0 (Kd.C Kd.bool w17 A45 ([false, false, false, false, false, false, false, false] : List Bool).length ([false, false, false, false, false, false, false, false] : List Bool)) := ⟨Kd.C_below (by repeat (first | exact H45.out | (with_reducible refine Kd.C_alloc ?_ _) | (with_reducible refine Kd.C_drewN ?_ _) | (with_reducible refine Kd.C_drew ?_))) hb⟩
 replace BK46 : Aside0 (w17.heap[w13.heap.size]? = some (.cells #[.slice A43 ([1, 3] : List Int).length c43, .slice A44 ([] : List Int).length c44, .slice A45 ([false, false, false, false, false, false, false, false] : List Bool).length c45] 25 (0, 0))) := ⟨blk_below (by repeat (first | exact BK46.out | refine blk_drewN ?_ _ | refine blk_drew ?_ | refine blk_alloc ?_ _)) hb⟩
 replace HB := Aside0.mk (below_step (upH HB) hb)
 obtain ⟨A55, c55, rfl, l55, h55⟩ : IsRow (Kd.int .i64) ([3, 2] : List Int) v55 w17 := by first | exact IsRow.of ho55 | exact IsRow.ofV ho55
 have H55 := Aside0.mk h55
 clear h55 ho55
 obtain ⟨A56, c56, rfl, l56, h56⟩ : IsRow (Kd.int .i64) ([1, 0] : List Int) v56 w17 := by first | exact IsRow.of ho56 | exact IsRow.ofV ho56
 have H56 := Aside0.mk h56
 clear h56 ho56
 obtain ⟨A57, c57, rfl, l57, h57⟩ : IsRow Kd.bool ([false, false, false, false, false, false, false, false] : List Bool) v57 w17 := by first | exact IsRow.of ho57 | exact IsRow.ofV ho57
 have H57 := Aside0.mk h57
 clear h57 ho57
 clear hb
 have zd46_0 := (blk_cell BK46.out 0).trans rfl
 have zd46_1 := (blk_cell BK46.out 1).trans rfl
 have zd46_2 := (blk_cell BK46.out 2).trans rfl
 go_wp2_with fail
 clear zd46_0 zd46_1 zd46_2
 refine (lru_Order.calls 60 _ _ ([3, 2] : List Int) _ _ ([1, 0] : List Int) _ _ ([false, false, false, false, false, false, false, false] : List Bool) ([0, 1, 2, 3] : List Int) 0 _ ?s0 ?t0 ?s1 ?t1 ?s2 ?t2 (by first | decide +kernel | kernel_rfl)).mono ?_
 case s0 => repeat (first | exact H55.out | (with_reducible refine Kd.C_alloc ?_ _) | (with_reducible refine Kd.C_drewN ?_ _) | (with_reducible refine Kd.C_drew ?_))
 case t0 => exact l55
 case s1 => repeat (first | exact H56.out | (with_reducible refine Kd.C_alloc ?_ _) | (with_reducible refine Kd.C_drewN ?_ _) | (with_reducible refine Kd.C_drew ?_))
 case t1 => exact l56
 case s2 => repeat (first | exact H57.out | (with_reducible refine Kd.C_alloc ?_ _) | (with_reducible refine Kd.C_drewN ?_ _) | (with_reducible refine Kd.C_drew ?_))
 case t2 => exact l57
 rintro e w18 ⟨v58, rfl, ho58, hb⟩
 replace H43 : Aside0 (Kd.C (Kd.int .i64) w18 A43 ([1, 3] : List Int).length ([1, 3] : List Int)) := ⟨Kd.C_below (by repeat (first | exact H43.out | (with_reducible refine Kd.C_alloc ?_ _) | (with_reducible refine Kd.C_drewN ?_ _) | (with_reducible refine Kd.C_drew ?_))) hb⟩
 replace H44 : Aside0 (Kd.C (Kd.int .i64) w18 A44 ([] : List Int).length ([] : List Int)) := ⟨Kd.C_below (by repeat (first | exact H44.out | (with_reducible refine Kd.C_alloc ?_ _) | (with_reducible refine Kd.C_drewN ?_ _) | (with_reducible refine Kd.C_drew ?_))) hb⟩
 replace H45 : Aside0 (Kd.C Kd.bool w18 A45 ([false, false, false, false, false, false, false, false] : List Bool).length ([false, false, false, false, false, false, false, false] : List Bool)) := ⟨Kd.C_below (by repeat (first | exact H45.out | (with_reducible refine Kd.C_alloc ?_ _) | (with_reducible refine Kd.C_drewN ?_ _) | (with_reducible refine Kd.C_drew ?_))) hb⟩
 clear H55
 clear H56
 clear H57
 replace BK46 : Aside0 (w18.heap[w13.heap.size]? = some (.cells #[.slice A43 ([1, 3] : List Int).length c43, .slice A44 ([] : List Int).length c44, .slice A45 ([false, false, false, false, false, false, false, false] : List Bool).length c45] 25 (0, 0))) := ⟨blk_below (by repeat (first | exact BK46.out | refine blk_drewN ?_ _ | refine blk_drew ?_ | refine blk_alloc ?_ _)) hb⟩
 replace HB := Aside0.mk (below_step (upH HB) hb)
 obtain ⟨A58, c58, rfl, l58, h58⟩ := IsRow.of ho58
 have H58 := Aside0.mk h58
 clear h58 ho58
 clear hb
 go_wp2_with fail
 refine shut_code 32 [175, 176, 177, 178, 179, 180, 181, 182, 183, 184, 185, 186, 187, 188, 189, 190, 191, 192, 193, 194, 195, 196, 197, 198, 199, 200, 201, 202, 203, 204, 205, 206] [aggF [rowF (Kd.int .i64) ([1, 3] : List Int), rowF (Kd.int .i64) ([] : List Int), rowF Kd.bool ([false, false, false, false, false, false, false, false] : List Bool)], rowF (Kd.int .i64) ([1, 3] : List Int), aggF [rowF (Kd.int .i64) ([1, 3] : List Int), rowF (Kd.int .i64) ([] : List Int), rowF Kd.bool ([false, false, false, false, false, false, false, false] : List Bool)], litF (.int .i64 0), litF (.bool true), litF (.bool false), litF (.bool false), litF (.int .i64 3), litF (.bool false), litF (.bool false), litF (.bool false), litF (.int .i64 0), litF (.bool false), litF (.bool false), litF (.bool false), litF (.int .i64 6), litF (.bool false), litF (.bool false), litF (.bool false), litF (.int .i64 7), litF (.bool false), litF (.bool false), litF (.bool false), rowF (Kd.int .i64) ([0, 1, 2, 3] : List Int), rowF (Kd.int .i64) ([0, 1, 2, 3] : List Int), litF (.bool true), litF (.bool false), litF (.bool false), litF (.bool false), litF (.int .i64 0), litF (.bool false), litF (.bool false)] (by kernel_rfl) rfl headgatelaw07_LruKnown.tab21 headgatelaw07_LruKnown.bits21 (by kernel_rfl) (by kernel_rfl) (by kernel_rfl) rfl (by kernel_rfl) ?_ ?_
 · as_aux_lemma =>
  rw [show List.range 32 = [0, 1, 2, 3, 4, 5, 6, 7, 8, 9, 10, 11, 12, 13, 14, 15, 16, 17, 18, 19, 20, 21, 22, 23, 24, 25, 26, 27, 28, 29, 30, 31] from rfl]
  refine opLaws_cons ?_ ?_
  ·
   intro a w' hB hoff hon
   refine ⟨_, rfl, fun K hK => ?_⟩
   have e17 : a.tmps[17]? = some (.pointer (some ⟨w13.heap.size, 0, none⟩)) := (hoff 17 (by kernel_rfl)).trans rfl
   have bk : w'.heap[w13.heap.size]? = some (.cells #[.slice A43 ([1, 3] : List Int).length c43, .slice A44 ([] : List Int).length c44, .slice A45 ([false, false, false, false, false, false, false, false] : List Bool).length c45] 25 (0, 0)) := blk_below (by repeat (first | exact BK46.out | refine blk_alloc ?_ _)) hB
   have z0 : w'.cell? ⟨_, 0, none⟩ = some (.slice A43 ([1, 3] : List Int).length c43) := (blk_cell bk 0).trans rfl
   have z1 : w'.cell? ⟨_, 1, none⟩ = some (.slice A44 ([] : List Int).length c44) := (blk_cell bk 1).trans rfl
   have z2 : w'.cell? ⟨_, 2, none⟩ = some (.slice A45 ([false, false, false, false, false, false, false, false] : List Bool).length c45) := (blk_cell bk 2).trans rfl
   refine value_ (w1 := w') (v := .agg #[.slice A43 ([1, 3] : List Int).length c43, .slice A44 ([] : List Int).length c44, .slice A45 ([false, false, false, false, false, false, false, false] : List Bool).length c45]) (by rfl) rfl ?_ ?_
   ·
    go_simp; try rfl
   exact hK.out _ _ _ rfl ⟨_, rfl, ⟨_, _, rfl, ⟨_, _, rfl, l43, Kd.C_below (by repeat (first | exact H43.out | (with_reducible refine Kd.C_alloc ?_ _))) hB⟩, ⟨_, _, rfl, ⟨_, _, rfl, l44, Kd.C_below (by repeat (first | exact H44.out | (with_reducible refine Kd.C_alloc ?_ _))) hB⟩, ⟨_, _, rfl, ⟨_, _, rfl, l45, Kd.C_below (by repeat (first | exact H45.out | (with_reducible refine Kd.C_alloc ?_ _))) hB⟩, rfl⟩⟩⟩⟩ (Below.refl _ _)
  refine opLaws_cons ?_ ?_
  ·
   intro a w' hB hoff hon
   refine ⟨_, rfl, fun K hK => ?_⟩
   refine Kd.R_lit_step (Kd.int .i64) _ 3 ?hg (N := 176) ?hd (xs := ([1, 3] : List Int)) (inner := [.int .i64 1, .int .i64 3]) (ok := fun _ => True) (okp := fun _ => True) ?hr ?hp (fun _ hk => hk) trivial (Below.refl _ _) (Nat.le_refl _) (by simp) ?_
   case hd => rfl
   case hg => exact rfl
   case hr => first | (go_simp; done) | (go_simp; rfl)
   case hp => exact (Reps.one (show Kd.M (Kd.int .i64) _ _ _ 1 [.int .i64 1] from rfl) (Reps.one (show Kd.M (Kd.int .i64) _ _ _ 3 [.int .i64 3] from rfl) (Reps.none _ _)))
   intro v w2 ho hb _ _
   exact hK.out _ _ _ rfl (IsRow.of ho) hb
  refine opLaws_cons ?_ ?_
  ·
   intro a w' hB hoff hon
   refine ⟨_, rfl, fun K hK => ?_⟩
   obtain ⟨x176, e176, f176⟩ := hon 1 176 _ (by kernel_rfl) rfl rfl
   obtain ⟨A59x, c59x, rfl, l59x, h59x⟩ := f176
   refine goes_ Try.func42 (by kernel_rfl) rfl #[.slice A59x ([1, 3] : List Int).length c59x, .slice none 0 0, .slice none 0 0] (by rfl) rfl rfl (by first | (simp only [List.map_toArray, List.map_cons, List.map_nil, Act.eval, Array.getD_eq_getD_getElem?, Option.getD_some, e176]; done) | (simp only [List.map_toArray, List.map_cons, List.map_nil, Act.eval, Array.getD_eq_getD_getElem?, Option.getD_some, e176]; rfl) | rfl) ?_
   refine (headgatelaw07_lists.calls 60 _ _ _ ([1, 3] : List Int) _ _ _ ([] : List Int) _ _ ([] : List Int) ([1, 3] : List Int) ([] : List Int) ([false, false, false, false, false, false, false, false] : List Bool) _ (Kd.V_mk l59x (Kd.C_F (Kd.heap_int .i64) h59x)) (Kd.V_mk (c := 0) (Nat.zero_le _) (Kd.C_F (Kd.heap_int .i64) (Kd.C_nil _ _))) (Kd.C_nil _ _) (Nat.zero_le _) (by first | decide +kernel | kernel_rfl)).mono ?_
   rintro e w2 ⟨v60, v61, v62, rfl, ho60, ho61, ho62, hb⟩
   exact ⟨_, rfl, hK.out _ _ _ rfl ⟨_, rfl, ⟨_, _, rfl, (by first | exact IsRow.of ho60 | exact IsRow.ofV ho60), ⟨_, _, rfl, (by first | exact IsRow.of ho61 | exact IsRow.ofV ho61), ⟨_, _, rfl, (by first | exact IsRow.of ho62 | exact IsRow.ofV ho62), rfl⟩⟩⟩⟩ hb⟩
  refine opLaws_cons ?_ ?_
  ·
   intro a w' hB hoff hon
   refine ⟨_, rfl, fun K hK => ?_⟩
   have e3 : a.tmps[3]? = some (.int .i64 0) := (hoff 3 (by kernel_rfl)).trans rfl
   refine value_ (w1 := w') (v := .int .i64 0) (by rfl) rfl ?_ ?_
   ·
    go_simp; try rfl
   exact hK.out _ _ _ rfl rfl (Below.refl _ _)
  refine opLaws_cons ?_ ?_
  ·
   intro a w' hB hoff hon
   refine ⟨_, rfl, fun K hK => ?_⟩
   obtain ⟨x175, e175, f175⟩ := hon 0 175 _ (by kernel_rfl) rfl rfl
   obtain ⟨_, rfl, ⟨_, _, rfl, ⟨A43x, c43x, rfl, l43x, h43x⟩, ⟨_, _, rfl, ⟨A44x, c44x, rfl, l44x, h44x⟩, ⟨_, _, rfl, ⟨A45x, c45x, rfl, l45x, h45x⟩, rfl⟩⟩⟩⟩ := f175
   obtain ⟨x177, e177, f177⟩ := hon 2 177 _ (by kernel_rfl) rfl rfl
   obtain ⟨_, rfl, ⟨_, _, rfl, ⟨A60x, c60x, rfl, l60x, h60x⟩, ⟨_, _, rfl, ⟨A61x, c61x, rfl, l61x, h61x⟩, ⟨_, _, rfl, ⟨A62x, c62x, rfl, l62x, h62x⟩, rfl⟩⟩⟩⟩ := f177
   obtain ⟨x178, e178, f178⟩ := hon 3 178 _ (by kernel_rfl) rfl rfl
   replace f178 : x178 = .int .i64 0 := f178
   subst f178
   refine goes_ Try.func28 (by kernel_rfl) rfl #[.agg #[.slice A43x ([1, 3] : List Int).length c43x, .slice A44x ([] : List Int).length c44x, .slice A45x ([false, false, false, false, false, false, false, false] : List Bool).length c45x], .agg #[.slice A60x ([1, 3] : List Int).length c60x, .slice A61x ([] : List Int).length c61x, .slice A62x ([false, false, false, false, false, false, false, false] : List Bool).length c62x], .int .i64 0] (by rfl) rfl rfl (by first | (simp only [List.map_toArray, List.map_cons, List.map_nil, Act.eval, Array.getD_eq_getD_getElem?, Option.getD_some, e175, e177, e178]; done) | (simp only [List.map_toArray, List.map_cons, List.map_nil, Act.eval, Array.getD_eq_getD_getElem?, Option.getD_some, e175, e177, e178]; rfl) | rfl) ?_
   refine (headgatelaw07_is.calls 60 _ _ ([1, 3] : List Int) _ _ ([] : List Int) _ _ ([false, false, false, false, false, false, false, false] : List Bool) _ _ ([1, 3] : List Int) _ _ ([] : List Int) _ _ ([false, false, false, false, false, false, false, false] : List Bool) 0 true _ h43x l43x h44x l44x h45x l45x h60x l60x h61x l61x h62x l62x (by first | decide +kernel | kernel_rfl)).mono ?_
   rintro e w2 ⟨rfl, hb⟩
   exact ⟨_, rfl, hK.out _ _ _ rfl rfl hb⟩
  refine opLaws_cons ?_ ?_
  ·
   intro a w' hB hoff hon
   refine ⟨_, rfl, fun K hK => ?_⟩
   obtain ⟨x179, e179, f179⟩ := hon 4 179 _ (by kernel_rfl) rfl rfl
   replace f179 : x179 = .bool true := f179
   subst f179
   refine value_ (w1 := w') (v := .bool false) (by rfl) rfl ?_ ?_
   ·
    go_simp; try rfl
   exact hK.out _ _ _ rfl rfl (Below.refl _ _)
  refine opLaws_cons ?_ ?_
  ·
   intro a w' hB hoff hon
   refine ⟨_, rfl, fun K hK => ?_⟩
   obtain ⟨x180, e180, f180⟩ := hon 5 180 _ (by kernel_rfl) rfl rfl
   replace f180 : x180 = .bool false := f180
   subst f180
   refine value_ (w1 := w') (v := .bool false) (by rfl) rfl ?_ ?_
   ·
    go_simp; try rfl
   exact hK.out _ _ _ rfl rfl (Below.refl _ _)
  refine opLaws_cons ?_ ?_
  ·
   intro a w' hB hoff hon
   refine ⟨_, rfl, fun K hK => ?_⟩
   have e9 : a.tmps[9]? = some (.int .i64 3) := (hoff 9 (by kernel_rfl)).trans rfl
   obtain ⟨x181, e181, f181⟩ := hon 6 181 _ (by kernel_rfl) rfl rfl
   replace f181 : x181 = .bool false := f181
   subst f181
   refine value_ (w1 := w') (v := .int .i64 3) (wanted_on rfl rfl rfl e181) rfl ?_ ?_
   ·
    go_simp; try rfl
   exact hK.out _ _ _ rfl rfl (Below.refl _ _)
  refine opLaws_cons ?_ ?_
  ·
   intro a w' hB hoff hon
   refine ⟨_, rfl, fun K hK => ?_⟩
   obtain ⟨x182, e182, f182⟩ := hon 7 182 _ (by kernel_rfl) rfl rfl
   replace f182 : x182 = .int .i64 3 := f182
   subst f182
   obtain ⟨x181, e181, f181⟩ := hon 6 181 _ (by kernel_rfl) rfl rfl
   replace f181 : x181 = .bool false := f181
   subst f181
   refine value_ (w1 := w') (v := .bool false) (wanted_on rfl rfl rfl e181) rfl ?_ ?_
   ·
    go_simp; try rfl
   exact hK.out _ _ _ rfl rfl (Below.refl _ _)
  refine opLaws_cons ?_ ?_
  ·
   intro a w' hB hoff hon
   refine ⟨_, rfl, fun K hK => ?_⟩
   obtain ⟨x181, e181, f181⟩ := hon 6 181 _ (by kernel_rfl) rfl rfl
   replace f181 : x181 = .bool false := f181
   subst f181
   obtain ⟨x183, e183, f183⟩ := hon 8 183 _ (by kernel_rfl) rfl rfl
   replace f183 : x183 = .bool false := f183
   subst f183
   refine value_ (w1 := w') (v := .bool false) (by rfl) rfl ?_ ?_
   ·
    go_simp; try rfl
   exact hK.out _ _ _ rfl rfl (Below.refl _ _)
  refine opLaws_cons ?_ ?_
  ·
   intro a w' hB hoff hon
   refine ⟨_, rfl, fun K hK => ?_⟩
   obtain ⟨x184, e184, f184⟩ := hon 9 184 _ (by kernel_rfl) rfl rfl
   replace f184 : x184 = .bool false := f184
   subst f184
   refine value_ (w1 := w') (v := .bool false) (by rfl) rfl ?_ ?_
   ·
    go_simp; try rfl
   exact hK.out _ _ _ rfl rfl (Below.refl _ _)
  refine opLaws_cons ?_ ?_
  ·
   intro a w' hB hoff hon
   refine ⟨_, rfl, fun K hK => ?_⟩
   have e6 : a.tmps[6]? = some (.int .i64 0) := (hoff 6 (by kernel_rfl)).trans rfl
   obtain ⟨x185, e185, f185⟩ := hon 10 185 _ (by kernel_rfl) rfl rfl
   replace f185 : x185 = .bool false := f185
   subst f185
   refine value_ (w1 := w') (v := .int .i64 0) (wanted_on rfl rfl rfl e185) rfl ?_ ?_
   ·
    go_simp; try rfl
   exact hK.out _ _ _ rfl rfl (Below.refl _ _)
  refine opLaws_cons ?_ ?_
  ·
   intro a w' hB hoff hon
   refine ⟨_, rfl, fun K hK => ?_⟩
   obtain ⟨x186, e186, f186⟩ := hon 11 186 _ (by kernel_rfl) rfl rfl
   replace f186 : x186 = .int .i64 0 := f186
   subst f186
   obtain ⟨x185, e185, f185⟩ := hon 10 185 _ (by kernel_rfl) rfl rfl
   replace f185 : x185 = .bool false := f185
   subst f185
   refine value_ (w1 := w') (v := .bool false) (wanted_on rfl rfl rfl e185) rfl ?_ ?_
   ·
    go_simp; try rfl
   exact hK.out _ _ _ rfl rfl (Below.refl _ _)
  refine opLaws_cons ?_ ?_
  ·
   intro a w' hB hoff hon
   refine ⟨_, rfl, fun K hK => ?_⟩
   obtain ⟨x185, e185, f185⟩ := hon 10 185 _ (by kernel_rfl) rfl rfl
   replace f185 : x185 = .bool false := f185
   subst f185
   obtain ⟨x187, e187, f187⟩ := hon 12 187 _ (by kernel_rfl) rfl rfl
   replace f187 : x187 = .bool false := f187
   subst f187
   refine value_ (w1 := w') (v := .bool false) (by rfl) rfl ?_ ?_
   ·
    go_simp; try rfl
   exact hK.out _ _ _ rfl rfl (Below.refl _ _)
  refine opLaws_cons ?_ ?_
  ·
   intro a w' hB hoff hon
   refine ⟨_, rfl, fun K hK => ?_⟩
   obtain ⟨x188, e188, f188⟩ := hon 13 188 _ (by kernel_rfl) rfl rfl
   replace f188 : x188 = .bool false := f188
   subst f188
   refine value_ (w1 := w') (v := .bool false) (by rfl) rfl ?_ ?_
   ·
    go_simp; try rfl
   exact hK.out _ _ _ rfl rfl (Below.refl _ _)
  refine opLaws_cons ?_ ?_
  ·
   intro a w' hB hoff hon
   refine ⟨_, rfl, fun K hK => ?_⟩
   have e12 : a.tmps[12]? = some (.int .i64 6) := (hoff 12 (by kernel_rfl)).trans rfl
   obtain ⟨x189, e189, f189⟩ := hon 14 189 _ (by kernel_rfl) rfl rfl
   replace f189 : x189 = .bool false := f189
   subst f189
   refine value_ (w1 := w') (v := .int .i64 6) (wanted_on rfl rfl rfl e189) rfl ?_ ?_
   ·
    go_simp; try rfl
   exact hK.out _ _ _ rfl rfl (Below.refl _ _)
  refine opLaws_cons ?_ ?_
  ·
   intro a w' hB hoff hon
   refine ⟨_, rfl, fun K hK => ?_⟩
   obtain ⟨x190, e190, f190⟩ := hon 15 190 _ (by kernel_rfl) rfl rfl
   replace f190 : x190 = .int .i64 6 := f190
   subst f190
   obtain ⟨x189, e189, f189⟩ := hon 14 189 _ (by kernel_rfl) rfl rfl
   replace f189 : x189 = .bool false := f189
   subst f189
   refine value_ (w1 := w') (v := .bool false) (wanted_on rfl rfl rfl e189) rfl ?_ ?_
   ·
    go_simp; try rfl
   exact hK.out _ _ _ rfl rfl (Below.refl _ _)
  refine opLaws_cons ?_ ?_
  ·
   intro a w' hB hoff hon
   refine ⟨_, rfl, fun K hK => ?_⟩
   obtain ⟨x189, e189, f189⟩ := hon 14 189 _ (by kernel_rfl) rfl rfl
   replace f189 : x189 = .bool false := f189
   subst f189
   obtain ⟨x191, e191, f191⟩ := hon 16 191 _ (by kernel_rfl) rfl rfl
   replace f191 : x191 = .bool false := f191
   subst f191
   refine value_ (w1 := w') (v := .bool false) (by rfl) rfl ?_ ?_
   ·
    go_simp; try rfl
   exact hK.out _ _ _ rfl rfl (Below.refl _ _)
  refine opLaws_cons ?_ ?_
  ·
   intro a w' hB hoff hon
   refine ⟨_, rfl, fun K hK => ?_⟩
   obtain ⟨x192, e192, f192⟩ := hon 17 192 _ (by kernel_rfl) rfl rfl
   replace f192 : x192 = .bool false := f192
   subst f192
   refine value_ (w1 := w') (v := .bool false) (by rfl) rfl ?_ ?_
   ·
    go_simp; try rfl
   exact hK.out _ _ _ rfl rfl (Below.refl _ _)
  refine opLaws_cons ?_ ?_
  ·
   intro a w' hB hoff hon
   refine ⟨_, rfl, fun K hK => ?_⟩
   have e14 : a.tmps[14]? = some (.int .i64 7) := (hoff 14 (by kernel_rfl)).trans rfl
   obtain ⟨x193, e193, f193⟩ := hon 18 193 _ (by kernel_rfl) rfl rfl
   replace f193 : x193 = .bool false := f193
   subst f193
   refine value_ (w1 := w') (v := .int .i64 7) (wanted_on rfl rfl rfl e193) rfl ?_ ?_
   ·
    go_simp; try rfl
   exact hK.out _ _ _ rfl rfl (Below.refl _ _)
  refine opLaws_cons ?_ ?_
  ·
   intro a w' hB hoff hon
   refine ⟨_, rfl, fun K hK => ?_⟩
   obtain ⟨x194, e194, f194⟩ := hon 19 194 _ (by kernel_rfl) rfl rfl
   replace f194 : x194 = .int .i64 7 := f194
   subst f194
   obtain ⟨x193, e193, f193⟩ := hon 18 193 _ (by kernel_rfl) rfl rfl
   replace f193 : x193 = .bool false := f193
   subst f193
   refine value_ (w1 := w') (v := .bool false) (wanted_on rfl rfl rfl e193) rfl ?_ ?_
   ·
    go_simp; try rfl
   exact hK.out _ _ _ rfl rfl (Below.refl _ _)
  refine opLaws_cons ?_ ?_
  ·
   intro a w' hB hoff hon
   refine ⟨_, rfl, fun K hK => ?_⟩
   obtain ⟨x193, e193, f193⟩ := hon 18 193 _ (by kernel_rfl) rfl rfl
   replace f193 : x193 = .bool false := f193
   subst f193
   obtain ⟨x195, e195, f195⟩ := hon 20 195 _ (by kernel_rfl) rfl rfl
   replace f195 : x195 = .bool false := f195
   subst f195
   refine value_ (w1 := w') (v := .bool false) (by rfl) rfl ?_ ?_
   ·
    go_simp; try rfl
   exact hK.out _ _ _ rfl rfl (Below.refl _ _)
  refine opLaws_cons ?_ ?_
  ·
   intro a w' hB hoff hon
   refine ⟨_, rfl, fun K hK => ?_⟩
   obtain ⟨x196, e196, f196⟩ := hon 21 196 _ (by kernel_rfl) rfl rfl
   replace f196 : x196 = .bool false := f196
   subst f196
   refine value_ (w1 := w') (v := .bool false) (by rfl) rfl ?_ ?_
   ·
    go_simp; try rfl
   exact hK.out _ _ _ rfl rfl (Below.refl _ _)
  refine opLaws_cons ?_ ?_
  ·
   intro a w' hB hoff hon
   refine ⟨_, rfl, fun K hK => ?_⟩
   have e18 : a.tmps[18]? = some (.slice A58 ([0, 1, 2, 3] : List Int).length c58) := (hoff 18 (by kernel_rfl)).trans rfl
   obtain ⟨x197, e197, f197⟩ := hon 22 197 _ (by kernel_rfl) rfl rfl
   replace f197 : x197 = .bool false := f197
   subst f197
   refine value_ (w1 := w') (v := .slice A58 ([0, 1, 2, 3] : List Int).length c58) (wanted_on rfl rfl rfl e197) rfl ?_ ?_
   ·
    go_simp; try rfl
   exact hK.out _ _ _ rfl ⟨_, _, rfl, l58, Kd.C_below (by repeat (first | exact H58.out | (with_reducible refine Kd.C_alloc ?_ _))) hB⟩ (Below.refl _ _)
  refine opLaws_cons ?_ ?_
  ·
   intro a w' hB hoff hon
   refine ⟨_, rfl, fun K hK => ?_⟩
   obtain ⟨x197, e197, f197⟩ := hon 22 197 _ (by kernel_rfl) rfl rfl
   replace f197 : x197 = .bool false := f197
   subst f197
   refine Kd.R_lit_step (Kd.int .i64) _ 3 ?hg (N := 199) ?hd (xs := ([0, 1, 2, 3] : List Int)) (inner := [.int .i64 0, .int .i64 1, .int .i64 2, .int .i64 3]) (ok := fun _ => True) (okp := fun _ => True) ?hr ?hp (fun _ hk => hk) trivial (Below.refl _ _) (Nat.le_refl _) (by simp) ?_
   case hd => rfl
   case hg => exact (wanted_on rfl rfl rfl e197)
   case hr => first | (go_simp; done) | (go_simp; rfl)
   case hp => exact (Reps.one (show Kd.M (Kd.int .i64) _ _ _ 0 [.int .i64 0] from rfl) (Reps.one (show Kd.M (Kd.int .i64) _ _ _ 1 [.int .i64 1] from rfl) (Reps.one (show Kd.M (Kd.int .i64) _ _ _ 2 [.int .i64 2] from rfl) (Reps.one (show Kd.M (Kd.int .i64) _ _ _ 3 [.int .i64 3] from rfl) (Reps.none _ _)))))
   intro v w2 ho hb _ _
   exact hK.out _ _ _ rfl (IsRow.of ho) hb
  refine opLaws_cons ?_ ?_
  ·
   intro a w' hB hoff hon
   refine ⟨_, rfl, fun K hK => ?_⟩
   obtain ⟨x198, e198, f198⟩ := hon 23 198 _ (by kernel_rfl) rfl rfl
   obtain ⟨A58x, c58x, rfl, l58x, h58x⟩ := f198
   obtain ⟨x199, e199, f199⟩ := hon 24 199 _ (by kernel_rfl) rfl rfl
   obtain ⟨A63x, c63x, rfl, l63x, h63x⟩ := f199
   obtain ⟨x197, e197, f197⟩ := hon 22 197 _ (by kernel_rfl) rfl rfl
   replace f197 : x197 = .bool false := f197
   subst f197
   refine goes_ Try.func30 (by kernel_rfl) rfl #[.slice A58x ([0, 1, 2, 3] : List Int).length c58x, .slice A63x ([0, 1, 2, 3] : List Int).length c63x] (wanted_on rfl rfl rfl e197) rfl rfl (by first | (simp only [List.map_toArray, List.map_cons, List.map_nil, Act.eval, Array.getD_eq_getD_getElem?, Option.getD_some, e198, e199, e197]; done) | (simp only [List.map_toArray, List.map_cons, List.map_nil, Act.eval, Array.getD_eq_getD_getElem?, Option.getD_some, e198, e199, e197]; rfl) | rfl) ?_
   refine (headgatekit_SameInts.calls 60 _ _ ([0, 1, 2, 3] : List Int) _ _ ([0, 1, 2, 3] : List Int) true _ h58x l58x h63x l63x (by first | decide +kernel | kernel_rfl)).mono ?_
   rintro e w2 ⟨rfl, ⟨nd, rfl⟩⟩
   have hb := pw_below_drewN (Below.refl w'.heap.size w') nd
   exact ⟨_, rfl, hK.out _ _ _ rfl rfl hb⟩
  refine opLaws_cons ?_ ?_
  ·
   intro a w' hB hoff hon
   refine ⟨_, rfl, fun K hK => ?_⟩
   obtain ⟨x200, e200, f200⟩ := hon 25 200 _ (by kernel_rfl) rfl rfl
   replace f200 : x200 = .bool true := f200
   subst f200
   obtain ⟨x197, e197, f197⟩ := hon 22 197 _ (by kernel_rfl) rfl rfl
   replace f197 : x197 = .bool false := f197
   subst f197
   refine value_ (w1 := w') (v := .bool false) (wanted_on rfl rfl rfl e197) rfl ?_ ?_
   ·
    go_simp; try rfl
   exact hK.out _ _ _ rfl rfl (Below.refl _ _)
  refine opLaws_cons ?_ ?_
  ·
   intro a w' hB hoff hon
   refine ⟨_, rfl, fun K hK => ?_⟩
   obtain ⟨x197, e197, f197⟩ := hon 22 197 _ (by kernel_rfl) rfl rfl
   replace f197 : x197 = .bool false := f197
   subst f197
   obtain ⟨x201, e201, f201⟩ := hon 26 201 _ (by kernel_rfl) rfl rfl
   replace f201 : x201 = .bool false := f201
   subst f201
   refine value_ (w1 := w') (v := .bool false) (by rfl) rfl ?_ ?_
   ·
    go_simp; try rfl
   exact hK.out _ _ _ rfl rfl (Below.refl _ _)
  refine opLaws_cons ?_ ?_
  ·
   intro a w' hB hoff hon
   refine ⟨_, rfl, fun K hK => ?_⟩
   obtain ⟨x202, e202, f202⟩ := hon 27 202 _ (by kernel_rfl) rfl rfl
   replace f202 : x202 = .bool false := f202
   subst f202
   refine value_ (w1 := w') (v := .bool false) (by rfl) rfl ?_ ?_
   ·
    go_simp; try rfl
   exact hK.out _ _ _ rfl rfl (Below.refl _ _)
  refine opLaws_cons ?_ ?_
  ·
   intro a w' hB hoff hon
   refine ⟨_, rfl, fun K hK => ?_⟩
   have e16 : a.tmps[16]? = some (.int .i64 0) := (hoff 16 (by kernel_rfl)).trans rfl
   obtain ⟨x203, e203, f203⟩ := hon 28 203 _ (by kernel_rfl) rfl rfl
   replace f203 : x203 = .bool false := f203
   subst f203
   refine value_ (w1 := w') (v := .int .i64 0) (wanted_on rfl rfl rfl e203) rfl ?_ ?_
   ·
    go_simp; try rfl
   exact hK.out _ _ _ rfl rfl (Below.refl _ _)
  refine opLaws_cons ?_ ?_
  ·
   intro a w' hB hoff hon
   refine ⟨_, rfl, fun K hK => ?_⟩
   obtain ⟨x204, e204, f204⟩ := hon 29 204 _ (by kernel_rfl) rfl rfl
   replace f204 : x204 = .int .i64 0 := f204
   subst f204
   obtain ⟨x203, e203, f203⟩ := hon 28 203 _ (by kernel_rfl) rfl rfl
   replace f203 : x203 = .bool false := f203
   subst f203
   refine value_ (w1 := w') (v := .bool false) (wanted_on rfl rfl rfl e203) rfl ?_ ?_
   ·
    go_simp; try rfl
   exact hK.out _ _ _ rfl rfl (Below.refl _ _)
  refine opLaws_cons ?_ ?_
  ·
   intro a w' hB hoff hon
   refine ⟨_, rfl, fun K hK => ?_⟩
   obtain ⟨x203, e203, f203⟩ := hon 28 203 _ (by kernel_rfl) rfl rfl
   replace f203 : x203 = .bool false := f203
   subst f203
   obtain ⟨x205, e205, f205⟩ := hon 30 205 _ (by kernel_rfl) rfl rfl
   replace f205 : x205 = .bool false := f205
   subst f205
   refine value_ (w1 := w') (v := .bool false) (by rfl) rfl ?_ ?_
   ·
    go_simp; try rfl
   exact hK.out _ _ _ rfl rfl (Below.refl _ _)
  exact opLaws_nil
 intro vals w19 hb hv
 have q31 : vals 31 = .bool false := hv 31 _ rfl
 simp only [selOf, List.zipIdx_cons, List.zipIdx_nil, List.map_cons, List.map_nil, Nat.zero_add, Nat.reduceAdd, putSel, if_true, Act.put, List.setIfInBounds_toArray, List.set_cons_zero, List.set_cons_succ, q31]
 clear hv q31
 clear H43
 clear H44
 clear H45
 clear H58
 clear BK46
 replace HB := Aside0.mk (below_step (upH HB) hb)
 clear hb
 go_wp2_with fail
 refine (headgatelaw07_lists.calls 60 (fun _ => True) _ _ ([] : List Int) (fun _ => True) _ _ ([] : List Int) _ _ ([] : List Int) ([] : List Int) ([] : List Int) ([false, false, false, false, false, false, false, false] : List Bool) _ ?s0 ?s1 ?s2 ?t2 (by first | decide +kernel | kernel_rfl)).mono ?_
 case s0 => exact Kd.V_mono (Kd.V_mk (c := 0) (Nat.zero_le _) (Kd.C_F (Kd.heap_int .i64) (Kd.C_nil _ _))) (fun _ _ => trivial)
 case s1 => exact Kd.V_mono (Kd.V_mk (c := 0) (Nat.zero_le _) (Kd.C_F (Kd.heap_int .i64) (Kd.C_nil _ _))) (fun _ _ => trivial)
 case s2 => repeat (first | exact Kd.C_nil _ _ | (with_reducible refine Kd.C_alloc ?_ _) | (with_reducible refine Kd.C_drewN ?_ _) | (with_reducible refine Kd.C_drew ?_))
 case t2 => exact Nat.zero_le _
 rintro e w20 ⟨v64, v65, v66, rfl, ho64, ho65, ho66, hb⟩
 replace HB := Aside0.mk (below_step (upH HB) hb)
 obtain ⟨A64, c64, rfl, l64, h64⟩ : IsRow (Kd.int .i64) ([] : List Int) v64 w20 := by first | exact IsRow.of ho64 | exact IsRow.ofV ho64
 have H64 := Aside0.mk h64
 clear h64 ho64
 obtain ⟨A65, c65, rfl, l65, h65⟩ : IsRow (Kd.int .i64) ([] : List Int) v65 w20 := by first | exact IsRow.of ho65 | exact IsRow.ofV ho65
 have H65 := Aside0.mk h65
 clear h65 ho65
 obtain ⟨A66, c66, rfl, l66, h66⟩ : IsRow Kd.bool ([false, false, false, false, false, false, false, false] : List Bool) v66 w20 := by first | exact IsRow.of ho66 | exact IsRow.ofV ho66
 have H66 := Aside0.mk h66
 clear h66 ho66
 clear hb
 go_wp2_with fail
 refine (lru_Demote.calls _ _ ([] : List Int) _ _ ([] : List Int) _ _ ([false, false, false, false, false, false, false, false] : List Bool) ([] : List Int) ([] : List Int) ([] : List Bool) 0 6 _ ?s0 ?t0 ?s1 ?t1 ?s2 ?t2 (by first | decide +kernel | kernel_rfl)).mono ?_
 case s0 => repeat (first | exact H64.out | (with_reducible refine Kd.C_alloc ?_ _) | (with_reducible refine Kd.C_drewN ?_ _) | (with_reducible refine Kd.C_drew ?_))
 case t0 => exact l64
 case s1 => repeat (first | exact H65.out | (with_reducible refine Kd.C_alloc ?_ _) | (with_reducible refine Kd.C_drewN ?_ _) | (with_reducible refine Kd.C_drew ?_))
 case t1 => exact l65
 case s2 => repeat (first | exact H66.out | (with_reducible refine Kd.C_alloc ?_ _) | (with_reducible refine Kd.C_drewN ?_ _) | (with_reducible refine Kd.C_drew ?_))
 case t2 => exact l66
 rintro e w21 ⟨v67, v68, v69, rfl, ho67, ho68, ho69, hb⟩
 clear H64
 clear H65
 clear H66
 replace HB := Aside0.mk (below_step (upH HB) hb)
 obtain ⟨A67, c67, rfl, l67, h67⟩ := IsRow.of ho67
 clear h67 ho67
 obtain ⟨A68, c68, rfl, l68, h68⟩ := IsRow.of ho68
 clear h68 ho68
 obtain ⟨A69, c69, rfl, l69, h69⟩ := IsRow.of ho69
 clear h69 ho69
 clear hb
 go_wp2_with fail
 refine (headgatelaw07_lists.calls 60 (fun _ => True) _ _ ([] : List Int) (fun _ => True) _ _ ([] : List Int) _ _ ([] : List Int) ([] : List Int) ([] : List Int) ([false, false, false, false, false, false, false, false] : List Bool) _ ?s0 ?s1 ?s2 ?t2 (by first | decide +kernel | kernel_rfl)).mono ?_
 case s0 => exact Kd.V_mono (Kd.V_mk (c := 0) (Nat.zero_le _) (Kd.C_F (Kd.heap_int .i64) (Kd.C_nil _ _))) (fun _ _ => trivial)
 case s1 => exact Kd.V_mono (Kd.V_mk (c := 0) (Nat.zero_le _) (Kd.C_F (Kd.heap_int .i64) (Kd.C_nil _ _))) (fun _ _ => trivial)
 case s2 => repeat (first | exact Kd.C_nil _ _ | (with_reducible refine Kd.C_alloc ?_ _) | (with_reducible refine Kd.C_drewN ?_ _) | (with_reducible refine Kd.C_drew ?_))
 case t2 => exact Nat.zero_le _
 rintro e w22 ⟨v70, v71, v72, rfl, ho70, ho71, ho72, hb⟩
 replace HB := Aside0.mk (below_step (upH HB) hb)
 obtain ⟨A70, c70, rfl, l70, h70⟩ : IsRow (Kd.int .i64) ([] : List Int) v70 w22 := by first | exact IsRow.of ho70 | exact IsRow.ofV ho70
 have H70 := Aside0.mk h70
 clear h70 ho70
 obtain ⟨A71, c71, rfl, l71, h71⟩ : IsRow (Kd.int .i64) ([] : List Int) v71 w22 := by first | exact IsRow.of ho71 | exact IsRow.ofV ho71
 have H71 := Aside0.mk h71
 clear h71 ho71
 obtain ⟨A72, c72, rfl, l72, h72⟩ : IsRow Kd.bool ([false, false, false, false, false, false, false, false] : List Bool) v72 w22 := by first | exact IsRow.of ho72 | exact IsRow.ofV ho72
 have H72 := Aside0.mk h72
 clear h72 ho72
 clear hb
 go_wp2_with fail
 refine (lru_Last.calls (fun _ => True) _ _ ([] : List Int) (fun _ => True) _ _ ([] : List Int) _ _ ([false, false, false, false, false, false, false, false] : List Bool) 0 6 _ ?s0 ?s1 ?s2 ?t2 (by first | decide +kernel | kernel_rfl)).mono ?_
 case s0 => exact Kd.V_mono (Kd.V_mk (l70) (Kd.C_F (Kd.heap_int .i64) (by repeat (first | exact H70.out | (with_reducible refine Kd.C_alloc ?_ _) | (with_reducible refine Kd.C_drewN ?_ _) | (with_reducible refine Kd.C_drew ?_))))) (fun _ _ => trivial)
 case s1 => exact Kd.V_mono (Kd.V_mk (l71) (Kd.C_F (Kd.heap_int .i64) (by repeat (first | exact H71.out | (with_reducible refine Kd.C_alloc ?_ _) | (with_reducible refine Kd.C_drewN ?_ _) | (with_reducible refine Kd.C_drew ?_))))) (fun _ _ => trivial)
 case s2 => repeat (first | exact H72.out | (with_reducible refine Kd.C_alloc ?_ _) | (with_reducible refine Kd.C_drewN ?_ _) | (with_reducible refine Kd.C_drew ?_))
 case t2 => exact l72
 rintro e w23 ⟨rfl, hb⟩
 clear H70
 clear H71
 clear H72
 replace HB := Aside0.mk (below_step (upH HB) hb)
 clear hb
 go_wp2_with fail
 refine (headgatelaw07_awake.calls true _ (by first | decide +kernel | kernel_rfl)).mono ?_
 rintro e w24 ⟨rfl, hb⟩
 replace HB := Aside0.mk (below_step (upH HB) hb)
 clear hb
 go_wp2
 go_ret
 exact ⟨rfl, by repeat (first | (with_reducible first | exact HB.out | apply below_alloc | apply pw_below_drewN | apply below_drew1) | exact HB.out)⟩

/-- THE ONE PURE STATEMENT of headgatelaw07_LruKnown. -/
def headgatelaw07_LruKnown.Pure : Prop := headgatelaw07_LruKnown.f = some true
theorem headgatelaw07_LruKnown.walk (P : headgatelaw07_LruKnown.Pure)  (w : World)  :
  Calls Try.prog 9 #[] w fun e w' => e = .returned (.bool true) ∧ Below w.heap.size w w' := by
 have h := P
 refine (headgatelaw07_LruKnown.calls true w h).mono ?_
 rintro e w' ⟨rfl, hd⟩
 exact ⟨rfl, hd⟩


end Go.Proofs.Ytaofihdmgdpenaa.X
