/- What Go functions of this seat compute, told as Lean functions, and that each call of the Go code comes to that answer; for a law: its row, for every input. Written by a program of the session. -/
import Derived.Test.YtaofihdmgdpenaaX0
import Derived.Test.YtaofihdmgdpenaaX2
import Derived.Test.YtaofihdmgdpenaaX17
import Derived.Test.YtaofihdmgdpenaaX21
namespace Go.Proofs.Ytaofihdmgdpenaa.X
open Go.RowKit Go.Proofs.YtaofihdmgdpenaaW.PrintWords Go.Proofs.YtaofihdmgdpenaaW.PrintLast Go.Proofs.YtaofihdmgdpenaaW.PrintMore
attribute [local go_sem] max2_int min2_int max_two min_two max_three min_three max_four min_four   -- for this text's walks alone
set_option linter.unusedVariables false
set_option linter.unusedSimpArgs false

/-! ### headgatelaw07_awake: function 11 -/
def headgatelaw07_awake.f : Option (Bool) := some true
def headgatelaw07_awake.T5 : Bool × List (List Nat × List Nat) := (true, [([], []), ([0], [0]), ([1], [1]), ([2], [2]), ([3, 2], [2, 3]), ([2, 4], [2, 4]), ([5, 2], [5]), ([6], [6]), ([7, 6], [6, 7]), ([6, 8], [6, 8]), ([9, 6], [9]), ([10], [10]), ([10], [10]), ([10], [10]), ([12, 13, 10, 10], [10, 12, 13]), ([10], [10]), ([11, 14, 15, 14, 10], [10, 11, 14, 15]), ([10, 16], [10, 16]), ([17, 16, 0, 1, 2, 3, 4, 5, 6, 7, 8, 9, 10, 11, 12, 13, 14, 15, 16, 17], [17])])
def headgatelaw07_awake.B5 : List Nat := [0, 1, 3, 7, 15, 31, 63, 127, 255, 511, 1023, 2047, 2047, 2047, 14335, 2047, 65535, 131071, 262143]
theorem headgatelaw07_awake.tab5 : rtab .any (opsOf Try.f11 5) = headgatelaw07_awake.T5 := by kernel_rfl
theorem headgatelaw07_awake.bits5 : waitsOk headgatelaw07_awake.T5.2 headgatelaw07_awake.B5 = true := by kernel_rfl
set_option maxHeartbeats 4000000 in
set_option maxRecDepth 100000 in
theorem headgatelaw07_awake.calls (r : Bool) (w : World) (h : headgatelaw07_awake.f = some r) :
  Calls Try.prog 11 #[] w fun e w' => e = .returned (.bool r) ∧ Below w.heap.size w w' := by
 obtain rfl := Option.some.inj h
 have HB := Aside0.mk (Below.refl w.heap.size w)
 have hu25 := Try.underlying25
 go_enter Try.func11, Try.ntmps11
 go_wp2_with fail
 refine (lru_New.calls 8 ([] : List Int) ([] : List Int) ([false, false, false, false, false, false, false, false] : List Bool) 0 _ (by first | decide +kernel | kernel_rfl)).mono ?_
 rintro e w1 ⟨v1, v2, v3, rfl, ho1, ho2, ho3, hb⟩
 replace HB := Aside0.mk (below_step (by repeat (first | (with_reducible first | exact HB.out | apply below_alloc | apply pw_below_drewN | apply below_drew1) | exact HB.out)) hb)
 obtain ⟨A1, c1, rfl, l1, h1⟩ := IsRow.of ho1
 have HO1 := Aside0.mk ho1
 have H1 := Aside0.mk h1
 clear h1 ho1
 obtain ⟨A2, c2, rfl, l2, h2⟩ := IsRow.of ho2
 have HO2 := Aside0.mk ho2
 have H2 := Aside0.mk h2
 clear h2 ho2
 obtain ⟨A3, c3, rfl, l3, h3⟩ := IsRow.of ho3
 have HO3 := Aside0.mk ho3
 have H3 := Aside0.mk h3
 clear h3 ho3
 clear hb
 go_wp2_with fail
 refine (lru_Add.calls 60 _ _ ([] : List Int) _ _ ([] : List Int) _ _ ([false, false, false, false, false, false, false, false] : List Bool) 1 ([1] : List Int) ([] : List Int) ([false, false, false, false, false, false, false, false] : List Bool) 0 _ ?s0 ?t0 ?s1 ?t1 ?s2 ?t2 (by first | decide +kernel | kernel_rfl)).mono ?_
 case s0 => repeat (first | exact H1.out | (with_reducible refine Kd.C_alloc ?_ _) | (with_reducible refine Kd.C_drewN ?_ _) | (with_reducible refine Kd.C_drew ?_))
 case t0 => exact l1
 case s1 => repeat (first | exact H2.out | (with_reducible refine Kd.C_alloc ?_ _) | (with_reducible refine Kd.C_drewN ?_ _) | (with_reducible refine Kd.C_drew ?_))
 case t1 => exact l2
 case s2 => repeat (first | exact H3.out | (with_reducible refine Kd.C_alloc ?_ _) | (with_reducible refine Kd.C_drewN ?_ _) | (with_reducible refine Kd.C_drew ?_))
 case t2 => exact l3
 rintro e w2 ⟨v5, v6, v7, rfl, ho5, ho6, ho7, hb⟩
 clear H1
 clear H2
 clear H3
 replace HB := Aside0.mk (below_step (by repeat (first | (with_reducible first | exact HB.out | apply below_alloc | apply pw_below_drewN | apply below_drew1) | exact HB.out)) hb)
 obtain ⟨A5, c5, rfl, l5, h5⟩ := IsRow.of ho5
 have HO5 := Aside0.mk ho5
 have H5 := Aside0.mk h5
 clear h5 ho5
 obtain ⟨A6, c6, rfl, l6, h6⟩ := IsRow.of ho6
 have HO6 := Aside0.mk ho6
 have H6 := Aside0.mk h6
 clear h6 ho6
 obtain ⟨A7, c7, rfl, l7, h7⟩ := IsRow.of ho7
 have HO7 := Aside0.mk ho7
 have H7 := Aside0.mk h7
 clear h7 ho7
 clear hb
 go_wp2_with fail
 refine (lru_Add.calls 60 _ _ ([1] : List Int) _ _ ([] : List Int) _ _ ([false, false, false, false, false, false, false, false] : List Bool) 2 ([2, 1] : List Int) ([] : List Int) ([false, false, false, false, false, false, false, false] : List Bool) 0 _ ?s0 ?t0 ?s1 ?t1 ?s2 ?t2 (by first | decide +kernel | kernel_rfl)).mono ?_
 case s0 => repeat (first | exact H5.out | (with_reducible refine Kd.C_alloc ?_ _) | (with_reducible refine Kd.C_drewN ?_ _) | (with_reducible refine Kd.C_drew ?_))
 case t0 => exact l5
 case s1 => repeat (first | exact H6.out | (with_reducible refine Kd.C_alloc ?_ _) | (with_reducible refine Kd.C_drewN ?_ _) | (with_reducible refine Kd.C_drew ?_))
 case t1 => exact l6
 case s2 => repeat (first | exact H7.out | (with_reducible refine Kd.C_alloc ?_ _) | (with_reducible refine Kd.C_drewN ?_ _) | (with_reducible refine Kd.C_drew ?_))
 case t2 => exact l7
 rintro e w3 ⟨v9, v10, v11, rfl, ho9, ho10, ho11, hb⟩
 clear H5
 clear H6
 clear H7
 replace HB := Aside0.mk (below_step (by repeat (first | (with_reducible first | exact HB.out | apply below_alloc | apply pw_below_drewN | apply below_drew1) | exact HB.out)) hb)
 obtain ⟨A9, c9, rfl, l9, h9⟩ := IsRow.of ho9
 have HO9 := Aside0.mk ho9
 have H9 := Aside0.mk h9
 clear h9 ho9
 obtain ⟨A10, c10, rfl, l10, h10⟩ := IsRow.of ho10
 have HO10 := Aside0.mk ho10
 have H10 := Aside0.mk h10
 clear h10 ho10
 obtain ⟨A11, c11, rfl, l11, h11⟩ := IsRow.of ho11
 have HO11 := Aside0.mk ho11
 have H11 := Aside0.mk h11
 clear h11 ho11
 clear hb
 go_wp2_with fail
 refine (lru_Touch.calls 60 _ _ ([2, 1] : List Int) _ _ ([] : List Int) _ _ ([false, false, false, false, false, false, false, false] : List Bool) 1 ([2, 1] : List Int) ([] : List Int) ([false, true, false, false, false, false, false, false] : List Bool) 0 _ ?s0 ?t0 ?s1 ?t1 ?s2 ?t2 (by first | decide +kernel | kernel_rfl)).mono ?_
 case s0 => repeat (first | exact H9.out | (with_reducible refine Kd.C_alloc ?_ _) | (with_reducible refine Kd.C_drewN ?_ _) | (with_reducible refine Kd.C_drew ?_))
 case t0 => exact l9
 case s1 => repeat (first | exact H10.out | (with_reducible refine Kd.C_alloc ?_ _) | (with_reducible refine Kd.C_drewN ?_ _) | (with_reducible refine Kd.C_drew ?_))
 case t1 => exact l10
 case s2 => repeat (first | exact H11.out | (with_reducible refine Kd.C_alloc ?_ _) | (with_reducible refine Kd.C_drewN ?_ _) | (with_reducible refine Kd.C_drew ?_))
 case t2 => exact l11
 rintro e w4 ⟨v13, v14, v15, rfl, ho13, ho14, ho15, hb⟩
 clear H9
 clear H10
 clear H11
 replace HB := Aside0.mk (below_step (by repeat (first | (with_reducible first | exact HB.out | apply below_alloc | apply pw_below_drewN | apply below_drew1) | exact HB.out)) hb)
 obtain ⟨A13, c13, rfl, l13, h13⟩ := IsRow.of ho13
 have HO13 := Aside0.mk ho13
 have H13 := Aside0.mk h13
 clear h13 ho13
 obtain ⟨A14, c14, rfl, l14, h14⟩ := IsRow.of ho14
 have HO14 := Aside0.mk ho14
 have H14 := Aside0.mk h14
 clear h14 ho14
 obtain ⟨A15, c15, rfl, l15, h15⟩ := IsRow.of ho15
 have HO15 := Aside0.mk ho15
 have H15 := Aside0.mk h15
 clear h15 ho15
 clear hb
 go_wp2_with fail
 have BK16 := Aside0.mk (blk_newb w4 (.cells #[.slice A13 ([2, 1] : List Int).length c13, .slice A14 ([] : List Int).length c14, .slice A15 ([false, true, false, false, false, false, false, false] : List Bool).length c15] 25) (w4.heap.size) (by simp))
 refine shut_code 19 [28, 29, 30, 31, 32, 33, 34, 35, 36, 37, 38, 39, 40, 41, 42, 43, 44, 45, 0] [litF (.int .i64 0), litF (.bool true), litF (.bool true), litF (.int .i64 0), litF (.bool true), litF (.bool true), litF (.bool true), litF (.int .i64 0), litF (.bool true), litF (.bool true), litF (.bool true), aggF [rowF (Kd.int .i64) ([2, 1] : List Int), rowF (Kd.int .i64) ([] : List Int), rowF Kd.bool ([false, true, false, false, false, false, false, false] : List Bool)], rowF (Kd.int .i64) ([2, 1] : List Int), rowF (Kd.int .i64) ([1] : List Int), aggF [rowF (Kd.int .i64) ([2, 1] : List Int), rowF (Kd.int .i64) ([] : List Int), rowF Kd.bool ([false, true, false, false, false, false, false, false] : List Bool)], litF (.int .i64 0), litF (.bool true), litF (.bool true), litF (.bool true)] (by kernel_rfl) rfl headgatelaw07_awake.tab5 headgatelaw07_awake.bits5 (by kernel_rfl) (by kernel_rfl) (by kernel_rfl) rfl (by kernel_rfl) ?_ ?_
 ·
  rw [show List.range 19 = [0, 1, 2, 3, 4, 5, 6, 7, 8, 9, 10, 11, 12, 13, 14, 15, 16, 17, 18] from rfl]
  refine opLaws_cons ?_ ?_
  ·
   intro a w' hB hoff hon
   refine ⟨_, rfl, fun K hK => ?_⟩
   have e2 : a.tmps[2]? = some (.int .i64 0) := (hoff 2 (by kernel_rfl)).trans rfl
   refine value_ (w1 := w') (v := .int .i64 0) (by rfl) rfl ?_ ?_
   ·
    go_simp; try rfl
   exact hK.out _ _ _ rfl rfl (Below.refl _ _)
  refine opLaws_cons ?_ ?_
  ·
   intro a w' hB hoff hon
   refine ⟨_, rfl, fun K hK => ?_⟩
   obtain ⟨x28, e28, f28⟩ := hon 0 28 _ (by kernel_rfl) rfl rfl
   replace f28 : x28 = .int .i64 0 := f28
   subst f28
   refine value_ (w1 := w') (v := .bool true) (by rfl) rfl ?_ ?_
   ·
    go_simp; try rfl
   exact hK.out _ _ _ rfl rfl (Below.refl _ _)
  refine opLaws_cons ?_ ?_
  ·
   intro a w' hB hoff hon
   refine ⟨_, rfl, fun K hK => ?_⟩
   obtain ⟨x29, e29, f29⟩ := hon 1 29 _ (by kernel_rfl) rfl rfl
   replace f29 : x29 = .bool true := f29
   subst f29
   refine value_ (w1 := w') (v := .bool true) (by rfl) rfl ?_ ?_
   ·
    go_simp; try rfl
   exact hK.out _ _ _ rfl rfl (Below.refl _ _)
  refine opLaws_cons ?_ ?_
  ·
   intro a w' hB hoff hon
   refine ⟨_, rfl, fun K hK => ?_⟩
   have e4 : a.tmps[4]? = some (.int .i64 0) := (hoff 4 (by kernel_rfl)).trans rfl
   obtain ⟨x30, e30, f30⟩ := hon 2 30 _ (by kernel_rfl) rfl rfl
   replace f30 : x30 = .bool true := f30
   subst f30
   refine value_ (w1 := w') (v := .int .i64 0) (wanted_on rfl rfl rfl e30) rfl ?_ ?_
   ·
    go_simp; try rfl
   exact hK.out _ _ _ rfl rfl (Below.refl _ _)
  refine opLaws_cons ?_ ?_
  ·
   intro a w' hB hoff hon
   refine ⟨_, rfl, fun K hK => ?_⟩
   obtain ⟨x31, e31, f31⟩ := hon 3 31 _ (by kernel_rfl) rfl rfl
   replace f31 : x31 = .int .i64 0 := f31
   subst f31
   obtain ⟨x30, e30, f30⟩ := hon 2 30 _ (by kernel_rfl) rfl rfl
   replace f30 : x30 = .bool true := f30
   subst f30
   refine value_ (w1 := w') (v := .bool true) (wanted_on rfl rfl rfl e30) rfl ?_ ?_
   ·
    go_simp; try rfl
   exact hK.out _ _ _ rfl rfl (Below.refl _ _)
  refine opLaws_cons ?_ ?_
  ·
   intro a w' hB hoff hon
   refine ⟨_, rfl, fun K hK => ?_⟩
   obtain ⟨x30, e30, f30⟩ := hon 2 30 _ (by kernel_rfl) rfl rfl
   replace f30 : x30 = .bool true := f30
   subst f30
   obtain ⟨x32, e32, f32⟩ := hon 4 32 _ (by kernel_rfl) rfl rfl
   replace f32 : x32 = .bool true := f32
   subst f32
   refine value_ (w1 := w') (v := .bool true) (by rfl) rfl ?_ ?_
   ·
    go_simp; try rfl
   exact hK.out _ _ _ rfl rfl (Below.refl _ _)
  refine opLaws_cons ?_ ?_
  ·
   intro a w' hB hoff hon
   refine ⟨_, rfl, fun K hK => ?_⟩
   obtain ⟨x33, e33, f33⟩ := hon 5 33 _ (by kernel_rfl) rfl rfl
   replace f33 : x33 = .bool true := f33
   subst f33
   refine value_ (w1 := w') (v := .bool true) (by rfl) rfl ?_ ?_
   ·
    go_simp; try rfl
   exact hK.out _ _ _ rfl rfl (Below.refl _ _)
  refine opLaws_cons ?_ ?_
  ·
   intro a w' hB hoff hon
   refine ⟨_, rfl, fun K hK => ?_⟩
   have e6 : a.tmps[6]? = some (.int .i64 0) := (hoff 6 (by kernel_rfl)).trans rfl
   obtain ⟨x34, e34, f34⟩ := hon 6 34 _ (by kernel_rfl) rfl rfl
   replace f34 : x34 = .bool true := f34
   subst f34
   refine value_ (w1 := w') (v := .int .i64 0) (wanted_on rfl rfl rfl e34) rfl ?_ ?_
   ·
    go_simp; try rfl
   exact hK.out _ _ _ rfl rfl (Below.refl _ _)
  refine opLaws_cons ?_ ?_
  ·
   intro a w' hB hoff hon
   refine ⟨_, rfl, fun K hK => ?_⟩
   obtain ⟨x35, e35, f35⟩ := hon 7 35 _ (by kernel_rfl) rfl rfl
   replace f35 : x35 = .int .i64 0 := f35
   subst f35
   obtain ⟨x34, e34, f34⟩ := hon 6 34 _ (by kernel_rfl) rfl rfl
   replace f34 : x34 = .bool true := f34
   subst f34
   refine value_ (w1 := w') (v := .bool true) (wanted_on rfl rfl rfl e34) rfl ?_ ?_
   ·
    go_simp; try rfl
   exact hK.out _ _ _ rfl rfl (Below.refl _ _)
  refine opLaws_cons ?_ ?_
  ·
   intro a w' hB hoff hon
   refine ⟨_, rfl, fun K hK => ?_⟩
   obtain ⟨x34, e34, f34⟩ := hon 6 34 _ (by kernel_rfl) rfl rfl
   replace f34 : x34 = .bool true := f34
   subst f34
   obtain ⟨x36, e36, f36⟩ := hon 8 36 _ (by kernel_rfl) rfl rfl
   replace f36 : x36 = .bool true := f36
   subst f36
   refine value_ (w1 := w') (v := .bool true) (by rfl) rfl ?_ ?_
   ·
    go_simp; try rfl
   exact hK.out _ _ _ rfl rfl (Below.refl _ _)
  refine opLaws_cons ?_ ?_
  ·
   intro a w' hB hoff hon
   refine ⟨_, rfl, fun K hK => ?_⟩
   obtain ⟨x37, e37, f37⟩ := hon 9 37 _ (by kernel_rfl) rfl rfl
   replace f37 : x37 = .bool true := f37
   subst f37
   refine value_ (w1 := w') (v := .bool true) (by rfl) rfl ?_ ?_
   ·
    go_simp; try rfl
   exact hK.out _ _ _ rfl rfl (Below.refl _ _)
  refine opLaws_cons ?_ ?_
  ·
   intro a w' hB hoff hon
   refine ⟨_, rfl, fun K hK => ?_⟩
   have e7 : a.tmps[7]? = some (.pointer (some ⟨w4.heap.size, 0, none⟩)) := (hoff 7 (by kernel_rfl)).trans rfl
   obtain ⟨x38, e38, f38⟩ := hon 10 38 _ (by kernel_rfl) rfl rfl
   replace f38 : x38 = .bool true := f38
   subst f38
   have bk := blk_below BK16.out hB
   have z0 : w'.cell? ⟨_, 0, none⟩ = some (.slice A13 ([2, 1] : List Int).length c13) := (blk_cell bk 0).trans rfl
   have z1 : w'.cell? ⟨_, 1, none⟩ = some (.slice A14 ([] : List Int).length c14) := (blk_cell bk 1).trans rfl
   have z2 : w'.cell? ⟨_, 2, none⟩ = some (.slice A15 ([false, true, false, false, false, false, false, false] : List Bool).length c15) := (blk_cell bk 2).trans rfl
   refine value_ (w1 := w') (v := .agg #[.slice A13 ([2, 1] : List Int).length c13, .slice A14 ([] : List Int).length c14, .slice A15 ([false, true, false, false, false, false, false, false] : List Bool).length c15]) (wanted_on rfl rfl rfl e38) rfl ?_ ?_
   ·
    go_simp; try rfl
   exact hK.out _ _ _ rfl ⟨_, rfl, ⟨_, _, rfl, ⟨_, _, rfl, l13, Kd.C_below (by repeat (first | exact H13.out | (with_reducible refine Kd.C_alloc ?_ _))) hB⟩, ⟨_, _, rfl, ⟨_, _, rfl, l14, Kd.C_below (by repeat (first | exact H14.out | (with_reducible refine Kd.C_alloc ?_ _))) hB⟩, ⟨_, _, rfl, ⟨_, _, rfl, l15, Kd.C_below (by repeat (first | exact H15.out | (with_reducible refine Kd.C_alloc ?_ _))) hB⟩, rfl⟩⟩⟩⟩ (Below.refl _ _)
  refine opLaws_cons ?_ ?_
  ·
   intro a w' hB hoff hon
   refine ⟨_, rfl, fun K hK => ?_⟩
   obtain ⟨x38, e38, f38⟩ := hon 10 38 _ (by kernel_rfl) rfl rfl
   replace f38 : x38 = .bool true := f38
   subst f38
   refine Kd.R_lit_step (Kd.int .i64) _ 3 ?hg (N := 40) ?hd (xs := ([2, 1] : List Int)) (inner := [.int .i64 2, .int .i64 1]) (ok := fun _ => True) (okp := fun _ => True) ?hr ?hp (fun _ hk => hk) trivial (Below.refl _ _) (Nat.le_refl _) (by simp) ?_
   case hd => rfl
   case hg => exact (wanted_on rfl rfl rfl e38)
   case hr => first | (go_simp; done) | (go_simp; rfl)
   case hp => exact (Reps.one (show Kd.M (Kd.int .i64) _ _ _ 2 [.int .i64 2] from rfl) (Reps.one (show Kd.M (Kd.int .i64) _ _ _ 1 [.int .i64 1] from rfl) (Reps.none _ _)))
   intro v w2 ho hb _ _
   exact hK.out _ _ _ rfl (IsRow.of ho) hb
  refine opLaws_cons ?_ ?_
  ·
   intro a w' hB hoff hon
   refine ⟨_, rfl, fun K hK => ?_⟩
   obtain ⟨x38, e38, f38⟩ := hon 10 38 _ (by kernel_rfl) rfl rfl
   replace f38 : x38 = .bool true := f38
   subst f38
   refine Kd.R_lit_step (Kd.int .i64) _ 3 ?hg (N := 41) ?hd (xs := ([1] : List Int)) (inner := [.int .i64 1]) (ok := fun _ => True) (okp := fun _ => True) ?hr ?hp (fun _ hk => hk) trivial (Below.refl _ _) (Nat.le_refl _) (by simp) ?_
   case hd => rfl
   case hg => exact (wanted_on rfl rfl rfl e38)
   case hr => first | (go_simp; done) | (go_simp; rfl)
   case hp => exact (Reps.one (show Kd.M (Kd.int .i64) _ _ _ 1 [.int .i64 1] from rfl) (Reps.none _ _))
   intro v w2 ho hb _ _
   exact hK.out _ _ _ rfl (IsRow.of ho) hb
  refine opLaws_cons ?_ ?_
  ·
   intro a w' hB hoff hon
   refine ⟨_, rfl, fun K hK => ?_⟩
   obtain ⟨x40, e40, f40⟩ := hon 12 40 _ (by kernel_rfl) rfl rfl
   obtain ⟨A17x, c17x, rfl, l17x, h17x⟩ := f40
   obtain ⟨x41, e41, f41⟩ := hon 13 41 _ (by kernel_rfl) rfl rfl
   obtain ⟨A18x, c18x, rfl, l18x, h18x⟩ := f41
   obtain ⟨x38, e38, f38⟩ := hon 10 38 _ (by kernel_rfl) rfl rfl
   replace f38 : x38 = .bool true := f38
   subst f38
   refine goes_ Try.func42 (by kernel_rfl) rfl #[.slice A17x ([2, 1] : List Int).length c17x, .slice none 0 0, .slice A18x ([1] : List Int).length c18x] (wanted_on rfl rfl rfl e38) rfl rfl (by first | (simp only [List.map_toArray, List.map_cons, List.map_nil, Act.eval, Array.getD_eq_getD_getElem?, Option.getD_some, e40, e41, e38]; done) | (simp only [List.map_toArray, List.map_cons, List.map_nil, Act.eval, Array.getD_eq_getD_getElem?, Option.getD_some, e40, e41, e38]; rfl) | rfl) ?_
   refine (headgatelaw07_lists.calls 60 _ _ _ ([2, 1] : List Int) _ _ _ ([] : List Int) _ _ ([1] : List Int) ([2, 1] : List Int) ([] : List Int) ([false, true, false, false, false, false, false, false] : List Bool) _ (Kd.V_mk l17x (Kd.C_F (Kd.heap_int .i64) h17x)) (Kd.V_mk (c := 0) (Nat.zero_le _) (Kd.C_F (Kd.heap_int .i64) (Kd.C_nil _ _))) h18x l18x (by first | decide +kernel | kernel_rfl)).mono ?_
   rintro e w2 ⟨v19, v20, v21, rfl, ho19, ho20, ho21, hb⟩
   exact ⟨_, rfl, hK.out _ _ _ rfl ⟨_, rfl, ⟨_, _, rfl, (by first | exact IsRow.of ho19 | exact IsRow.ofV ho19), ⟨_, _, rfl, (by first | exact IsRow.of ho20 | exact IsRow.ofV ho20), ⟨_, _, rfl, (by first | exact IsRow.of ho21 | exact IsRow.ofV ho21), rfl⟩⟩⟩⟩ hb⟩
  refine opLaws_cons ?_ ?_
  ·
   intro a w' hB hoff hon
   refine ⟨_, rfl, fun K hK => ?_⟩
   have e8 : a.tmps[8]? = some (.int .i64 0) := (hoff 8 (by kernel_rfl)).trans rfl
   obtain ⟨x38, e38, f38⟩ := hon 10 38 _ (by kernel_rfl) rfl rfl
   replace f38 : x38 = .bool true := f38
   subst f38
   refine value_ (w1 := w') (v := .int .i64 0) (wanted_on rfl rfl rfl e38) rfl ?_ ?_
   ·
    go_simp; try rfl
   exact hK.out _ _ _ rfl rfl (Below.refl _ _)
  refine opLaws_cons ?_ ?_
  ·
   intro a w' hB hoff hon
   refine ⟨_, rfl, fun K hK => ?_⟩
   obtain ⟨x39, e39, f39⟩ := hon 11 39 _ (by kernel_rfl) rfl rfl
   obtain ⟨_, rfl, ⟨_, _, rfl, ⟨A13x, c13x, rfl, l13x, h13x⟩, ⟨_, _, rfl, ⟨A14x, c14x, rfl, l14x, h14x⟩, ⟨_, _, rfl, ⟨A15x, c15x, rfl, l15x, h15x⟩, rfl⟩⟩⟩⟩ := f39
   obtain ⟨x42, e42, f42⟩ := hon 14 42 _ (by kernel_rfl) rfl rfl
   obtain ⟨_, rfl, ⟨_, _, rfl, ⟨A19x, c19x, rfl, l19x, h19x⟩, ⟨_, _, rfl, ⟨A20x, c20x, rfl, l20x, h20x⟩, ⟨_, _, rfl, ⟨A21x, c21x, rfl, l21x, h21x⟩, rfl⟩⟩⟩⟩ := f42
   obtain ⟨x43, e43, f43⟩ := hon 15 43 _ (by kernel_rfl) rfl rfl
   replace f43 : x43 = .int .i64 0 := f43
   subst f43
   obtain ⟨x38, e38, f38⟩ := hon 10 38 _ (by kernel_rfl) rfl rfl
   replace f38 : x38 = .bool true := f38
   subst f38
   refine goes_ Try.func28 (by kernel_rfl) rfl #[.agg #[.slice A13x ([2, 1] : List Int).length c13x, .slice A14x ([] : List Int).length c14x, .slice A15x ([false, true, false, false, false, false, false, false] : List Bool).length c15x], .agg #[.slice A19x ([2, 1] : List Int).length c19x, .slice A20x ([] : List Int).length c20x, .slice A21x ([false, true, false, false, false, false, false, false] : List Bool).length c21x], .int .i64 0] (wanted_on rfl rfl rfl e38) rfl rfl (by first | (simp only [List.map_toArray, List.map_cons, List.map_nil, Act.eval, Array.getD_eq_getD_getElem?, Option.getD_some, e39, e42, e43, e38]; done) | (simp only [List.map_toArray, List.map_cons, List.map_nil, Act.eval, Array.getD_eq_getD_getElem?, Option.getD_some, e39, e42, e43, e38]; rfl) | rfl) ?_
   refine (headgatelaw07_is.calls 60 _ _ ([2, 1] : List Int) _ _ ([] : List Int) _ _ ([false, true, false, false, false, false, false, false] : List Bool) _ _ ([2, 1] : List Int) _ _ ([] : List Int) _ _ ([false, true, false, false, false, false, false, false] : List Bool) 0 true _ h13x l13x h14x l14x h15x l15x h19x l19x h20x l20x h21x l21x (by first | decide +kernel | kernel_rfl)).mono ?_
   rintro e w2 ⟨rfl, hb⟩
   exact ⟨_, rfl, hK.out _ _ _ rfl rfl hb⟩
  refine opLaws_cons ?_ ?_
  ·
   intro a w' hB hoff hon
   refine ⟨_, rfl, fun K hK => ?_⟩
   obtain ⟨x38, e38, f38⟩ := hon 10 38 _ (by kernel_rfl) rfl rfl
   replace f38 : x38 = .bool true := f38
   subst f38
   obtain ⟨x44, e44, f44⟩ := hon 16 44 _ (by kernel_rfl) rfl rfl
   replace f44 : x44 = .bool true := f44
   subst f44
   refine value_ (w1 := w') (v := .bool true) (by rfl) rfl ?_ ?_
   ·
    go_simp; try rfl
   exact hK.out _ _ _ rfl rfl (Below.refl _ _)
  refine opLaws_cons ?_ ?_
  ·
   intro a w' hB hoff hon
   refine ⟨_, rfl, fun K hK => ?_⟩
   obtain ⟨x45, e45, f45⟩ := hon 17 45 _ (by kernel_rfl) rfl rfl
   replace f45 : x45 = .bool true := f45
   subst f45
   refine value_ (w1 := w') (v := .bool true) (by rfl) rfl ?_ ?_
   ·
    go_simp; try rfl
   exact hK.out _ _ _ rfl rfl (Below.refl _ _)
  exact opLaws_nil
 intro vals w5 hb hv
 have q18 : vals 18 = .bool true := hv 18 _ rfl
 simp only [selOf, List.zipIdx_cons, List.zipIdx_nil, List.map_cons, List.map_nil, Nat.zero_add, Nat.reduceAdd, putSel, if_true, Act.put, List.setIfInBounds_toArray, List.set_cons_zero, List.set_cons_succ, q18]
 clear hv q18
 clear H13
 clear H14
 clear H15
 clear BK16
 replace HB := Aside0.mk (below_step (by repeat (first | (with_reducible first | exact HB.out | apply below_alloc | apply pw_below_drewN | apply below_drew1) | exact HB.out)) hb)
 clear hb
 go_wp2
 go_ret
 exact ⟨rfl, by repeat (first | (with_reducible first | exact HB.out | apply below_alloc | apply pw_below_drewN | apply below_drew1) | exact HB.out)⟩


end Go.Proofs.Ytaofihdmgdpenaa.X
