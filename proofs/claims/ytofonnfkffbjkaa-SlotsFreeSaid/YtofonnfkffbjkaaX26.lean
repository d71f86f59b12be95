/- What Go functions of this seat compute, told as Lean functions, and that each call of the Go code comes to that answer; for a law: its row, for every input. Written by a program of the session. -/
import Derived.Test.YtofonnfkffbjkaaX0
import Derived.Test.YtofonnfkffbjkaaX1
import Derived.Test.YtofonnfkffbjkaaX7
import Derived.Test.YtofonnfkffbjkaaX8
import Derived.Test.YtofonnfkffbjkaaX10
import Derived.Test.YtofonnfkffbjkaaX11
import Derived.Test.YtofonnfkffbjkaaX12
import Derived.Test.YtofonnfkffbjkaaX13
import Derived.Test.YtofonnfkffbjkaaX14
import Derived.Test.YtofonnfkffbjkaaX15
import Derived.Test.YtofonnfkffbjkaaX18
import Derived.Test.YtofonnfkffbjkaaX19
import Derived.Test.YtofonnfkffbjkaaX20
import Derived.Test.YtofonnfkffbjkaaX21
import Derived.Test.YtofonnfkffbjkaaX24
import Derived.Test.YtofonnfkffbjkaaX25
namespace Go.Proofs.Ytofonnfkffbjkaa.X
open Go.RowKit Go.Proofs.YtofonnfkffbjkaaW.PrintWords Go.Proofs.YtofonnfkffbjkaaW.PrintLast Go.Proofs.YtofonnfkffbjkaaW.PrintMore
attribute [local go_sem] max2_int min2_int max_two min_two max_three min_three max_four min_four   -- for this text's walks alone
set_option linter.unusedVariables false
set_option linter.unusedSimpArgs false

/-! ### headgatelaw18_SlotsKnown: function 5 -/
def headgatelaw18_SlotsKnown.f : Option (Bool) := some true
def headgatelaw18_SlotsKnown.T14 : Bool × List (List Nat × List Nat) := (true, [([], []), ([0], [0]), ([], []), ([2, 1], [2]), ([1, 3, 3], [1, 3]), ([4, 4], [4]), ([5], [5]), ([6, 5], [5, 6]), ([5, 7], [5, 7]), ([8, 5], [8]), ([9], [9]), ([10, 9], [9, 10]), ([9, 11], [9, 11]), ([12, 9], [12]), ([13], [13]), ([14, 13], [13, 14]), ([13, 15], [13, 15]), ([16, 13], [16]), ([17], [17]), ([18, 17], [17, 18]), ([17, 19], [17, 19]), ([20, 17], [20]), ([21], [21]), ([21], [21]), ([23, 21, 21], [21, 23]), ([22, 24, 24, 21], [21, 22, 24]), ([21, 25], [21, 25]), ([26, 25, 0, 1, 2, 3, 4, 5, 6, 7, 8, 9, 10, 11, 12, 13, 14, 15, 16, 17, 18, 19, 20, 21, 22, 23, 24, 25, 26], [26])])
def headgatelaw18_SlotsKnown.B14 : List Nat := [0, 1, 0, 7, 15, 31, 63, 127, 255, 511, 1023, 2047, 4095, 8191, 16383, 32767, 65535, 131071, 262143, 524287, 1048575, 2097151, 4194303, 4194303, 12582911, 33554431, 67108863, 134217727]
theorem headgatelaw18_SlotsKnown.tab14 : rtab .any (opsOf Try.f5 14) = headgatelaw18_SlotsKnown.T14 := by kernel_rfl
theorem headgatelaw18_SlotsKnown.bits14 : waitsOk headgatelaw18_SlotsKnown.T14.2 headgatelaw18_SlotsKnown.B14 = true := by kernel_rfl
def headgatelaw18_SlotsKnown.T16 : Bool × List (List Nat × List Nat) := (true, [([], []), ([0, 0], [0]), ([1], [1]), ([1, 2], [1, 2]), ([3, 1], [3]), ([4], [4]), ([4, 5], [4, 5]), ([6, 4], [6]), ([7], [7]), ([8, 7], [7, 8]), ([7, 9], [7, 9]), ([10, 7], [10]), ([11], [11]), ([11], [11]), ([13, 11, 11], [11, 13]), ([12, 14, 14, 11], [11, 12, 14]), ([11, 15], [11, 15]), ([16, 15], [16]), ([17], [17]), ([18, 17], [17, 18]), ([17, 19], [17, 19]), ([20, 17], [20]), ([21], [21]), ([22, 21], [21, 22]), ([21, 23], [21, 23]), ([24, 21], [24]), ([25], [25]), ([26, 25], [25, 26]), ([25, 27], [25, 27]), ([28, 25], [28]), ([29], [29]), ([30, 29], [29, 30]), ([29, 31], [29, 31]), ([32, 29], [32]), ([33], [33]), ([34, 33], [33, 34]), ([33, 35], [33, 35]), ([36, 33], [36]), ([37], [37]), ([38, 37], [37, 38]), ([37, 39], [37, 39]), ([40, 37], [40]), ([41], [41]), ([42, 41], [41, 42]), ([41, 43], [41, 43]), ([44, 41], [44]), ([45], [45]), ([46, 45], [45, 46]), ([45, 47], [45, 47]), ([48, 45, 0, 1, 2, 3, 4, 5, 6, 7, 8, 9, 10, 11, 12, 13, 14, 15, 16, 17, 18, 19, 20, 21, 22, 23, 24, 25, 26, 27, 28, 29, 30, 31, 32, 33, 34, 35, 36, 37, 38, 39, 40, 41, 42, 43, 44, 45, 46, 47, 48], [48])])
def headgatelaw18_SlotsKnown.B16 : List Nat := [0, 1, 3, 7, 15, 31, 63, 127, 255, 511, 1023, 2047, 4095, 4095, 12287, 32767, 65535, 131071, 262143, 524287, 1048575, 2097151, 4194303, 8388607, 16777215, 33554431, 67108863, 134217727, 268435455, 536870911, 1073741823, 2147483647, 4294967295, 8589934591, 17179869183, 34359738367, 68719476735, 137438953471, 274877906943, 549755813887, 1099511627775, 2199023255551, 4398046511103, 8796093022207, 17592186044415, 35184372088831, 70368744177663, 140737488355327, 281474976710655, 562949953421311]
theorem headgatelaw18_SlotsKnown.tab16 : rtab .any (opsOf Try.f5 16) = headgatelaw18_SlotsKnown.T16 := by kernel_rfl
theorem headgatelaw18_SlotsKnown.bits16 : waitsOk headgatelaw18_SlotsKnown.T16.2 headgatelaw18_SlotsKnown.B16 = true := by kernel_rfl
set_option maxHeartbeats 4000000 in
set_option maxRecDepth 100000 in
theorem headgatelaw18_SlotsKnown.calls (r : Bool) (w : World) (h : headgatelaw18_SlotsKnown.f = some r) :
  Calls Try.prog 5 #[] w fun e w' => e = .returned (.bool r) ∧ Below w.heap.size w w' := by
 obtain rfl := Option.some.inj h
 have HB := Aside0.mk (Below.refl w.heap.size w)
 have hu43 := Try.underlying43
 go_enter Try.func5, Try.ntmps5
 go_wp2_with fail
 refine (headgatelaw18_of.calls 60 _ _ ([1002, 1001] : List Int) ([2, 1] : List Int) ([true, true] : List Bool) _ ?s0 ?t0 (by decide +kernel)).mono ?_
 case s0 => repeat (first | exact lit_Cb _ _ _ (by simp) _ (by simp) | (with_reducible refine Kd.C_alloc ?_ _) | (with_reducible refine Kd.C_drewN ?_ _) | (with_reducible refine Kd.C_drew ?_))
 case t0 => exact Nat.le_refl _
 rintro e w1 ⟨v2, v3, rfl, ho2, ho3, hb⟩
 replace HB := Aside0.mk (below_step (by repeat (first | (with_reducible first | exact HB.out | apply below_alloc | apply pw_below_drewN | apply below_drew1) | exact HB.out)) hb)
 obtain ⟨A2, c2, rfl, l2, h2⟩ := IsRow.of ho2
 have H2 := Aside0.mk h2
 clear h2 ho2
 obtain ⟨A3, c3, rfl, l3, h3⟩ := IsRow.of ho3
 have H3 := Aside0.mk h3
 clear h3 ho3
 clear hb
 go_wp2_with fail
 refine (slots_Alloc.calls 60 _ _ ([2, 1] : List Int) _ _ ([true, true] : List Bool) 1 ([] : List Int) ([] : List Bool) 0 5 _ ?s0 ?t0 ?s1 ?t1 (by decide +kernel)).mono ?_
 case s0 => repeat (first | exact H2.out | (with_reducible refine Kd.C_alloc ?_ _) | (with_reducible refine Kd.C_drewN ?_ _) | (with_reducible refine Kd.C_drew ?_))
 case t0 => exact l2
 case s1 => repeat (first | exact H3.out | (with_reducible refine Kd.C_alloc ?_ _) | (with_reducible refine Kd.C_drewN ?_ _) | (with_reducible refine Kd.C_drew ?_))
 case t1 => exact l3
 rintro e w2 ⟨v4, v5, rfl, ho4, ho5, hb⟩
 clear H2
 clear H3
 replace HB := Aside0.mk (below_step (by repeat (first | (with_reducible first | exact HB.out | apply below_alloc | apply pw_below_drewN | apply below_drew1) | exact HB.out)) hb)
 obtain ⟨A4, c4, rfl, l4, h4⟩ := IsRow.of ho4
 clear h4 ho4
 obtain ⟨A5, c5, rfl, l5, h5⟩ := IsRow.of ho5
 clear h5 ho5
 clear hb
 go_wp2_with fail
 refine (headgatelaw18_of.calls 60 _ _ ([0, 0] : List Int) ([0, 0] : List Int) ([false, false] : List Bool) _ ?s0 ?t0 (by decide +kernel)).mono ?_
 case s0 => repeat (first | exact lit_Cb _ _ _ (by simp) _ (by simp) | (with_reducible refine Kd.C_alloc ?_ _) | (with_reducible refine Kd.C_drewN ?_ _) | (with_reducible refine Kd.C_drew ?_))
 case t0 => exact Nat.le_refl _
 rintro e w3 ⟨v8, v9, rfl, ho8, ho9, hb⟩
 replace HB := Aside0.mk (below_step (by repeat (first | (with_reducible first | exact HB.out | apply below_alloc | apply pw_below_drewN | apply below_drew1) | exact HB.out)) hb)
 obtain ⟨A8, c8, rfl, l8, h8⟩ := IsRow.of ho8
 have H8 := Aside0.mk h8
 clear h8 ho8
 obtain ⟨A9, c9, rfl, l9, h9⟩ := IsRow.of ho9
 have H9 := Aside0.mk h9
 clear h9 ho9
 clear hb
 go_wp2_with fail
 refine (slots_Alloc.calls 60 _ _ ([0, 0] : List Int) _ _ ([false, false] : List Bool) 0 ([] : List Int) ([] : List Bool) 0 15 _ ?s0 ?t0 ?s1 ?t1 (by decide +kernel)).mono ?_
 case s0 => repeat (first | exact H8.out | (with_reducible refine Kd.C_alloc ?_ _) | (with_reducible refine Kd.C_drewN ?_ _) | (with_reducible refine Kd.C_drew ?_))
 case t0 => exact l8
 case s1 => repeat (first | exact H9.out | (with_reducible refine Kd.C_alloc ?_ _) | (with_reducible refine Kd.C_drewN ?_ _) | (with_reducible refine Kd.C_drew ?_))
 case t1 => exact l9
 rintro e w4 ⟨v10, v11, rfl, ho10, ho11, hb⟩
 clear H8
 clear H9
 replace HB := Aside0.mk (below_step (by repeat (first | (with_reducible first | exact HB.out | apply below_alloc | apply pw_below_drewN | apply below_drew1) | exact HB.out)) hb)
 obtain ⟨A10, c10, rfl, l10, h10⟩ := IsRow.of ho10
 clear h10 ho10
 obtain ⟨A11, c11, rfl, l11, h11⟩ := IsRow.of ho11
 clear h11 ho11
 clear hb
 go_wp2_with fail
 refine (headgatelaw18_of.calls 60 _ _ ([2, 0] : List Int) ([2, 0] : List Int) ([false, false] : List Bool) _ ?s0 ?t0 (by decide +kernel)).mono ?_
 case s0 => repeat (first | exact lit_Cb _ _ _ (by simp) _ (by simp) | (with_reducible refine Kd.C_alloc ?_ _) | (with_reducible refine Kd.C_drewN ?_ _) | (with_reducible refine Kd.C_drew ?_))
 case t0 => exact Nat.le_refl _
 rintro e w5 ⟨v14, v15, rfl, ho14, ho15, hb⟩
 replace HB := Aside0.mk (below_step (by repeat (first | (with_reducible first | exact HB.out | apply below_alloc | apply pw_below_drewN | apply below_drew1) | exact HB.out)) hb)
 obtain ⟨A14, c14, rfl, l14, h14⟩ := IsRow.of ho14
 have H14 := Aside0.mk h14
 clear h14 ho14
 obtain ⟨A15, c15, rfl, l15, h15⟩ := IsRow.of ho15
 have H15 := Aside0.mk h15
 clear h15 ho15
 clear hb
 go_wp2_with fail
 refine (slots_Ref.calls 60 _ _ ([2, 0] : List Int) _ _ ([false, false] : List Bool) 1 ([] : List Int) ([] : List Bool) 9 _ ?s0 ?t0 ?s1 ?t1 (by decide +kernel)).mono ?_
 case s0 => repeat (first | exact H14.out | (with_reducible refine Kd.C_alloc ?_ _) | (with_reducible refine Kd.C_drewN ?_ _) | (with_reducible refine Kd.C_drew ?_))
 case t0 => exact l14
 case s1 => repeat (first | exact H15.out | (with_reducible refine Kd.C_alloc ?_ _) | (with_reducible refine Kd.C_drewN ?_ _) | (with_reducible refine Kd.C_drew ?_))
 case t1 => exact l15
 rintro e w6 ⟨v16, v17, rfl, ho16, ho17, hb⟩
 clear H14
 clear H15
 replace HB := Aside0.mk (below_step (by repeat (first | (with_reducible first | exact HB.out | apply below_alloc | apply pw_below_drewN | apply below_drew1) | exact HB.out)) hb)
 obtain ⟨A16, c16, rfl, l16, h16⟩ := IsRow.of ho16
 clear h16 ho16
 obtain ⟨A17, c17, rfl, l17, h17⟩ := IsRow.of ho17
 clear h17 ho17
 clear hb
 go_wp2_with fail
 refine (headgatelaw18_of.calls 60 _ _ ([1000, 0] : List Int) ([0, 0] : List Int) ([true, false] : List Bool) _ ?s0 ?t0 (by decide +kernel)).mono ?_
 case s0 => repeat (first | exact lit_Cb _ _ _ (by simp) _ (by simp) | (with_reducible refine Kd.C_alloc ?_ _) | (with_reducible refine Kd.C_drewN ?_ _) | (with_reducible refine Kd.C_drew ?_))
 case t0 => exact Nat.le_refl _
 rintro e w7 ⟨v20, v21, rfl, ho20, ho21, hb⟩
 replace HB := Aside0.mk (below_step (by repeat (first | (with_reducible first | exact HB.out | apply below_alloc | apply pw_below_drewN | apply below_drew1) | exact HB.out)) hb)
 obtain ⟨A20, c20, rfl, l20, h20⟩ := IsRow.of ho20
 have H20 := Aside0.mk h20
 clear h20 ho20
 obtain ⟨A21, c21, rfl, l21, h21⟩ := IsRow.of ho21
 have H21 := Aside0.mk h21
 clear h21 ho21
 clear hb
 go_wp2_with fail
 refine (slots_Ref.calls 60 _ _ ([0, 0] : List Int) _ _ ([true, false] : List Bool) 0 ([1, 0] : List Int) ([true, false] : List Bool) 0 _ ?s0 ?t0 ?s1 ?t1 (by decide +kernel)).mono ?_
 case s0 => repeat (first | exact H20.out | (with_reducible refine Kd.C_alloc ?_ _) | (with_reducible refine Kd.C_drewN ?_ _) | (with_reducible refine Kd.C_drew ?_))
 case t0 => exact l20
 case s1 => repeat (first | exact H21.out | (with_reducible refine Kd.C_alloc ?_ _) | (with_reducible refine Kd.C_drewN ?_ _) | (with_reducible refine Kd.C_drew ?_))
 case t1 => exact l21
 rintro e w8 ⟨v22, v23, rfl, ho22, ho23, hb⟩
 clear H20
 clear H21
 replace HB := Aside0.mk (below_step (by repeat (first | (with_reducible first | exact HB.out | apply below_alloc | apply pw_below_drewN | apply below_drew1) | exact HB.out)) hb)
 obtain ⟨A22, c22, rfl, l22, h22⟩ := IsRow.of ho22
 have H22 := Aside0.mk h22
 clear h22 ho22
 obtain ⟨A23, c23, rfl, l23, h23⟩ := IsRow.of ho23
 have H23 := Aside0.mk h23
 clear h23 ho23
 clear hb
 go_wp2_with fail
 refine (headgatelaw18_of.calls 60 _ _ ([0, 0] : List Int) ([0, 0] : List Int) ([false, false] : List Bool) _ ?s0 ?t0 (by decide +kernel)).mono ?_
 case s0 => repeat (first | exact lit_Cb _ _ _ (by simp) _ (by simp) | (with_reducible refine Kd.C_alloc ?_ _) | (with_reducible refine Kd.C_drewN ?_ _) | (with_reducible refine Kd.C_drew ?_))
 case t0 => exact Nat.le_refl _
 rintro e w9 ⟨v26, v27, rfl, ho26, ho27, hb⟩
 replace H22 : Aside0 (Kd.C (Kd.int .i64) w9 A22 ([1, 0] : List Int).length ([1, 0] : List Int)) := ⟨Kd.C_below (by repeat (first | exact H22.out | (with_reducible refine Kd.C_alloc ?_ _) | (with_reducible refine Kd.C_drewN ?_ _) | (with_reducible refine Kd.C_drew ?_))) hb⟩
 replace H23 : Aside0 (Kd.C Kd.bool w9 A23 ([true, false] : List Bool).length ([true, false] : List Bool)) := ⟨Kd.C_below (by repeat (first | exact H23.out | (with_reducible refine Kd.C_alloc ?_ _) | (with_reducible refine Kd.C_drewN ?_ _) | (with_reducible refine Kd.C_drew ?_))) hb⟩
 have BK24 : Aside0 (w9.heap[w8.heap.size]? = some (.cells #[.slice A22 ([1, 0] : List Int).length c22, .slice A23 ([true, false] : List Bool).length c23] 43 (0, 0))) := ⟨blk_below (by repeat (first | exact blk_newb _ _ _ (by simp) | refine blk_alloc ?_ _)) hb⟩
 replace HB := Aside0.mk (below_step (by repeat (first | (with_reducible first | exact HB.out | apply below_alloc | apply pw_below_drewN | apply below_drew1) | exact HB.out)) hb)
 obtain ⟨A26, c26, rfl, l26, h26⟩ := IsRow.of ho26
 have H26 := Aside0.mk h26
 clear h26 ho26
 obtain ⟨A27, c27, rfl, l27, h27⟩ := IsRow.of ho27
 have H27 := Aside0.mk h27
 clear h27 ho27
 clear hb
 go_wp2_with fail
 refine (slots_Unref.calls 60 _ _ ([0, 0] : List Int) _ _ ([false, false] : List Bool) 0 ([] : List Int) ([] : List Bool) false 15 _ ?s0 ?t0 ?s1 ?t1 (by decide +kernel)).mono ?_
 case s0 => repeat (first | exact H26.out | (with_reducible refine Kd.C_alloc ?_ _) | (with_reducible refine Kd.C_drewN ?_ _) | (with_reducible refine Kd.C_drew ?_))
 case t0 => exact l26
 case s1 => repeat (first | exact H27.out | (with_reducible refine Kd.C_alloc ?_ _) | (with_reducible refine Kd.C_drewN ?_ _) | (with_reducible refine Kd.C_drew ?_))
 case t1 => exact l27
 rintro e w10 ⟨v28, v29, rfl, ho28, ho29, hb⟩
 replace H22 : Aside0 (Kd.C (Kd.int .i64) w10 A22 ([1, 0] : List Int).length ([1, 0] : List Int)) := ⟨Kd.C_below (by repeat (first | exact H22.out | (with_reducible refine Kd.C_alloc ?_ _) | (with_reducible refine Kd.C_drewN ?_ _) | (with_reducible refine Kd.C_drew ?_))) hb⟩
 replace H23 : Aside0 (Kd.C Kd.bool w10 A23 ([true, false] : List Bool).length ([true, false] : List Bool)) := ⟨Kd.C_below (by repeat (first | exact H23.out | (with_reducible refine Kd.C_alloc ?_ _) | (with_reducible refine Kd.C_drewN ?_ _) | (with_reducible refine Kd.C_drew ?_))) hb⟩
 clear H26
 clear H27
 replace BK24 : Aside0 (w10.heap[w8.heap.size]? = some (.cells #[.slice A22 ([1, 0] : List Int).length c22, .slice A23 ([true, false] : List Bool).length c23] 43 (0, 0))) := ⟨blk_below (by (with_reducible repeat (first | refine blk_drewN ?_ _ | refine blk_drew ?_ | refine blk_alloc ?_ _)); exact BK24.out) hb⟩
 replace HB := Aside0.mk (below_step (by repeat (first | (with_reducible first | exact HB.out | apply below_alloc | apply pw_below_drewN | apply below_drew1) | exact HB.out)) hb)
 obtain ⟨A28, c28, rfl, l28, h28⟩ := IsRow.of ho28
 clear h28 ho28
 obtain ⟨A29, c29, rfl, l29, h29⟩ := IsRow.of ho29
 clear h29 ho29
 clear hb
 go_wp2_with fail
 refine (headgatelaw18_of.calls 60 _ _ ([2, 0] : List Int) ([2, 0] : List Int) ([false, false] : List Bool) _ ?s0 ?t0 (by decide +kernel)).mono ?_
 case s0 => repeat (first | exact lit_Cb _ _ _ (by simp) _ (by simp) | (with_reducible refine Kd.C_alloc ?_ _) | (with_reducible refine Kd.C_drewN ?_ _) | (with_reducible refine Kd.C_drew ?_))
 case t0 => exact Nat.le_refl _
 rintro e w11 ⟨v32, v33, rfl, ho32, ho33, hb⟩
 replace H22 : Aside0 (Kd.C (Kd.int .i64) w11 A22 ([1, 0] : List Int).length ([1, 0] : List Int)) := ⟨Kd.C_below (by repeat (first | exact H22.out | (with_reducible refine Kd.C_alloc ?_ _) | (with_reducible refine Kd.C_drewN ?_ _) | (with_reducible refine Kd.C_drew ?_))) hb⟩
 replace H23 : Aside0 (Kd.C Kd.bool w11 A23 ([true, false] : List Bool).length ([true, false] : List Bool)) := ⟨Kd.C_below (by repeat (first | exact H23.out | (with_reducible refine Kd.C_alloc ?_ _) | (with_reducible refine Kd.C_drewN ?_ _) | (with_reducible refine Kd.C_drew ?_))) hb⟩
 replace BK24 : Aside0 (w11.heap[w8.heap.size]? = some (.cells #[.slice A22 ([1, 0] : List Int).length c22, .slice A23 ([true, false] : List Bool).length c23] 43 (0, 0))) := ⟨blk_below (by (with_reducible repeat (first | refine blk_drewN ?_ _ | refine blk_drew ?_ | refine blk_alloc ?_ _)); exact BK24.out) hb⟩
 replace HB := Aside0.mk (below_step (by repeat (first | (with_reducible first | exact HB.out | apply below_alloc | apply pw_below_drewN | apply below_drew1) | exact HB.out)) hb)
 obtain ⟨A32, c32, rfl, l32, h32⟩ := IsRow.of ho32
 have H32 := Aside0.mk h32
 clear h32 ho32
 obtain ⟨A33, c33, rfl, l33, h33⟩ := IsRow.of ho33
 have H33 := Aside0.mk h33
 clear h33 ho33
 clear hb
 go_wp2_with fail
 refine (slots_Settle.calls 60 _ _ ([2, 0] : List Int) _ _ ([false, false] : List Bool) 0 ([] : List Int) ([] : List Bool) false 9 _ ?s0 ?t0 ?s1 ?t1 (by decide +kernel)).mono ?_
 case s0 => repeat (first | exact H32.out | (with_reducible refine Kd.C_alloc ?_ _) | (with_reducible refine Kd.C_drewN ?_ _) | (with_reducible refine Kd.C_drew ?_))
 case t0 => exact l32
 case s1 => repeat (first | exact H33.out | (with_reducible refine Kd.C_alloc ?_ _) | (with_reducible refine Kd.C_drewN ?_ _) | (with_reducible refine Kd.C_drew ?_))
 case t1 => exact l33
 rintro e w12 ⟨v34, v35, rfl, ho34, ho35, hb⟩
 replace H22 : Aside0 (Kd.C (Kd.int .i64) w12 A22 ([1, 0] : List Int).length ([1, 0] : List Int)) := ⟨Kd.C_below (by repeat (first | exact H22.out | (with_reducible refine Kd.C_alloc ?_ _) | (with_reducible refine Kd.C_drewN ?_ _) | (with_reducible refine Kd.C_drew ?_))) hb⟩
 replace H23 : Aside0 (Kd.C Kd.bool w12 A23 ([true, false] : List Bool).length ([true, false] : List Bool)) := ⟨Kd.C_below (by repeat (first | exact H23.out | (with_reducible refine Kd.C_alloc ?_ _) | (with_reducible refine Kd.C_drewN ?_ _) | (with_reducible refine Kd.C_drew ?_))) hb⟩
 clear H32
 clear H33
 replace BK24 : Aside0 (w12.heap[w8.heap.size]? = some (.cells #[.slice A22 ([1, 0] : List Int).length c22, .slice A23 ([true, false] : List Bool).length c23] 43 (0, 0))) := ⟨blk_below (by (with_reducible repeat (first | refine blk_drewN ?_ _ | refine blk_drew ?_ | refine blk_alloc ?_ _)); exact BK24.out) hb⟩
 replace HB := Aside0.mk (below_step (by repeat (first | (with_reducible first | exact HB.out | apply below_alloc | apply pw_below_drewN | apply below_drew1) | exact HB.out)) hb)
 obtain ⟨A34, c34, rfl, l34, h34⟩ := IsRow.of ho34
 clear h34 ho34
 obtain ⟨A35, c35, rfl, l35, h35⟩ := IsRow.of ho35
 clear h35 ho35
 clear hb
 go_wp2_with fail
 refine (headgatelaw18_of.calls 60 _ _ ([2, 0] : List Int) ([2, 0] : List Int) ([false, false] : List Bool) _ ?s0 ?t0 (by decide +kernel)).mono ?_
 case s0 => repeat (first | exact lit_Cb _ _ _ (by simp) _ (by simp) | (with_reducible refine Kd.C_alloc ?_ _) | (with_reducible refine Kd.C_drewN ?_ _) | (with_reducible refine Kd.C_drew ?_))
 case t0 => exact Nat.le_refl _
 rintro e w13 ⟨v38, v39, rfl, ho38, ho39, hb⟩
 replace H22 : Aside0 (Kd.C (Kd.int .i64) w13 A22 ([1, 0] : List Int).length ([1, 0] : List Int)) := ⟨Kd.C_below (by repeat (first | exact H22.out | (with_reducible refine Kd.C_alloc ?_ _) | (with_reducible refine Kd.C_drewN ?_ _) | (with_reducible refine Kd.C_drew ?_))) hb⟩
 replace H23 : Aside0 (Kd.C Kd.bool w13 A23 ([true, false] : List Bool).length ([true, false] : List Bool)) := ⟨Kd.C_below (by repeat (first | exact H23.out | (with_reducible refine Kd.C_alloc ?_ _) | (with_reducible refine Kd.C_drewN ?_ _) | (with_reducible refine Kd.C_drew ?_))) hb⟩
 replace BK24 : Aside0 (w13.heap[w8.heap.size]? = some (.cells #[.slice A22 ([1, 0] : List Int).length c22, .slice A23 ([true, false] : List Bool).length c23] 43 (0, 0))) := ⟨blk_below (by (with_reducible repeat (first | refine blk_drewN ?_ _ | refine blk_drew ?_ | refine blk_alloc ?_ _)); exact BK24.out) hb⟩
 replace HB := Aside0.mk (below_step (by repeat (first | (with_reducible first | exact HB.out | apply below_alloc | apply pw_below_drewN | apply below_drew1) | exact HB.out)) hb)
 obtain ⟨A38, c38, rfl, l38, h38⟩ := IsRow.of ho38
 have H38 := Aside0.mk h38
 clear h38 ho38
 obtain ⟨A39, c39, rfl, l39, h39⟩ := IsRow.of ho39
 have H39 := Aside0.mk h39
 clear h39 ho39
 clear hb
 go_wp2_with fail
 refine (slots_Start.calls 60 _ _ ([2, 0] : List Int) _ _ ([false, false] : List Bool) 0 ([2, 0] : List Int) ([true, false] : List Bool) 0 _ ?s0 ?t0 ?s1 ?t1 (by decide +kernel)).mono ?_
 case s0 => repeat (first | exact H38.out | (with_reducible refine Kd.C_alloc ?_ _) | (with_reducible refine Kd.C_drewN ?_ _) | (with_reducible refine Kd.C_drew ?_))
 case t0 => exact l38
 case s1 => repeat (first | exact H39.out | (with_reducible refine Kd.C_alloc ?_ _) | (with_reducible refine Kd.C_drewN ?_ _) | (with_reducible refine Kd.C_drew ?_))
 case t1 => exact l39
 rintro e w14 ⟨v40, v41, rfl, ho40, ho41, hb⟩
 replace H22 : Aside0 (Kd.C (Kd.int .i64) w14 A22 ([1, 0] : List Int).length ([1, 0] : List Int)) := ⟨Kd.C_below (by repeat (first | exact H22.out | (with_reducible refine Kd.C_alloc ?_ _) | (with_reducible refine Kd.C_drewN ?_ _) | (with_reducible refine Kd.C_drew ?_))) hb⟩
 replace H23 : Aside0 (Kd.C Kd.bool w14 A23 ([true, false] : List Bool).length ([true, false] : List Bool)) := ⟨Kd.C_below (by repeat (first | exact H23.out | (with_reducible refine Kd.C_alloc ?_ _) | (with_reducible refine Kd.C_drewN ?_ _) | (with_reducible refine Kd.C_drew ?_))) hb⟩
 clear H38
 clear H39
 replace BK24 : Aside0 (w14.heap[w8.heap.size]? = some (.cells #[.slice A22 ([1, 0] : List Int).length c22, .slice A23 ([true, false] : List Bool).length c23] 43 (0, 0))) := ⟨blk_below (by (with_reducible repeat (first | refine blk_drewN ?_ _ | refine blk_drew ?_ | refine blk_alloc ?_ _)); exact BK24.out) hb⟩
 replace HB := Aside0.mk (below_step (by repeat (first | (with_reducible first | exact HB.out | apply below_alloc | apply pw_below_drewN | apply below_drew1) | exact HB.out)) hb)
 obtain ⟨A40, c40, rfl, l40, h40⟩ := IsRow.of ho40
 have H40 := Aside0.mk h40
 clear h40 ho40
 obtain ⟨A41, c41, rfl, l41, h41⟩ := IsRow.of ho41
 have H41 := Aside0.mk h41
 clear h41 ho41
 clear hb
 go_wp2_with fail
 refine (headgatelaw18_of.calls 60 _ _ ([1002, 0] : List Int) ([2, 0] : List Int) ([true, false] : List Bool) _ ?s0 ?t0 (by decide +kernel)).mono ?_
 case s0 => repeat (first | exact lit_Cb _ _ _ (by simp) _ (by simp) | (with_reducible refine Kd.C_alloc ?_ _) | (with_reducible refine Kd.C_drewN ?_ _) | (with_reducible refine Kd.C_drew ?_))
 case t0 => exact Nat.le_refl _
 rintro e w15 ⟨v44, v45, rfl, ho44, ho45, hb⟩
 replace H22 : Aside0 (Kd.C (Kd.int .i64) w15 A22 ([1, 0] : List Int).length ([1, 0] : List Int)) := ⟨Kd.C_below (by repeat (first | exact H22.out | (with_reducible refine Kd.C_alloc ?_ _) | (with_reducible refine Kd.C_drewN ?_ _) | (with_reducible refine Kd.C_drew ?_))) hb⟩
 replace H23 : Aside0 (Kd.C Kd.bool w15 A23 ([true, false] : List Bool).length ([true, false] : List Bool)) := ⟨Kd.C_below (by repeat (first | exact H23.out | (with_reducible refine Kd.C_alloc ?_ _) | (with_reducible refine Kd.C_drewN ?_ _) | (with_reducible refine Kd.C_drew ?_))) hb⟩
 replace H40 : Aside0 (Kd.C (Kd.int .i64) w15 A40 ([2, 0] : List Int).length ([2, 0] : List Int)) := ⟨Kd.C_below (by repeat (first | exact H40.out | (with_reducible refine Kd.C_alloc ?_ _) | (with_reducible refine Kd.C_drewN ?_ _) | (with_reducible refine Kd.C_drew ?_))) hb⟩
 replace H41 : Aside0 (Kd.C Kd.bool w15 A41 ([true, false] : List Bool).length ([true, false] : List Bool)) := ⟨Kd.C_below (by repeat (first | exact H41.out | (with_reducible refine Kd.C_alloc ?_ _) | (with_reducible refine Kd.C_drewN ?_ _) | (with_reducible refine Kd.C_drew ?_))) hb⟩
 replace BK24 : Aside0 (w15.heap[w8.heap.size]? = some (.cells #[.slice A22 ([1, 0] : List Int).length c22, .slice A23 ([true, false] : List Bool).length c23] 43 (0, 0))) := ⟨blk_below (by (with_reducible repeat (first | refine blk_drewN ?_ _ | refine blk_drew ?_ | refine blk_alloc ?_ _)); exact BK24.out) hb⟩
 have BK42 : Aside0 (w15.heap[w14.heap.size]? = some (.cells #[.slice A40 ([2, 0] : List Int).length c40, .slice A41 ([true, false] : List Bool).length c41] 43 (0, 0))) := ⟨blk_below (by repeat (first | exact blk_newb _ _ _ (by simp) | refine blk_alloc ?_ _)) hb⟩
 replace HB := Aside0.mk (below_step (by repeat (first | (with_reducible first | exact HB.out | apply below_alloc | apply pw_below_drewN | apply below_drew1) | exact HB.out)) hb)
 obtain ⟨A44, c44, rfl, l44, h44⟩ := IsRow.of ho44
 have H44 := Aside0.mk h44
 clear h44 ho44
 obtain ⟨A45, c45, rfl, l45, h45⟩ := IsRow.of ho45
 have H45 := Aside0.mk h45
 clear h45 ho45
 clear hb
 go_wp2_with fail
 refine (slots_Start.calls 60 _ _ ([2, 0] : List Int) _ _ ([true, false] : List Bool) 0 ([] : List Int) ([] : List Bool) 10 _ ?s0 ?t0 ?s1 ?t1 (by decide +kernel)).mono ?_
 case s0 => repeat (first | exact H44.out | (with_reducible refine Kd.C_alloc ?_ _) | (with_reducible refine Kd.C_drewN ?_ _) | (with_reducible refine Kd.C_drew ?_))
 case t0 => exact l44
 case s1 => repeat (first | exact H45.out | (with_reducible refine Kd.C_alloc ?_ _) | (with_reducible refine Kd.C_drewN ?_ _) | (with_reducible refine Kd.C_drew ?_))
 case t1 => exact l45
 rintro e w16 ⟨v46, v47, rfl, ho46, ho47, hb⟩
 replace H22 : Aside0 (Kd.C (Kd.int .i64) w16 A22 ([1, 0] : List Int).length ([1, 0] : List Int)) := ⟨Kd.C_below (by repeat (first | exact H22.out | (with_reducible refine Kd.C_alloc ?_ _) | (with_reducible refine Kd.C_drewN ?_ _) | (with_reducible refine Kd.C_drew ?_))) hb⟩
 replace H23 : Aside0 (Kd.C Kd.bool w16 A23 ([true, false] : List Bool).length ([true, false] : List Bool)) := ⟨Kd.C_below (by repeat (first | exact H23.out | (with_reducible refine Kd.C_alloc ?_ _) | (with_reducible refine Kd.C_drewN ?_ _) | (with_reducible refine Kd.C_drew ?_))) hb⟩
 replace H40 : Aside0 (Kd.C (Kd.int .i64) w16 A40 ([2, 0] : List Int).length ([2, 0] : List Int)) := ⟨Kd.C_below (by repeat (first | exact H40.out | (with_reducible refine Kd.C_alloc ?_ _) | (with_reducible refine Kd.C_drewN ?_ _) | (with_reducible refine Kd.C_drew ?_))) hb⟩
 replace H41 : Aside0 (Kd.C Kd.bool w16 A41 ([true, false] : List Bool).length ([true, false] : List Bool)) := ⟨Kd.C_below (by repeat (first | exact H41.out | (with_reducible refine Kd.C_alloc ?_ _) | (with_reducible refine Kd.C_drewN ?_ _) | (with_reducible refine Kd.C_drew ?_))) hb⟩
 clear H44
 clear H45
 replace BK24 : Aside0 (w16.heap[w8.heap.size]? = some (.cells #[.slice A22 ([1, 0] : List Int).length c22, .slice A23 ([true, false] : List Bool).length c23] 43 (0, 0))) := ⟨blk_below (by (with_reducible repeat (first | refine blk_drewN ?_ _ | refine blk_drew ?_ | refine blk_alloc ?_ _)); exact BK24.out) hb⟩
 replace BK42 : Aside0 (w16.heap[w14.heap.size]? = some (.cells #[.slice A40 ([2, 0] : List Int).length c40, .slice A41 ([true, false] : List Bool).length c41] 43 (0, 0))) := ⟨blk_below (by (with_reducible repeat (first | refine blk_drewN ?_ _ | refine blk_drew ?_ | refine blk_alloc ?_ _)); exact BK42.out) hb⟩
 replace HB := Aside0.mk (below_step (by repeat (first | (with_reducible first | exact HB.out | apply below_alloc | apply pw_below_drewN | apply below_drew1) | exact HB.out)) hb)
 obtain ⟨A46, c46, rfl, l46, h46⟩ := IsRow.of ho46
 clear h46 ho46
 obtain ⟨A47, c47, rfl, l47, h47⟩ := IsRow.of ho47
 clear h47 ho47
 clear hb
 go_wp2_with fail
 refine (headgatelaw18_of.calls 60 _ _ ([0, 0] : List Int) ([0, 0] : List Int) ([false, false] : List Bool) _ ?s0 ?t0 (by decide +kernel)).mono ?_
 case s0 => repeat (first | exact lit_Cb _ _ _ (by simp) _ (by simp) | (with_reducible refine Kd.C_alloc ?_ _) | (with_reducible refine Kd.C_drewN ?_ _) | (with_reducible refine Kd.C_drew ?_))
 case t0 => exact Nat.le_refl _
 rintro e w17 ⟨v50, v51, rfl, ho50, ho51, hb⟩
 replace H22 : Aside0 (Kd.C (Kd.int .i64) w17 A22 ([1, 0] : List Int).length ([1, 0] : List Int)) := ⟨Kd.C_below (by repeat (first | exact H22.out | (with_reducible refine Kd.C_alloc ?_ _) | (with_reducible refine Kd.C_drewN ?_ _) | (with_reducible refine Kd.C_drew ?_))) hb⟩
 replace H23 : Aside0 (Kd.C Kd.bool w17 A23 ([true, false] : List Bool).length ([true, false] : List Bool)) := ⟨Kd.C_below (by repeat (first | exact H23.out | (with_reducible refine Kd.C_alloc ?_ _) | (with_reducible refine Kd.C_drewN ?_ _) | (with_reducible refine Kd.C_drew ?_))) hb⟩
 replace H40 : Aside0 (Kd.C (Kd.int .i64) w17 A40 ([2, 0] : List Int).length ([2, 0] : List Int)) := ⟨Kd.C_below (by repeat (first | exact H40.out | (with_reducible refine Kd.C_alloc ?_ _) | (with_reducible refine Kd.C_drewN ?_ _) | (with_reducible refine Kd.C_drew ?_))) hb⟩
 replace H41 : Aside0 (Kd.C Kd.bool w17 A41 ([true, false] : List Bool).length ([true, false] : List Bool)) := ⟨Kd.C_below (by repeat (first | exact H41.out | (with_reducible refine Kd.C_alloc ?_ _) | (with_reducible refine Kd.C_drewN ?_ _) | (with_reducible refine Kd.C_drew ?_))) hb⟩
 replace BK24 : Aside0 (w17.heap[w8.heap.size]? = some (.cells #[.slice A22 ([1, 0] : List Int).length c22, .slice A23 ([true, false] : List Bool).length c23] 43 (0, 0))) := ⟨blk_below (by (with_reducible repeat (first | refine blk_drewN ?_ _ | refine blk_drew ?_ | refine blk_alloc ?_ _)); exact BK24.out) hb⟩
 replace BK42 : Aside0 (w17.heap[w14.heap.size]? = some (.cells #[.slice A40 ([2, 0] : List Int).length c40, .slice A41 ([true, false] : List Bool).length c41] 43 (0, 0))) := ⟨blk_below (by (with_reducible repeat (first | refine blk_drewN ?_ _ | refine blk_drew ?_ | refine blk_alloc ?_ _)); exact BK42.out) hb⟩
 replace HB := Aside0.mk (below_step (by repeat (first | (with_reducible first | exact HB.out | apply below_alloc | apply pw_below_drewN | apply below_drew1) | exact HB.out)) hb)
 obtain ⟨A50, c50, rfl, l50, h50⟩ := IsRow.of ho50
 have H50 := Aside0.mk h50
 clear h50 ho50
 obtain ⟨A51, c51, rfl, l51, h51⟩ := IsRow.of ho51
 have H51 := Aside0.mk h51
 clear h51 ho51
 clear hb
 go_wp2_with fail
 refine (slots_Start.calls 60 _ _ ([0, 0] : List Int) _ _ ([false, false] : List Bool) 0 ([] : List Int) ([] : List Bool) 9 _ ?s0 ?t0 ?s1 ?t1 (by decide +kernel)).mono ?_
 case s0 => repeat (first | exact H50.out | (with_reducible refine Kd.C_alloc ?_ _) | (with_reducible refine Kd.C_drewN ?_ _) | (with_reducible refine Kd.C_drew ?_))
 case t0 => exact l50
 case s1 => repeat (first | exact H51.out | (with_reducible refine Kd.C_alloc ?_ _) | (with_reducible refine Kd.C_drewN ?_ _) | (with_reducible refine Kd.C_drew ?_))
 case t1 => exact l51
 rintro e w18 ⟨v52, v53, rfl, ho52, ho53, hb⟩
 replace H22 : Aside0 (Kd.C (Kd.int .i64) w18 A22 ([1, 0] : List Int).length ([1, 0] : List Int)) := ⟨Kd.C_below (by repeat (first | exact H22.out | (with_reducible refine Kd.C_alloc ?_ _) | (with_reducible refine Kd.C_drewN ?_ _) | (with_reducible refine Kd.C_drew ?_))) hb⟩
 replace H23 : Aside0 (Kd.C Kd.bool w18 A23 ([true, false] : List Bool).length ([true, false] : List Bool)) := ⟨Kd.C_below (by repeat (first | exact H23.out | (with_reducible refine Kd.C_alloc ?_ _) | (with_reducible refine Kd.C_drewN ?_ _) | (with_reducible refine Kd.C_drew ?_))) hb⟩
 replace H40 : Aside0 (Kd.C (Kd.int .i64) w18 A40 ([2, 0] : List Int).length ([2, 0] : List Int)) := ⟨Kd.C_below (by repeat (first | exact H40.out | (with_reducible refine Kd.C_alloc ?_ _) | (with_reducible refine Kd.C_drewN ?_ _) | (with_reducible refine Kd.C_drew ?_))) hb⟩
 replace H41 : Aside0 (Kd.C Kd.bool w18 A41 ([true, false] : List Bool).length ([true, false] : List Bool)) := ⟨Kd.C_below (by repeat (first | exact H41.out | (with_reducible refine Kd.C_alloc ?_ _) | (with_reducible refine Kd.C_drewN ?_ _) | (with_reducible refine Kd.C_drew ?_))) hb⟩
 clear H50
 clear H51
 replace BK24 : Aside0 (w18.heap[w8.heap.size]? = some (.cells #[.slice A22 ([1, 0] : List Int).length c22, .slice A23 ([true, false] : List Bool).length c23] 43 (0, 0))) := ⟨blk_below (by (with_reducible repeat (first | refine blk_drewN ?_ _ | refine blk_drew ?_ | refine blk_alloc ?_ _)); exact BK24.out) hb⟩
 replace BK42 : Aside0 (w18.heap[w14.heap.size]? = some (.cells #[.slice A40 ([2, 0] : List Int).length c40, .slice A41 ([true, false] : List Bool).length c41] 43 (0, 0))) := ⟨blk_below (by (with_reducible repeat (first | refine blk_drewN ?_ _ | refine blk_drew ?_ | refine blk_alloc ?_ _)); exact BK42.out) hb⟩
 replace HB := Aside0.mk (below_step (by repeat (first | (with_reducible first | exact HB.out | apply below_alloc | apply pw_below_drewN | apply below_drew1) | exact HB.out)) hb)
 obtain ⟨A52, c52, rfl, l52, h52⟩ := IsRow.of ho52
 clear h52 ho52
 obtain ⟨A53, c53, rfl, l53, h53⟩ := IsRow.of ho53
 clear h53 ho53
 clear hb
 go_wp2_with fail
 refine (headgatelaw18_of.calls 60 _ _ ([1002, 0, 1] : List Int) ([2, 0, 1] : List Int) ([true, false, false] : List Bool) _ ?s0 ?t0 (by decide +kernel)).mono ?_
 case s0 => repeat (first | exact lit_Cb _ _ _ (by simp) _ (by simp) | (with_reducible refine Kd.C_alloc ?_ _) | (with_reducible refine Kd.C_drewN ?_ _) | (with_reducible refine Kd.C_drew ?_))
 case t0 => exact Nat.le_refl _
 rintro e w19 ⟨v56, v57, rfl, ho56, ho57, hb⟩
 replace H22 : Aside0 (Kd.C (Kd.int .i64) w19 A22 ([1, 0] : List Int).length ([1, 0] : List Int)) := ⟨Kd.C_below (by repeat (first | exact H22.out | (with_reducible refine Kd.C_alloc ?_ _) | (with_reducible refine Kd.C_drewN ?_ _) | (with_reducible refine Kd.C_drew ?_))) hb⟩
 replace H23 : Aside0 (Kd.C Kd.bool w19 A23 ([true, false] : List Bool).length ([true, false] : List Bool)) := ⟨Kd.C_below (by repeat (first | exact H23.out | (with_reducible refine Kd.C_alloc ?_ _) | (with_reducible refine Kd.C_drewN ?_ _) | (with_reducible refine Kd.C_drew ?_))) hb⟩
 replace H40 : Aside0 (Kd.C (Kd.int .i64) w19 A40 ([2, 0] : List Int).length ([2, 0] : List Int)) := ⟨Kd.C_below (by repeat (first | exact H40.out | (with_reducible refine Kd.C_alloc ?_ _) | (with_reducible refine Kd.C_drewN ?_ _) | (with_reducible refine Kd.C_drew ?_))) hb⟩
 replace H41 : Aside0 (Kd.C Kd.bool w19 A41 ([true, false] : List Bool).length ([true, false] : List Bool)) := ⟨Kd.C_below (by repeat (first | exact H41.out | (with_reducible refine Kd.C_alloc ?_ _) | (with_reducible refine Kd.C_drewN ?_ _) | (with_reducible refine Kd.C_drew ?_))) hb⟩
 replace BK24 : Aside0 (w19.heap[w8.heap.size]? = some (.cells #[.slice A22 ([1, 0] : List Int).length c22, .slice A23 ([true, false] : List Bool).length c23] 43 (0, 0))) := ⟨blk_below (by (with_reducible repeat (first | refine blk_drewN ?_ _ | refine blk_drew ?_ | refine blk_alloc ?_ _)); exact BK24.out) hb⟩
 replace BK42 : Aside0 (w19.heap[w14.heap.size]? = some (.cells #[.slice A40 ([2, 0] : List Int).length c40, .slice A41 ([true, false] : List Bool).length c41] 43 (0, 0))) := ⟨blk_below (by (with_reducible repeat (first | refine blk_drewN ?_ _ | refine blk_drew ?_ | refine blk_alloc ?_ _)); exact BK42.out) hb⟩
 replace HB := Aside0.mk (below_step (by repeat (first | (with_reducible first | exact HB.out | apply below_alloc | apply pw_below_drewN | apply below_drew1) | exact HB.out)) hb)
 obtain ⟨A56, c56, rfl, l56, h56⟩ := IsRow.of ho56
 have H56 := Aside0.mk h56
 clear h56 ho56
 obtain ⟨A57, c57, rfl, l57, h57⟩ := IsRow.of ho57
 have H57 := Aside0.mk h57
 clear h57 ho57
 clear hb
 go_wp2_with fail
 refine (slots_First.calls 60 _ _ ([2, 0, 1] : List Int) _ _ ([true, false, false] : List Bool) 1 0 _ ?s0 ?t0 ?s1 ?t1 (by decide +kernel)).mono ?_
 case s0 => repeat (first | exact H56.out | (with_reducible refine Kd.C_alloc ?_ _) | (with_reducible refine Kd.C_drewN ?_ _) | (with_reducible refine Kd.C_drew ?_))
 case t0 => exact l56
 case s1 => repeat (first | exact H57.out | (with_reducible refine Kd.C_alloc ?_ _) | (with_reducible refine Kd.C_drewN ?_ _) | (with_reducible refine Kd.C_drew ?_))
 case t1 => exact l57
 rintro e w20 ⟨rfl, hb⟩
 replace H22 : Aside0 (Kd.C (Kd.int .i64) w20 A22 ([1, 0] : List Int).length ([1, 0] : List Int)) := ⟨Kd.C_below (by repeat (first | exact H22.out | (with_reducible refine Kd.C_alloc ?_ _) | (with_reducible refine Kd.C_drewN ?_ _) | (with_reducible refine Kd.C_drew ?_))) hb⟩
 replace H23 : Aside0 (Kd.C Kd.bool w20 A23 ([true, false] : List Bool).length ([true, false] : List Bool)) := ⟨Kd.C_below (by repeat (first | exact H23.out | (with_reducible refine Kd.C_alloc ?_ _) | (with_reducible refine Kd.C_drewN ?_ _) | (with_reducible refine Kd.C_drew ?_))) hb⟩
 replace H40 : Aside0 (Kd.C (Kd.int .i64) w20 A40 ([2, 0] : List Int).length ([2, 0] : List Int)) := ⟨Kd.C_below (by repeat (first | exact H40.out | (with_reducible refine Kd.C_alloc ?_ _) | (with_reducible refine Kd.C_drewN ?_ _) | (with_reducible refine Kd.C_drew ?_))) hb⟩
 replace H41 : Aside0 (Kd.C Kd.bool w20 A41 ([true, false] : List Bool).length ([true, false] : List Bool)) := ⟨Kd.C_below (by repeat (first | exact H41.out | (with_reducible refine Kd.C_alloc ?_ _) | (with_reducible refine Kd.C_drewN ?_ _) | (with_reducible refine Kd.C_drew ?_))) hb⟩
 clear H56
 clear H57
 replace BK24 : Aside0 (w20.heap[w8.heap.size]? = some (.cells #[.slice A22 ([1, 0] : List Int).length c22, .slice A23 ([true, false] : List Bool).length c23] 43 (0, 0))) := ⟨blk_below (by (with_reducible repeat (first | refine blk_drewN ?_ _ | refine blk_drew ?_ | refine blk_alloc ?_ _)); exact BK24.out) hb⟩
 replace BK42 : Aside0 (w20.heap[w14.heap.size]? = some (.cells #[.slice A40 ([2, 0] : List Int).length c40, .slice A41 ([true, false] : List Bool).length c41] 43 (0, 0))) := ⟨blk_below (by (with_reducible repeat (first | refine blk_drewN ?_ _ | refine blk_drew ?_ | refine blk_alloc ?_ _)); exact BK42.out) hb⟩
 replace HB := Aside0.mk (below_step (by repeat (first | (with_reducible first | exact HB.out | apply below_alloc | apply pw_below_drewN | apply below_drew1) | exact HB.out)) hb)
 clear hb
 go_wp2_with fail
 refine (headgatelaw18_of.calls 60 _ _ ([1002, 1] : List Int) ([2, 1] : List Int) ([true, false] : List Bool) _ ?s0 ?t0 (by decide +kernel)).mono ?_
 case s0 => repeat (first | exact lit_Cb _ _ _ (by simp) _ (by simp) | (with_reducible refine Kd.C_alloc ?_ _) | (with_reducible refine Kd.C_drewN ?_ _) | (with_reducible refine Kd.C_drew ?_))
 case t0 => exact Nat.le_refl _
 rintro e w21 ⟨v59, v60, rfl, ho59, ho60, hb⟩
 replace H22 : Aside0 (Kd.C (Kd.int .i64) w21 A22 ([1, 0] : List Int).length ([1, 0] : List Int)) := ⟨Kd.C_below (by repeat (first | exact H22.out | (with_reducible refine Kd.C_alloc ?_ _) | (with_reducible refine Kd.C_drewN ?_ _) | (with_reducible refine Kd.C_drew ?_))) hb⟩
 replace H23 : Aside0 (Kd.C Kd.bool w21 A23 ([true, false] : List Bool).length ([true, false] : List Bool)) := ⟨Kd.C_below (by repeat (first | exact H23.out | (with_reducible refine Kd.C_alloc ?_ _) | (with_reducible refine Kd.C_drewN ?_ _) | (with_reducible refine Kd.C_drew ?_))) hb⟩
 replace H40 : Aside0 (Kd.C (Kd.int .i64) w21 A40 ([2, 0] : List Int).length ([2, 0] : List Int)) := ⟨Kd.C_below (by repeat (first | exact H40.out | (with_reducible refine Kd.C_alloc ?_ _) | (with_reducible refine Kd.C_drewN ?_ _) | (with_reducible refine Kd.C_drew ?_))) hb⟩
 replace H41 : Aside0 (Kd.C Kd.bool w21 A41 ([true, false] : List Bool).length ([true, false] : List Bool)) := ⟨Kd.C_below (by repeat (first | exact H41.out | (with_reducible refine Kd.C_alloc ?_ _) | (with_reducible refine Kd.C_drewN ?_ _) | (with_reducible refine Kd.C_drew ?_))) hb⟩
 replace BK24 : Aside0 (w21.heap[w8.heap.size]? = some (.cells #[.slice A22 ([1, 0] : List Int).length c22, .slice A23 ([true, false] : List Bool).length c23] 43 (0, 0))) := ⟨blk_below (by (with_reducible repeat (first | refine blk_drewN ?_ _ | refine blk_drew ?_ | refine blk_alloc ?_ _)); exact BK24.out) hb⟩
 replace BK42 : Aside0 (w21.heap[w14.heap.size]? = some (.cells #[.slice A40 ([2, 0] : List Int).length c40, .slice A41 ([true, false] : List Bool).length c41] 43 (0, 0))) := ⟨blk_below (by (with_reducible repeat (first | refine blk_drewN ?_ _ | refine blk_drew ?_ | refine blk_alloc ?_ _)); exact BK42.out) hb⟩
 replace HB := Aside0.mk (below_step (by repeat (first | (with_reducible first | exact HB.out | apply below_alloc | apply pw_below_drewN | apply below_drew1) | exact HB.out)) hb)
 obtain ⟨A59, c59, rfl, l59, h59⟩ := IsRow.of ho59
 have H59 := Aside0.mk h59
 clear h59 ho59
 obtain ⟨A60, c60, rfl, l60, h60⟩ := IsRow.of ho60
 have H60 := Aside0.mk h60
 clear h60 ho60
 clear hb
 go_wp2_with fail
 refine (slots_First.calls 60 _ _ ([2, 1] : List Int) _ _ ([true, false] : List Bool) 0 5 _ ?s0 ?t0 ?s1 ?t1 (by decide +kernel)).mono ?_
 case s0 => repeat (first | exact H59.out | (with_reducible refine Kd.C_alloc ?_ _) | (with_reducible refine Kd.C_drewN ?_ _) | (with_reducible refine Kd.C_drew ?_))
 case t0 => exact l59
 case s1 => repeat (first | exact H60.out | (with_reducible refine Kd.C_alloc ?_ _) | (with_reducible refine Kd.C_drewN ?_ _) | (with_reducible refine Kd.C_drew ?_))
 case t1 => exact l60
 rintro e w22 ⟨rfl, hb⟩
 replace H22 : Aside0 (Kd.C (Kd.int .i64) w22 A22 ([1, 0] : List Int).length ([1, 0] : List Int)) := ⟨Kd.C_below (by repeat (first | exact H22.out | (with_reducible refine Kd.C_alloc ?_ _) | (with_reducible refine Kd.C_drewN ?_ _) | (with_reducible refine Kd.C_drew ?_))) hb⟩
 replace H23 : Aside0 (Kd.C Kd.bool w22 A23 ([true, false] : List Bool).length ([true, false] : List Bool)) := ⟨Kd.C_below (by repeat (first | exact H23.out | (with_reducible refine Kd.C_alloc ?_ _) | (with_reducible refine Kd.C_drewN ?_ _) | (with_reducible refine Kd.C_drew ?_))) hb⟩
 replace H40 : Aside0 (Kd.C (Kd.int .i64) w22 A40 ([2, 0] : List Int).length ([2, 0] : List Int)) := ⟨Kd.C_below (by repeat (first | exact H40.out | (with_reducible refine Kd.C_alloc ?_ _) | (with_reducible refine Kd.C_drewN ?_ _) | (with_reducible refine Kd.C_drew ?_))) hb⟩
 replace H41 : Aside0 (Kd.C Kd.bool w22 A41 ([true, false] : List Bool).length ([true, false] : List Bool)) := ⟨Kd.C_below (by repeat (first | exact H41.out | (with_reducible refine Kd.C_alloc ?_ _) | (with_reducible refine Kd.C_drewN ?_ _) | (with_reducible refine Kd.C_drew ?_))) hb⟩
 clear H59
 clear H60
 replace BK24 : Aside0 (w22.heap[w8.heap.size]? = some (.cells #[.slice A22 ([1, 0] : List Int).length c22, .slice A23 ([true, false] : List Bool).length c23] 43 (0, 0))) := ⟨blk_below (by (with_reducible repeat (first | refine blk_drewN ?_ _ | refine blk_drew ?_ | refine blk_alloc ?_ _)); exact BK24.out) hb⟩
 replace BK42 : Aside0 (w22.heap[w14.heap.size]? = some (.cells #[.slice A40 ([2, 0] : List Int).length c40, .slice A41 ([true, false] : List Bool).length c41] 43 (0, 0))) := ⟨blk_below (by (with_reducible repeat (first | refine blk_drewN ?_ _ | refine blk_drew ?_ | refine blk_alloc ?_ _)); exact BK42.out) hb⟩
 replace HB := Aside0.mk (below_step (by repeat (first | (with_reducible first | exact HB.out | apply below_alloc | apply pw_below_drewN | apply below_drew1) | exact HB.out)) hb)
 clear hb
 go_wp2_with fail
 refine (slots_New.calls 0 ([] : List Int) ([] : List Bool) 2 _ (by decide +kernel)).mono ?_
 rintro e w23 ⟨v61, v62, rfl, ho61, ho62, hb⟩
 replace H22 : Aside0 (Kd.C (Kd.int .i64) w23 A22 ([1, 0] : List Int).length ([1, 0] : List Int)) := ⟨Kd.C_below (by repeat (first | exact H22.out | (with_reducible refine Kd.C_alloc ?_ _) | (with_reducible refine Kd.C_drewN ?_ _) | (with_reducible refine Kd.C_drew ?_))) hb⟩
 replace H23 : Aside0 (Kd.C Kd.bool w23 A23 ([true, false] : List Bool).length ([true, false] : List Bool)) := ⟨Kd.C_below (by repeat (first | exact H23.out | (with_reducible refine Kd.C_alloc ?_ _) | (with_reducible refine Kd.C_drewN ?_ _) | (with_reducible refine Kd.C_drew ?_))) hb⟩
 replace H40 : Aside0 (Kd.C (Kd.int .i64) w23 A40 ([2, 0] : List Int).length ([2, 0] : List Int)) := ⟨Kd.C_below (by repeat (first | exact H40.out | (with_reducible refine Kd.C_alloc ?_ _) | (with_reducible refine Kd.C_drewN ?_ _) | (with_reducible refine Kd.C_drew ?_))) hb⟩
 replace H41 : Aside0 (Kd.C Kd.bool w23 A41 ([true, false] : List Bool).length ([true, false] : List Bool)) := ⟨Kd.C_below (by repeat (first | exact H41.out | (with_reducible refine Kd.C_alloc ?_ _) | (with_reducible refine Kd.C_drewN ?_ _) | (with_reducible refine Kd.C_drew ?_))) hb⟩
 replace BK24 : Aside0 (w23.heap[w8.heap.size]? = some (.cells #[.slice A22 ([1, 0] : List Int).length c22, .slice A23 ([true, false] : List Bool).length c23] 43 (0, 0))) := ⟨blk_below (by (with_reducible repeat (first | refine blk_drewN ?_ _ | refine blk_drew ?_ | refine blk_alloc ?_ _)); exact BK24.out) hb⟩
 replace BK42 : Aside0 (w23.heap[w14.heap.size]? = some (.cells #[.slice A40 ([2, 0] : List Int).length c40, .slice A41 ([true, false] : List Bool).length c41] 43 (0, 0))) := ⟨blk_below (by (with_reducible repeat (first | refine blk_drewN ?_ _ | refine blk_drew ?_ | refine blk_alloc ?_ _)); exact BK42.out) hb⟩
 replace HB := Aside0.mk (below_step (by repeat (first | (with_reducible first | exact HB.out | apply below_alloc | apply pw_below_drewN | apply below_drew1) | exact HB.out)) hb)
 obtain ⟨A61, c61, rfl, l61, h61⟩ := IsRow.of ho61
 clear h61 ho61
 obtain ⟨A62, c62, rfl, l62, h62⟩ := IsRow.of ho62
 clear h62 ho62
 clear hb
 go_wp2_with fail
 refine (headgatelaw18_of.calls 60 _ _ ([513] : List Int) ([513] : List Int) ([false] : List Bool) _ ?s0 ?t0 (by decide +kernel)).mono ?_
 case s0 => repeat (first | exact lit_Cb _ _ _ (by simp) _ (by simp) | (with_reducible refine Kd.C_alloc ?_ _) | (with_reducible refine Kd.C_drewN ?_ _) | (with_reducible refine Kd.C_drew ?_))
 case t0 => exact Nat.le_refl _
 rintro e w24 ⟨v65, v66, rfl, ho65, ho66, hb⟩
 replace H22 : Aside0 (Kd.C (Kd.int .i64) w24 A22 ([1, 0] : List Int).length ([1, 0] : List Int)) := ⟨Kd.C_below (by repeat (first | exact H22.out | (with_reducible refine Kd.C_alloc ?_ _) | (with_reducible refine Kd.C_drewN ?_ _) | (with_reducible refine Kd.C_drew ?_))) hb⟩
 replace H23 : Aside0 (Kd.C Kd.bool w24 A23 ([true, false] : List Bool).length ([true, false] : List Bool)) := ⟨Kd.C_below (by repeat (first | exact H23.out | (with_reducible refine Kd.C_alloc ?_ _) | (with_reducible refine Kd.C_drewN ?_ _) | (with_reducible refine Kd.C_drew ?_))) hb⟩
 replace H40 : Aside0 (Kd.C (Kd.int .i64) w24 A40 ([2, 0] : List Int).length ([2, 0] : List Int)) := ⟨Kd.C_below (by repeat (first | exact H40.out | (with_reducible refine Kd.C_alloc ?_ _) | (with_reducible refine Kd.C_drewN ?_ _) | (with_reducible refine Kd.C_drew ?_))) hb⟩
 replace H41 : Aside0 (Kd.C Kd.bool w24 A41 ([true, false] : List Bool).length ([true, false] : List Bool)) := ⟨Kd.C_below (by repeat (first | exact H41.out | (with_reducible refine Kd.C_alloc ?_ _) | (with_reducible refine Kd.C_drewN ?_ _) | (with_reducible refine Kd.C_drew ?_))) hb⟩
 replace BK24 : Aside0 (w24.heap[w8.heap.size]? = some (.cells #[.slice A22 ([1, 0] : List Int).length c22, .slice A23 ([true, false] : List Bool).length c23] 43 (0, 0))) := ⟨blk_below (by (with_reducible repeat (first | refine blk_drewN ?_ _ | refine blk_drew ?_ | refine blk_alloc ?_ _)); exact BK24.out) hb⟩
 replace BK42 : Aside0 (w24.heap[w14.heap.size]? = some (.cells #[.slice A40 ([2, 0] : List Int).length c40, .slice A41 ([true, false] : List Bool).length c41] 43 (0, 0))) := ⟨blk_below (by (with_reducible repeat (first | refine blk_drewN ?_ _ | refine blk_drew ?_ | refine blk_alloc ?_ _)); exact BK42.out) hb⟩
 replace HB := Aside0.mk (below_step (by repeat (first | (with_reducible first | exact HB.out | apply below_alloc | apply pw_below_drewN | apply below_drew1) | exact HB.out)) hb)
 obtain ⟨A65, c65, rfl, l65, h65⟩ := IsRow.of ho65
 have H65 := Aside0.mk h65
 clear h65 ho65
 obtain ⟨A66, c66, rfl, l66, h66⟩ := IsRow.of ho66
 have H66 := Aside0.mk h66
 clear h66 ho66
 clear hb
 go_wp2_with fail
 refine (slots_Check.calls 60 _ _ ([513] : List Int) _ _ ([false] : List Bool) 15 0 _ ?s0 ?t0 ?s1 ?t1 (by decide +kernel)).mono ?_
 case s0 => repeat (first | exact H65.out | (with_reducible refine Kd.C_alloc ?_ _) | (with_reducible refine Kd.C_drewN ?_ _) | (with_reducible refine Kd.C_drew ?_))
 case t0 => exact l65
 case s1 => repeat (first | exact H66.out | (with_reducible refine Kd.C_alloc ?_ _) | (with_reducible refine Kd.C_drewN ?_ _) | (with_reducible refine Kd.C_drew ?_))
 case t1 => exact l66
 rintro e w25 ⟨rfl, hb⟩
 replace H22 : Aside0 (Kd.C (Kd.int .i64) w25 A22 ([1, 0] : List Int).length ([1, 0] : List Int)) := ⟨Kd.C_below (by repeat (first | exact H22.out | (with_reducible refine Kd.C_alloc ?_ _) | (with_reducible refine Kd.C_drewN ?_ _) | (with_reducible refine Kd.C_drew ?_))) hb⟩
 replace H23 : Aside0 (Kd.C Kd.bool w25 A23 ([true, false] : List Bool).length ([true, false] : List Bool)) := ⟨Kd.C_below (by repeat (first | exact H23.out | (with_reducible refine Kd.C_alloc ?_ _) | (with_reducible refine Kd.C_drewN ?_ _) | (with_reducible refine Kd.C_drew ?_))) hb⟩
 replace H40 : Aside0 (Kd.C (Kd.int .i64) w25 A40 ([2, 0] : List Int).length ([2, 0] : List Int)) := ⟨Kd.C_below (by repeat (first | exact H40.out | (with_reducible refine Kd.C_alloc ?_ _) | (with_reducible refine Kd.C_drewN ?_ _) | (with_reducible refine Kd.C_drew ?_))) hb⟩
 replace H41 : Aside0 (Kd.C Kd.bool w25 A41 ([true, false] : List Bool).length ([true, false] : List Bool)) := ⟨Kd.C_below (by repeat (first | exact H41.out | (with_reducible refine Kd.C_alloc ?_ _) | (with_reducible refine Kd.C_drewN ?_ _) | (with_reducible refine Kd.C_drew ?_))) hb⟩
 clear H65
 clear H66
 replace BK24 : Aside0 (w25.heap[w8.heap.size]? = some (.cells #[.slice A22 ([1, 0] : List Int).length c22, .slice A23 ([true, false] : List Bool).length c23] 43 (0, 0))) := ⟨blk_below (by (with_reducible repeat (first | refine blk_drewN ?_ _ | refine blk_drew ?_ | refine blk_alloc ?_ _)); exact BK24.out) hb⟩
 replace BK42 : Aside0 (w25.heap[w14.heap.size]? = some (.cells #[.slice A40 ([2, 0] : List Int).length c40, .slice A41 ([true, false] : List Bool).length c41] 43 (0, 0))) := ⟨blk_below (by (with_reducible repeat (first | refine blk_drewN ?_ _ | refine blk_drew ?_ | refine blk_alloc ?_ _)); exact BK42.out) hb⟩
 replace HB := Aside0.mk (below_step (by repeat (first | (with_reducible first | exact HB.out | apply below_alloc | apply pw_below_drewN | apply below_drew1) | exact HB.out)) hb)
 clear hb
 go_wp2_with fail
 refine shut_code 28 [113, 114, 115, 116, 117, 118, 119, 120, 121, 122, 123, 124, 125, 126, 127, 128, 129, 130, 131, 132, 133, 134, 135, 136, 137, 138, 139, 31] [rowF (Kd.int .i64) ([1002, 0] : List Int), aggF [rowF (Kd.int .i64) ([2, 0] : List Int), rowF Kd.bool ([true, false] : List Bool)], rowF (Kd.int .i64) ([1002, 1001] : List Int), aggF [rowF (Kd.int .i64) ([2, 1] : List Int), rowF Kd.bool ([true, true] : List Bool)], litF (.bool true), litF (.bool true), litF (.int .i64 5), litF (.bool true), litF (.bool true), litF (.bool true), litF (.int .i64 15), litF (.bool true), litF (.bool true), litF (.bool true), litF (.int .i64 9), litF (.bool true), litF (.bool true), litF (.bool true), litF (.int .i64 0), litF (.bool true), litF (.bool true), litF (.bool true), aggF [rowF (Kd.int .i64) ([1, 0] : List Int), rowF Kd.bool ([true, false] : List Bool)], rowF (Kd.int .i64) ([1001, 0] : List Int), aggF [rowF (Kd.int .i64) ([1, 0] : List Int), rowF Kd.bool ([true, false] : List Bool)], litF (.bool true), litF (.bool true), litF (.bool true)] (by kernel_rfl) rfl headgatelaw18_SlotsKnown.tab14 headgatelaw18_SlotsKnown.bits14 (by kernel_rfl) (by kernel_rfl) (by kernel_rfl) rfl (by kernel_rfl) ?_ ?_
 ·
  rw [show List.range 28 = [0, 1, 2, 3, 4, 5, 6, 7, 8, 9, 10, 11, 12, 13, 14, 15, 16, 17, 18, 19, 20, 21, 22, 23, 24, 25, 26, 27] from rfl]
  refine opLaws_cons ?_ ?_
  ·
   intro a w' hB hoff hon
   refine ⟨_, rfl, fun K hK => ?_⟩
   refine Kd.R_lit_step (Kd.int .i64) _ 3 ?hg (N := 113) ?hd (xs := ([1002, 0] : List Int)) (inner := [.int .i64 1002, .int .i64 0]) (ok := fun _ => True) (okp := fun _ => True) ?hr ?hp (fun _ hk => hk) trivial (Below.refl _ _) (Nat.le_refl _) (by simp) ?_
   case hd => rfl
   case hg => exact rfl
   case hr => first | (go_simp; done) | (go_simp; rfl)
   case hp => exact (Reps.one (show Kd.M (Kd.int .i64) _ _ _ 1002 [.int .i64 1002] from rfl) (Reps.one (show Kd.M (Kd.int .i64) _ _ _ 0 [.int .i64 0] from rfl) (Reps.none _ _)))
   intro v w2 ho hb _ _
   exact hK.out _ _ _ rfl (IsRow.of ho) hb
  refine opLaws_cons ?_ ?_
  ·
   intro a w' hB hoff hon
   refine ⟨_, rfl, fun K hK => ?_⟩
   obtain ⟨x113, e113, f113⟩ := hon 0 113 _ (by kernel_rfl) rfl rfl
   obtain ⟨A67x, c67x, rfl, l67x, h67x⟩ := f113
   refine goes_ Try.func23 (by kernel_rfl) rfl #[.slice A67x ([1002, 0] : List Int).length c67x] (by rfl) rfl rfl (by first | (simp only [List.map_toArray, List.map_cons, List.map_nil, Act.eval, Array.getD_eq_getD_getElem?, Option.getD_some, e113]; done) | (simp only [List.map_toArray, List.map_cons, List.map_nil, Act.eval, Array.getD_eq_getD_getElem?, Option.getD_some, e113]; rfl) | rfl) ?_
   refine (headgatelaw18_of.calls 60 _ _ ([1002, 0] : List Int) ([2, 0] : List Int) ([true, false] : List Bool) _ h67x l67x (by decide +kernel)).mono ?_
   rintro e w2 ⟨v68, v69, rfl, ho68, ho69, hb⟩
   exact ⟨_, rfl, hK.out _ _ _ rfl ⟨_, rfl, ⟨_, _, rfl, (IsRow.of ho68), ⟨_, _, rfl, (IsRow.of ho69), rfl⟩⟩⟩ hb⟩
  refine opLaws_cons ?_ ?_
  ·
   intro a w' hB hoff hon
   refine ⟨_, rfl, fun K hK => ?_⟩
   refine Kd.R_lit_step (Kd.int .i64) _ 3 ?hg (N := 115) ?hd (xs := ([1002, 1001] : List Int)) (inner := [.int .i64 1002, .int .i64 1001]) (ok := fun _ => True) (okp := fun _ => True) ?hr ?hp (fun _ hk => hk) trivial (Below.refl _ _) (Nat.le_refl _) (by simp) ?_
   case hd => rfl
   case hg => exact rfl
   case hr => first | (go_simp; done) | (go_simp; rfl)
   case hp => exact (Reps.one (show Kd.M (Kd.int .i64) _ _ _ 1002 [.int .i64 1002] from rfl) (Reps.one (show Kd.M (Kd.int .i64) _ _ _ 1001 [.int .i64 1001] from rfl) (Reps.none _ _)))
   intro v w2 ho hb _ _
   exact hK.out _ _ _ rfl (IsRow.of ho) hb
  refine opLaws_cons ?_ ?_
  ·
   intro a w' hB hoff hon
   refine ⟨_, rfl, fun K hK => ?_⟩
   obtain ⟨x115, e115, f115⟩ := hon 2 115 _ (by kernel_rfl) rfl rfl
   obtain ⟨A70x, c70x, rfl, l70x, h70x⟩ := f115
   refine goes_ Try.func23 (by kernel_rfl) rfl #[.slice A70x ([1002, 1001] : List Int).length c70x] (by rfl) rfl rfl (by first | (simp only [List.map_toArray, List.map_cons, List.map_nil, Act.eval, Array.getD_eq_getD_getElem?, Option.getD_some, e115]; done) | (simp only [List.map_toArray, List.map_cons, List.map_nil, Act.eval, Array.getD_eq_getD_getElem?, Option.getD_some, e115]; rfl) | rfl) ?_
   refine (headgatelaw18_of.calls 60 _ _ ([1002, 1001] : List Int) ([2, 1] : List Int) ([true, true] : List Bool) _ h70x l70x (by decide +kernel)).mono ?_
   rintro e w2 ⟨v71, v72, rfl, ho71, ho72, hb⟩
   exact ⟨_, rfl, hK.out _ _ _ rfl ⟨_, rfl, ⟨_, _, rfl, (IsRow.of ho71), ⟨_, _, rfl, (IsRow.of ho72), rfl⟩⟩⟩ hb⟩
  refine opLaws_cons ?_ ?_
  ·
   intro a w' hB hoff hon
   refine ⟨_, rfl, fun K hK => ?_⟩
   obtain ⟨x114, e114, f114⟩ := hon 1 114 _ (by kernel_rfl) rfl rfl
   obtain ⟨_, rfl, ⟨_, _, rfl, ⟨A68x, c68x, rfl, l68x, h68x⟩, ⟨_, _, rfl, ⟨A69x, c69x, rfl, l69x, h69x⟩, rfl⟩⟩⟩ := f114
   obtain ⟨x116, e116, f116⟩ := hon 3 116 _ (by kernel_rfl) rfl rfl
   obtain ⟨_, rfl, ⟨_, _, rfl, ⟨A71x, c71x, rfl, l71x, h71x⟩, ⟨_, _, rfl, ⟨A72x, c72x, rfl, l72x, h72x⟩, rfl⟩⟩⟩ := f116
   refine goes_ Try.func31 (by kernel_rfl) rfl #[.agg #[.slice A68x ([2, 0] : List Int).length c68x, .slice A69x ([true, false] : List Bool).length c69x], .int .i64 1, .int .i64 1, .agg #[.slice A71x ([2, 1] : List Int).length c71x, .slice A72x ([true, true] : List Bool).length c72x]] (by rfl) rfl rfl (by first | (simp only [List.map_toArray, List.map_cons, List.map_nil, Act.eval, Array.getD_eq_getD_getElem?, Option.getD_some, e114, e116]; done) | (simp only [List.map_toArray, List.map_cons, List.map_nil, Act.eval, Array.getD_eq_getD_getElem?, Option.getD_some, e114, e116]; rfl) | rfl) ?_
   refine (headgatelaw18_gives.calls 60 _ _ ([2, 0] : List Int) _ _ ([true, false] : List Bool) 1 1 _ _ ([2, 1] : List Int) _ _ ([true, true] : List Bool) true _ h68x l68x h69x l69x h71x l71x h72x l72x (by decide +kernel)).mono ?_
   rintro e w2 ⟨rfl, hb⟩
   exact ⟨_, rfl, hK.out _ _ _ rfl rfl hb⟩
  refine opLaws_cons ?_ ?_
  ·
   intro a w' hB hoff hon
   refine ⟨_, rfl, fun K hK => ?_⟩
   obtain ⟨x117, e117, f117⟩ := hon 4 117 _ (by kernel_rfl) rfl rfl
   replace f117 : x117 = .bool true := f117
   subst f117
   refine value_ (w1 := w') (v := .bool true) (by rfl) rfl ?_ ?_
   ·
    go_simp; try rfl
   exact hK.out _ _ _ rfl rfl (Below.refl _ _)
  refine opLaws_cons ?_ ?_
  ·
   intro a w' hB hoff hon
   refine ⟨_, rfl, fun K hK => ?_⟩
   have e3 : a.tmps[3]? = some (.int .i64 5) := (hoff 3 (by kernel_rfl)).trans rfl
   obtain ⟨x118, e118, f118⟩ := hon 5 118 _ (by kernel_rfl) rfl rfl
   replace f118 : x118 = .bool true := f118
   subst f118
   refine value_ (w1 := w') (v := .int .i64 5) (wanted_on rfl rfl rfl e118) rfl ?_ ?_
   ·
    go_simp; try rfl
   exact hK.out _ _ _ rfl rfl (Below.refl _ _)
  refine opLaws_cons ?_ ?_
  ·
   intro a w' hB hoff hon
   refine ⟨_, rfl, fun K hK => ?_⟩
   obtain ⟨x119, e119, f119⟩ := hon 6 119 _ (by kernel_rfl) rfl rfl
   replace f119 : x119 = .int .i64 5 := f119
   subst f119
   obtain ⟨x118, e118, f118⟩ := hon 5 118 _ (by kernel_rfl) rfl rfl
   replace f118 : x118 = .bool true := f118
   subst f118
   refine value_ (w1 := w') (v := .bool true) (wanted_on rfl rfl rfl e118) rfl ?_ ?_
   ·
    go_simp; try rfl
   exact hK.out _ _ _ rfl rfl (Below.refl _ _)
  refine opLaws_cons ?_ ?_
  ·
   intro a w' hB hoff hon
   refine ⟨_, rfl, fun K hK => ?_⟩
   obtain ⟨x118, e118, f118⟩ := hon 5 118 _ (by kernel_rfl) rfl rfl
   replace f118 : x118 = .bool true := f118
   subst f118
   obtain ⟨x120, e120, f120⟩ := hon 7 120 _ (by kernel_rfl) rfl rfl
   replace f120 : x120 = .bool true := f120
   subst f120
   refine value_ (w1 := w') (v := .bool true) (by rfl) rfl ?_ ?_
   ·
    go_simp; try rfl
   exact hK.out _ _ _ rfl rfl (Below.refl _ _)
  refine opLaws_cons ?_ ?_
  ·
   intro a w' hB hoff hon
   refine ⟨_, rfl, fun K hK => ?_⟩
   obtain ⟨x121, e121, f121⟩ := hon 8 121 _ (by kernel_rfl) rfl rfl
   replace f121 : x121 = .bool true := f121
   subst f121
   refine value_ (w1 := w') (v := .bool true) (by rfl) rfl ?_ ?_
   ·
    go_simp; try rfl
   exact hK.out _ _ _ rfl rfl (Below.refl _ _)
  refine opLaws_cons ?_ ?_
  ·
   intro a w' hB hoff hon
   refine ⟨_, rfl, fun K hK => ?_⟩
   have e6 : a.tmps[6]? = some (.int .i64 15) := (hoff 6 (by kernel_rfl)).trans rfl
   obtain ⟨x122, e122, f122⟩ := hon 9 122 _ (by kernel_rfl) rfl rfl
   replace f122 : x122 = .bool true := f122
   subst f122
   refine value_ (w1 := w') (v := .int .i64 15) (wanted_on rfl rfl rfl e122) rfl ?_ ?_
   ·
    go_simp; try rfl
   exact hK.out _ _ _ rfl rfl (Below.refl _ _)
  refine opLaws_cons ?_ ?_
  ·
   intro a w' hB hoff hon
   refine ⟨_, rfl, fun K hK => ?_⟩
   obtain ⟨x123, e123, f123⟩ := hon 10 123 _ (by kernel_rfl) rfl rfl
   replace f123 : x123 = .int .i64 15 := f123
   subst f123
   obtain ⟨x122, e122, f122⟩ := hon 9 122 _ (by kernel_rfl) rfl rfl
   replace f122 : x122 = .bool true := f122
   subst f122
   refine value_ (w1 := w') (v := .bool true) (wanted_on rfl rfl rfl e122) rfl ?_ ?_
   ·
    go_simp; try rfl
   exact hK.out _ _ _ rfl rfl (Below.refl _ _)
  refine opLaws_cons ?_ ?_
  ·
   intro a w' hB hoff hon
   refine ⟨_, rfl, fun K hK => ?_⟩
   obtain ⟨x122, e122, f122⟩ := hon 9 122 _ (by kernel_rfl) rfl rfl
   replace f122 : x122 = .bool true := f122
   subst f122
   obtain ⟨x124, e124, f124⟩ := hon 11 124 _ (by kernel_rfl) rfl rfl
   replace f124 : x124 = .bool true := f124
   subst f124
   refine value_ (w1 := w') (v := .bool true) (by rfl) rfl ?_ ?_
   ·
    go_simp; try rfl
   exact hK.out _ _ _ rfl rfl (Below.refl _ _)
  refine opLaws_cons ?_ ?_
  ·
   intro a w' hB hoff hon
   refine ⟨_, rfl, fun K hK => ?_⟩
   obtain ⟨x125, e125, f125⟩ := hon 12 125 _ (by kernel_rfl) rfl rfl
   replace f125 : x125 = .bool true := f125
   subst f125
   refine value_ (w1 := w') (v := .bool true) (by rfl) rfl ?_ ?_
   ·
    go_simp; try rfl
   exact hK.out _ _ _ rfl rfl (Below.refl _ _)
  refine opLaws_cons ?_ ?_
  ·
   intro a w' hB hoff hon
   refine ⟨_, rfl, fun K hK => ?_⟩
   have e8 : a.tmps[8]? = some (.int .i64 9) := (hoff 8 (by kernel_rfl)).trans rfl
   obtain ⟨x126, e126, f126⟩ := hon 13 126 _ (by kernel_rfl) rfl rfl
   replace f126 : x126 = .bool true := f126
   subst f126
   refine value_ (w1 := w') (v := .int .i64 9) (wanted_on rfl rfl rfl e126) rfl ?_ ?_
   ·
    go_simp; try rfl
   exact hK.out _ _ _ rfl rfl (Below.refl _ _)
  refine opLaws_cons ?_ ?_
  ·
   intro a w' hB hoff hon
   refine ⟨_, rfl, fun K hK => ?_⟩
   obtain ⟨x127, e127, f127⟩ := hon 14 127 _ (by kernel_rfl) rfl rfl
   replace f127 : x127 = .int .i64 9 := f127
   subst f127
   obtain ⟨x126, e126, f126⟩ := hon 13 126 _ (by kernel_rfl) rfl rfl
   replace f126 : x126 = .bool true := f126
   subst f126
   refine value_ (w1 := w') (v := .bool true) (wanted_on rfl rfl rfl e126) rfl ?_ ?_
   ·
    go_simp; try rfl
   exact hK.out _ _ _ rfl rfl (Below.refl _ _)
  refine opLaws_cons ?_ ?_
  ·
   intro a w' hB hoff hon
   refine ⟨_, rfl, fun K hK => ?_⟩
   obtain ⟨x126, e126, f126⟩ := hon 13 126 _ (by kernel_rfl) rfl rfl
   replace f126 : x126 = .bool true := f126
   subst f126
   obtain ⟨x128, e128, f128⟩ := hon 15 128 _ (by kernel_rfl) rfl rfl
   replace f128 : x128 = .bool true := f128
   subst f128
   refine value_ (w1 := w') (v := .bool true) (by rfl) rfl ?_ ?_
   ·
    go_simp; try rfl
   exact hK.out _ _ _ rfl rfl (Below.refl _ _)
  refine opLaws_cons ?_ ?_
  ·
   intro a w' hB hoff hon
   refine ⟨_, rfl, fun K hK => ?_⟩
   obtain ⟨x129, e129, f129⟩ := hon 16 129 _ (by kernel_rfl) rfl rfl
   replace f129 : x129 = .bool true := f129
   subst f129
   refine value_ (w1 := w') (v := .bool true) (by rfl) rfl ?_ ?_
   ·
    go_simp; try rfl
   exact hK.out _ _ _ rfl rfl (Below.refl _ _)
  refine opLaws_cons ?_ ?_
  ·
   intro a w' hB hoff hon
   refine ⟨_, rfl, fun K hK => ?_⟩
   have e10 : a.tmps[10]? = some (.int .i64 0) := (hoff 10 (by kernel_rfl)).trans rfl
   obtain ⟨x130, e130, f130⟩ := hon 17 130 _ (by kernel_rfl) rfl rfl
   replace f130 : x130 = .bool true := f130
   subst f130
   refine value_ (w1 := w') (v := .int .i64 0) (wanted_on rfl rfl rfl e130) rfl ?_ ?_
   ·
    go_simp; try rfl
   exact hK.out _ _ _ rfl rfl (Below.refl _ _)
  refine opLaws_cons ?_ ?_
  ·
   intro a w' hB hoff hon
   refine ⟨_, rfl, fun K hK => ?_⟩
   obtain ⟨x131, e131, f131⟩ := hon 18 131 _ (by kernel_rfl) rfl rfl
   replace f131 : x131 = .int .i64 0 := f131
   subst f131
   obtain ⟨x130, e130, f130⟩ := hon 17 130 _ (by kernel_rfl) rfl rfl
   replace f130 : x130 = .bool true := f130
   subst f130
   refine value_ (w1 := w') (v := .bool true) (wanted_on rfl rfl rfl e130) rfl ?_ ?_
   ·
    go_simp; try rfl
   exact hK.out _ _ _ rfl rfl (Below.refl _ _)
  refine opLaws_cons ?_ ?_
  ·
   intro a w' hB hoff hon
   refine ⟨_, rfl, fun K hK => ?_⟩
   obtain ⟨x130, e130, f130⟩ := hon 17 130 _ (by kernel_rfl) rfl rfl
   replace f130 : x130 = .bool true := f130
   subst f130
   obtain ⟨x132, e132, f132⟩ := hon 19 132 _ (by kernel_rfl) rfl rfl
   replace f132 : x132 = .bool true := f132
   subst f132
   refine value_ (w1 := w') (v := .bool true) (by rfl) rfl ?_ ?_
   ·
    go_simp; try rfl
   exact hK.out _ _ _ rfl rfl (Below.refl _ _)
  refine opLaws_cons ?_ ?_
  ·
   intro a w' hB hoff hon
   refine ⟨_, rfl, fun K hK => ?_⟩
   obtain ⟨x133, e133, f133⟩ := hon 20 133 _ (by kernel_rfl) rfl rfl
   replace f133 : x133 = .bool true := f133
   subst f133
   refine value_ (w1 := w') (v := .bool true) (by rfl) rfl ?_ ?_
   ·
    go_simp; try rfl
   exact hK.out _ _ _ rfl rfl (Below.refl _ _)
  refine opLaws_cons ?_ ?_
  ·
   intro a w' hB hoff hon
   refine ⟨_, rfl, fun K hK => ?_⟩
   have e9 : a.tmps[9]? = some (.pointer (some ⟨w8.heap.size, 0, none⟩)) := (hoff 9 (by kernel_rfl)).trans rfl
   obtain ⟨x134, e134, f134⟩ := hon 21 134 _ (by kernel_rfl) rfl rfl
   replace f134 : x134 = .bool true := f134
   subst f134
   have bk := blk_below BK24.out hB
   have z0 : w'.cell? ⟨_, 0, none⟩ = some (.slice A22 ([1, 0] : List Int).length c22) := (blk_cell bk 0).trans rfl
   have z1 : w'.cell? ⟨_, 1, none⟩ = some (.slice A23 ([true, false] : List Bool).length c23) := (blk_cell bk 1).trans rfl
   refine value_ (w1 := w') (v := .agg #[.slice A22 ([1, 0] : List Int).length c22, .slice A23 ([true, false] : List Bool).length c23]) (wanted_on rfl rfl rfl e134) rfl ?_ ?_
   ·
    go_simp; try rfl
   exact hK.out _ _ _ rfl ⟨_, rfl, ⟨_, _, rfl, ⟨_, _, rfl, l22, Kd.C_below H22.out hB⟩, ⟨_, _, rfl, ⟨_, _, rfl, l23, Kd.C_below H23.out hB⟩, rfl⟩⟩⟩ (Below.refl _ _)
  refine opLaws_cons ?_ ?_
  ·
   intro a w' hB hoff hon
   refine ⟨_, rfl, fun K hK => ?_⟩
   obtain ⟨x134, e134, f134⟩ := hon 21 134 _ (by kernel_rfl) rfl rfl
   replace f134 : x134 = .bool true := f134
   subst f134
   refine Kd.R_lit_step (Kd.int .i64) _ 3 ?hg (N := 136) ?hd (xs := ([1001, 0] : List Int)) (inner := [.int .i64 1001, .int .i64 0]) (ok := fun _ => True) (okp := fun _ => True) ?hr ?hp (fun _ hk => hk) trivial (Below.refl _ _) (Nat.le_refl _) (by simp) ?_
   case hd => rfl
   case hg => exact (wanted_on rfl rfl rfl e134)
   case hr => first | (go_simp; done) | (go_simp; rfl)
   case hp => exact (Reps.one (show Kd.M (Kd.int .i64) _ _ _ 1001 [.int .i64 1001] from rfl) (Reps.one (show Kd.M (Kd.int .i64) _ _ _ 0 [.int .i64 0] from rfl) (Reps.none _ _)))
   intro v w2 ho hb _ _
   exact hK.out _ _ _ rfl (IsRow.of ho) hb
  refine opLaws_cons ?_ ?_
  ·
   intro a w' hB hoff hon
   refine ⟨_, rfl, fun K hK => ?_⟩
   obtain ⟨x136, e136, f136⟩ := hon 23 136 _ (by kernel_rfl) rfl rfl
   obtain ⟨A73x, c73x, rfl, l73x, h73x⟩ := f136
   obtain ⟨x134, e134, f134⟩ := hon 21 134 _ (by kernel_rfl) rfl rfl
   replace f134 : x134 = .bool true := f134
   subst f134
   refine goes_ Try.func23 (by kernel_rfl) rfl #[.slice A73x ([1001, 0] : List Int).length c73x] (wanted_on rfl rfl rfl e134) rfl rfl (by first | (simp only [List.map_toArray, List.map_cons, List.map_nil, Act.eval, Array.getD_eq_getD_getElem?, Option.getD_some, e136, e134]; done) | (simp only [List.map_toArray, List.map_cons, List.map_nil, Act.eval, Array.getD_eq_getD_getElem?, Option.getD_some, e136, e134]; rfl) | rfl) ?_
   refine (headgatelaw18_of.calls 60 _ _ ([1001, 0] : List Int) ([1, 0] : List Int) ([true, false] : List Bool) _ h73x l73x (by decide +kernel)).mono ?_
   rintro e w2 ⟨v74, v75, rfl, ho74, ho75, hb⟩
   exact ⟨_, rfl, hK.out _ _ _ rfl ⟨_, rfl, ⟨_, _, rfl, (IsRow.of ho74), ⟨_, _, rfl, (IsRow.of ho75), rfl⟩⟩⟩ hb⟩
  refine opLaws_cons ?_ ?_
  ·
   intro a w' hB hoff hon
   refine ⟨_, rfl, fun K hK => ?_⟩
   obtain ⟨x135, e135, f135⟩ := hon 22 135 _ (by kernel_rfl) rfl rfl
   obtain ⟨_, rfl, ⟨_, _, rfl, ⟨A22x, c22x, rfl, l22x, h22x⟩, ⟨_, _, rfl, ⟨A23x, c23x, rfl, l23x, h23x⟩, rfl⟩⟩⟩ := f135
   obtain ⟨x137, e137, f137⟩ := hon 24 137 _ (by kernel_rfl) rfl rfl
   obtain ⟨_, rfl, ⟨_, _, rfl, ⟨A74x, c74x, rfl, l74x, h74x⟩, ⟨_, _, rfl, ⟨A75x, c75x, rfl, l75x, h75x⟩, rfl⟩⟩⟩ := f137
   obtain ⟨x134, e134, f134⟩ := hon 21 134 _ (by kernel_rfl) rfl rfl
   replace f134 : x134 = .bool true := f134
   subst f134
   refine goes_ Try.func32 (by kernel_rfl) rfl #[.agg #[.slice A22x ([1, 0] : List Int).length c22x, .slice A23x ([true, false] : List Bool).length c23x], .agg #[.slice A74x ([1, 0] : List Int).length c74x, .slice A75x ([true, false] : List Bool).length c75x]] (wanted_on rfl rfl rfl e134) rfl rfl (by first | (simp only [List.map_toArray, List.map_cons, List.map_nil, Act.eval, Array.getD_eq_getD_getElem?, Option.getD_some, e135, e137, e134]; done) | (simp only [List.map_toArray, List.map_cons, List.map_nil, Act.eval, Array.getD_eq_getD_getElem?, Option.getD_some, e135, e137, e134]; rfl) | rfl) ?_
   refine (headgatekit_SameSlots.calls 60 _ _ ([1, 0] : List Int) _ _ ([true, false] : List Bool) _ _ ([1, 0] : List Int) _ _ ([true, false] : List Bool) true _ h22x l22x h23x l23x h74x l74x h75x l75x (by decide +kernel)).mono ?_
   rintro e w2 ⟨rfl, hb⟩
   exact ⟨_, rfl, hK.out _ _ _ rfl rfl hb⟩
  refine opLaws_cons ?_ ?_
  ·
   intro a w' hB hoff hon
   refine ⟨_, rfl, fun K hK => ?_⟩
   obtain ⟨x134, e134, f134⟩ := hon 21 134 _ (by kernel_rfl) rfl rfl
   replace f134 : x134 = .bool true := f134
   subst f134
   obtain ⟨x138, e138, f138⟩ := hon 25 138 _ (by kernel_rfl) rfl rfl
   replace f138 : x138 = .bool true := f138
   subst f138
   refine value_ (w1 := w') (v := .bool true) (by rfl) rfl ?_ ?_
   ·
    go_simp; try rfl
   exact hK.out _ _ _ rfl rfl (Below.refl _ _)
  refine opLaws_cons ?_ ?_
  ·
   intro a w' hB hoff hon
   refine ⟨_, rfl, fun K hK => ?_⟩
   obtain ⟨x139, e139, f139⟩ := hon 26 139 _ (by kernel_rfl) rfl rfl
   replace f139 : x139 = .bool true := f139
   subst f139
   refine value_ (w1 := w') (v := .bool true) (by rfl) rfl ?_ ?_
   ·
    go_simp; try rfl
   exact hK.out _ _ _ rfl rfl (Below.refl _ _)
  exact opLaws_nil
 intro vals w26 hb hv
 have q27 : vals 27 = .bool true := hv 27 _ rfl
 simp only [selOf, List.zipIdx_cons, List.zipIdx_nil, List.map_cons, List.map_nil, Nat.zero_add, Nat.reduceAdd, putSel, if_true, Act.put, List.setIfInBounds_toArray, List.set_cons_zero, List.set_cons_succ, q27]
 clear hv q27
 clear H22
 clear H23
 replace H40 : Aside0 (Kd.C (Kd.int .i64) w26 A40 ([2, 0] : List Int).length ([2, 0] : List Int)) := ⟨Kd.C_below (by repeat (first | exact H40.out | (with_reducible refine Kd.C_alloc ?_ _) | (with_reducible refine Kd.C_drewN ?_ _) | (with_reducible refine Kd.C_drew ?_))) hb⟩
 replace H41 : Aside0 (Kd.C Kd.bool w26 A41 ([true, false] : List Bool).length ([true, false] : List Bool)) := ⟨Kd.C_below (by repeat (first | exact H41.out | (with_reducible refine Kd.C_alloc ?_ _) | (with_reducible refine Kd.C_drewN ?_ _) | (with_reducible refine Kd.C_drew ?_))) hb⟩
 clear BK24
 replace BK42 : Aside0 (w26.heap[w14.heap.size]? = some (.cells #[.slice A40 ([2, 0] : List Int).length c40, .slice A41 ([true, false] : List Bool).length c41] 43 (0, 0))) := ⟨blk_below (by (with_reducible repeat (first | refine blk_drewN ?_ _ | refine blk_drew ?_ | refine blk_alloc ?_ _)); exact BK42.out) hb⟩
 replace HB := Aside0.mk (below_step (by repeat (first | (with_reducible first | exact HB.out | apply below_alloc | apply pw_below_drewN | apply below_drew1) | exact HB.out)) hb)
 clear hb
 go_wp2_with fail
 refine (headgatelaw18_of.calls 60 _ _ ([1, 0] : List Int) ([1, 0] : List Int) ([false, false] : List Bool) _ ?s0 ?t0 (by decide +kernel)).mono ?_
 case s0 => repeat (first | exact lit_Cb _ _ _ (by simp) _ (by simp) | (with_reducible refine Kd.C_alloc ?_ _) | (with_reducible refine Kd.C_drewN ?_ _) | (with_reducible refine Kd.C_drew ?_))
 case t0 => exact Nat.le_refl _
 rintro e w27 ⟨v77, v78, rfl, ho77, ho78, hb⟩
 replace H40 : Aside0 (Kd.C (Kd.int .i64) w27 A40 ([2, 0] : List Int).length ([2, 0] : List Int)) := ⟨Kd.C_below (by repeat (first | exact H40.out | (with_reducible refine Kd.C_alloc ?_ _) | (with_reducible refine Kd.C_drewN ?_ _) | (with_reducible refine Kd.C_drew ?_))) hb⟩
 replace H41 : Aside0 (Kd.C Kd.bool w27 A41 ([true, false] : List Bool).length ([true, false] : List Bool)) := ⟨Kd.C_below (by repeat (first | exact H41.out | (with_reducible refine Kd.C_alloc ?_ _) | (with_reducible refine Kd.C_drewN ?_ _) | (with_reducible refine Kd.C_drew ?_))) hb⟩
 replace BK42 : Aside0 (w27.heap[w14.heap.size]? = some (.cells #[.slice A40 ([2, 0] : List Int).length c40, .slice A41 ([true, false] : List Bool).length c41] 43 (0, 0))) := ⟨blk_below (by (with_reducible repeat (first | refine blk_drewN ?_ _ | refine blk_drew ?_ | refine blk_alloc ?_ _)); exact BK42.out) hb⟩
 replace HB := Aside0.mk (below_step (by repeat (first | (with_reducible first | exact HB.out | apply below_alloc | apply pw_below_drewN | apply below_drew1) | exact HB.out)) hb)
 obtain ⟨A77, c77, rfl, l77, h77⟩ := IsRow.of ho77
 have H77 := Aside0.mk h77
 clear h77 ho77
 obtain ⟨A78, c78, rfl, l78, h78⟩ := IsRow.of ho78
 have H78 := Aside0.mk h78
 clear h78 ho78
 clear hb
 go_wp2_with fail
 refine (headgatelaw18_of.calls 60 _ _ ([0, 0] : List Int) ([0, 0] : List Int) ([false, false] : List Bool) _ ?s0 ?t0 (by decide +kernel)).mono ?_
 case s0 => repeat (first | exact lit_Cb _ _ _ (by simp) _ (by simp) | (with_reducible refine Kd.C_alloc ?_ _) | (with_reducible refine Kd.C_drewN ?_ _) | (with_reducible refine Kd.C_drew ?_))
 case t0 => exact Nat.le_refl _
 rintro e w28 ⟨v80, v81, rfl, ho80, ho81, hb⟩
 replace H40 : Aside0 (Kd.C (Kd.int .i64) w28 A40 ([2, 0] : List Int).length ([2, 0] : List Int)) := ⟨Kd.C_below (by repeat (first | exact H40.out | (with_reducible refine Kd.C_alloc ?_ _) | (with_reducible refine Kd.C_drewN ?_ _) | (with_reducible refine Kd.C_drew ?_))) hb⟩
 replace H41 : Aside0 (Kd.C Kd.bool w28 A41 ([true, false] : List Bool).length ([true, false] : List Bool)) := ⟨Kd.C_below (by repeat (first | exact H41.out | (with_reducible refine Kd.C_alloc ?_ _) | (with_reducible refine Kd.C_drewN ?_ _) | (with_reducible refine Kd.C_drew ?_))) hb⟩
 replace H77 : Aside0 (Kd.C (Kd.int .i64) w28 A77 ([1, 0] : List Int).length ([1, 0] : List Int)) := ⟨Kd.C_below (by repeat (first | exact H77.out | (with_reducible refine Kd.C_alloc ?_ _) | (with_reducible refine Kd.C_drewN ?_ _) | (with_reducible refine Kd.C_drew ?_))) hb⟩
 replace H78 : Aside0 (Kd.C Kd.bool w28 A78 ([false, false] : List Bool).length ([false, false] : List Bool)) := ⟨Kd.C_below (by repeat (first | exact H78.out | (with_reducible refine Kd.C_alloc ?_ _) | (with_reducible refine Kd.C_drewN ?_ _) | (with_reducible refine Kd.C_drew ?_))) hb⟩
 replace BK42 : Aside0 (w28.heap[w14.heap.size]? = some (.cells #[.slice A40 ([2, 0] : List Int).length c40, .slice A41 ([true, false] : List Bool).length c41] 43 (0, 0))) := ⟨blk_below (by (with_reducible repeat (first | refine blk_drewN ?_ _ | refine blk_drew ?_ | refine blk_alloc ?_ _)); exact BK42.out) hb⟩
 replace HB := Aside0.mk (below_step (by repeat (first | (with_reducible first | exact HB.out | apply below_alloc | apply pw_below_drewN | apply below_drew1) | exact HB.out)) hb)
 obtain ⟨A80, c80, rfl, l80, h80⟩ := IsRow.of ho80
 have H80 := Aside0.mk h80
 clear h80 ho80
 obtain ⟨A81, c81, rfl, l81, h81⟩ := IsRow.of ho81
 have H81 := Aside0.mk h81
 clear h81 ho81
 clear hb
 go_wp2_with fail
 refine (headgatelaw18_drops.calls 60 _ _ ([1, 0] : List Int) _ _ ([false, false] : List Bool) _ _ ([0, 0] : List Int) _ _ ([false, false] : List Bool) true true _ ?s0 ?t0 ?s1 ?t1 ?s2 ?t2 ?s3 ?t3 (by decide +kernel)).mono ?_
 case s0 => repeat (first | exact H77.out | (with_reducible refine Kd.C_alloc ?_ _) | (with_reducible refine Kd.C_drewN ?_ _) | (with_reducible refine Kd.C_drew ?_))
 case t0 => exact l77
 case s1 => repeat (first | exact H78.out | (with_reducible refine Kd.C_alloc ?_ _) | (with_reducible refine Kd.C_drewN ?_ _) | (with_reducible refine Kd.C_drew ?_))
 case t1 => exact l78
 case s2 => repeat (first | exact H80.out | (with_reducible refine Kd.C_alloc ?_ _) | (with_reducible refine Kd.C_drewN ?_ _) | (with_reducible refine Kd.C_drew ?_))
 case t2 => exact l80
 case s3 => repeat (first | exact H81.out | (with_reducible refine Kd.C_alloc ?_ _) | (with_reducible refine Kd.C_drewN ?_ _) | (with_reducible refine Kd.C_drew ?_))
 case t3 => exact l81
 rintro e w29 ⟨rfl, hb⟩
 replace H40 : Aside0 (Kd.C (Kd.int .i64) w29 A40 ([2, 0] : List Int).length ([2, 0] : List Int)) := ⟨Kd.C_below (by repeat (first | exact H40.out | (with_reducible refine Kd.C_alloc ?_ _) | (with_reducible refine Kd.C_drewN ?_ _) | (with_reducible refine Kd.C_drew ?_))) hb⟩
 replace H41 : Aside0 (Kd.C Kd.bool w29 A41 ([true, false] : List Bool).length ([true, false] : List Bool)) := ⟨Kd.C_below (by repeat (first | exact H41.out | (with_reducible refine Kd.C_alloc ?_ _) | (with_reducible refine Kd.C_drewN ?_ _) | (with_reducible refine Kd.C_drew ?_))) hb⟩
 clear H77
 clear H78
 clear H80
 clear H81
 replace BK42 : Aside0 (w29.heap[w14.heap.size]? = some (.cells #[.slice A40 ([2, 0] : List Int).length c40, .slice A41 ([true, false] : List Bool).length c41] 43 (0, 0))) := ⟨blk_below (by (with_reducible repeat (first | refine blk_drewN ?_ _ | refine blk_drew ?_ | refine blk_alloc ?_ _)); exact BK42.out) hb⟩
 replace HB := Aside0.mk (below_step (by repeat (first | (with_reducible first | exact HB.out | apply below_alloc | apply pw_below_drewN | apply below_drew1) | exact HB.out)) hb)
 clear hb
 go_wp2_with fail
 refine (headgatelaw18_of.calls 60 _ _ ([1001, 0] : List Int) ([1, 0] : List Int) ([true, false] : List Bool) _ ?s0 ?t0 (by decide +kernel)).mono ?_
 case s0 => repeat (first | exact lit_Cb _ _ _ (by simp) _ (by simp) | (with_reducible refine Kd.C_alloc ?_ _) | (with_reducible refine Kd.C_drewN ?_ _) | (with_reducible refine Kd.C_drew ?_))
 case t0 => exact Nat.le_refl _
 rintro e w30 ⟨v83, v84, rfl, ho83, ho84, hb⟩
 replace H40 : Aside0 (Kd.C (Kd.int .i64) w30 A40 ([2, 0] : List Int).length ([2, 0] : List Int)) := ⟨Kd.C_below (by repeat (first | exact H40.out | (with_reducible refine Kd.C_alloc ?_ _) | (with_reducible refine Kd.C_drewN ?_ _) | (with_reducible refine Kd.C_drew ?_))) hb⟩
 replace H41 : Aside0 (Kd.C Kd.bool w30 A41 ([true, false] : List Bool).length ([true, false] : List Bool)) := ⟨Kd.C_below (by repeat (first | exact H41.out | (with_reducible refine Kd.C_alloc ?_ _) | (with_reducible refine Kd.C_drewN ?_ _) | (with_reducible refine Kd.C_drew ?_))) hb⟩
 replace BK42 : Aside0 (w30.heap[w14.heap.size]? = some (.cells #[.slice A40 ([2, 0] : List Int).length c40, .slice A41 ([true, false] : List Bool).length c41] 43 (0, 0))) := ⟨blk_below (by (with_reducible repeat (first | refine blk_drewN ?_ _ | refine blk_drew ?_ | refine blk_alloc ?_ _)); exact BK42.out) hb⟩
 replace HB := Aside0.mk (below_step (by repeat (first | (with_reducible first | exact HB.out | apply below_alloc | apply pw_below_drewN | apply below_drew1) | exact HB.out)) hb)
 obtain ⟨A83, c83, rfl, l83, h83⟩ := IsRow.of ho83
 have H83 := Aside0.mk h83
 clear h83 ho83
 obtain ⟨A84, c84, rfl, l84, h84⟩ := IsRow.of ho84
 have H84 := Aside0.mk h84
 clear h84 ho84
 clear hb
 go_wp2_with fail
 refine (headgatelaw18_of.calls 60 _ _ ([1000, 0] : List Int) ([0, 0] : List Int) ([true, false] : List Bool) _ ?s0 ?t0 (by decide +kernel)).mono ?_
 case s0 => repeat (first | exact lit_Cb _ _ _ (by simp) _ (by simp) | (with_reducible refine Kd.C_alloc ?_ _) | (with_reducible refine Kd.C_drewN ?_ _) | (with_reducible refine Kd.C_drew ?_))
 case t0 => exact Nat.le_refl _
 rintro e w31 ⟨v86, v87, rfl, ho86, ho87, hb⟩
 replace H40 : Aside0 (Kd.C (Kd.int .i64) w31 A40 ([2, 0] : List Int).length ([2, 0] : List Int)) := ⟨Kd.C_below (by repeat (first | exact H40.out | (with_reducible refine Kd.C_alloc ?_ _) | (with_reducible refine Kd.C_drewN ?_ _) | (with_reducible refine Kd.C_drew ?_))) hb⟩
 replace H41 : Aside0 (Kd.C Kd.bool w31 A41 ([true, false] : List Bool).length ([true, false] : List Bool)) := ⟨Kd.C_below (by repeat (first | exact H41.out | (with_reducible refine Kd.C_alloc ?_ _) | (with_reducible refine Kd.C_drewN ?_ _) | (with_reducible refine Kd.C_drew ?_))) hb⟩
 replace H83 : Aside0 (Kd.C (Kd.int .i64) w31 A83 ([1, 0] : List Int).length ([1, 0] : List Int)) := ⟨Kd.C_below (by repeat (first | exact H83.out | (with_reducible refine Kd.C_alloc ?_ _) | (with_reducible refine Kd.C_drewN ?_ _) | (with_reducible refine Kd.C_drew ?_))) hb⟩
 replace H84 : Aside0 (Kd.C Kd.bool w31 A84 ([true, false] : List Bool).length ([true, false] : List Bool)) := ⟨Kd.C_below (by repeat (first | exact H84.out | (with_reducible refine Kd.C_alloc ?_ _) | (with_reducible refine Kd.C_drewN ?_ _) | (with_reducible refine Kd.C_drew ?_))) hb⟩
 replace BK42 : Aside0 (w31.heap[w14.heap.size]? = some (.cells #[.slice A40 ([2, 0] : List Int).length c40, .slice A41 ([true, false] : List Bool).length c41] 43 (0, 0))) := ⟨blk_below (by (with_reducible repeat (first | refine blk_drewN ?_ _ | refine blk_drew ?_ | refine blk_alloc ?_ _)); exact BK42.out) hb⟩
 replace HB := Aside0.mk (below_step (by repeat (first | (with_reducible first | exact HB.out | apply below_alloc | apply pw_below_drewN | apply below_drew1) | exact HB.out)) hb)
 obtain ⟨A86, c86, rfl, l86, h86⟩ := IsRow.of ho86
 have H86 := Aside0.mk h86
 clear h86 ho86
 obtain ⟨A87, c87, rfl, l87, h87⟩ := IsRow.of ho87
 have H87 := Aside0.mk h87
 clear h87 ho87
 clear hb
 go_wp2_with fail
 refine (headgatelaw18_drops.calls 60 _ _ ([1, 0] : List Int) _ _ ([true, false] : List Bool) _ _ ([0, 0] : List Int) _ _ ([true, false] : List Bool) false true _ ?s0 ?t0 ?s1 ?t1 ?s2 ?t2 ?s3 ?t3 (by decide +kernel)).mono ?_
 case s0 => repeat (first | exact H83.out | (with_reducible refine Kd.C_alloc ?_ _) | (with_reducible refine Kd.C_drewN ?_ _) | (with_reducible refine Kd.C_drew ?_))
 case t0 => exact l83
 case s1 => repeat (first | exact H84.out | (with_reducible refine Kd.C_alloc ?_ _) | (with_reducible refine Kd.C_drewN ?_ _) | (with_reducible refine Kd.C_drew ?_))
 case t1 => exact l84
 case s2 => repeat (first | exact H86.out | (with_reducible refine Kd.C_alloc ?_ _) | (with_reducible refine Kd.C_drewN ?_ _) | (with_reducible refine Kd.C_drew ?_))
 case t2 => exact l86
 case s3 => repeat (first | exact H87.out | (with_reducible refine Kd.C_alloc ?_ _) | (with_reducible refine Kd.C_drewN ?_ _) | (with_reducible refine Kd.C_drew ?_))
 case t3 => exact l87
 rintro e w32 ⟨rfl, hb⟩
 replace H40 : Aside0 (Kd.C (Kd.int .i64) w32 A40 ([2, 0] : List Int).length ([2, 0] : List Int)) := ⟨Kd.C_below (by repeat (first | exact H40.out | (with_reducible refine Kd.C_alloc ?_ _) | (with_reducible refine Kd.C_drewN ?_ _) | (with_reducible refine Kd.C_drew ?_))) hb⟩
 replace H41 : Aside0 (Kd.C Kd.bool w32 A41 ([true, false] : List Bool).length ([true, false] : List Bool)) := ⟨Kd.C_below (by repeat (first | exact H41.out | (with_reducible refine Kd.C_alloc ?_ _) | (with_reducible refine Kd.C_drewN ?_ _) | (with_reducible refine Kd.C_drew ?_))) hb⟩
 clear H83
 clear H84
 clear H86
 clear H87
 replace BK42 : Aside0 (w32.heap[w14.heap.size]? = some (.cells #[.slice A40 ([2, 0] : List Int).length c40, .slice A41 ([true, false] : List Bool).length c41] 43 (0, 0))) := ⟨blk_below (by (with_reducible repeat (first | refine blk_drewN ?_ _ | refine blk_drew ?_ | refine blk_alloc ?_ _)); exact BK42.out) hb⟩
 replace HB := Aside0.mk (below_step (by repeat (first | (with_reducible first | exact HB.out | apply below_alloc | apply pw_below_drewN | apply below_drew1) | exact HB.out)) hb)
 clear hb
 go_wp2_with fail
 refine (headgatelaw18_of.calls 60 _ _ ([1002, 0] : List Int) ([2, 0] : List Int) ([true, false] : List Bool) _ ?s0 ?t0 (by decide +kernel)).mono ?_
 case s0 => repeat (first | exact lit_Cb _ _ _ (by simp) _ (by simp) | (with_reducible refine Kd.C_alloc ?_ _) | (with_reducible refine Kd.C_drewN ?_ _) | (with_reducible refine Kd.C_drew ?_))
 case t0 => exact Nat.le_refl _
 rintro e w33 ⟨v89, v90, rfl, ho89, ho90, hb⟩
 replace H40 : Aside0 (Kd.C (Kd.int .i64) w33 A40 ([2, 0] : List Int).length ([2, 0] : List Int)) := ⟨Kd.C_below (by repeat (first | exact H40.out | (with_reducible refine Kd.C_alloc ?_ _) | (with_reducible refine Kd.C_drewN ?_ _) | (with_reducible refine Kd.C_drew ?_))) hb⟩
 replace H41 : Aside0 (Kd.C Kd.bool w33 A41 ([true, false] : List Bool).length ([true, false] : List Bool)) := ⟨Kd.C_below (by repeat (first | exact H41.out | (with_reducible refine Kd.C_alloc ?_ _) | (with_reducible refine Kd.C_drewN ?_ _) | (with_reducible refine Kd.C_drew ?_))) hb⟩
 replace BK42 : Aside0 (w33.heap[w14.heap.size]? = some (.cells #[.slice A40 ([2, 0] : List Int).length c40, .slice A41 ([true, false] : List Bool).length c41] 43 (0, 0))) := ⟨blk_below (by (with_reducible repeat (first | refine blk_drewN ?_ _ | refine blk_drew ?_ | refine blk_alloc ?_ _)); exact BK42.out) hb⟩
 replace HB := Aside0.mk (below_step (by repeat (first | (with_reducible first | exact HB.out | apply below_alloc | apply pw_below_drewN | apply below_drew1) | exact HB.out)) hb)
 obtain ⟨A89, c89, rfl, l89, h89⟩ := IsRow.of ho89
 have H89 := Aside0.mk h89
 clear h89 ho89
 obtain ⟨A90, c90, rfl, l90, h90⟩ := IsRow.of ho90
 have H90 := Aside0.mk h90
 clear h90 ho90
 clear hb
 go_wp2_with fail
 refine (headgatelaw18_of.calls 60 _ _ ([2, 0] : List Int) ([2, 0] : List Int) ([false, false] : List Bool) _ ?s0 ?t0 (by decide +kernel)).mono ?_
 case s0 => repeat (first | exact lit_Cb _ _ _ (by simp) _ (by simp) | (with_reducible refine Kd.C_alloc ?_ _) | (with_reducible refine Kd.C_drewN ?_ _) | (with_reducible refine Kd.C_drew ?_))
 case t0 => exact Nat.le_refl _
 rintro e w34 ⟨v92, v93, rfl, ho92, ho93, hb⟩
 replace H40 : Aside0 (Kd.C (Kd.int .i64) w34 A40 ([2, 0] : List Int).length ([2, 0] : List Int)) := ⟨Kd.C_below (by repeat (first | exact H40.out | (with_reducible refine Kd.C_alloc ?_ _) | (with_reducible refine Kd.C_drewN ?_ _) | (with_reducible refine Kd.C_drew ?_))) hb⟩
 replace H41 : Aside0 (Kd.C Kd.bool w34 A41 ([true, false] : List Bool).length ([true, false] : List Bool)) := ⟨Kd.C_below (by repeat (first | exact H41.out | (with_reducible refine Kd.C_alloc ?_ _) | (with_reducible refine Kd.C_drewN ?_ _) | (with_reducible refine Kd.C_drew ?_))) hb⟩
 replace H89 : Aside0 (Kd.C (Kd.int .i64) w34 A89 ([2, 0] : List Int).length ([2, 0] : List Int)) := ⟨Kd.C_below (by repeat (first | exact H89.out | (with_reducible refine Kd.C_alloc ?_ _) | (with_reducible refine Kd.C_drewN ?_ _) | (with_reducible refine Kd.C_drew ?_))) hb⟩
 replace H90 : Aside0 (Kd.C Kd.bool w34 A90 ([true, false] : List Bool).length ([true, false] : List Bool)) := ⟨Kd.C_below (by repeat (first | exact H90.out | (with_reducible refine Kd.C_alloc ?_ _) | (with_reducible refine Kd.C_drewN ?_ _) | (with_reducible refine Kd.C_drew ?_))) hb⟩
 replace BK42 : Aside0 (w34.heap[w14.heap.size]? = some (.cells #[.slice A40 ([2, 0] : List Int).length c40, .slice A41 ([true, false] : List Bool).length c41] 43 (0, 0))) := ⟨blk_below (by (with_reducible repeat (first | refine blk_drewN ?_ _ | refine blk_drew ?_ | refine blk_alloc ?_ _)); exact BK42.out) hb⟩
 replace HB := Aside0.mk (below_step (by repeat (first | (with_reducible first | exact HB.out | apply below_alloc | apply pw_below_drewN | apply below_drew1) | exact HB.out)) hb)
 obtain ⟨A92, c92, rfl, l92, h92⟩ := IsRow.of ho92
 have H92 := Aside0.mk h92
 clear h92 ho92
 obtain ⟨A93, c93, rfl, l93, h93⟩ := IsRow.of ho93
 have H93 := Aside0.mk h93
 clear h93 ho93
 clear hb
 go_wp2_with fail
 refine (headgatelaw18_settles.calls 60 _ _ ([2, 0] : List Int) _ _ ([true, false] : List Bool) _ _ ([2, 0] : List Int) _ _ ([false, false] : List Bool) false true _ ?s0 ?t0 ?s1 ?t1 ?s2 ?t2 ?s3 ?t3 (by decide +kernel)).mono ?_
 case s0 => repeat (first | exact H89.out | (with_reducible refine Kd.C_alloc ?_ _) | (with_reducible refine Kd.C_drewN ?_ _) | (with_reducible refine Kd.C_drew ?_))
 case t0 => exact l89
 case s1 => repeat (first | exact H90.out | (with_reducible refine Kd.C_alloc ?_ _) | (with_reducible refine Kd.C_drewN ?_ _) | (with_reducible refine Kd.C_drew ?_))
 case t1 => exact l90
 case s2 => repeat (first | exact H92.out | (with_reducible refine Kd.C_alloc ?_ _) | (with_reducible refine Kd.C_drewN ?_ _) | (with_reducible refine Kd.C_drew ?_))
 case t2 => exact l92
 case s3 => repeat (first | exact H93.out | (with_reducible refine Kd.C_alloc ?_ _) | (with_reducible refine Kd.C_drewN ?_ _) | (with_reducible refine Kd.C_drew ?_))
 case t3 => exact l93
 rintro e w35 ⟨rfl, hb⟩
 replace H40 : Aside0 (Kd.C (Kd.int .i64) w35 A40 ([2, 0] : List Int).length ([2, 0] : List Int)) := ⟨Kd.C_below (by repeat (first | exact H40.out | (with_reducible refine Kd.C_alloc ?_ _) | (with_reducible refine Kd.C_drewN ?_ _) | (with_reducible refine Kd.C_drew ?_))) hb⟩
 replace H41 : Aside0 (Kd.C Kd.bool w35 A41 ([true, false] : List Bool).length ([true, false] : List Bool)) := ⟨Kd.C_below (by repeat (first | exact H41.out | (with_reducible refine Kd.C_alloc ?_ _) | (with_reducible refine Kd.C_drewN ?_ _) | (with_reducible refine Kd.C_drew ?_))) hb⟩
 clear H89
 clear H90
 clear H92
 clear H93
 replace BK42 : Aside0 (w35.heap[w14.heap.size]? = some (.cells #[.slice A40 ([2, 0] : List Int).length c40, .slice A41 ([true, false] : List Bool).length c41] 43 (0, 0))) := ⟨blk_below (by (with_reducible repeat (first | refine blk_drewN ?_ _ | refine blk_drew ?_ | refine blk_alloc ?_ _)); exact BK42.out) hb⟩
 replace HB := Aside0.mk (below_step (by repeat (first | (with_reducible first | exact HB.out | apply below_alloc | apply pw_below_drewN | apply below_drew1) | exact HB.out)) hb)
 clear hb
 go_wp2_with fail
 refine shut_code 50 [167, 168, 169, 170, 171, 172, 173, 174, 175, 176, 177, 178, 179, 180, 181, 182, 183, 184, 185, 186, 187, 188, 189, 190, 191, 192, 193, 194, 195, 196, 197, 198, 199, 200, 201, 202, 203, 204, 205, 206, 207, 208, 209, 210, 211, 212, 213, 214, 215, 0] [litF (.bool true), litF (.bool true), litF (.bool true), litF (.bool true), litF (.bool true), litF (.bool true), litF (.bool true), litF (.bool true), litF (.int .i64 0), litF (.bool true), litF (.bool true), litF (.bool true), aggF [rowF (Kd.int .i64) ([2, 0] : List Int), rowF Kd.bool ([true, false] : List Bool)], rowF (Kd.int .i64) ([1002, 0] : List Int), aggF [rowF (Kd.int .i64) ([2, 0] : List Int), rowF Kd.bool ([true, false] : List Bool)], litF (.bool true), litF (.bool true), litF (.bool true), litF (.int .i64 10), litF (.bool true), litF (.bool true), litF (.bool true), litF (.int .i64 9), litF (.bool true), litF (.bool true), litF (.bool true), litF (.int .i64 0), litF (.bool true), litF (.bool true), litF (.bool true), litF (.int .i64 1), litF (.bool true), litF (.bool true), litF (.bool true), litF (.int .i64 5), litF (.bool true), litF (.bool true), litF (.bool true), litF (.int .i64 2), litF (.bool true), litF (.bool true), litF (.bool true), litF (.int .i64 15), litF (.bool true), litF (.bool true), litF (.bool true), litF (.int .i64 0), litF (.bool true), litF (.bool true), litF (.bool true)] (by kernel_rfl) rfl headgatelaw18_SlotsKnown.tab16 headgatelaw18_SlotsKnown.bits16 (by kernel_rfl) (by kernel_rfl) (by kernel_rfl) rfl (by kernel_rfl) ?_ ?_
 ·
  rw [show List.range 50 = [0, 1, 2, 3, 4, 5, 6, 7, 8, 9, 10, 11, 12, 13, 14, 15, 16, 17, 18, 19, 20, 21, 22, 23, 24, 25, 26, 27, 28, 29, 30, 31, 32, 33, 34, 35, 36, 37, 38, 39, 40, 41, 42, 43, 44, 45, 46, 47, 48, 49] from rfl]
  refine opLaws_cons ?_ ?_
  ·
   intro a w' hB hoff hon
   refine ⟨_, rfl, fun K hK => ?_⟩
   refine goes_ Try.func35 (by kernel_rfl) rfl #[] (by rfl) rfl rfl (by first | (simp only [List.map_toArray, List.map_cons, List.map_nil, Act.eval, Array.getD_eq_getD_getElem?, Option.getD_some, id]; done) | (simp only [List.map_toArray, List.map_cons, List.map_nil, Act.eval, Array.getD_eq_getD_getElem?, Option.getD_some, id]; rfl) | rfl) ?_
   refine (headgatelaw18_awake.calls true _ (by decide +kernel)).mono ?_
   rintro e w2 ⟨rfl, hb⟩
   exact ⟨_, rfl, hK.out _ _ _ rfl rfl hb⟩
  refine opLaws_cons ?_ ?_
  ·
   intro a w' hB hoff hon
   refine ⟨_, rfl, fun K hK => ?_⟩
   obtain ⟨x167, e167, f167⟩ := hon 0 167 _ (by kernel_rfl) rfl rfl
   replace f167 : x167 = .bool true := f167
   subst f167
   refine value_ (w1 := w') (v := .bool true) (by rfl) rfl ?_ ?_
   ·
    go_simp; try rfl
   exact hK.out _ _ _ rfl rfl (Below.refl _ _)
  refine opLaws_cons ?_ ?_
  ·
   intro a w' hB hoff hon
   refine ⟨_, rfl, fun K hK => ?_⟩
   have e31 : a.tmps[31]? = some (.bool true) := (hoff 31 (by kernel_rfl)).trans rfl
   obtain ⟨x168, e168, f168⟩ := hon 1 168 _ (by kernel_rfl) rfl rfl
   replace f168 : x168 = .bool true := f168
   subst f168
   refine value_ (w1 := w') (v := .bool true) (wanted_on rfl rfl rfl e168) rfl ?_ ?_
   ·
    go_simp; try rfl
   exact hK.out _ _ _ rfl rfl (Below.refl _ _)
  refine opLaws_cons ?_ ?_
  ·
   intro a w' hB hoff hon
   refine ⟨_, rfl, fun K hK => ?_⟩
   obtain ⟨x168, e168, f168⟩ := hon 1 168 _ (by kernel_rfl) rfl rfl
   replace f168 : x168 = .bool true := f168
   subst f168
   obtain ⟨x169, e169, f169⟩ := hon 2 169 _ (by kernel_rfl) rfl rfl
   replace f169 : x169 = .bool true := f169
   subst f169
   refine value_ (w1 := w') (v := .bool true) (by rfl) rfl ?_ ?_
   ·
    go_simp; try rfl
   exact hK.out _ _ _ rfl rfl (Below.refl _ _)
  refine opLaws_cons ?_ ?_
  ·
   intro a w' hB hoff hon
   refine ⟨_, rfl, fun K hK => ?_⟩
   obtain ⟨x170, e170, f170⟩ := hon 3 170 _ (by kernel_rfl) rfl rfl
   replace f170 : x170 = .bool true := f170
   subst f170
   refine value_ (w1 := w') (v := .bool true) (by rfl) rfl ?_ ?_
   ·
    go_simp; try rfl
   exact hK.out _ _ _ rfl rfl (Below.refl _ _)
  refine opLaws_cons ?_ ?_
  ·
   intro a w' hB hoff hon
   refine ⟨_, rfl, fun K hK => ?_⟩
   have e32 : a.tmps[32]? = some (.bool true) := (hoff 32 (by kernel_rfl)).trans rfl
   obtain ⟨x171, e171, f171⟩ := hon 4 171 _ (by kernel_rfl) rfl rfl
   replace f171 : x171 = .bool true := f171
   subst f171
   refine value_ (w1 := w') (v := .bool true) (wanted_on rfl rfl rfl e171) rfl ?_ ?_
   ·
    go_simp; try rfl
   exact hK.out _ _ _ rfl rfl (Below.refl _ _)
  refine opLaws_cons ?_ ?_
  ·
   intro a w' hB hoff hon
   refine ⟨_, rfl, fun K hK => ?_⟩
   obtain ⟨x171, e171, f171⟩ := hon 4 171 _ (by kernel_rfl) rfl rfl
   replace f171 : x171 = .bool true := f171
   subst f171
   obtain ⟨x172, e172, f172⟩ := hon 5 172 _ (by kernel_rfl) rfl rfl
   replace f172 : x172 = .bool true := f172
   subst f172
   refine value_ (w1 := w') (v := .bool true) (by rfl) rfl ?_ ?_
   ·
    go_simp; try rfl
   exact hK.out _ _ _ rfl rfl (Below.refl _ _)
  refine opLaws_cons ?_ ?_
  ·
   intro a w' hB hoff hon
   refine ⟨_, rfl, fun K hK => ?_⟩
   obtain ⟨x173, e173, f173⟩ := hon 6 173 _ (by kernel_rfl) rfl rfl
   replace f173 : x173 = .bool true := f173
   subst f173
   refine value_ (w1 := w') (v := .bool true) (by rfl) rfl ?_ ?_
   ·
    go_simp; try rfl
   exact hK.out _ _ _ rfl rfl (Below.refl _ _)
  refine opLaws_cons ?_ ?_
  ·
   intro a w' hB hoff hon
   refine ⟨_, rfl, fun K hK => ?_⟩
   have e18 : a.tmps[18]? = some (.int .i64 0) := (hoff 18 (by kernel_rfl)).trans rfl
   obtain ⟨x174, e174, f174⟩ := hon 7 174 _ (by kernel_rfl) rfl rfl
   replace f174 : x174 = .bool true := f174
   subst f174
   refine value_ (w1 := w') (v := .int .i64 0) (wanted_on rfl rfl rfl e174) rfl ?_ ?_
   ·
    go_simp; try rfl
   exact hK.out _ _ _ rfl rfl (Below.refl _ _)
  refine opLaws_cons ?_ ?_
  ·
   intro a w' hB hoff hon
   refine ⟨_, rfl, fun K hK => ?_⟩
   obtain ⟨x175, e175, f175⟩ := hon 8 175 _ (by kernel_rfl) rfl rfl
   replace f175 : x175 = .int .i64 0 := f175
   subst f175
   obtain ⟨x174, e174, f174⟩ := hon 7 174 _ (by kernel_rfl) rfl rfl
   replace f174 : x174 = .bool true := f174
   subst f174
   refine value_ (w1 := w') (v := .bool true) (wanted_on rfl rfl rfl e174) rfl ?_ ?_
   ·
    go_simp; try rfl
   exact hK.out _ _ _ rfl rfl (Below.refl _ _)
  refine opLaws_cons ?_ ?_
  ·
   intro a w' hB hoff hon
   refine ⟨_, rfl, fun K hK => ?_⟩
   obtain ⟨x174, e174, f174⟩ := hon 7 174 _ (by kernel_rfl) rfl rfl
   replace f174 : x174 = .bool true := f174
   subst f174
   obtain ⟨x176, e176, f176⟩ := hon 9 176 _ (by kernel_rfl) rfl rfl
   replace f176 : x176 = .bool true := f176
   subst f176
   refine value_ (w1 := w') (v := .bool true) (by rfl) rfl ?_ ?_
   ·
    go_simp; try rfl
   exact hK.out _ _ _ rfl rfl (Below.refl _ _)
  refine opLaws_cons ?_ ?_
  ·
   intro a w' hB hoff hon
   refine ⟨_, rfl, fun K hK => ?_⟩
   obtain ⟨x177, e177, f177⟩ := hon 10 177 _ (by kernel_rfl) rfl rfl
   replace f177 : x177 = .bool true := f177
   subst f177
   refine value_ (w1 := w') (v := .bool true) (by rfl) rfl ?_ ?_
   ·
    go_simp; try rfl
   exact hK.out _ _ _ rfl rfl (Below.refl _ _)
  refine opLaws_cons ?_ ?_
  ·
   intro a w' hB hoff hon
   refine ⟨_, rfl, fun K hK => ?_⟩
   have e17 : a.tmps[17]? = some (.pointer (some ⟨w14.heap.size, 0, none⟩)) := (hoff 17 (by kernel_rfl)).trans rfl
   obtain ⟨x178, e178, f178⟩ := hon 11 178 _ (by kernel_rfl) rfl rfl
   replace f178 : x178 = .bool true := f178
   subst f178
   have bk := blk_below BK42.out hB
   have z0 : w'.cell? ⟨_, 0, none⟩ = some (.slice A40 ([2, 0] : List Int).length c40) := (blk_cell bk 0).trans rfl
   have z1 : w'.cell? ⟨_, 1, none⟩ = some (.slice A41 ([true, false] : List Bool).length c41) := (blk_cell bk 1).trans rfl
   refine value_ (w1 := w') (v := .agg #[.slice A40 ([2, 0] : List Int).length c40, .slice A41 ([true, false] : List Bool).length c41]) (wanted_on rfl rfl rfl e178) rfl ?_ ?_
   ·
    go_simp; try rfl
   exact hK.out _ _ _ rfl ⟨_, rfl, ⟨_, _, rfl, ⟨_, _, rfl, l40, Kd.C_below H40.out hB⟩, ⟨_, _, rfl, ⟨_, _, rfl, l41, Kd.C_below H41.out hB⟩, rfl⟩⟩⟩ (Below.refl _ _)
  refine opLaws_cons ?_ ?_
  ·
   intro a w' hB hoff hon
   refine ⟨_, rfl, fun K hK => ?_⟩
   obtain ⟨x178, e178, f178⟩ := hon 11 178 _ (by kernel_rfl) rfl rfl
   replace f178 : x178 = .bool true := f178
   subst f178
   refine Kd.R_lit_step (Kd.int .i64) _ 3 ?hg (N := 180) ?hd (xs := ([1002, 0] : List Int)) (inner := [.int .i64 1002, .int .i64 0]) (ok := fun _ => True) (okp := fun _ => True) ?hr ?hp (fun _ hk => hk) trivial (Below.refl _ _) (Nat.le_refl _) (by simp) ?_
   case hd => rfl
   case hg => exact (wanted_on rfl rfl rfl e178)
   case hr => first | (go_simp; done) | (go_simp; rfl)
   case hp => exact (Reps.one (show Kd.M (Kd.int .i64) _ _ _ 1002 [.int .i64 1002] from rfl) (Reps.one (show Kd.M (Kd.int .i64) _ _ _ 0 [.int .i64 0] from rfl) (Reps.none _ _)))
   intro v w2 ho hb _ _
   exact hK.out _ _ _ rfl (IsRow.of ho) hb
  refine opLaws_cons ?_ ?_
  ·
   intro a w' hB hoff hon
   refine ⟨_, rfl, fun K hK => ?_⟩
   obtain ⟨x180, e180, f180⟩ := hon 13 180 _ (by kernel_rfl) rfl rfl
   obtain ⟨A94x, c94x, rfl, l94x, h94x⟩ := f180
   obtain ⟨x178, e178, f178⟩ := hon 11 178 _ (by kernel_rfl) rfl rfl
   replace f178 : x178 = .bool true := f178
   subst f178
   refine goes_ Try.func23 (by kernel_rfl) rfl #[.slice A94x ([1002, 0] : List Int).length c94x] (wanted_on rfl rfl rfl e178) rfl rfl (by first | (simp only [List.map_toArray, List.map_cons, List.map_nil, Act.eval, Array.getD_eq_getD_getElem?, Option.getD_some, e180, e178]; done) | (simp only [List.map_toArray, List.map_cons, List.map_nil, Act.eval, Array.getD_eq_getD_getElem?, Option.getD_some, e180, e178]; rfl) | rfl) ?_
   refine (headgatelaw18_of.calls 60 _ _ ([1002, 0] : List Int) ([2, 0] : List Int) ([true, false] : List Bool) _ h94x l94x (by decide +kernel)).mono ?_
   rintro e w2 ⟨v95, v96, rfl, ho95, ho96, hb⟩
   exact ⟨_, rfl, hK.out _ _ _ rfl ⟨_, rfl, ⟨_, _, rfl, (IsRow.of ho95), ⟨_, _, rfl, (IsRow.of ho96), rfl⟩⟩⟩ hb⟩
  refine opLaws_cons ?_ ?_
  ·
   intro a w' hB hoff hon
   refine ⟨_, rfl, fun K hK => ?_⟩
   obtain ⟨x179, e179, f179⟩ := hon 12 179 _ (by kernel_rfl) rfl rfl
   obtain ⟨_, rfl, ⟨_, _, rfl, ⟨A40x, c40x, rfl, l40x, h40x⟩, ⟨_, _, rfl, ⟨A41x, c41x, rfl, l41x, h41x⟩, rfl⟩⟩⟩ := f179
   obtain ⟨x181, e181, f181⟩ := hon 14 181 _ (by kernel_rfl) rfl rfl
   obtain ⟨_, rfl, ⟨_, _, rfl, ⟨A95x, c95x, rfl, l95x, h95x⟩, ⟨_, _, rfl, ⟨A96x, c96x, rfl, l96x, h96x⟩, rfl⟩⟩⟩ := f181
   obtain ⟨x178, e178, f178⟩ := hon 11 178 _ (by kernel_rfl) rfl rfl
   replace f178 : x178 = .bool true := f178
   subst f178
   refine goes_ Try.func32 (by kernel_rfl) rfl #[.agg #[.slice A40x ([2, 0] : List Int).length c40x, .slice A41x ([true, false] : List Bool).length c41x], .agg #[.slice A95x ([2, 0] : List Int).length c95x, .slice A96x ([true, false] : List Bool).length c96x]] (wanted_on rfl rfl rfl e178) rfl rfl (by first | (simp only [List.map_toArray, List.map_cons, List.map_nil, Act.eval, Array.getD_eq_getD_getElem?, Option.getD_some, e179, e181, e178]; done) | (simp only [List.map_toArray, List.map_cons, List.map_nil, Act.eval, Array.getD_eq_getD_getElem?, Option.getD_some, e179, e181, e178]; rfl) | rfl) ?_
   refine (headgatekit_SameSlots.calls 60 _ _ ([2, 0] : List Int) _ _ ([true, false] : List Bool) _ _ ([2, 0] : List Int) _ _ ([true, false] : List Bool) true _ h40x l40x h41x l41x h95x l95x h96x l96x (by decide +kernel)).mono ?_
   rintro e w2 ⟨rfl, hb⟩
   exact ⟨_, rfl, hK.out _ _ _ rfl rfl hb⟩
  refine opLaws_cons ?_ ?_
  ·
   intro a w' hB hoff hon
   refine ⟨_, rfl, fun K hK => ?_⟩
   obtain ⟨x178, e178, f178⟩ := hon 11 178 _ (by kernel_rfl) rfl rfl
   replace f178 : x178 = .bool true := f178
   subst f178
   obtain ⟨x182, e182, f182⟩ := hon 15 182 _ (by kernel_rfl) rfl rfl
   replace f182 : x182 = .bool true := f182
   subst f182
   refine value_ (w1 := w') (v := .bool true) (by rfl) rfl ?_ ?_
   ·
    go_simp; try rfl
   exact hK.out _ _ _ rfl rfl (Below.refl _ _)
  refine opLaws_cons ?_ ?_
  ·
   intro a w' hB hoff hon
   refine ⟨_, rfl, fun K hK => ?_⟩
   obtain ⟨x183, e183, f183⟩ := hon 16 183 _ (by kernel_rfl) rfl rfl
   replace f183 : x183 = .bool true := f183
   subst f183
   refine value_ (w1 := w') (v := .bool true) (by rfl) rfl ?_ ?_
   ·
    go_simp; try rfl
   exact hK.out _ _ _ rfl rfl (Below.refl _ _)
  refine opLaws_cons ?_ ?_
  ·
   intro a w' hB hoff hon
   refine ⟨_, rfl, fun K hK => ?_⟩
   have e20 : a.tmps[20]? = some (.int .i64 10) := (hoff 20 (by kernel_rfl)).trans rfl
   obtain ⟨x184, e184, f184⟩ := hon 17 184 _ (by kernel_rfl) rfl rfl
   replace f184 : x184 = .bool true := f184
   subst f184
   refine value_ (w1 := w') (v := .int .i64 10) (wanted_on rfl rfl rfl e184) rfl ?_ ?_
   ·
    go_simp; try rfl
   exact hK.out _ _ _ rfl rfl (Below.refl _ _)
  refine opLaws_cons ?_ ?_
  ·
   intro a w' hB hoff hon
   refine ⟨_, rfl, fun K hK => ?_⟩
   obtain ⟨x185, e185, f185⟩ := hon 18 185 _ (by kernel_rfl) rfl rfl
   replace f185 : x185 = .int .i64 10 := f185
   subst f185
   obtain ⟨x184, e184, f184⟩ := hon 17 184 _ (by kernel_rfl) rfl rfl
   replace f184 : x184 = .bool true := f184
   subst f184
   refine value_ (w1 := w') (v := .bool true) (wanted_on rfl rfl rfl e184) rfl ?_ ?_
   ·
    go_simp; try rfl
   exact hK.out _ _ _ rfl rfl (Below.refl _ _)
  refine opLaws_cons ?_ ?_
  ·
   intro a w' hB hoff hon
   refine ⟨_, rfl, fun K hK => ?_⟩
   obtain ⟨x184, e184, f184⟩ := hon 17 184 _ (by kernel_rfl) rfl rfl
   replace f184 : x184 = .bool true := f184
   subst f184
   obtain ⟨x186, e186, f186⟩ := hon 19 186 _ (by kernel_rfl) rfl rfl
   replace f186 : x186 = .bool true := f186
   subst f186
   refine value_ (w1 := w') (v := .bool true) (by rfl) rfl ?_ ?_
   ·
    go_simp; try rfl
   exact hK.out _ _ _ rfl rfl (Below.refl _ _)
  refine opLaws_cons ?_ ?_
  ·
   intro a w' hB hoff hon
   refine ⟨_, rfl, fun K hK => ?_⟩
   obtain ⟨x187, e187, f187⟩ := hon 20 187 _ (by kernel_rfl) rfl rfl
   replace f187 : x187 = .bool true := f187
   subst f187
   refine value_ (w1 := w') (v := .bool true) (by rfl) rfl ?_ ?_
   ·
    go_simp; try rfl
   exact hK.out _ _ _ rfl rfl (Below.refl _ _)
  refine opLaws_cons ?_ ?_
  ·
   intro a w' hB hoff hon
   refine ⟨_, rfl, fun K hK => ?_⟩
   have e22 : a.tmps[22]? = some (.int .i64 9) := (hoff 22 (by kernel_rfl)).trans rfl
   obtain ⟨x188, e188, f188⟩ := hon 21 188 _ (by kernel_rfl) rfl rfl
   replace f188 : x188 = .bool true := f188
   subst f188
   refine value_ (w1 := w') (v := .int .i64 9) (wanted_on rfl rfl rfl e188) rfl ?_ ?_
   ·
    go_simp; try rfl
   exact hK.out _ _ _ rfl rfl (Below.refl _ _)
  refine opLaws_cons ?_ ?_
  ·
   intro a w' hB hoff hon
   refine ⟨_, rfl, fun K hK => ?_⟩
   obtain ⟨x189, e189, f189⟩ := hon 22 189 _ (by kernel_rfl) rfl rfl
   replace f189 : x189 = .int .i64 9 := f189
   subst f189
   obtain ⟨x188, e188, f188⟩ := hon 21 188 _ (by kernel_rfl) rfl rfl
   replace f188 : x188 = .bool true := f188
   subst f188
   refine value_ (w1 := w') (v := .bool true) (wanted_on rfl rfl rfl e188) rfl ?_ ?_
   ·
    go_simp; try rfl
   exact hK.out _ _ _ rfl rfl (Below.refl _ _)
  refine opLaws_cons ?_ ?_
  ·
   intro a w' hB hoff hon
   refine ⟨_, rfl, fun K hK => ?_⟩
   obtain ⟨x188, e188, f188⟩ := hon 21 188 _ (by kernel_rfl) rfl rfl
   replace f188 : x188 = .bool true := f188
   subst f188
   obtain ⟨x190, e190, f190⟩ := hon 23 190 _ (by kernel_rfl) rfl rfl
   replace f190 : x190 = .bool true := f190
   subst f190
   refine value_ (w1 := w') (v := .bool true) (by rfl) rfl ?_ ?_
   ·
    go_simp; try rfl
   exact hK.out _ _ _ rfl rfl (Below.refl _ _)
  refine opLaws_cons ?_ ?_
  ·
   intro a w' hB hoff hon
   refine ⟨_, rfl, fun K hK => ?_⟩
   obtain ⟨x191, e191, f191⟩ := hon 24 191 _ (by kernel_rfl) rfl rfl
   replace f191 : x191 = .bool true := f191
   subst f191
   refine value_ (w1 := w') (v := .bool true) (by rfl) rfl ?_ ?_
   ·
    go_simp; try rfl
   exact hK.out _ _ _ rfl rfl (Below.refl _ _)
  refine opLaws_cons ?_ ?_
  ·
   intro a w' hB hoff hon
   refine ⟨_, rfl, fun K hK => ?_⟩
   have e24 : a.tmps[24]? = some (.int .i64 0) := (hoff 24 (by kernel_rfl)).trans rfl
   obtain ⟨x192, e192, f192⟩ := hon 25 192 _ (by kernel_rfl) rfl rfl
   replace f192 : x192 = .bool true := f192
   subst f192
   refine value_ (w1 := w') (v := .int .i64 0) (wanted_on rfl rfl rfl e192) rfl ?_ ?_
   ·
    go_simp; try rfl
   exact hK.out _ _ _ rfl rfl (Below.refl _ _)
  refine opLaws_cons ?_ ?_
  ·
   intro a w' hB hoff hon
   refine ⟨_, rfl, fun K hK => ?_⟩
   obtain ⟨x193, e193, f193⟩ := hon 26 193 _ (by kernel_rfl) rfl rfl
   replace f193 : x193 = .int .i64 0 := f193
   subst f193
   obtain ⟨x192, e192, f192⟩ := hon 25 192 _ (by kernel_rfl) rfl rfl
   replace f192 : x192 = .bool true := f192
   subst f192
   refine value_ (w1 := w') (v := .bool true) (wanted_on rfl rfl rfl e192) rfl ?_ ?_
   ·
    go_simp; try rfl
   exact hK.out _ _ _ rfl rfl (Below.refl _ _)
  refine opLaws_cons ?_ ?_
  ·
   intro a w' hB hoff hon
   refine ⟨_, rfl, fun K hK => ?_⟩
   obtain ⟨x192, e192, f192⟩ := hon 25 192 _ (by kernel_rfl) rfl rfl
   replace f192 : x192 = .bool true := f192
   subst f192
   obtain ⟨x194, e194, f194⟩ := hon 27 194 _ (by kernel_rfl) rfl rfl
   replace f194 : x194 = .bool true := f194
   subst f194
   refine value_ (w1 := w') (v := .bool true) (by rfl) rfl ?_ ?_
   ·
    go_simp; try rfl
   exact hK.out _ _ _ rfl rfl (Below.refl _ _)
  refine opLaws_cons ?_ ?_
  ·
   intro a w' hB hoff hon
   refine ⟨_, rfl, fun K hK => ?_⟩
   obtain ⟨x195, e195, f195⟩ := hon 28 195 _ (by kernel_rfl) rfl rfl
   replace f195 : x195 = .bool true := f195
   subst f195
   refine value_ (w1 := w') (v := .bool true) (by rfl) rfl ?_ ?_
   ·
    go_simp; try rfl
   exact hK.out _ _ _ rfl rfl (Below.refl _ _)
  refine opLaws_cons ?_ ?_
  ·
   intro a w' hB hoff hon
   refine ⟨_, rfl, fun K hK => ?_⟩
   have e23 : a.tmps[23]? = some (.int .i64 1) := (hoff 23 (by kernel_rfl)).trans rfl
   obtain ⟨x196, e196, f196⟩ := hon 29 196 _ (by kernel_rfl) rfl rfl
   replace f196 : x196 = .bool true := f196
   subst f196
   refine value_ (w1 := w') (v := .int .i64 1) (wanted_on rfl rfl rfl e196) rfl ?_ ?_
   ·
    go_simp; try rfl
   exact hK.out _ _ _ rfl rfl (Below.refl _ _)
  refine opLaws_cons ?_ ?_
  ·
   intro a w' hB hoff hon
   refine ⟨_, rfl, fun K hK => ?_⟩
   obtain ⟨x197, e197, f197⟩ := hon 30 197 _ (by kernel_rfl) rfl rfl
   replace f197 : x197 = .int .i64 1 := f197
   subst f197
   obtain ⟨x196, e196, f196⟩ := hon 29 196 _ (by kernel_rfl) rfl rfl
   replace f196 : x196 = .bool true := f196
   subst f196
   refine value_ (w1 := w') (v := .bool true) (wanted_on rfl rfl rfl e196) rfl ?_ ?_
   ·
    go_simp; try rfl
   exact hK.out _ _ _ rfl rfl (Below.refl _ _)
  refine opLaws_cons ?_ ?_
  ·
   intro a w' hB hoff hon
   refine ⟨_, rfl, fun K hK => ?_⟩
   obtain ⟨x196, e196, f196⟩ := hon 29 196 _ (by kernel_rfl) rfl rfl
   replace f196 : x196 = .bool true := f196
   subst f196
   obtain ⟨x198, e198, f198⟩ := hon 31 198 _ (by kernel_rfl) rfl rfl
   replace f198 : x198 = .bool true := f198
   subst f198
   refine value_ (w1 := w') (v := .bool true) (by rfl) rfl ?_ ?_
   ·
    go_simp; try rfl
   exact hK.out _ _ _ rfl rfl (Below.refl _ _)
  refine opLaws_cons ?_ ?_
  ·
   intro a w' hB hoff hon
   refine ⟨_, rfl, fun K hK => ?_⟩
   obtain ⟨x199, e199, f199⟩ := hon 32 199 _ (by kernel_rfl) rfl rfl
   replace f199 : x199 = .bool true := f199
   subst f199
   refine value_ (w1 := w') (v := .bool true) (by rfl) rfl ?_ ?_
   ·
    go_simp; try rfl
   exact hK.out _ _ _ rfl rfl (Below.refl _ _)
  refine opLaws_cons ?_ ?_
  ·
   intro a w' hB hoff hon
   refine ⟨_, rfl, fun K hK => ?_⟩
   have e26 : a.tmps[26]? = some (.int .i64 5) := (hoff 26 (by kernel_rfl)).trans rfl
   obtain ⟨x200, e200, f200⟩ := hon 33 200 _ (by kernel_rfl) rfl rfl
   replace f200 : x200 = .bool true := f200
   subst f200
   refine value_ (w1 := w') (v := .int .i64 5) (wanted_on rfl rfl rfl e200) rfl ?_ ?_
   ·
    go_simp; try rfl
   exact hK.out _ _ _ rfl rfl (Below.refl _ _)
  refine opLaws_cons ?_ ?_
  ·
   intro a w' hB hoff hon
   refine ⟨_, rfl, fun K hK => ?_⟩
   obtain ⟨x201, e201, f201⟩ := hon 34 201 _ (by kernel_rfl) rfl rfl
   replace f201 : x201 = .int .i64 5 := f201
   subst f201
   obtain ⟨x200, e200, f200⟩ := hon 33 200 _ (by kernel_rfl) rfl rfl
   replace f200 : x200 = .bool true := f200
   subst f200
   refine value_ (w1 := w') (v := .bool true) (wanted_on rfl rfl rfl e200) rfl ?_ ?_
   ·
    go_simp; try rfl
   exact hK.out _ _ _ rfl rfl (Below.refl _ _)
  refine opLaws_cons ?_ ?_
  ·
   intro a w' hB hoff hon
   refine ⟨_, rfl, fun K hK => ?_⟩
   obtain ⟨x200, e200, f200⟩ := hon 33 200 _ (by kernel_rfl) rfl rfl
   replace f200 : x200 = .bool true := f200
   subst f200
   obtain ⟨x202, e202, f202⟩ := hon 35 202 _ (by kernel_rfl) rfl rfl
   replace f202 : x202 = .bool true := f202
   subst f202
   refine value_ (w1 := w') (v := .bool true) (by rfl) rfl ?_ ?_
   ·
    go_simp; try rfl
   exact hK.out _ _ _ rfl rfl (Below.refl _ _)
  refine opLaws_cons ?_ ?_
  ·
   intro a w' hB hoff hon
   refine ⟨_, rfl, fun K hK => ?_⟩
   obtain ⟨x203, e203, f203⟩ := hon 36 203 _ (by kernel_rfl) rfl rfl
   replace f203 : x203 = .bool true := f203
   subst f203
   refine value_ (w1 := w') (v := .bool true) (by rfl) rfl ?_ ?_
   ·
    go_simp; try rfl
   exact hK.out _ _ _ rfl rfl (Below.refl _ _)
  refine opLaws_cons ?_ ?_
  ·
   intro a w' hB hoff hon
   refine ⟨_, rfl, fun K hK => ?_⟩
   have e28 : a.tmps[28]? = some (.int .i64 2) := (hoff 28 (by kernel_rfl)).trans rfl
   obtain ⟨x204, e204, f204⟩ := hon 37 204 _ (by kernel_rfl) rfl rfl
   replace f204 : x204 = .bool true := f204
   subst f204
   refine value_ (w1 := w') (v := .int .i64 2) (wanted_on rfl rfl rfl e204) rfl ?_ ?_
   ·
    go_simp; try rfl
   exact hK.out _ _ _ rfl rfl (Below.refl _ _)
  refine opLaws_cons ?_ ?_
  ·
   intro a w' hB hoff hon
   refine ⟨_, rfl, fun K hK => ?_⟩
   obtain ⟨x205, e205, f205⟩ := hon 38 205 _ (by kernel_rfl) rfl rfl
   replace f205 : x205 = .int .i64 2 := f205
   subst f205
   obtain ⟨x204, e204, f204⟩ := hon 37 204 _ (by kernel_rfl) rfl rfl
   replace f204 : x204 = .bool true := f204
   subst f204
   refine value_ (w1 := w') (v := .bool true) (wanted_on rfl rfl rfl e204) rfl ?_ ?_
   ·
    go_simp; try rfl
   exact hK.out _ _ _ rfl rfl (Below.refl _ _)
  refine opLaws_cons ?_ ?_
  ·
   intro a w' hB hoff hon
   refine ⟨_, rfl, fun K hK => ?_⟩
   obtain ⟨x204, e204, f204⟩ := hon 37 204 _ (by kernel_rfl) rfl rfl
   replace f204 : x204 = .bool true := f204
   subst f204
   obtain ⟨x206, e206, f206⟩ := hon 39 206 _ (by kernel_rfl) rfl rfl
   replace f206 : x206 = .bool true := f206
   subst f206
   refine value_ (w1 := w') (v := .bool true) (by rfl) rfl ?_ ?_
   ·
    go_simp; try rfl
   exact hK.out _ _ _ rfl rfl (Below.refl _ _)
  refine opLaws_cons ?_ ?_
  ·
   intro a w' hB hoff hon
   refine ⟨_, rfl, fun K hK => ?_⟩
   obtain ⟨x207, e207, f207⟩ := hon 40 207 _ (by kernel_rfl) rfl rfl
   replace f207 : x207 = .bool true := f207
   subst f207
   refine value_ (w1 := w') (v := .bool true) (by rfl) rfl ?_ ?_
   ·
    go_simp; try rfl
   exact hK.out _ _ _ rfl rfl (Below.refl _ _)
  refine opLaws_cons ?_ ?_
  ·
   intro a w' hB hoff hon
   refine ⟨_, rfl, fun K hK => ?_⟩
   have e29 : a.tmps[29]? = some (.int .i64 15) := (hoff 29 (by kernel_rfl)).trans rfl
   obtain ⟨x208, e208, f208⟩ := hon 41 208 _ (by kernel_rfl) rfl rfl
   replace f208 : x208 = .bool true := f208
   subst f208
   refine value_ (w1 := w') (v := .int .i64 15) (wanted_on rfl rfl rfl e208) rfl ?_ ?_
   ·
    go_simp; try rfl
   exact hK.out _ _ _ rfl rfl (Below.refl _ _)
  refine opLaws_cons ?_ ?_
  ·
   intro a w' hB hoff hon
   refine ⟨_, rfl, fun K hK => ?_⟩
   obtain ⟨x209, e209, f209⟩ := hon 42 209 _ (by kernel_rfl) rfl rfl
   replace f209 : x209 = .int .i64 15 := f209
   subst f209
   obtain ⟨x208, e208, f208⟩ := hon 41 208 _ (by kernel_rfl) rfl rfl
   replace f208 : x208 = .bool true := f208
   subst f208
   refine value_ (w1 := w') (v := .bool true) (wanted_on rfl rfl rfl e208) rfl ?_ ?_
   ·
    go_simp; try rfl
   exact hK.out _ _ _ rfl rfl (Below.refl _ _)
  refine opLaws_cons ?_ ?_
  ·
   intro a w' hB hoff hon
   refine ⟨_, rfl, fun K hK => ?_⟩
   obtain ⟨x208, e208, f208⟩ := hon 41 208 _ (by kernel_rfl) rfl rfl
   replace f208 : x208 = .bool true := f208
   subst f208
   obtain ⟨x210, e210, f210⟩ := hon 43 210 _ (by kernel_rfl) rfl rfl
   replace f210 : x210 = .bool true := f210
   subst f210
   refine value_ (w1 := w') (v := .bool true) (by rfl) rfl ?_ ?_
   ·
    go_simp; try rfl
   exact hK.out _ _ _ rfl rfl (Below.refl _ _)
  refine opLaws_cons ?_ ?_
  ·
   intro a w' hB hoff hon
   refine ⟨_, rfl, fun K hK => ?_⟩
   obtain ⟨x211, e211, f211⟩ := hon 44 211 _ (by kernel_rfl) rfl rfl
   replace f211 : x211 = .bool true := f211
   subst f211
   refine value_ (w1 := w') (v := .bool true) (by rfl) rfl ?_ ?_
   ·
    go_simp; try rfl
   exact hK.out _ _ _ rfl rfl (Below.refl _ _)
  refine opLaws_cons ?_ ?_
  ·
   intro a w' hB hoff hon
   refine ⟨_, rfl, fun K hK => ?_⟩
   have e30 : a.tmps[30]? = some (.int .i64 0) := (hoff 30 (by kernel_rfl)).trans rfl
   obtain ⟨x212, e212, f212⟩ := hon 45 212 _ (by kernel_rfl) rfl rfl
   replace f212 : x212 = .bool true := f212
   subst f212
   refine value_ (w1 := w') (v := .int .i64 0) (wanted_on rfl rfl rfl e212) rfl ?_ ?_
   ·
    go_simp; try rfl
   exact hK.out _ _ _ rfl rfl (Below.refl _ _)
  refine opLaws_cons ?_ ?_
  ·
   intro a w' hB hoff hon
   refine ⟨_, rfl, fun K hK => ?_⟩
   obtain ⟨x213, e213, f213⟩ := hon 46 213 _ (by kernel_rfl) rfl rfl
   replace f213 : x213 = .int .i64 0 := f213
   subst f213
   obtain ⟨x212, e212, f212⟩ := hon 45 212 _ (by kernel_rfl) rfl rfl
   replace f212 : x212 = .bool true := f212
   subst f212
   refine value_ (w1 := w') (v := .bool true) (wanted_on rfl rfl rfl e212) rfl ?_ ?_
   ·
    go_simp; try rfl
   exact hK.out _ _ _ rfl rfl (Below.refl _ _)
  refine opLaws_cons ?_ ?_
  ·
   intro a w' hB hoff hon
   refine ⟨_, rfl, fun K hK => ?_⟩
   obtain ⟨x212, e212, f212⟩ := hon 45 212 _ (by kernel_rfl) rfl rfl
   replace f212 : x212 = .bool true := f212
   subst f212
   obtain ⟨x214, e214, f214⟩ := hon 47 214 _ (by kernel_rfl) rfl rfl
   replace f214 : x214 = .bool true := f214
   subst f214
   refine value_ (w1 := w') (v := .bool true) (by rfl) rfl ?_ ?_
   ·
    go_simp; try rfl
   exact hK.out _ _ _ rfl rfl (Below.refl _ _)
  refine opLaws_cons ?_ ?_
  ·
   intro a w' hB hoff hon
   refine ⟨_, rfl, fun K hK => ?_⟩
   obtain ⟨x215, e215, f215⟩ := hon 48 215 _ (by kernel_rfl) rfl rfl
   replace f215 : x215 = .bool true := f215
   subst f215
   refine value_ (w1 := w') (v := .bool true) (by rfl) rfl ?_ ?_
   ·
    go_simp; try rfl
   exact hK.out _ _ _ rfl rfl (Below.refl _ _)
  exact opLaws_nil
 intro vals w36 hb hv
 have q49 : vals 49 = .bool true := hv 49 _ rfl
 simp only [selOf, List.zipIdx_cons, List.zipIdx_nil, List.map_cons, List.map_nil, Nat.zero_add, Nat.reduceAdd, putSel, if_true, Act.put, List.setIfInBounds_toArray, List.set_cons_zero, List.set_cons_succ, q49]
 clear hv q49
 clear H40
 clear H41
 clear BK42
 replace HB := Aside0.mk (below_step (by repeat (first | (with_reducible first | exact HB.out | apply below_alloc | apply pw_below_drewN | apply below_drew1) | exact HB.out)) hb)
 clear hb
 go_wp2
 go_ret
 exact ⟨rfl, by repeat (first | (with_reducible first | exact HB.out | apply below_alloc | apply pw_below_drewN | apply below_drew1) | exact HB.out)⟩


end Go.Proofs.Ytofonnfkffbjkaa.X
