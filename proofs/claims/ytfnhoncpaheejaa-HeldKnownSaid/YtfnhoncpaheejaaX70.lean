/- What Go functions of this seat compute, told as Lean functions, and that each call of the Go code comes to that answer; for a law: its row, for every input. Written by a program of the session. -/
import Derived.Test.YtfnhoncpaheejaaX0
import Derived.Test.YtfnhoncpaheejaaX11
import Derived.Test.YtfnhoncpaheejaaX13
import Derived.Test.YtfnhoncpaheejaaX14
import Derived.Test.YtfnhoncpaheejaaX15
import Derived.Test.YtfnhoncpaheejaaX16
import Derived.Test.YtfnhoncpaheejaaX18
import Derived.Test.YtfnhoncpaheejaaX19
import Derived.Test.YtfnhoncpaheejaaX21
import Derived.Test.YtfnhoncpaheejaaX23
import Derived.Test.YtfnhoncpaheejaaX25
import Derived.Test.YtfnhoncpaheejaaX26
import Derived.Test.YtfnhoncpaheejaaX66
import Derived.Test.YtfnhoncpaheejaaX68
namespace Go.Proofs.Ytfnhoncpaheejaa.X
open Go.RowKit Go.Proofs.YtfnhoncpaheejaaW.PrintWords Go.Proofs.YtfnhoncpaheejaaW.PrintLast Go.Proofs.YtfnhoncpaheejaaW.PrintMore
attribute [local go_sem] max2_int min2_int max_two min_two max_three min_three max_four min_four   -- for this text's walks alone
set_option linter.unusedVariables false
set_option linter.unusedSimpArgs false

/-! ### headgatelaw19_HeldKnown: function 8 -/
def headgatelaw19_HeldKnown.f : Option (Bool) := some true
def headgatelaw19_HeldKnown.T15 : Bool × List (List Nat × List Nat) := (true, [([], []), ([], []), ([1], [1]), ([2], [2]), ([0, 3], [0, 3]), ([4, 1], [4]), ([5], [5]), ([6, 5], [5, 6]), ([5, 7], [5, 7]), ([8, 5], [8]), ([9], [9]), ([9, 10], [9, 10]), ([11, 9], [11]), ([12], [12]), ([13, 12], [12, 13]), ([12, 14], [12, 14]), ([15, 12], [15]), ([16], [16]), ([17, 16], [16, 17]), ([16, 18], [16, 18]), ([19, 16], [19]), ([20], [20]), ([21, 20], [20, 21]), ([20, 22], [20, 22]), ([23, 20], [23]), ([24], [24]), ([24, 25], [24, 25]), ([26, 24], [26]), ([27], [27]), ([27, 27], [27]), ([27], [27]), ([28, 29, 30, 29, 27], [27, 28, 29, 30]), ([31, 27], [27, 31]), ([27, 32], [27, 32]), ([33, 31], [33]), ([34], [34]), ([34, 34], [34]), ([34], [34]), ([35, 36, 37, 36, 34], [34, 35, 36, 37]), ([38, 34], [34, 38]), ([34, 39], [34, 39])])
def headgatelaw19_HeldKnown.B15 : List Nat := [0, 0, 2, 6, 15, 31, 63, 127, 255, 511, 1023, 2047, 4095, 8191, 16383, 32767, 65535, 131071, 262143, 524287, 1048575, 2097151, 4194303, 8388607, 16777215, 33554431, 67108863, 134217727, 268435455, 268435455, 268435455, 2147483647, 4294967295, 8589934591, 17179869183, 34359738367, 34359738367, 34359738367, 274877906943, 549755813887, 1099511627775]
theorem headgatelaw19_HeldKnown.tab15 : rtab .any (opsOf Try.f8 15) = headgatelaw19_HeldKnown.T15 := by kernel_rfl
theorem headgatelaw19_HeldKnown.bits15 : waitsOk headgatelaw19_HeldKnown.T15.2 headgatelaw19_HeldKnown.B15 = true := by kernel_rfl
def headgatelaw19_HeldKnown.T20 : Bool × List (List Nat × List Nat) := (true, [([], []), ([], []), ([1], [1]), ([2], [2]), ([0, 3], [0, 3]), ([4, 1], [4]), ([5], [5]), ([5, 5], [5]), ([7, 5], [5, 7]), ([5], [5]), ([6, 8, 9, 7, 5], [5, 6, 8, 9]), ([5, 10], [5, 10]), ([11, 10], [11]), ([12], [12]), ([13, 12], [12, 13]), ([12, 14], [12, 14]), ([15, 12], [15]), ([16], [16]), ([17, 16], [16, 17]), ([16, 18], [16, 18]), ([19, 16], [19]), ([20], [20]), ([20], [20]), ([21, 22, 20, 20], [20, 21, 22]), ([20, 23], [20, 23]), ([24, 23], [24]), ([25], [25]), ([26, 25], [25, 26]), ([25, 27], [25, 27]), ([28, 25], [28]), ([29, 29], [29]), ([29, 30], [29, 30]), ([31, 30, 0, 1, 2, 3, 4, 5, 6, 7, 8, 9, 10, 11, 12, 13, 14, 15, 16, 17, 18, 19, 20, 21, 22, 23, 24, 25, 26, 27, 28, 29, 30, 31], [31])])
def headgatelaw19_HeldKnown.B20 : List Nat := [0, 0, 2, 6, 15, 31, 63, 63, 191, 63, 1023, 2047, 4095, 8191, 16383, 32767, 65535, 131071, 262143, 524287, 1048575, 2097151, 2097151, 8388607, 16777215, 33554431, 67108863, 134217727, 268435455, 536870911, 1073741823, 2147483647, 4294967295]
theorem headgatelaw19_HeldKnown.tab20 : rtab .any (opsOf Try.f8 20) = headgatelaw19_HeldKnown.T20 := by kernel_rfl
theorem headgatelaw19_HeldKnown.bits20 : waitsOk headgatelaw19_HeldKnown.T20.2 headgatelaw19_HeldKnown.B20 = true := by kernel_rfl
set_option maxHeartbeats 4000000 in
set_option maxRecDepth 100000 in
theorem headgatelaw19_HeldKnown.calls (r : Bool) (w : World) (h : headgatelaw19_HeldKnown.f = some r) :
  Calls Try.prog 8 #[] w fun e w' => e = .returned (.bool r) ∧ Below w.heap.size w w' := by
 obtain rfl := Option.some.inj h
 have HB := Aside0.mk (Below.refl w.heap.size w)
 have hu32 := Try.underlying32
 go_enter Try.func8, Try.ntmps8
 go_wp2_with fail
 refine (headgatelaw19_two.calls 0 ([(⟨3, 40, 0⟩ : S32), (⟨5, 41, 0⟩ : S32)] : List (S32)) _ (by first | decide +kernel | kernel_rfl)).mono ?_
 rintro e w1 ⟨v1, rfl, ho1, hb⟩
 replace HB := Aside0.mk (below_step (by repeat (first | (with_reducible first | exact HB.out | apply below_alloc | apply pw_below_drewN | apply below_drew1) | exact HB.out)) hb)
 obtain ⟨A1, c1, rfl, l1, h1⟩ := IsRow.of ho1
 have H1 := Aside0.mk h1
 clear h1 ho1
 clear hb
 go_wp2_with fail
 refine (held_Add.calls _ _ ([(⟨3, 40, 0⟩ : S32), (⟨5, 41, 0⟩ : S32)] : List (S32)) 3 42 ([] : List (S32)) 7 _ ?s0 ?t0 (by first | decide +kernel | kernel_rfl)).mono ?_
 case s0 => repeat (first | exact H1.out | (with_reducible refine Kd.C_alloc ?_ _) | (with_reducible refine Kd.C_drewN ?_ _) | (with_reducible refine Kd.C_drew ?_))
 case t0 => exact l1
 rintro e w2 ⟨v2, rfl, ho2, hb⟩
 clear H1
 replace HB := Aside0.mk (below_step (by repeat (first | (with_reducible first | exact HB.out | apply below_alloc | apply pw_below_drewN | apply below_drew1) | exact HB.out)) hb)
 obtain ⟨A2, c2, rfl, l2, h2⟩ := IsRow.of ho2
 clear h2 ho2
 clear hb
 go_wp2_with fail
 refine (headgatelaw19_two.calls 0 ([(⟨3, 40, 0⟩ : S32), (⟨5, 41, 0⟩ : S32)] : List (S32)) _ (by first | decide +kernel | kernel_rfl)).mono ?_
 rintro e w3 ⟨v3, rfl, ho3, hb⟩
 replace HB := Aside0.mk (below_step (by repeat (first | (with_reducible first | exact HB.out | apply below_alloc | apply pw_below_drewN | apply below_drew1) | exact HB.out)) hb)
 obtain ⟨A3, c3, rfl, l3, h3⟩ := IsRow.of ho3
 have H3 := Aside0.mk h3
 clear h3 ho3
 clear hb
 go_wp2_with fail
 refine (held_Add.calls _ _ ([(⟨3, 40, 0⟩ : S32), (⟨5, 41, 0⟩ : S32)] : List (S32)) 6 41 ([] : List (S32)) 7 _ ?s0 ?t0 (by first | decide +kernel | kernel_rfl)).mono ?_
 case s0 => repeat (first | exact H3.out | (with_reducible refine Kd.C_alloc ?_ _) | (with_reducible refine Kd.C_drewN ?_ _) | (with_reducible refine Kd.C_drew ?_))
 case t0 => exact l3
 rintro e w4 ⟨v4, rfl, ho4, hb⟩
 clear H3
 replace HB := Aside0.mk (below_step (by repeat (first | (with_reducible first | exact HB.out | apply below_alloc | apply pw_below_drewN | apply below_drew1) | exact HB.out)) hb)
 obtain ⟨A4, c4, rfl, l4, h4⟩ := IsRow.of ho4
 clear h4 ho4
 clear hb
 go_wp2_with fail
 refine (headgatelaw19_two.calls 0 ([(⟨3, 40, 0⟩ : S32), (⟨5, 41, 0⟩ : S32)] : List (S32)) _ (by first | decide +kernel | kernel_rfl)).mono ?_
 rintro e w5 ⟨v5, rfl, ho5, hb⟩
 replace HB := Aside0.mk (below_step (by repeat (first | (with_reducible first | exact HB.out | apply below_alloc | apply pw_below_drewN | apply below_drew1) | exact HB.out)) hb)
 obtain ⟨A5, c5, rfl, l5, h5⟩ := IsRow.of ho5
 have H5 := Aside0.mk h5
 clear h5 ho5
 clear hb
 go_wp2_with fail
 refine (held_Add.calls _ _ ([(⟨3, 40, 0⟩ : S32), (⟨5, 41, 0⟩ : S32)] : List (S32)) 256 1 ([] : List (S32)) 2 _ ?s0 ?t0 (by first | decide +kernel | kernel_rfl)).mono ?_
 case s0 => repeat (first | exact H5.out | (with_reducible refine Kd.C_alloc ?_ _) | (with_reducible refine Kd.C_drewN ?_ _) | (with_reducible refine Kd.C_drew ?_))
 case t0 => exact l5
 rintro e w6 ⟨v6, rfl, ho6, hb⟩
 clear H5
 replace HB := Aside0.mk (below_step (by repeat (first | (with_reducible first | exact HB.out | apply below_alloc | apply pw_below_drewN | apply below_drew1) | exact HB.out)) hb)
 obtain ⟨A6, c6, rfl, l6, h6⟩ := IsRow.of ho6
 clear h6 ho6
 clear hb
 go_wp2_with fail
 refine (headgatelaw19_two.calls 2 ([(⟨3, 40, 0⟩ : S32), (⟨5, 41, 2⟩ : S32)] : List (S32)) _ (by first | decide +kernel | kernel_rfl)).mono ?_
 rintro e w7 ⟨v7, rfl, ho7, hb⟩
 replace HB := Aside0.mk (below_step (by repeat (first | (with_reducible first | exact HB.out | apply below_alloc | apply pw_below_drewN | apply below_drew1) | exact HB.out)) hb)
 obtain ⟨A7, c7, rfl, l7, h7⟩ := IsRow.of ho7
 have H7 := Aside0.mk h7
 clear h7 ho7
 clear hb
 go_wp2_with fail
 refine (held_Claim.calls _ _ ([(⟨3, 40, 0⟩ : S32), (⟨5, 41, 2⟩ : S32)] : List (S32)) 3 2 ([] : List (S32)) 7 _ ?s0 ?t0 (by first | decide +kernel | kernel_rfl)).mono ?_
 case s0 => repeat (first | exact H7.out | (with_reducible refine Kd.C_alloc ?_ _) | (with_reducible refine Kd.C_drewN ?_ _) | (with_reducible refine Kd.C_drew ?_))
 case t0 => exact l7
 rintro e w8 ⟨v8, rfl, ho8, hb⟩
 clear H7
 replace HB := Aside0.mk (below_step (by repeat (first | (with_reducible first | exact HB.out | apply below_alloc | apply pw_below_drewN | apply below_drew1) | exact HB.out)) hb)
 obtain ⟨A8, c8, rfl, l8, h8⟩ := IsRow.of ho8
 clear h8 ho8
 clear hb
 go_wp2_with fail
 refine (headgatelaw19_two.calls 2 ([(⟨3, 40, 0⟩ : S32), (⟨5, 41, 2⟩ : S32)] : List (S32)) _ (by first | decide +kernel | kernel_rfl)).mono ?_
 rintro e w9 ⟨v9, rfl, ho9, hb⟩
 replace HB := Aside0.mk (below_step (by repeat (first | (with_reducible first | exact HB.out | apply below_alloc | apply pw_below_drewN | apply below_drew1) | exact HB.out)) hb)
 obtain ⟨A9, c9, rfl, l9, h9⟩ := IsRow.of ho9
 have H9 := Aside0.mk h9
 clear h9 ho9
 clear hb
 go_wp2_with fail
 refine (held_Claim.calls _ _ ([(⟨3, 40, 0⟩ : S32), (⟨5, 41, 2⟩ : S32)] : List (S32)) 5 1 ([] : List (S32)) 9 _ ?s0 ?t0 (by first | decide +kernel | kernel_rfl)).mono ?_
 case s0 => repeat (first | exact H9.out | (with_reducible refine Kd.C_alloc ?_ _) | (with_reducible refine Kd.C_drewN ?_ _) | (with_reducible refine Kd.C_drew ?_))
 case t0 => exact l9
 rintro e w10 ⟨v10, rfl, ho10, hb⟩
 clear H9
 replace HB := Aside0.mk (below_step (by repeat (first | (with_reducible first | exact HB.out | apply below_alloc | apply pw_below_drewN | apply below_drew1) | exact HB.out)) hb)
 obtain ⟨A10, c10, rfl, l10, h10⟩ := IsRow.of ho10
 clear h10 ho10
 clear hb
 go_wp2_with fail
 refine (headgatelaw19_two.calls 2 ([(⟨3, 40, 0⟩ : S32), (⟨5, 41, 2⟩ : S32)] : List (S32)) _ (by first | decide +kernel | kernel_rfl)).mono ?_
 rintro e w11 ⟨v11, rfl, ho11, hb⟩
 replace HB := Aside0.mk (below_step (by repeat (first | (with_reducible first | exact HB.out | apply below_alloc | apply pw_below_drewN | apply below_drew1) | exact HB.out)) hb)
 obtain ⟨A11, c11, rfl, l11, h11⟩ := IsRow.of ho11
 have H11 := Aside0.mk h11
 clear h11 ho11
 clear hb
 go_wp2_with fail
 refine (held_Claim.calls _ _ ([(⟨3, 40, 0⟩ : S32), (⟨5, 41, 2⟩ : S32)] : List (S32)) 4 1 ([] : List (S32)) 6 _ ?s0 ?t0 (by first | decide +kernel | kernel_rfl)).mono ?_
 case s0 => repeat (first | exact H11.out | (with_reducible refine Kd.C_alloc ?_ _) | (with_reducible refine Kd.C_drewN ?_ _) | (with_reducible refine Kd.C_drew ?_))
 case t0 => exact l11
 rintro e w12 ⟨v12, rfl, ho12, hb⟩
 clear H11
 replace HB := Aside0.mk (below_step (by repeat (first | (with_reducible first | exact HB.out | apply below_alloc | apply pw_below_drewN | apply below_drew1) | exact HB.out)) hb)
 obtain ⟨A12, c12, rfl, l12, h12⟩ := IsRow.of ho12
 clear h12 ho12
 clear hb
 go_wp2_with fail
 refine (headgatelaw19_two.calls 2 ([(⟨3, 40, 0⟩ : S32), (⟨5, 41, 2⟩ : S32)] : List (S32)) _ (by first | decide +kernel | kernel_rfl)).mono ?_
 rintro e w13 ⟨v13, rfl, ho13, hb⟩
 replace HB := Aside0.mk (below_step (by repeat (first | (with_reducible first | exact HB.out | apply below_alloc | apply pw_below_drewN | apply below_drew1) | exact HB.out)) hb)
 obtain ⟨A13, c13, rfl, l13, h13⟩ := IsRow.of ho13
 have H13 := Aside0.mk h13
 clear h13 ho13
 clear hb
 go_wp2_with fail
 refine (held_Of.calls _ _ ([(⟨3, 40, 0⟩ : S32), (⟨5, 41, 2⟩ : S32)] : List (S32)) 2 5 41 2 true 0 _ ?s0 ?t0 (by first | decide +kernel | kernel_rfl)).mono ?_
 case s0 => repeat (first | exact H13.out | (with_reducible refine Kd.C_alloc ?_ _) | (with_reducible refine Kd.C_drewN ?_ _) | (with_reducible refine Kd.C_drew ?_))
 case t0 => exact l13
 rintro e w14 ⟨rfl, hb⟩
 clear H13
 replace HB := Aside0.mk (below_step (by repeat (first | (with_reducible first | exact HB.out | apply below_alloc | apply pw_below_drewN | apply below_drew1) | exact HB.out)) hb)
 clear hb
 go_wp2_with fail
 refine (headgatelaw19_two.calls 2 ([(⟨3, 40, 0⟩ : S32), (⟨5, 41, 2⟩ : S32)] : List (S32)) _ (by first | decide +kernel | kernel_rfl)).mono ?_
 rintro e w15 ⟨v15, rfl, ho15, hb⟩
 have BK14 : Aside0 (w15.heap[w14.heap.size]? = some (.cells #[.int .i64 5, .int .i64 41, .int .i64 2] 32 (0, 0))) := ⟨blk_below (by repeat (first | exact blk_newb _ _ _ (by simp) | refine blk_alloc ?_ _)) hb⟩
 have GE14 : Aside0 (w.heap.size ≤ w14.heap.size) := ⟨by have := HB.out.size; omega⟩
 replace HB := Aside0.mk (below_step (by repeat (first | (with_reducible first | exact HB.out | apply below_alloc | apply pw_below_drewN | apply below_drew1) | exact HB.out)) hb)
 obtain ⟨A15, c15, rfl, l15, h15⟩ := IsRow.of ho15
 have H15 := Aside0.mk h15
 clear h15 ho15
 clear hb
 go_wp2_with fail
 refine (held_Of.calls _ _ ([(⟨3, 40, 0⟩ : S32), (⟨5, 41, 2⟩ : S32)] : List (S32)) 1 0 0 0 false 0 _ ?s0 ?t0 (by first | decide +kernel | kernel_rfl)).mono ?_
 case s0 => repeat (first | exact H15.out | (with_reducible refine Kd.C_alloc ?_ _) | (with_reducible refine Kd.C_drewN ?_ _) | (with_reducible refine Kd.C_drew ?_))
 case t0 => exact l15
 rintro e w16 ⟨rfl, hb⟩
 clear H15
 have LT14 := Aside0.mk (Array.getElem?_eq_some_iff.1 BK14.out).1
 replace BK14 : Aside0 (w16.heap[w14.heap.size]? = some (.cells #[.int .i64 5, .int .i64 41, .int .i64 2] 32 (0, 0))) := ⟨blk_below (by (with_reducible repeat (first | refine blk_drewN ?_ _ | refine blk_drew ?_ | refine blk_alloc ?_ _)); exact BK14.out) hb⟩
 replace HB := Aside0.mk (below_step (by repeat (first | (with_reducible first | exact HB.out | apply below_alloc | apply pw_below_drewN | apply below_drew1) | exact HB.out)) hb)
 clear hb
 go_wp2_with fail
 refine (headgatelaw19_two.calls 2 ([(⟨3, 40, 0⟩ : S32), (⟨5, 41, 2⟩ : S32)] : List (S32)) _ (by first | decide +kernel | kernel_rfl)).mono ?_
 rintro e w17 ⟨v17, rfl, ho17, hb⟩
 have LT14 := Aside0.mk (Array.getElem?_eq_some_iff.1 BK14.out).1
 replace BK14 : Aside0 (w17.heap[w14.heap.size]? = some (.cells #[.int .i64 5, .int .i64 41, .int .i64 2] 32 (0, 0))) := ⟨blk_below (by (with_reducible repeat (first | refine blk_drewN ?_ _ | refine blk_drew ?_ | refine blk_alloc ?_ _)); exact BK14.out) hb⟩
 replace HB := Aside0.mk (below_step (by repeat (first | (with_reducible first | exact HB.out | apply below_alloc | apply pw_below_drewN | apply below_drew1) | exact HB.out)) hb)
 obtain ⟨A17, c17, rfl, l17, h17⟩ := IsRow.of ho17
 have H17 := Aside0.mk h17
 clear h17 ho17
 clear hb
 go_wp2_with fail
 refine (held_Unclaim.calls _ _ ([(⟨3, 40, 0⟩ : S32), (⟨5, 41, 2⟩ : S32)] : List (S32)) 2 ([(⟨3, 40, 0⟩ : S32), (⟨5, 41, 0⟩ : S32)] : List (S32)) true 0 _ ?s0 ?t0 (by first | decide +kernel | kernel_rfl)).mono ?_
 case s0 => repeat (first | exact H17.out | (with_reducible refine Kd.C_alloc ?_ _) | (with_reducible refine Kd.C_drewN ?_ _) | (with_reducible refine Kd.C_drew ?_))
 case t0 => exact l17
 rintro e w18 ⟨v18, rfl, ho18, hb⟩
 clear H17
 have LT14 := Aside0.mk (Array.getElem?_eq_some_iff.1 BK14.out).1
 replace BK14 : Aside0 (w18.heap[w14.heap.size]? = some (.cells #[.int .i64 5, .int .i64 41, .int .i64 2] 32 (0, 0))) := ⟨blk_below (by (with_reducible repeat (first | refine blk_drewN ?_ _ | refine blk_drew ?_ | refine blk_alloc ?_ _)); exact BK14.out) hb⟩
 replace HB := Aside0.mk (below_step (by repeat (first | (with_reducible first | exact HB.out | apply below_alloc | apply pw_below_drewN | apply below_drew1) | exact HB.out)) hb)
 obtain ⟨A18, c18, rfl, l18, h18⟩ := IsRow.of ho18
 have H18 := Aside0.mk h18
 clear h18 ho18
 clear hb
 go_wp2_with fail
 refine (headgatelaw19_two.calls 2 ([(⟨3, 40, 0⟩ : S32), (⟨5, 41, 2⟩ : S32)] : List (S32)) _ (by first | decide +kernel | kernel_rfl)).mono ?_
 rintro e w19 ⟨v19, rfl, ho19, hb⟩
 replace H18 : Aside0 (Kd.C k32 w19 A18 ([(⟨3, 40, 0⟩ : S32), (⟨5, 41, 0⟩ : S32)] : List (S32)).length ([(⟨3, 40, 0⟩ : S32), (⟨5, 41, 0⟩ : S32)] : List (S32))) := ⟨Kd.C_below (by repeat (first | exact H18.out | (with_reducible refine Kd.C_alloc ?_ _) | (with_reducible refine Kd.C_drewN ?_ _) | (with_reducible refine Kd.C_drew ?_))) hb⟩
 have LT14 := Aside0.mk (Array.getElem?_eq_some_iff.1 BK14.out).1
 replace BK14 : Aside0 (w19.heap[w14.heap.size]? = some (.cells #[.int .i64 5, .int .i64 41, .int .i64 2] 32 (0, 0))) := ⟨blk_below (by (with_reducible repeat (first | refine blk_drewN ?_ _ | refine blk_drew ?_ | refine blk_alloc ?_ _)); exact BK14.out) hb⟩
 replace HB := Aside0.mk (below_step (by repeat (first | (with_reducible first | exact HB.out | apply below_alloc | apply pw_below_drewN | apply below_drew1) | exact HB.out)) hb)
 obtain ⟨A19, c19, rfl, l19, h19⟩ := IsRow.of ho19
 have H19 := Aside0.mk h19
 clear h19 ho19
 clear hb
 go_wp2_with fail
 refine (held_Unclaim.calls _ _ ([(⟨3, 40, 0⟩ : S32), (⟨5, 41, 2⟩ : S32)] : List (S32)) 1 ([(⟨3, 40, 0⟩ : S32), (⟨5, 41, 2⟩ : S32)] : List (S32)) false 0 _ ?s0 ?t0 (by first | decide +kernel | kernel_rfl)).mono ?_
 case s0 => repeat (first | exact H19.out | (with_reducible refine Kd.C_alloc ?_ _) | (with_reducible refine Kd.C_drewN ?_ _) | (with_reducible refine Kd.C_drew ?_))
 case t0 => exact l19
 rintro e w20 ⟨v20, rfl, ho20, hb⟩
 replace H18 : Aside0 (Kd.C k32 w20 A18 ([(⟨3, 40, 0⟩ : S32), (⟨5, 41, 0⟩ : S32)] : List (S32)).length ([(⟨3, 40, 0⟩ : S32), (⟨5, 41, 0⟩ : S32)] : List (S32))) := ⟨Kd.C_below (by repeat (first | exact H18.out | (with_reducible refine Kd.C_alloc ?_ _) | (with_reducible refine Kd.C_drewN ?_ _) | (with_reducible refine Kd.C_drew ?_))) hb⟩
 clear H19
 have LT14 := Aside0.mk (Array.getElem?_eq_some_iff.1 BK14.out).1
 replace BK14 : Aside0 (w20.heap[w14.heap.size]? = some (.cells #[.int .i64 5, .int .i64 41, .int .i64 2] 32 (0, 0))) := ⟨blk_below (by (with_reducible repeat (first | refine blk_drewN ?_ _ | refine blk_drew ?_ | refine blk_alloc ?_ _)); exact BK14.out) hb⟩
 replace HB := Aside0.mk (below_step (by repeat (first | (with_reducible first | exact HB.out | apply below_alloc | apply pw_below_drewN | apply below_drew1) | exact HB.out)) hb)
 obtain ⟨A20, c20, rfl, l20, h20⟩ := IsRow.of ho20
 have H20 := Aside0.mk h20
 clear h20 ho20
 clear hb
 go_wp2_with fail
 refine shut_code 41 [93, 94, 95, 96, 97, 98, 99, 100, 101, 102, 103, 104, 105, 106, 107, 108, 109, 110, 111, 112, 113, 114, 115, 116, 117, 118, 119, 120, 121, 122, 123, 124, 125, 126, 127, 128, 129, 130, 131, 132, 133] [aggF [litF (.int .i64 5), litF (.int .i64 41), litF (.int .i64 2)], rowF k32 ([(⟨3, 40, 0⟩ : S32), (⟨5, 41, 2⟩ : S32)] : List (S32)), elemF [.int .i64 5, .int .i64 41, .int .i64 2], aggF [litF (.int .i64 5), litF (.int .i64 41), litF (.int .i64 2)], litF (.bool false), litF (.bool false), litF (.bool true), litF (.bool false), litF (.bool false), litF (.bool false), litF (.bool false), litF (.bool false), litF (.bool false), litF (.int .i64 0), litF (.bool false), litF (.bool false), litF (.bool false), litF (.int .i64 0), litF (.bool false), litF (.bool false), litF (.bool false), litF (.bool true), litF (.bool false), litF (.bool false), litF (.bool false), litF (.bool false), litF (.bool false), litF (.bool false), rowF k32 ([(⟨3, 40, 0⟩ : S32), (⟨5, 41, 0⟩ : S32)] : List (S32)), rowF k32 ([(⟨3, 40, 0⟩ : S32), (⟨5, 41, 0⟩ : S32)] : List (S32)), litF (.int .i64 0), litF (.bool true), litF (.bool false), litF (.bool false), litF (.bool false), rowF k32 ([(⟨3, 40, 0⟩ : S32), (⟨5, 41, 2⟩ : S32)] : List (S32)), rowF k32 ([(⟨3, 40, 0⟩ : S32), (⟨5, 41, 2⟩ : S32)] : List (S32)), litF (.int .i64 0), litF (.bool true), litF (.bool false), litF (.bool false)] (by kernel_rfl) rfl headgatelaw19_HeldKnown.tab15 headgatelaw19_HeldKnown.bits15 (by kernel_rfl) (by kernel_rfl) (by kernel_rfl) rfl (by kernel_rfl) ?_ ?_
 ·
  rw [show List.range 41 = [0, 1, 2, 3, 4, 5, 6, 7, 8, 9, 10, 11, 12, 13, 14, 15, 16, 17, 18, 19, 20, 21, 22, 23, 24, 25, 26, 27, 28, 29, 30, 31, 32, 33, 34, 35, 36, 37, 38, 39, 40] from rfl]
  refine opLaws_cons ?_ ?_
  ·
   intro a w' hB hoff hon
   refine ⟨_, rfl, fun K hK => ?_⟩
   have e7 : a.tmps[7]? = some (.pointer (some ⟨w14.heap.size, 0, none⟩)) := (hoff 7 (by kernel_rfl)).trans rfl
   have bk := blk_below BK14.out hB
   have z0 : w'.cell? ⟨_, 0, none⟩ = some (.int .i64 5) := (blk_cell bk 0).trans rfl
   have z1 : w'.cell? ⟨_, 1, none⟩ = some (.int .i64 41) := (blk_cell bk 1).trans rfl
   have z2 : w'.cell? ⟨_, 2, none⟩ = some (.int .i64 2) := (blk_cell bk 2).trans rfl
   refine value_ (w1 := w') (v := .agg #[.int .i64 5, .int .i64 41, .int .i64 2]) (by rfl) rfl ?_ ?_
   ·
    go_simp; try rfl
   exact hK.out _ _ _ rfl ⟨_, rfl, ⟨_, _, rfl, rfl, ⟨_, _, rfl, rfl, ⟨_, _, rfl, rfl, rfl⟩⟩⟩⟩ (Below.refl _ _)
  refine opLaws_cons ?_ ?_
  ·
   intro a w' hB hoff hon
   refine ⟨_, rfl, fun K hK => ?_⟩
   refine goes_ Try.func32 (by kernel_rfl) rfl #[.int .i64 2] (by rfl) rfl rfl (by first | (simp only [List.map_toArray, List.map_cons, List.map_nil, Act.eval, Array.getD_eq_getD_getElem?, Option.getD_some, id]; done) | (simp only [List.map_toArray, List.map_cons, List.map_nil, Act.eval, Array.getD_eq_getD_getElem?, Option.getD_some, id]; rfl) | rfl) ?_
   refine (headgatelaw19_two.calls 2 ([(⟨3, 40, 0⟩ : S32), (⟨5, 41, 2⟩ : S32)] : List (S32)) _ (by first | decide +kernel | kernel_rfl)).mono ?_
   rintro e w2 ⟨v21, rfl, ho21, hb⟩
   exact ⟨_, rfl, hK.out _ _ _ rfl (IsRow.of ho21) hb⟩
  refine opLaws_cons ?_ ?_
  ·
   intro a w' hB hoff hon
   refine ⟨_, rfl, fun K hK => ?_⟩
   obtain ⟨x94, e94, f94⟩ := hon 1 94 _ (by kernel_rfl) rfl rfl
   obtain ⟨A21x, c21x, rfl, l21x, h21x⟩ := f94
   obtain ⟨ad, hA, y22_0, y22_1, y22_2⟩ := at_T32 h21x 1 (by decide) (by decide)
   subst hA
   refine value_ (w1 := w') (v := .pointer (some (ad.add (1 * 3)))) (by rfl) rfl ?_ ?_
   ·
    go_simp; try rfl
   exact hK.out _ _ _ rfl ⟨_, rfl, y22_0, y22_1, y22_2, trivial⟩ (Below.refl _ _)
  refine opLaws_cons ?_ ?_
  ·
   intro a w' hB hoff hon
   refine ⟨_, rfl, fun K hK => ?_⟩
   obtain ⟨x95, e95, f95⟩ := hon 2 95 _ (by kernel_rfl) rfl rfl
   obtain ⟨p22, rfl, y22_0, y22_1, y22_2, -⟩ := f95
   refine value_ (w1 := w') (v := .agg #[.int .i64 5, .int .i64 41, .int .i64 2]) (by rfl) rfl ?_ ?_
   ·
    go_simp; try rfl
   exact hK.out _ _ _ rfl ⟨_, rfl, ⟨_, _, rfl, rfl, ⟨_, _, rfl, rfl, ⟨_, _, rfl, rfl, rfl⟩⟩⟩⟩ (Below.refl _ _)
  refine opLaws_cons ?_ ?_
  ·
   intro a w' hB hoff hon
   refine ⟨_, rfl, fun K hK => ?_⟩
   obtain ⟨x93, e93, f93⟩ := hon 0 93 _ (by kernel_rfl) rfl rfl
   obtain ⟨_, rfl, ⟨_, _, rfl, rfl, ⟨_, _, rfl, rfl, ⟨_, _, rfl, rfl, rfl⟩⟩⟩⟩ := f93
   obtain ⟨x96, e96, f96⟩ := hon 3 96 _ (by kernel_rfl) rfl rfl
   obtain ⟨_, rfl, ⟨_, _, rfl, rfl, ⟨_, _, rfl, rfl, ⟨_, _, rfl, rfl, rfl⟩⟩⟩⟩ := f96
   refine value_ (w1 := w') (v := .bool false) (by rfl) rfl ?_ ?_
   ·
    go_simp; try rfl
   exact hK.out _ _ _ rfl rfl (Below.refl _ _)
  refine opLaws_cons ?_ ?_
  ·
   intro a w' hB hoff hon
   refine ⟨_, rfl, fun K hK => ?_⟩
   obtain ⟨x97, e97, f97⟩ := hon 4 97 _ (by kernel_rfl) rfl rfl
   replace f97 : x97 = .bool false := f97
   subst f97
   refine value_ (w1 := w') (v := .bool false) (by rfl) rfl ?_ ?_
   ·
    go_simp; try rfl
   exact hK.out _ _ _ rfl rfl (Below.refl _ _)
  refine opLaws_cons ?_ ?_
  ·
   intro a w' hB hoff hon
   refine ⟨_, rfl, fun K hK => ?_⟩
   have e8 : a.tmps[8]? = some (.bool true) := (hoff 8 (by kernel_rfl)).trans rfl
   obtain ⟨x98, e98, f98⟩ := hon 5 98 _ (by kernel_rfl) rfl rfl
   replace f98 : x98 = .bool false := f98
   subst f98
   refine value_ (w1 := w') (v := .bool true) (wanted_on rfl rfl rfl e98) rfl ?_ ?_
   ·
    go_simp; try rfl
   exact hK.out _ _ _ rfl rfl (Below.refl _ _)
  refine opLaws_cons ?_ ?_
  ·
   intro a w' hB hoff hon
   refine ⟨_, rfl, fun K hK => ?_⟩
   obtain ⟨x99, e99, f99⟩ := hon 6 99 _ (by kernel_rfl) rfl rfl
   replace f99 : x99 = .bool true := f99
   subst f99
   obtain ⟨x98, e98, f98⟩ := hon 5 98 _ (by kernel_rfl) rfl rfl
   replace f98 : x98 = .bool false := f98
   subst f98
   refine value_ (w1 := w') (v := .bool false) (wanted_on rfl rfl rfl e98) rfl ?_ ?_
   ·
    go_simp; try rfl
   exact hK.out _ _ _ rfl rfl (Below.refl _ _)
  refine opLaws_cons ?_ ?_
  ·
   intro a w' hB hoff hon
   refine ⟨_, rfl, fun K hK => ?_⟩
   obtain ⟨x98, e98, f98⟩ := hon 5 98 _ (by kernel_rfl) rfl rfl
   replace f98 : x98 = .bool false := f98
   subst f98
   obtain ⟨x100, e100, f100⟩ := hon 7 100 _ (by kernel_rfl) rfl rfl
   replace f100 : x100 = .bool false := f100
   subst f100
   refine value_ (w1 := w') (v := .bool false) (by rfl) rfl ?_ ?_
   ·
    go_simp; try rfl
   exact hK.out _ _ _ rfl rfl (Below.refl _ _)
  refine opLaws_cons ?_ ?_
  ·
   intro a w' hB hoff hon
   refine ⟨_, rfl, fun K hK => ?_⟩
   obtain ⟨x101, e101, f101⟩ := hon 8 101 _ (by kernel_rfl) rfl rfl
   replace f101 : x101 = .bool false := f101
   subst f101
   refine value_ (w1 := w') (v := .bool false) (by rfl) rfl ?_ ?_
   ·
    go_simp; try rfl
   exact hK.out _ _ _ rfl rfl (Below.refl _ _)
  refine opLaws_cons ?_ ?_
  ·
   intro a w' hB hoff hon
   refine ⟨_, rfl, fun K hK => ?_⟩
   have e10 : a.tmps[10]? = some (.bool false) := (hoff 10 (by kernel_rfl)).trans rfl
   obtain ⟨x102, e102, f102⟩ := hon 9 102 _ (by kernel_rfl) rfl rfl
   replace f102 : x102 = .bool false := f102
   subst f102
   refine value_ (w1 := w') (v := .bool false) (wanted_on rfl rfl rfl e102) rfl ?_ ?_
   ·
    go_simp; try rfl
   exact hK.out _ _ _ rfl rfl (Below.refl _ _)
  refine opLaws_cons ?_ ?_
  ·
   intro a w' hB hoff hon
   refine ⟨_, rfl, fun K hK => ?_⟩
   obtain ⟨x102, e102, f102⟩ := hon 9 102 _ (by kernel_rfl) rfl rfl
   replace f102 : x102 = .bool false := f102
   subst f102
   obtain ⟨x103, e103, f103⟩ := hon 10 103 _ (by kernel_rfl) rfl rfl
   replace f103 : x103 = .bool false := f103
   subst f103
   refine value_ (w1 := w') (v := .bool false) (by rfl) rfl ?_ ?_
   ·
    go_simp; try rfl
   exact hK.out _ _ _ rfl rfl (Below.refl _ _)
  refine opLaws_cons ?_ ?_
  ·
   intro a w' hB hoff hon
   refine ⟨_, rfl, fun K hK => ?_⟩
   obtain ⟨x104, e104, f104⟩ := hon 11 104 _ (by kernel_rfl) rfl rfl
   replace f104 : x104 = .bool false := f104
   subst f104
   refine value_ (w1 := w') (v := .bool false) (by rfl) rfl ?_ ?_
   ·
    go_simp; try rfl
   exact hK.out _ _ _ rfl rfl (Below.refl _ _)
  refine opLaws_cons ?_ ?_
  ·
   intro a w' hB hoff hon
   refine ⟨_, rfl, fun K hK => ?_⟩
   have e2 : a.tmps[2]? = some (.int .i64 0) := (hoff 2 (by kernel_rfl)).trans rfl
   obtain ⟨x105, e105, f105⟩ := hon 12 105 _ (by kernel_rfl) rfl rfl
   replace f105 : x105 = .bool false := f105
   subst f105
   refine value_ (w1 := w') (v := .int .i64 0) (wanted_on rfl rfl rfl e105) rfl ?_ ?_
   ·
    go_simp; try rfl
   exact hK.out _ _ _ rfl rfl (Below.refl _ _)
  refine opLaws_cons ?_ ?_
  ·
   intro a w' hB hoff hon
   refine ⟨_, rfl, fun K hK => ?_⟩
   obtain ⟨x106, e106, f106⟩ := hon 13 106 _ (by kernel_rfl) rfl rfl
   replace f106 : x106 = .int .i64 0 := f106
   subst f106
   obtain ⟨x105, e105, f105⟩ := hon 12 105 _ (by kernel_rfl) rfl rfl
   replace f105 : x105 = .bool false := f105
   subst f105
   refine value_ (w1 := w') (v := .bool false) (wanted_on rfl rfl rfl e105) rfl ?_ ?_
   ·
    go_simp; try rfl
   exact hK.out _ _ _ rfl rfl (Below.refl _ _)
  refine opLaws_cons ?_ ?_
  ·
   intro a w' hB hoff hon
   refine ⟨_, rfl, fun K hK => ?_⟩
   obtain ⟨x105, e105, f105⟩ := hon 12 105 _ (by kernel_rfl) rfl rfl
   replace f105 : x105 = .bool false := f105
   subst f105
   obtain ⟨x107, e107, f107⟩ := hon 14 107 _ (by kernel_rfl) rfl rfl
   replace f107 : x107 = .bool false := f107
   subst f107
   refine value_ (w1 := w') (v := .bool false) (by rfl) rfl ?_ ?_
   ·
    go_simp; try rfl
   exact hK.out _ _ _ rfl rfl (Below.refl _ _)
  refine opLaws_cons ?_ ?_
  ·
   intro a w' hB hoff hon
   refine ⟨_, rfl, fun K hK => ?_⟩
   obtain ⟨x108, e108, f108⟩ := hon 15 108 _ (by kernel_rfl) rfl rfl
   replace f108 : x108 = .bool false := f108
   subst f108
   refine value_ (w1 := w') (v := .bool false) (by rfl) rfl ?_ ?_
   ·
    go_simp; try rfl
   exact hK.out _ _ _ rfl rfl (Below.refl _ _)
  refine opLaws_cons ?_ ?_
  ·
   intro a w' hB hoff hon
   refine ⟨_, rfl, fun K hK => ?_⟩
   have e4 : a.tmps[4]? = some (.int .i64 0) := (hoff 4 (by kernel_rfl)).trans rfl
   obtain ⟨x109, e109, f109⟩ := hon 16 109 _ (by kernel_rfl) rfl rfl
   replace f109 : x109 = .bool false := f109
   subst f109
   refine value_ (w1 := w') (v := .int .i64 0) (wanted_on rfl rfl rfl e109) rfl ?_ ?_
   ·
    go_simp; try rfl
   exact hK.out _ _ _ rfl rfl (Below.refl _ _)
  refine opLaws_cons ?_ ?_
  ·
   intro a w' hB hoff hon
   refine ⟨_, rfl, fun K hK => ?_⟩
   obtain ⟨x110, e110, f110⟩ := hon 17 110 _ (by kernel_rfl) rfl rfl
   replace f110 : x110 = .int .i64 0 := f110
   subst f110
   obtain ⟨x109, e109, f109⟩ := hon 16 109 _ (by kernel_rfl) rfl rfl
   replace f109 : x109 = .bool false := f109
   subst f109
   refine value_ (w1 := w') (v := .bool false) (wanted_on rfl rfl rfl e109) rfl ?_ ?_
   ·
    go_simp; try rfl
   exact hK.out _ _ _ rfl rfl (Below.refl _ _)
  refine opLaws_cons ?_ ?_
  ·
   intro a w' hB hoff hon
   refine ⟨_, rfl, fun K hK => ?_⟩
   obtain ⟨x109, e109, f109⟩ := hon 16 109 _ (by kernel_rfl) rfl rfl
   replace f109 : x109 = .bool false := f109
   subst f109
   obtain ⟨x111, e111, f111⟩ := hon 18 111 _ (by kernel_rfl) rfl rfl
   replace f111 : x111 = .bool false := f111
   subst f111
   refine value_ (w1 := w') (v := .bool false) (by rfl) rfl ?_ ?_
   ·
    go_simp; try rfl
   exact hK.out _ _ _ rfl rfl (Below.refl _ _)
  refine opLaws_cons ?_ ?_
  ·
   intro a w' hB hoff hon
   refine ⟨_, rfl, fun K hK => ?_⟩
   obtain ⟨x112, e112, f112⟩ := hon 19 112 _ (by kernel_rfl) rfl rfl
   replace f112 : x112 = .bool false := f112
   subst f112
   refine value_ (w1 := w') (v := .bool false) (by rfl) rfl ?_ ?_
   ·
    go_simp; try rfl
   exact hK.out _ _ _ rfl rfl (Below.refl _ _)
  refine opLaws_cons ?_ ?_
  ·
   intro a w' hB hoff hon
   refine ⟨_, rfl, fun K hK => ?_⟩
   have e12 : a.tmps[12]? = some (.bool true) := (hoff 12 (by kernel_rfl)).trans rfl
   obtain ⟨x113, e113, f113⟩ := hon 20 113 _ (by kernel_rfl) rfl rfl
   replace f113 : x113 = .bool false := f113
   subst f113
   refine value_ (w1 := w') (v := .bool true) (wanted_on rfl rfl rfl e113) rfl ?_ ?_
   ·
    go_simp; try rfl
   exact hK.out _ _ _ rfl rfl (Below.refl _ _)
  refine opLaws_cons ?_ ?_
  ·
   intro a w' hB hoff hon
   refine ⟨_, rfl, fun K hK => ?_⟩
   obtain ⟨x114, e114, f114⟩ := hon 21 114 _ (by kernel_rfl) rfl rfl
   replace f114 : x114 = .bool true := f114
   subst f114
   obtain ⟨x113, e113, f113⟩ := hon 20 113 _ (by kernel_rfl) rfl rfl
   replace f113 : x113 = .bool false := f113
   subst f113
   refine value_ (w1 := w') (v := .bool false) (wanted_on rfl rfl rfl e113) rfl ?_ ?_
   ·
    go_simp; try rfl
   exact hK.out _ _ _ rfl rfl (Below.refl _ _)
  refine opLaws_cons ?_ ?_
  ·
   intro a w' hB hoff hon
   refine ⟨_, rfl, fun K hK => ?_⟩
   obtain ⟨x113, e113, f113⟩ := hon 20 113 _ (by kernel_rfl) rfl rfl
   replace f113 : x113 = .bool false := f113
   subst f113
   obtain ⟨x115, e115, f115⟩ := hon 22 115 _ (by kernel_rfl) rfl rfl
   replace f115 : x115 = .bool false := f115
   subst f115
   refine value_ (w1 := w') (v := .bool false) (by rfl) rfl ?_ ?_
   ·
    go_simp; try rfl
   exact hK.out _ _ _ rfl rfl (Below.refl _ _)
  refine opLaws_cons ?_ ?_
  ·
   intro a w' hB hoff hon
   refine ⟨_, rfl, fun K hK => ?_⟩
   obtain ⟨x116, e116, f116⟩ := hon 23 116 _ (by kernel_rfl) rfl rfl
   replace f116 : x116 = .bool false := f116
   subst f116
   refine value_ (w1 := w') (v := .bool false) (by rfl) rfl ?_ ?_
   ·
    go_simp; try rfl
   exact hK.out _ _ _ rfl rfl (Below.refl _ _)
  refine opLaws_cons ?_ ?_
  ·
   intro a w' hB hoff hon
   refine ⟨_, rfl, fun K hK => ?_⟩
   have e14 : a.tmps[14]? = some (.bool false) := (hoff 14 (by kernel_rfl)).trans rfl
   obtain ⟨x117, e117, f117⟩ := hon 24 117 _ (by kernel_rfl) rfl rfl
   replace f117 : x117 = .bool false := f117
   subst f117
   refine value_ (w1 := w') (v := .bool false) (wanted_on rfl rfl rfl e117) rfl ?_ ?_
   ·
    go_simp; try rfl
   exact hK.out _ _ _ rfl rfl (Below.refl _ _)
  refine opLaws_cons ?_ ?_
  ·
   intro a w' hB hoff hon
   refine ⟨_, rfl, fun K hK => ?_⟩
   obtain ⟨x117, e117, f117⟩ := hon 24 117 _ (by kernel_rfl) rfl rfl
   replace f117 : x117 = .bool false := f117
   subst f117
   obtain ⟨x118, e118, f118⟩ := hon 25 118 _ (by kernel_rfl) rfl rfl
   replace f118 : x118 = .bool false := f118
   subst f118
   refine value_ (w1 := w') (v := .bool false) (by rfl) rfl ?_ ?_
   ·
    go_simp; try rfl
   exact hK.out _ _ _ rfl rfl (Below.refl _ _)
  refine opLaws_cons ?_ ?_
  ·
   intro a w' hB hoff hon
   refine ⟨_, rfl, fun K hK => ?_⟩
   obtain ⟨x119, e119, f119⟩ := hon 26 119 _ (by kernel_rfl) rfl rfl
   replace f119 : x119 = .bool false := f119
   subst f119
   refine value_ (w1 := w') (v := .bool false) (by rfl) rfl ?_ ?_
   ·
    go_simp; try rfl
   exact hK.out _ _ _ rfl rfl (Below.refl _ _)
  refine opLaws_cons ?_ ?_
  ·
   intro a w' hB hoff hon
   refine ⟨_, rfl, fun K hK => ?_⟩
   have e11 : a.tmps[11]? = some (.slice A18 ([(⟨3, 40, 0⟩ : S32), (⟨5, 41, 0⟩ : S32)] : List (S32)).length c18) := (hoff 11 (by kernel_rfl)).trans rfl
   obtain ⟨x120, e120, f120⟩ := hon 27 120 _ (by kernel_rfl) rfl rfl
   replace f120 : x120 = .bool false := f120
   subst f120
   refine value_ (w1 := w') (v := .slice A18 ([(⟨3, 40, 0⟩ : S32), (⟨5, 41, 0⟩ : S32)] : List (S32)).length c18) (wanted_on rfl rfl rfl e120) rfl ?_ ?_
   ·
    go_simp; try rfl
   exact hK.out _ _ _ rfl ⟨_, _, rfl, l18, Kd.C_below H18.out hB⟩ (Below.refl _ _)
  refine opLaws_cons ?_ ?_
  ·
   intro a w' hB hoff hon
   refine ⟨_, rfl, fun K hK => ?_⟩
   obtain ⟨x120, e120, f120⟩ := hon 27 120 _ (by kernel_rfl) rfl rfl
   replace f120 : x120 = .bool false := f120
   subst f120
   refine goes_ Try.func32 (by kernel_rfl) rfl #[.int .i64 0] (wanted_on rfl rfl rfl e120) rfl rfl (by first | (simp only [List.map_toArray, List.map_cons, List.map_nil, Act.eval, Array.getD_eq_getD_getElem?, Option.getD_some, e120]; done) | (simp only [List.map_toArray, List.map_cons, List.map_nil, Act.eval, Array.getD_eq_getD_getElem?, Option.getD_some, e120]; rfl) | rfl) ?_
   refine (headgatelaw19_two.calls 0 ([(⟨3, 40, 0⟩ : S32), (⟨5, 41, 0⟩ : S32)] : List (S32)) _ (by first | decide +kernel | kernel_rfl)).mono ?_
   rintro e w2 ⟨v23, rfl, ho23, hb⟩
   exact ⟨_, rfl, hK.out _ _ _ rfl (IsRow.of ho23) hb⟩
  refine opLaws_cons ?_ ?_
  ·
   intro a w' hB hoff hon
   refine ⟨_, rfl, fun K hK => ?_⟩
   have e6 : a.tmps[6]? = some (.int .i64 0) := (hoff 6 (by kernel_rfl)).trans rfl
   obtain ⟨x120, e120, f120⟩ := hon 27 120 _ (by kernel_rfl) rfl rfl
   replace f120 : x120 = .bool false := f120
   subst f120
   refine value_ (w1 := w') (v := .int .i64 0) (wanted_on rfl rfl rfl e120) rfl ?_ ?_
   ·
    go_simp; try rfl
   exact hK.out _ _ _ rfl rfl (Below.refl _ _)
  refine opLaws_cons ?_ ?_
  ·
   intro a w' hB hoff hon
   refine ⟨_, rfl, fun K hK => ?_⟩
   obtain ⟨x121, e121, f121⟩ := hon 28 121 _ (by kernel_rfl) rfl rfl
   obtain ⟨A18x, c18x, rfl, l18x, h18x⟩ := f121
   obtain ⟨x122, e122, f122⟩ := hon 29 122 _ (by kernel_rfl) rfl rfl
   obtain ⟨A23x, c23x, rfl, l23x, h23x⟩ := f122
   obtain ⟨x123, e123, f123⟩ := hon 30 123 _ (by kernel_rfl) rfl rfl
   replace f123 : x123 = .int .i64 0 := f123
   subst f123
   obtain ⟨x120, e120, f120⟩ := hon 27 120 _ (by kernel_rfl) rfl rfl
   replace f120 : x120 = .bool false := f120
   subst f120
   refine goes_ Try.func16 (by kernel_rfl) rfl #[.slice A18x ([(⟨3, 40, 0⟩ : S32), (⟨5, 41, 0⟩ : S32)] : List (S32)).length c18x, .slice A23x ([(⟨3, 40, 0⟩ : S32), (⟨5, 41, 0⟩ : S32)] : List (S32)).length c23x, .int .i64 0] (wanted_on rfl rfl rfl e120) rfl rfl (by first | (simp only [List.map_toArray, List.map_cons, List.map_nil, Act.eval, Array.getD_eq_getD_getElem?, Option.getD_some, e121, e122, e123, e120]; done) | (simp only [List.map_toArray, List.map_cons, List.map_nil, Act.eval, Array.getD_eq_getD_getElem?, Option.getD_some, e121, e122, e123, e120]; rfl) | rfl) ?_
   refine (headgatelaw19_is.calls 60 _ _ ([(⟨3, 40, 0⟩ : S32), (⟨5, 41, 0⟩ : S32)] : List (S32)) _ _ ([(⟨3, 40, 0⟩ : S32), (⟨5, 41, 0⟩ : S32)] : List (S32)) 0 true _ h18x l18x h23x l23x (by first | decide +kernel | kernel_rfl)).mono ?_
   rintro e w2 ⟨rfl, ⟨nd, rfl⟩⟩
   have hb := pw_below_drewN (Below.refl w'.heap.size w') nd
   exact ⟨_, rfl, hK.out _ _ _ rfl rfl hb⟩
  refine opLaws_cons ?_ ?_
  ·
   intro a w' hB hoff hon
   refine ⟨_, rfl, fun K hK => ?_⟩
   obtain ⟨x124, e124, f124⟩ := hon 31 124 _ (by kernel_rfl) rfl rfl
   replace f124 : x124 = .bool true := f124
   subst f124
   obtain ⟨x120, e120, f120⟩ := hon 27 120 _ (by kernel_rfl) rfl rfl
   replace f120 : x120 = .bool false := f120
   subst f120
   refine value_ (w1 := w') (v := .bool false) (wanted_on rfl rfl rfl e120) rfl ?_ ?_
   ·
    go_simp; try rfl
   exact hK.out _ _ _ rfl rfl (Below.refl _ _)
  refine opLaws_cons ?_ ?_
  ·
   intro a w' hB hoff hon
   refine ⟨_, rfl, fun K hK => ?_⟩
   obtain ⟨x120, e120, f120⟩ := hon 27 120 _ (by kernel_rfl) rfl rfl
   replace f120 : x120 = .bool false := f120
   subst f120
   obtain ⟨x125, e125, f125⟩ := hon 32 125 _ (by kernel_rfl) rfl rfl
   replace f125 : x125 = .bool false := f125
   subst f125
   refine value_ (w1 := w') (v := .bool false) (by rfl) rfl ?_ ?_
   ·
    go_simp; try rfl
   exact hK.out _ _ _ rfl rfl (Below.refl _ _)
  refine opLaws_cons ?_ ?_
  ·
   intro a w' hB hoff hon
   refine ⟨_, rfl, fun K hK => ?_⟩
   obtain ⟨x126, e126, f126⟩ := hon 33 126 _ (by kernel_rfl) rfl rfl
   replace f126 : x126 = .bool false := f126
   subst f126
   refine value_ (w1 := w') (v := .bool false) (by rfl) rfl ?_ ?_
   ·
    go_simp; try rfl
   exact hK.out _ _ _ rfl rfl (Below.refl _ _)
  refine opLaws_cons ?_ ?_
  ·
   intro a w' hB hoff hon
   refine ⟨_, rfl, fun K hK => ?_⟩
   have e13 : a.tmps[13]? = some (.slice A20 ([(⟨3, 40, 0⟩ : S32), (⟨5, 41, 2⟩ : S32)] : List (S32)).length c20) := (hoff 13 (by kernel_rfl)).trans rfl
   obtain ⟨x127, e127, f127⟩ := hon 34 127 _ (by kernel_rfl) rfl rfl
   replace f127 : x127 = .bool false := f127
   subst f127
   refine value_ (w1 := w') (v := .slice A20 ([(⟨3, 40, 0⟩ : S32), (⟨5, 41, 2⟩ : S32)] : List (S32)).length c20) (wanted_on rfl rfl rfl e127) rfl ?_ ?_
   ·
    go_simp; try rfl
   exact hK.out _ _ _ rfl ⟨_, _, rfl, l20, Kd.C_below H20.out hB⟩ (Below.refl _ _)
  refine opLaws_cons ?_ ?_
  ·
   intro a w' hB hoff hon
   refine ⟨_, rfl, fun K hK => ?_⟩
   obtain ⟨x127, e127, f127⟩ := hon 34 127 _ (by kernel_rfl) rfl rfl
   replace f127 : x127 = .bool false := f127
   subst f127
   refine goes_ Try.func32 (by kernel_rfl) rfl #[.int .i64 2] (wanted_on rfl rfl rfl e127) rfl rfl (by first | (simp only [List.map_toArray, List.map_cons, List.map_nil, Act.eval, Array.getD_eq_getD_getElem?, Option.getD_some, e127]; done) | (simp only [List.map_toArray, List.map_cons, List.map_nil, Act.eval, Array.getD_eq_getD_getElem?, Option.getD_some, e127]; rfl) | rfl) ?_
   refine (headgatelaw19_two.calls 2 ([(⟨3, 40, 0⟩ : S32), (⟨5, 41, 2⟩ : S32)] : List (S32)) _ (by first | decide +kernel | kernel_rfl)).mono ?_
   rintro e w2 ⟨v24, rfl, ho24, hb⟩
   exact ⟨_, rfl, hK.out _ _ _ rfl (IsRow.of ho24) hb⟩
  refine opLaws_cons ?_ ?_
  ·
   intro a w' hB hoff hon
   refine ⟨_, rfl, fun K hK => ?_⟩
   have e15 : a.tmps[15]? = some (.int .i64 0) := (hoff 15 (by kernel_rfl)).trans rfl
   obtain ⟨x127, e127, f127⟩ := hon 34 127 _ (by kernel_rfl) rfl rfl
   replace f127 : x127 = .bool false := f127
   subst f127
   refine value_ (w1 := w') (v := .int .i64 0) (wanted_on rfl rfl rfl e127) rfl ?_ ?_
   ·
    go_simp; try rfl
   exact hK.out _ _ _ rfl rfl (Below.refl _ _)
  refine opLaws_cons ?_ ?_
  ·
   intro a w' hB hoff hon
   refine ⟨_, rfl, fun K hK => ?_⟩
   obtain ⟨x128, e128, f128⟩ := hon 35 128 _ (by kernel_rfl) rfl rfl
   obtain ⟨A20x, c20x, rfl, l20x, h20x⟩ := f128
   obtain ⟨x129, e129, f129⟩ := hon 36 129 _ (by kernel_rfl) rfl rfl
   obtain ⟨A24x, c24x, rfl, l24x, h24x⟩ := f129
   obtain ⟨x130, e130, f130⟩ := hon 37 130 _ (by kernel_rfl) rfl rfl
   replace f130 : x130 = .int .i64 0 := f130
   subst f130
   obtain ⟨x127, e127, f127⟩ := hon 34 127 _ (by kernel_rfl) rfl rfl
   replace f127 : x127 = .bool false := f127
   subst f127
   refine goes_ Try.func16 (by kernel_rfl) rfl #[.slice A20x ([(⟨3, 40, 0⟩ : S32), (⟨5, 41, 2⟩ : S32)] : List (S32)).length c20x, .slice A24x ([(⟨3, 40, 0⟩ : S32), (⟨5, 41, 2⟩ : S32)] : List (S32)).length c24x, .int .i64 0] (wanted_on rfl rfl rfl e127) rfl rfl (by first | (simp only [List.map_toArray, List.map_cons, List.map_nil, Act.eval, Array.getD_eq_getD_getElem?, Option.getD_some, e128, e129, e130, e127]; done) | (simp only [List.map_toArray, List.map_cons, List.map_nil, Act.eval, Array.getD_eq_getD_getElem?, Option.getD_some, e128, e129, e130, e127]; rfl) | rfl) ?_
   refine (headgatelaw19_is.calls 60 _ _ ([(⟨3, 40, 0⟩ : S32), (⟨5, 41, 2⟩ : S32)] : List (S32)) _ _ ([(⟨3, 40, 0⟩ : S32), (⟨5, 41, 2⟩ : S32)] : List (S32)) 0 true _ h20x l20x h24x l24x (by first | decide +kernel | kernel_rfl)).mono ?_
   rintro e w2 ⟨rfl, ⟨nd, rfl⟩⟩
   have hb := pw_below_drewN (Below.refl w'.heap.size w') nd
   exact ⟨_, rfl, hK.out _ _ _ rfl rfl hb⟩
  refine opLaws_cons ?_ ?_
  ·
   intro a w' hB hoff hon
   refine ⟨_, rfl, fun K hK => ?_⟩
   obtain ⟨x131, e131, f131⟩ := hon 38 131 _ (by kernel_rfl) rfl rfl
   replace f131 : x131 = .bool true := f131
   subst f131
   obtain ⟨x127, e127, f127⟩ := hon 34 127 _ (by kernel_rfl) rfl rfl
   replace f127 : x127 = .bool false := f127
   subst f127
   refine value_ (w1 := w') (v := .bool false) (wanted_on rfl rfl rfl e127) rfl ?_ ?_
   ·
    go_simp; try rfl
   exact hK.out _ _ _ rfl rfl (Below.refl _ _)
  refine opLaws_cons ?_ ?_
  ·
   intro a w' hB hoff hon
   refine ⟨_, rfl, fun K hK => ?_⟩
   obtain ⟨x127, e127, f127⟩ := hon 34 127 _ (by kernel_rfl) rfl rfl
   replace f127 : x127 = .bool false := f127
   subst f127
   obtain ⟨x132, e132, f132⟩ := hon 39 132 _ (by kernel_rfl) rfl rfl
   replace f132 : x132 = .bool false := f132
   subst f132
   refine value_ (w1 := w') (v := .bool false) (by rfl) rfl ?_ ?_
   ·
    go_simp; try rfl
   exact hK.out _ _ _ rfl rfl (Below.refl _ _)
  exact opLaws_nil
 intro vals w21 hb hv
 have q40 : vals 40 = .bool false := hv 40 _ rfl
 simp only [selOf, List.zipIdx_cons, List.zipIdx_nil, List.map_cons, List.map_nil, Nat.zero_add, Nat.reduceAdd, putSel, if_true, Act.put, List.setIfInBounds_toArray, List.set_cons_zero, List.set_cons_succ, q40]
 clear hv q40
 clear H18
 clear H20
 have LT14 := Aside0.mk (Array.getElem?_eq_some_iff.1 BK14.out).1
 replace BK14 : Aside0 (w21.heap[w14.heap.size]? = some (.cells #[.int .i64 5, .int .i64 41, .int .i64 2] 32 (0, 0))) := ⟨blk_below (by (with_reducible repeat (first | refine blk_drewN ?_ _ | refine blk_drew ?_ | refine blk_alloc ?_ _)); exact BK14.out) hb⟩
 replace HB := Aside0.mk (below_step (by repeat (first | (with_reducible first | exact HB.out | apply below_alloc | apply pw_below_drewN | apply below_drew1) | exact HB.out)) hb)
 clear hb
 go_wp2_with fail
 refine (headgatelaw19_two.calls 2 ([(⟨3, 40, 0⟩ : S32), (⟨5, 41, 2⟩ : S32)] : List (S32)) _ (by first | decide +kernel | kernel_rfl)).mono ?_
 rintro e w22 ⟨v25, rfl, ho25, hb⟩
 have LT14 := Aside0.mk (Array.getElem?_eq_some_iff.1 BK14.out).1
 replace BK14 : Aside0 (w22.heap[w14.heap.size]? = some (.cells #[.int .i64 5, .int .i64 41, .int .i64 2] 32 (0, 0))) := ⟨blk_below (by (with_reducible repeat (first | refine blk_drewN ?_ _ | refine blk_drew ?_ | refine blk_alloc ?_ _)); exact BK14.out) hb⟩
 replace HB := Aside0.mk (below_step (by repeat (first | (with_reducible first | exact HB.out | apply below_alloc | apply pw_below_drewN | apply below_drew1) | exact HB.out)) hb)
 obtain ⟨A25, c25, rfl, l25, h25⟩ := IsRow.of ho25
 have H25 := Aside0.mk h25
 clear h25 ho25
 clear hb
 go_wp2_with fail
 refine (held_Remove.calls _ _ ([(⟨3, 40, 0⟩ : S32), (⟨5, 41, 2⟩ : S32)] : List (S32)) 3 ([(⟨5, 41, 2⟩ : S32)] : List (S32)) 3 40 0 0 _ ?s0 ?t0 (by first | decide +kernel | kernel_rfl)).mono ?_
 case s0 => repeat (first | exact H25.out | (with_reducible refine Kd.C_alloc ?_ _) | (with_reducible refine Kd.C_drewN ?_ _) | (with_reducible refine Kd.C_drew ?_))
 case t0 => exact l25
 rintro e w23 ⟨v26, rfl, ho26, hb⟩
 clear H25
 have LT14 := Aside0.mk (Array.getElem?_eq_some_iff.1 BK14.out).1
 replace BK14 : Aside0 (w23.heap[w14.heap.size]? = some (.cells #[.int .i64 5, .int .i64 41, .int .i64 2] 32 (0, 0))) := ⟨blk_below (by (with_reducible repeat (first | refine blk_drewN ?_ _ | refine blk_drew ?_ | refine blk_alloc ?_ _)); exact BK14.out) hb⟩
 replace HB := Aside0.mk (below_step (by repeat (first | (with_reducible first | exact HB.out | apply below_alloc | apply pw_below_drewN | apply below_drew1) | exact HB.out)) hb)
 obtain ⟨A26, c26, rfl, l26, h26⟩ := IsRow.of ho26
 have HO26 := Aside0.mk ho26
 have H26 := Aside0.mk h26
 clear h26 ho26
 clear hb
 have zc14_0 := (blk_cell BK14.out 0).trans rfl
 have zf14_0 := blk_frozen BK14.out 0
 have zc14_1 := (blk_cell BK14.out 1).trans rfl
 have zf14_1 := blk_frozen BK14.out 1
 have zc14_2 := (blk_cell BK14.out 2).trans rfl
 have zf14_2 := blk_frozen BK14.out 2
 go_wp2_with fail
 have hz := R_past (R_past (R_past (Kd.R_lower (HO26.out) (show w14.heap.size + 1 ≤ _ from by have := LT14.out; simp; omega)) 0 (.int .i64 3)) 1 (.int .i64 40)) 2 (.int .i64 0)
 obtain ⟨Az, cz, ez, lz, hz2⟩ := IsRow.of hz
 cases ez
 replace H26 := Aside0.mk hz2
 clear hz hz2 lz HO26
 replace BK14 : Aside0 ((((w23.setCell ⟨w14.heap.size, 0, none⟩ (.int .i64 3)).setCell ⟨w14.heap.size, 1, none⟩ (.int .i64 40)).setCell ⟨w14.heap.size, 2, none⟩ (.int .i64 0)).heap[w14.heap.size]? = some (.cells #[.int .i64 3, .int .i64 40, .int .i64 0] 32 (0, 0))) := ⟨(blk_put (blk_put (blk_put BK14.out 0 (.int .i64 3) rfl) 1 (.int .i64 40) rfl) 2 (.int .i64 0) rfl)⟩
 replace HB := Aside0.mk (((HB.out.setCell (p := ⟨_, 0, none⟩) GE14.out (.int .i64 3)).setCell (p := ⟨_, 1, none⟩) GE14.out (.int .i64 40)).setCell (p := ⟨_, 2, none⟩) GE14.out (.int .i64 0))
 clear zc14_0 zf14_0 zc14_1 zf14_1 zc14_2 zf14_2
 generalize (((w23.setCell ⟨w14.heap.size, 0, none⟩ (.int .i64 3)).setCell ⟨w14.heap.size, 1, none⟩ (.int .i64 40)).setCell ⟨w14.heap.size, 2, none⟩ (.int .i64 0)) = w24 at HB H26 BK14 ⊢
 refine (headgatelaw19_two.calls 2 ([(⟨3, 40, 0⟩ : S32), (⟨5, 41, 2⟩ : S32)] : List (S32)) _ (by first | decide +kernel | kernel_rfl)).mono ?_
 rintro e w25 ⟨v27, rfl, ho27, hb⟩
 replace H26 : Aside0 (Kd.C k32 w25 A26 ([(⟨5, 41, 2⟩ : S32)] : List (S32)).length ([(⟨5, 41, 2⟩ : S32)] : List (S32))) := ⟨Kd.C_below (by repeat (first | exact H26.out | (with_reducible refine Kd.C_alloc ?_ _) | (with_reducible refine Kd.C_drewN ?_ _) | (with_reducible refine Kd.C_drew ?_))) hb⟩
 replace BK14 : Aside0 (w25.heap[w14.heap.size]? = some (.cells #[.int .i64 3, .int .i64 40, .int .i64 0] 32 (0, 0))) := ⟨blk_below (by (with_reducible repeat (first | refine blk_drewN ?_ _ | refine blk_drew ?_ | refine blk_alloc ?_ _)); exact BK14.out) hb⟩
 replace HB := Aside0.mk (below_step (by repeat (first | (with_reducible first | exact HB.out | apply below_alloc | apply pw_below_drewN | apply below_drew1) | exact HB.out)) hb)
 obtain ⟨A27, c27, rfl, l27, h27⟩ := IsRow.of ho27
 have H27 := Aside0.mk h27
 clear h27 ho27
 clear hb
 go_wp2_with fail
 refine (held_Find.calls _ _ ([(⟨3, 40, 0⟩ : S32), (⟨5, 41, 2⟩ : S32)] : List (S32)) 5 1 0 _ ?s0 ?t0 (by first | decide +kernel | kernel_rfl)).mono ?_
 case s0 => repeat (first | exact H27.out | (with_reducible refine Kd.C_alloc ?_ _) | (with_reducible refine Kd.C_drewN ?_ _) | (with_reducible refine Kd.C_drew ?_))
 case t0 => exact l27
 rintro e w26 ⟨rfl, hb⟩
 replace H26 : Aside0 (Kd.C k32 w26 A26 ([(⟨5, 41, 2⟩ : S32)] : List (S32)).length ([(⟨5, 41, 2⟩ : S32)] : List (S32))) := ⟨Kd.C_below (by repeat (first | exact H26.out | (with_reducible refine Kd.C_alloc ?_ _) | (with_reducible refine Kd.C_drewN ?_ _) | (with_reducible refine Kd.C_drew ?_))) hb⟩
 clear H27
 replace BK14 : Aside0 (w26.heap[w14.heap.size]? = some (.cells #[.int .i64 3, .int .i64 40, .int .i64 0] 32 (0, 0))) := ⟨blk_below (by (with_reducible repeat (first | refine blk_drewN ?_ _ | refine blk_drew ?_ | refine blk_alloc ?_ _)); exact BK14.out) hb⟩
 replace HB := Aside0.mk (below_step (by repeat (first | (with_reducible first | exact HB.out | apply below_alloc | apply pw_below_drewN | apply below_drew1) | exact HB.out)) hb)
 clear hb
 go_wp2_with fail
 refine (headgatelaw19_two.calls 2 ([(⟨3, 40, 0⟩ : S32), (⟨5, 41, 2⟩ : S32)] : List (S32)) _ (by first | decide +kernel | kernel_rfl)).mono ?_
 rintro e w27 ⟨v28, rfl, ho28, hb⟩
 replace H26 : Aside0 (Kd.C k32 w27 A26 ([(⟨5, 41, 2⟩ : S32)] : List (S32)).length ([(⟨5, 41, 2⟩ : S32)] : List (S32))) := ⟨Kd.C_below (by repeat (first | exact H26.out | (with_reducible refine Kd.C_alloc ?_ _) | (with_reducible refine Kd.C_drewN ?_ _) | (with_reducible refine Kd.C_drew ?_))) hb⟩
 replace BK14 : Aside0 (w27.heap[w14.heap.size]? = some (.cells #[.int .i64 3, .int .i64 40, .int .i64 0] 32 (0, 0))) := ⟨blk_below (by (with_reducible repeat (first | refine blk_drewN ?_ _ | refine blk_drew ?_ | refine blk_alloc ?_ _)); exact BK14.out) hb⟩
 replace HB := Aside0.mk (below_step (by repeat (first | (with_reducible first | exact HB.out | apply below_alloc | apply pw_below_drewN | apply below_drew1) | exact HB.out)) hb)
 obtain ⟨A28, c28, rfl, l28, h28⟩ := IsRow.of ho28
 have H28 := Aside0.mk h28
 clear h28 ho28
 clear hb
 go_wp2_with fail
 refine (held_Frames.calls _ _ ([(⟨3, 40, 0⟩ : S32), (⟨5, 41, 2⟩ : S32)] : List (S32)) ([40, 41] : List Int) 0 _ ?s0 ?t0 (by show some (heldFrames _) = _; rw [heldFrames, if_pos (by kernel_rfl), List.mergeSort_of_pairwise (by decide)]; rfl)).mono ?_
 case s0 => repeat (first | exact H28.out | (with_reducible refine Kd.C_alloc ?_ _) | (with_reducible refine Kd.C_drewN ?_ _) | (with_reducible refine Kd.C_drew ?_))
 case t0 => exact l28
 rintro e w28 ⟨v29, rfl, ho29, hb⟩
 replace H26 : Aside0 (Kd.C k32 w28 A26 ([(⟨5, 41, 2⟩ : S32)] : List (S32)).length ([(⟨5, 41, 2⟩ : S32)] : List (S32))) := ⟨Kd.C_below (by repeat (first | exact H26.out | (with_reducible refine Kd.C_alloc ?_ _) | (with_reducible refine Kd.C_drewN ?_ _) | (with_reducible refine Kd.C_drew ?_))) hb⟩
 clear H28
 replace BK14 : Aside0 (w28.heap[w14.heap.size]? = some (.cells #[.int .i64 3, .int .i64 40, .int .i64 0] 32 (0, 0))) := ⟨blk_below (by (with_reducible repeat (first | refine blk_drewN ?_ _ | refine blk_drew ?_ | refine blk_alloc ?_ _)); exact BK14.out) hb⟩
 replace HB := Aside0.mk (below_step (by repeat (first | (with_reducible first | exact HB.out | apply below_alloc | apply pw_below_drewN | apply below_drew1) | exact HB.out)) hb)
 obtain ⟨A29, c29, rfl, l29, h29⟩ := IsRow.of ho29
 have H29 := Aside0.mk h29
 clear h29 ho29
 clear hb
 go_wp2_with fail
 refine shut_code 33 [150, 151, 152, 153, 154, 155, 156, 157, 158, 159, 160, 161, 162, 163, 164, 165, 166, 167, 168, 169, 170, 171, 172, 173, 174, 175, 176, 177, 178, 179, 180, 181, 0] [aggF [litF (.int .i64 3), litF (.int .i64 40), litF (.int .i64 0)], rowF k32 ([(⟨3, 40, 0⟩ : S32), (⟨5, 41, 0⟩ : S32)] : List (S32)), elemF [.int .i64 3, .int .i64 40, .int .i64 0], aggF [litF (.int .i64 3), litF (.int .i64 40), litF (.int .i64 0)], litF (.bool true), litF (.bool true), rowF k32 ([(⟨5, 41, 2⟩ : S32)] : List (S32)), rowF k32 ([(⟨3, 40, 0⟩ : S32), (⟨5, 41, 2⟩ : S32)] : List (S32)), rowF k32 ([(⟨5, 41, 2⟩ : S32)] : List (S32)), litF (.int .i64 0), litF (.bool true), litF (.bool true), litF (.bool true), litF (.int .i64 1), litF (.bool true), litF (.bool true), litF (.bool true), litF (.int .i64 0), litF (.bool true), litF (.bool true), litF (.bool true), rowF (Kd.int .i64) ([40, 41] : List Int), rowF (Kd.int .i64) ([40, 41] : List Int), litF (.bool true), litF (.bool true), litF (.bool true), litF (.int .i64 0), litF (.bool true), litF (.bool true), litF (.bool true), litF (.bool true), litF (.bool true), litF (.bool true)] (by kernel_rfl) rfl headgatelaw19_HeldKnown.tab20 headgatelaw19_HeldKnown.bits20 (by kernel_rfl) (by kernel_rfl) (by kernel_rfl) rfl (by kernel_rfl) ?_ ?_
 ·
  rw [show List.range 33 = [0, 1, 2, 3, 4, 5, 6, 7, 8, 9, 10, 11, 12, 13, 14, 15, 16, 17, 18, 19, 20, 21, 22, 23, 24, 25, 26, 27, 28, 29, 30, 31, 32] from rfl]
  refine opLaws_cons ?_ ?_
  ·
   intro a w' hB hoff hon
   refine ⟨_, rfl, fun K hK => ?_⟩
   have e7 : a.tmps[7]? = some (.pointer (some ⟨w14.heap.size, 0, none⟩)) := (hoff 7 (by kernel_rfl)).trans rfl
   have bk := blk_below BK14.out hB
   have z0 : w'.cell? ⟨_, 0, none⟩ = some (.int .i64 3) := (blk_cell bk 0).trans rfl
   have z1 : w'.cell? ⟨_, 1, none⟩ = some (.int .i64 40) := (blk_cell bk 1).trans rfl
   have z2 : w'.cell? ⟨_, 2, none⟩ = some (.int .i64 0) := (blk_cell bk 2).trans rfl
   refine value_ (w1 := w') (v := .agg #[.int .i64 3, .int .i64 40, .int .i64 0]) (by rfl) rfl ?_ ?_
   ·
    go_simp; try rfl
   exact hK.out _ _ _ rfl ⟨_, rfl, ⟨_, _, rfl, rfl, ⟨_, _, rfl, rfl, ⟨_, _, rfl, rfl, rfl⟩⟩⟩⟩ (Below.refl _ _)
  refine opLaws_cons ?_ ?_
  ·
   intro a w' hB hoff hon
   refine ⟨_, rfl, fun K hK => ?_⟩
   refine goes_ Try.func32 (by kernel_rfl) rfl #[.int .i64 0] (by rfl) rfl rfl (by first | (simp only [List.map_toArray, List.map_cons, List.map_nil, Act.eval, Array.getD_eq_getD_getElem?, Option.getD_some, id]; done) | (simp only [List.map_toArray, List.map_cons, List.map_nil, Act.eval, Array.getD_eq_getD_getElem?, Option.getD_some, id]; rfl) | rfl) ?_
   refine (headgatelaw19_two.calls 0 ([(⟨3, 40, 0⟩ : S32), (⟨5, 41, 0⟩ : S32)] : List (S32)) _ (by first | decide +kernel | kernel_rfl)).mono ?_
   rintro e w2 ⟨v30, rfl, ho30, hb⟩
   exact ⟨_, rfl, hK.out _ _ _ rfl (IsRow.of ho30) hb⟩
  refine opLaws_cons ?_ ?_
  ·
   intro a w' hB hoff hon
   refine ⟨_, rfl, fun K hK => ?_⟩
   obtain ⟨x151, e151, f151⟩ := hon 1 151 _ (by kernel_rfl) rfl rfl
   obtain ⟨A30x, c30x, rfl, l30x, h30x⟩ := f151
   obtain ⟨ad, hA, y31_0, y31_1, y31_2⟩ := at_T32 h30x 0 (by decide) (by decide)
   subst hA
   refine value_ (w1 := w') (v := .pointer (some (ad.add (0 * 3)))) (by rfl) rfl ?_ ?_
   ·
    go_simp; try rfl
   exact hK.out _ _ _ rfl ⟨_, rfl, y31_0, y31_1, y31_2, trivial⟩ (Below.refl _ _)
  refine opLaws_cons ?_ ?_
  ·
   intro a w' hB hoff hon
   refine ⟨_, rfl, fun K hK => ?_⟩
   obtain ⟨x152, e152, f152⟩ := hon 2 152 _ (by kernel_rfl) rfl rfl
   obtain ⟨p31, rfl, y31_0, y31_1, y31_2, -⟩ := f152
   refine value_ (w1 := w') (v := .agg #[.int .i64 3, .int .i64 40, .int .i64 0]) (by rfl) rfl ?_ ?_
   ·
    go_simp; try rfl
   exact hK.out _ _ _ rfl ⟨_, rfl, ⟨_, _, rfl, rfl, ⟨_, _, rfl, rfl, ⟨_, _, rfl, rfl, rfl⟩⟩⟩⟩ (Below.refl _ _)
  refine opLaws_cons ?_ ?_
  ·
   intro a w' hB hoff hon
   refine ⟨_, rfl, fun K hK => ?_⟩
   obtain ⟨x150, e150, f150⟩ := hon 0 150 _ (by kernel_rfl) rfl rfl
   obtain ⟨_, rfl, ⟨_, _, rfl, rfl, ⟨_, _, rfl, rfl, ⟨_, _, rfl, rfl, rfl⟩⟩⟩⟩ := f150
   obtain ⟨x153, e153, f153⟩ := hon 3 153 _ (by kernel_rfl) rfl rfl
   obtain ⟨_, rfl, ⟨_, _, rfl, rfl, ⟨_, _, rfl, rfl, ⟨_, _, rfl, rfl, rfl⟩⟩⟩⟩ := f153
   refine value_ (w1 := w') (v := .bool true) (by rfl) rfl ?_ ?_
   ·
    go_simp; try rfl
   exact hK.out _ _ _ rfl rfl (Below.refl _ _)
  refine opLaws_cons ?_ ?_
  ·
   intro a w' hB hoff hon
   refine ⟨_, rfl, fun K hK => ?_⟩
   obtain ⟨x154, e154, f154⟩ := hon 4 154 _ (by kernel_rfl) rfl rfl
   replace f154 : x154 = .bool true := f154
   subst f154
   refine value_ (w1 := w') (v := .bool true) (by rfl) rfl ?_ ?_
   ·
    go_simp; try rfl
   exact hK.out _ _ _ rfl rfl (Below.refl _ _)
  refine opLaws_cons ?_ ?_
  ·
   intro a w' hB hoff hon
   refine ⟨_, rfl, fun K hK => ?_⟩
   have e16 : a.tmps[16]? = some (.slice A26 ([(⟨5, 41, 2⟩ : S32)] : List (S32)).length c26) := (hoff 16 (by kernel_rfl)).trans rfl
   obtain ⟨x155, e155, f155⟩ := hon 5 155 _ (by kernel_rfl) rfl rfl
   replace f155 : x155 = .bool true := f155
   subst f155
   refine value_ (w1 := w') (v := .slice A26 ([(⟨5, 41, 2⟩ : S32)] : List (S32)).length c26) (wanted_on rfl rfl rfl e155) rfl ?_ ?_
   ·
    go_simp; try rfl
   exact hK.out _ _ _ rfl ⟨_, _, rfl, l26, Kd.C_below H26.out hB⟩ (Below.refl _ _)
  refine opLaws_cons ?_ ?_
  ·
   intro a w' hB hoff hon
   refine ⟨_, rfl, fun K hK => ?_⟩
   obtain ⟨x155, e155, f155⟩ := hon 5 155 _ (by kernel_rfl) rfl rfl
   replace f155 : x155 = .bool true := f155
   subst f155
   refine goes_ Try.func32 (by kernel_rfl) rfl #[.int .i64 2] (wanted_on rfl rfl rfl e155) rfl rfl (by first | (simp only [List.map_toArray, List.map_cons, List.map_nil, Act.eval, Array.getD_eq_getD_getElem?, Option.getD_some, e155]; done) | (simp only [List.map_toArray, List.map_cons, List.map_nil, Act.eval, Array.getD_eq_getD_getElem?, Option.getD_some, e155]; rfl) | rfl) ?_
   refine (headgatelaw19_two.calls 2 ([(⟨3, 40, 0⟩ : S32), (⟨5, 41, 2⟩ : S32)] : List (S32)) _ (by first | decide +kernel | kernel_rfl)).mono ?_
   rintro e w2 ⟨v32, rfl, ho32, hb⟩
   exact ⟨_, rfl, hK.out _ _ _ rfl (IsRow.of ho32) hb⟩
  refine opLaws_cons ?_ ?_
  ·
   intro a w' hB hoff hon
   refine ⟨_, rfl, fun K hK => ?_⟩
   obtain ⟨x157, e157, f157⟩ := hon 7 157 _ (by kernel_rfl) rfl rfl
   obtain ⟨A32x, c32x, rfl, l32x, h32x⟩ := f157
   obtain ⟨x155, e155, f155⟩ := hon 5 155 _ (by kernel_rfl) rfl rfl
   replace f155 : x155 = .bool true := f155
   subst f155
   have hcut := cutn_from (P := Try.prog) Try.underlying23 (s := 3) (fun W => by kernel_rfl) A32x ([(⟨3, 40, 0⟩ : S32), (⟨5, 41, 2⟩ : S32)] : List (S32)).length c32x 1 (by decide) w'
   refine value_ (w1 := w') (v := .slice (if c32x = 1 then A32x else A32x.map (·.add (1 * 3))) (([(⟨3, 40, 0⟩ : S32), (⟨5, 41, 2⟩ : S32)] : List (S32)).length - 1) (c32x - 1)) (wanted_on rfl rfl rfl e155) rfl ?_ ?_
   ·
    go_simp; try first | exact hcut | (rw [hcut]; rfl) | simpa using hcut
   exact hK.out _ _ _ rfl ⟨_, _, rfl, (Nat.sub_le_sub_right l32x 1), Kd.C_drop h32x (m := 1) (by decide) l32x⟩ (Below.refl _ _)
  refine opLaws_cons ?_ ?_
  ·
   intro a w' hB hoff hon
   refine ⟨_, rfl, fun K hK => ?_⟩
   have e2 : a.tmps[2]? = some (.int .i64 0) := (hoff 2 (by kernel_rfl)).trans rfl
   obtain ⟨x155, e155, f155⟩ := hon 5 155 _ (by kernel_rfl) rfl rfl
   replace f155 : x155 = .bool true := f155
   subst f155
   refine value_ (w1 := w') (v := .int .i64 0) (wanted_on rfl rfl rfl e155) rfl ?_ ?_
   ·
    go_simp; try rfl
   exact hK.out _ _ _ rfl rfl (Below.refl _ _)
  refine opLaws_cons ?_ ?_
  ·
   intro a w' hB hoff hon
   refine ⟨_, rfl, fun K hK => ?_⟩
   obtain ⟨x156, e156, f156⟩ := hon 6 156 _ (by kernel_rfl) rfl rfl
   obtain ⟨A26x, c26x, rfl, l26x, h26x⟩ := f156
   obtain ⟨x158, e158, f158⟩ := hon 8 158 _ (by kernel_rfl) rfl rfl
   obtain ⟨A33x, c33x, rfl, l33x, h33x⟩ := f158
   obtain ⟨x159, e159, f159⟩ := hon 9 159 _ (by kernel_rfl) rfl rfl
   replace f159 : x159 = .int .i64 0 := f159
   subst f159
   obtain ⟨x155, e155, f155⟩ := hon 5 155 _ (by kernel_rfl) rfl rfl
   replace f155 : x155 = .bool true := f155
   subst f155
   refine goes_ Try.func16 (by kernel_rfl) rfl #[.slice A26x ([(⟨5, 41, 2⟩ : S32)] : List (S32)).length c26x, .slice A33x ([(⟨5, 41, 2⟩ : S32)] : List (S32)).length c33x, .int .i64 0] (wanted_on rfl rfl rfl e155) rfl rfl (by first | (simp only [List.map_toArray, List.map_cons, List.map_nil, Act.eval, Array.getD_eq_getD_getElem?, Option.getD_some, e156, e158, e159, e155]; done) | (simp only [List.map_toArray, List.map_cons, List.map_nil, Act.eval, Array.getD_eq_getD_getElem?, Option.getD_some, e156, e158, e159, e155]; rfl) | rfl) ?_
   refine (headgatelaw19_is.calls 60 _ _ ([(⟨5, 41, 2⟩ : S32)] : List (S32)) _ _ ([(⟨5, 41, 2⟩ : S32)] : List (S32)) 0 true _ h26x l26x h33x l33x (by first | decide +kernel | kernel_rfl)).mono ?_
   rintro e w2 ⟨rfl, ⟨nd, rfl⟩⟩
   have hb := pw_below_drewN (Below.refl w'.heap.size w') nd
   exact ⟨_, rfl, hK.out _ _ _ rfl rfl hb⟩
  refine opLaws_cons ?_ ?_
  ·
   intro a w' hB hoff hon
   refine ⟨_, rfl, fun K hK => ?_⟩
   obtain ⟨x155, e155, f155⟩ := hon 5 155 _ (by kernel_rfl) rfl rfl
   replace f155 : x155 = .bool true := f155
   subst f155
   obtain ⟨x160, e160, f160⟩ := hon 10 160 _ (by kernel_rfl) rfl rfl
   replace f160 : x160 = .bool true := f160
   subst f160
   refine value_ (w1 := w') (v := .bool true) (by rfl) rfl ?_ ?_
   ·
    go_simp; try rfl
   exact hK.out _ _ _ rfl rfl (Below.refl _ _)
  refine opLaws_cons ?_ ?_
  ·
   intro a w' hB hoff hon
   refine ⟨_, rfl, fun K hK => ?_⟩
   obtain ⟨x161, e161, f161⟩ := hon 11 161 _ (by kernel_rfl) rfl rfl
   replace f161 : x161 = .bool true := f161
   subst f161
   refine value_ (w1 := w') (v := .bool true) (by rfl) rfl ?_ ?_
   ·
    go_simp; try rfl
   exact hK.out _ _ _ rfl rfl (Below.refl _ _)
  refine opLaws_cons ?_ ?_
  ·
   intro a w' hB hoff hon
   refine ⟨_, rfl, fun K hK => ?_⟩
   have e17 : a.tmps[17]? = some (.int .i64 1) := (hoff 17 (by kernel_rfl)).trans rfl
   obtain ⟨x162, e162, f162⟩ := hon 12 162 _ (by kernel_rfl) rfl rfl
   replace f162 : x162 = .bool true := f162
   subst f162
   refine value_ (w1 := w') (v := .int .i64 1) (wanted_on rfl rfl rfl e162) rfl ?_ ?_
   ·
    go_simp; try rfl
   exact hK.out _ _ _ rfl rfl (Below.refl _ _)
  refine opLaws_cons ?_ ?_
  ·
   intro a w' hB hoff hon
   refine ⟨_, rfl, fun K hK => ?_⟩
   obtain ⟨x163, e163, f163⟩ := hon 13 163 _ (by kernel_rfl) rfl rfl
   replace f163 : x163 = .int .i64 1 := f163
   subst f163
   obtain ⟨x162, e162, f162⟩ := hon 12 162 _ (by kernel_rfl) rfl rfl
   replace f162 : x162 = .bool true := f162
   subst f162
   refine value_ (w1 := w') (v := .bool true) (wanted_on rfl rfl rfl e162) rfl ?_ ?_
   ·
    go_simp; try rfl
   exact hK.out _ _ _ rfl rfl (Below.refl _ _)
  refine opLaws_cons ?_ ?_
  ·
   intro a w' hB hoff hon
   refine ⟨_, rfl, fun K hK => ?_⟩
   obtain ⟨x162, e162, f162⟩ := hon 12 162 _ (by kernel_rfl) rfl rfl
   replace f162 : x162 = .bool true := f162
   subst f162
   obtain ⟨x164, e164, f164⟩ := hon 14 164 _ (by kernel_rfl) rfl rfl
   replace f164 : x164 = .bool true := f164
   subst f164
   refine value_ (w1 := w') (v := .bool true) (by rfl) rfl ?_ ?_
   ·
    go_simp; try rfl
   exact hK.out _ _ _ rfl rfl (Below.refl _ _)
  refine opLaws_cons ?_ ?_
  ·
   intro a w' hB hoff hon
   refine ⟨_, rfl, fun K hK => ?_⟩
   obtain ⟨x165, e165, f165⟩ := hon 15 165 _ (by kernel_rfl) rfl rfl
   replace f165 : x165 = .bool true := f165
   subst f165
   refine value_ (w1 := w') (v := .bool true) (by rfl) rfl ?_ ?_
   ·
    go_simp; try rfl
   exact hK.out _ _ _ rfl rfl (Below.refl _ _)
  refine opLaws_cons ?_ ?_
  ·
   intro a w' hB hoff hon
   refine ⟨_, rfl, fun K hK => ?_⟩
   have e4 : a.tmps[4]? = some (.int .i64 0) := (hoff 4 (by kernel_rfl)).trans rfl
   obtain ⟨x166, e166, f166⟩ := hon 16 166 _ (by kernel_rfl) rfl rfl
   replace f166 : x166 = .bool true := f166
   subst f166
   refine value_ (w1 := w') (v := .int .i64 0) (wanted_on rfl rfl rfl e166) rfl ?_ ?_
   ·
    go_simp; try rfl
   exact hK.out _ _ _ rfl rfl (Below.refl _ _)
  refine opLaws_cons ?_ ?_
  ·
   intro a w' hB hoff hon
   refine ⟨_, rfl, fun K hK => ?_⟩
   obtain ⟨x167, e167, f167⟩ := hon 17 167 _ (by kernel_rfl) rfl rfl
   replace f167 : x167 = .int .i64 0 := f167
   subst f167
   obtain ⟨x166, e166, f166⟩ := hon 16 166 _ (by kernel_rfl) rfl rfl
   replace f166 : x166 = .bool true := f166
   subst f166
   refine value_ (w1 := w') (v := .bool true) (wanted_on rfl rfl rfl e166) rfl ?_ ?_
   ·
    go_simp; try rfl
   exact hK.out _ _ _ rfl rfl (Below.refl _ _)
  refine opLaws_cons ?_ ?_
  ·
   intro a w' hB hoff hon
   refine ⟨_, rfl, fun K hK => ?_⟩
   obtain ⟨x166, e166, f166⟩ := hon 16 166 _ (by kernel_rfl) rfl rfl
   replace f166 : x166 = .bool true := f166
   subst f166
   obtain ⟨x168, e168, f168⟩ := hon 18 168 _ (by kernel_rfl) rfl rfl
   replace f168 : x168 = .bool true := f168
   subst f168
   refine value_ (w1 := w') (v := .bool true) (by rfl) rfl ?_ ?_
   ·
    go_simp; try rfl
   exact hK.out _ _ _ rfl rfl (Below.refl _ _)
  refine opLaws_cons ?_ ?_
  ·
   intro a w' hB hoff hon
   refine ⟨_, rfl, fun K hK => ?_⟩
   obtain ⟨x169, e169, f169⟩ := hon 19 169 _ (by kernel_rfl) rfl rfl
   replace f169 : x169 = .bool true := f169
   subst f169
   refine value_ (w1 := w') (v := .bool true) (by rfl) rfl ?_ ?_
   ·
    go_simp; try rfl
   exact hK.out _ _ _ rfl rfl (Below.refl _ _)
  refine opLaws_cons ?_ ?_
  ·
   intro a w' hB hoff hon
   refine ⟨_, rfl, fun K hK => ?_⟩
   have e18 : a.tmps[18]? = some (.slice A29 ([40, 41] : List Int).length c29) := (hoff 18 (by kernel_rfl)).trans rfl
   obtain ⟨x170, e170, f170⟩ := hon 20 170 _ (by kernel_rfl) rfl rfl
   replace f170 : x170 = .bool true := f170
   subst f170
   refine value_ (w1 := w') (v := .slice A29 ([40, 41] : List Int).length c29) (wanted_on rfl rfl rfl e170) rfl ?_ ?_
   ·
    go_simp; try rfl
   exact hK.out _ _ _ rfl ⟨_, _, rfl, l29, Kd.C_below H29.out hB⟩ (Below.refl _ _)
  refine opLaws_cons ?_ ?_
  ·
   intro a w' hB hoff hon
   refine ⟨_, rfl, fun K hK => ?_⟩
   obtain ⟨x170, e170, f170⟩ := hon 20 170 _ (by kernel_rfl) rfl rfl
   replace f170 : x170 = .bool true := f170
   subst f170
   refine Kd.R_lit_step (Kd.int .i64) _ 3 ?hg (N := 172) ?hd (xs := ([40, 41] : List Int)) (inner := [.int .i64 40, .int .i64 41]) (ok := fun _ => True) (okp := fun _ => True) ?hr ?hp (fun _ hk => hk) trivial (Below.refl _ _) (Nat.le_refl _) (by simp) ?_
   case hd => rfl
   case hg => exact (wanted_on rfl rfl rfl e170)
   case hr => first | (go_simp; done) | (go_simp; rfl)
   case hp => exact (Reps.one (show Kd.M (Kd.int .i64) _ _ _ 40 [.int .i64 40] from rfl) (Reps.one (show Kd.M (Kd.int .i64) _ _ _ 41 [.int .i64 41] from rfl) (Reps.none _ _)))
   intro v w2 ho hb _ _
   exact hK.out _ _ _ rfl (IsRow.of ho) hb
  refine opLaws_cons ?_ ?_
  ·
   intro a w' hB hoff hon
   refine ⟨_, rfl, fun K hK => ?_⟩
   obtain ⟨x171, e171, f171⟩ := hon 21 171 _ (by kernel_rfl) rfl rfl
   obtain ⟨A29x, c29x, rfl, l29x, h29x⟩ := f171
   obtain ⟨x172, e172, f172⟩ := hon 22 172 _ (by kernel_rfl) rfl rfl
   obtain ⟨A34x, c34x, rfl, l34x, h34x⟩ := f172
   obtain ⟨x170, e170, f170⟩ := hon 20 170 _ (by kernel_rfl) rfl rfl
   replace f170 : x170 = .bool true := f170
   subst f170
   refine goes_ Try.func31 (by kernel_rfl) rfl #[.slice A29x ([40, 41] : List Int).length c29x, .slice A34x ([40, 41] : List Int).length c34x] (wanted_on rfl rfl rfl e170) rfl rfl (by first | (simp only [List.map_toArray, List.map_cons, List.map_nil, Act.eval, Array.getD_eq_getD_getElem?, Option.getD_some, e171, e172, e170]; done) | (simp only [List.map_toArray, List.map_cons, List.map_nil, Act.eval, Array.getD_eq_getD_getElem?, Option.getD_some, e171, e172, e170]; rfl) | rfl) ?_
   refine (headgatekit_SameInts.calls 60 _ _ ([40, 41] : List Int) _ _ ([40, 41] : List Int) true _ h29x l29x h34x l34x (by first | decide +kernel | kernel_rfl)).mono ?_
   rintro e w2 ⟨rfl, ⟨nd, rfl⟩⟩
   have hb := pw_below_drewN (Below.refl w'.heap.size w') nd
   exact ⟨_, rfl, hK.out _ _ _ rfl rfl hb⟩
  refine opLaws_cons ?_ ?_
  ·
   intro a w' hB hoff hon
   refine ⟨_, rfl, fun K hK => ?_⟩
   obtain ⟨x170, e170, f170⟩ := hon 20 170 _ (by kernel_rfl) rfl rfl
   replace f170 : x170 = .bool true := f170
   subst f170
   obtain ⟨x173, e173, f173⟩ := hon 23 173 _ (by kernel_rfl) rfl rfl
   replace f173 : x173 = .bool true := f173
   subst f173
   refine value_ (w1 := w') (v := .bool true) (by rfl) rfl ?_ ?_
   ·
    go_simp; try rfl
   exact hK.out _ _ _ rfl rfl (Below.refl _ _)
  refine opLaws_cons ?_ ?_
  ·
   intro a w' hB hoff hon
   refine ⟨_, rfl, fun K hK => ?_⟩
   obtain ⟨x174, e174, f174⟩ := hon 24 174 _ (by kernel_rfl) rfl rfl
   replace f174 : x174 = .bool true := f174
   subst f174
   refine value_ (w1 := w') (v := .bool true) (by rfl) rfl ?_ ?_
   ·
    go_simp; try rfl
   exact hK.out _ _ _ rfl rfl (Below.refl _ _)
  refine opLaws_cons ?_ ?_
  ·
   intro a w' hB hoff hon
   refine ⟨_, rfl, fun K hK => ?_⟩
   have e6 : a.tmps[6]? = some (.int .i64 0) := (hoff 6 (by kernel_rfl)).trans rfl
   obtain ⟨x175, e175, f175⟩ := hon 25 175 _ (by kernel_rfl) rfl rfl
   replace f175 : x175 = .bool true := f175
   subst f175
   refine value_ (w1 := w') (v := .int .i64 0) (wanted_on rfl rfl rfl e175) rfl ?_ ?_
   ·
    go_simp; try rfl
   exact hK.out _ _ _ rfl rfl (Below.refl _ _)
  refine opLaws_cons ?_ ?_
  ·
   intro a w' hB hoff hon
   refine ⟨_, rfl, fun K hK => ?_⟩
   obtain ⟨x176, e176, f176⟩ := hon 26 176 _ (by kernel_rfl) rfl rfl
   replace f176 : x176 = .int .i64 0 := f176
   subst f176
   obtain ⟨x175, e175, f175⟩ := hon 25 175 _ (by kernel_rfl) rfl rfl
   replace f175 : x175 = .bool true := f175
   subst f175
   refine value_ (w1 := w') (v := .bool true) (wanted_on rfl rfl rfl e175) rfl ?_ ?_
   ·
    go_simp; try rfl
   exact hK.out _ _ _ rfl rfl (Below.refl _ _)
  refine opLaws_cons ?_ ?_
  ·
   intro a w' hB hoff hon
   refine ⟨_, rfl, fun K hK => ?_⟩
   obtain ⟨x175, e175, f175⟩ := hon 25 175 _ (by kernel_rfl) rfl rfl
   replace f175 : x175 = .bool true := f175
   subst f175
   obtain ⟨x177, e177, f177⟩ := hon 27 177 _ (by kernel_rfl) rfl rfl
   replace f177 : x177 = .bool true := f177
   subst f177
   refine value_ (w1 := w') (v := .bool true) (by rfl) rfl ?_ ?_
   ·
    go_simp; try rfl
   exact hK.out _ _ _ rfl rfl (Below.refl _ _)
  refine opLaws_cons ?_ ?_
  ·
   intro a w' hB hoff hon
   refine ⟨_, rfl, fun K hK => ?_⟩
   obtain ⟨x178, e178, f178⟩ := hon 28 178 _ (by kernel_rfl) rfl rfl
   replace f178 : x178 = .bool true := f178
   subst f178
   refine value_ (w1 := w') (v := .bool true) (by rfl) rfl ?_ ?_
   ·
    go_simp; try rfl
   exact hK.out _ _ _ rfl rfl (Below.refl _ _)
  refine opLaws_cons ?_ ?_
  ·
   intro a w' hB hoff hon
   refine ⟨_, rfl, fun K hK => ?_⟩
   obtain ⟨x179, e179, f179⟩ := hon 29 179 _ (by kernel_rfl) rfl rfl
   replace f179 : x179 = .bool true := f179
   subst f179
   refine goes_ Try.func10 (by kernel_rfl) rfl #[] (wanted_on rfl rfl rfl e179) rfl rfl (by first | (simp only [List.map_toArray, List.map_cons, List.map_nil, Act.eval, Array.getD_eq_getD_getElem?, Option.getD_some, e179]; done) | (simp only [List.map_toArray, List.map_cons, List.map_nil, Act.eval, Array.getD_eq_getD_getElem?, Option.getD_some, e179]; rfl) | rfl) ?_
   refine (headgatelaw19_awake.calls 60 true _ (by first | decide +kernel | kernel_rfl)).mono ?_
   rintro e w2 ⟨rfl, hb⟩
   exact ⟨_, rfl, hK.out _ _ _ rfl rfl hb⟩
  refine opLaws_cons ?_ ?_
  ·
   intro a w' hB hoff hon
   refine ⟨_, rfl, fun K hK => ?_⟩
   obtain ⟨x179, e179, f179⟩ := hon 29 179 _ (by kernel_rfl) rfl rfl
   replace f179 : x179 = .bool true := f179
   subst f179
   obtain ⟨x180, e180, f180⟩ := hon 30 180 _ (by kernel_rfl) rfl rfl
   replace f180 : x180 = .bool true := f180
   subst f180
   refine value_ (w1 := w') (v := .bool true) (by rfl) rfl ?_ ?_
   ·
    go_simp; try rfl
   exact hK.out _ _ _ rfl rfl (Below.refl _ _)
  refine opLaws_cons ?_ ?_
  ·
   intro a w' hB hoff hon
   refine ⟨_, rfl, fun K hK => ?_⟩
   obtain ⟨x181, e181, f181⟩ := hon 31 181 _ (by kernel_rfl) rfl rfl
   replace f181 : x181 = .bool true := f181
   subst f181
   refine value_ (w1 := w') (v := .bool true) (by rfl) rfl ?_ ?_
   ·
    go_simp; try rfl
   exact hK.out _ _ _ rfl rfl (Below.refl _ _)
  exact opLaws_nil
 intro vals w29 hb hv
 have q32 : vals 32 = .bool true := hv 32 _ rfl
 simp only [selOf, List.zipIdx_cons, List.zipIdx_nil, List.map_cons, List.map_nil, Nat.zero_add, Nat.reduceAdd, putSel, if_true, Act.put, List.setIfInBounds_toArray, List.set_cons_zero, List.set_cons_succ, q32]
 clear hv q32
 clear H26
 clear H29
 clear BK14
 replace HB := Aside0.mk (below_step (by repeat (first | (with_reducible first | exact HB.out | apply below_alloc | apply pw_below_drewN | apply below_drew1) | exact HB.out)) hb)
 clear hb
 go_wp2
 go_ret
 exact ⟨rfl, by repeat (first | (with_reducible first | exact HB.out | apply below_alloc | apply pw_below_drewN | apply below_drew1) | exact HB.out)⟩

/-- THE ONE PURE STATEMENT of headgatelaw19_HeldKnown. -/
def headgatelaw19_HeldKnown.Pure : Prop := headgatelaw19_HeldKnown.f = some true
theorem headgatelaw19_HeldKnown.walk (P : headgatelaw19_HeldKnown.Pure)  (w : World)  :
  Calls Try.prog 8 #[] w fun e w' => e = .returned (.bool true) ∧ Below w.heap.size w w' := by
 have h := P
 refine (headgatelaw19_HeldKnown.calls true w h).mono ?_
 rintro e w' ⟨rfl, hd⟩
 exact ⟨rfl, hd⟩


end Go.Proofs.Ytfnhoncpaheejaa.X
