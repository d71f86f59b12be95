/- What Go functions of this seat compute, told as Lean functions, and that each call of the Go code comes to that answer; for a law: its row, for every input. Written by a program of the session. -/
import Derived.Test.YtofonnfkffbjkaaX0
import Derived.Test.YtofonnfkffbjkaaX1
import Derived.Test.YtofonnfkffbjkaaX8
import Derived.Test.YtofonnfkffbjkaaX10
import Derived.Test.YtofonnfkffbjkaaX18
import Derived.Test.YtofonnfkffbjkaaX19
import Derived.Test.YtofonnfkffbjkaaX20
import Derived.Test.YtofonnfkffbjkaaX21
import Derived.Test.YtofonnfkffbjkaaX23
import Derived.Test.YtofonnfkffbjkaaX24
namespace Go.Proofs.Ytofonnfkffbjkaa.X
open Go.RowKit Go.Proofs.YtofonnfkffbjkaaW.PrintWords Go.Proofs.YtofonnfkffbjkaaW.PrintLast Go.Proofs.YtofonnfkffbjkaaW.PrintMore
attribute [local go_sem] max2_int min2_int max_two min_two max_three min_three max_four min_four   -- for this text's walks alone
set_option linter.unusedVariables false
set_option linter.unusedSimpArgs false

/-! ### headgatelaw18_awake: function 35 -/
def headgatelaw18_awake.f : Option (Bool) := some true
def headgatelaw18_awake.T4 : Bool × List (List Nat × List Nat) := (true, [([], []), ([0], [0]), ([], []), ([2, 1], [2]), ([1, 3, 3], [1, 3]), ([4, 4], [4]), ([5], [5]), ([6, 5, 5], [5, 6]), ([5], [5]), ([8, 7, 5], [5, 8]), ([7, 9, 9, 5], [5, 7, 9]), ([5, 10], [5, 10]), ([11, 10], [11]), ([12], [12]), ([13, 12, 12], [12, 13]), ([12], [12]), ([15, 14, 12], [12, 15]), ([14, 16, 16, 12], [12, 14, 16]), ([12, 17], [12, 17]), ([18, 17], [18]), ([19], [19]), ([20, 19], [19, 20]), ([19, 21], [19, 21]), ([22, 19], [22]), ([23], [23]), ([23], [23]), ([25, 23, 23], [23, 25]), ([24, 26, 26, 23], [23, 24, 26]), ([23, 27], [23, 27]), ([28, 27], [28]), ([29], [29]), ([30, 29], [29, 30]), ([29, 31], [29, 31]), ([32, 29], [32]), ([33], [33]), ([34, 33], [33, 34]), ([33, 35], [33, 35]), ([36, 33], [36]), ([37], [37]), ([38, 37], [37, 38]), ([37, 39], [37, 39]), ([40, 37], [40]), ([41], [41]), ([42, 41], [41, 42]), ([41, 43], [41, 43]), ([44, 41], [44]), ([45], [45]), ([46, 45], [45, 46]), ([45, 47], [45, 47]), ([48, 45, 0, 1, 2, 3, 4, 5, 6, 7, 8, 9, 10, 11, 12, 13, 14, 15, 16, 17, 18, 19, 20, 21, 22, 23, 24, 25, 26, 27, 28, 29, 30, 31, 32, 33, 34, 35, 36, 37, 38, 39, 40, 41, 42, 43, 44, 45, 46, 47, 48], [48])])
def headgatelaw18_awake.B4 : List Nat := [0, 1, 0, 7, 15, 31, 63, 127, 63, 511, 1023, 2047, 4095, 8191, 16383, 8191, 65535, 131071, 262143, 524287, 1048575, 2097151, 4194303, 8388607, 16777215, 16777215, 50331647, 134217727, 268435455, 536870911, 1073741823, 2147483647, 4294967295, 8589934591, 17179869183, 34359738367, 68719476735, 137438953471, 274877906943, 549755813887, 1099511627775, 2199023255551, 4398046511103, 8796093022207, 17592186044415, 35184372088831, 70368744177663, 140737488355327, 281474976710655, 562949953421311]
theorem headgatelaw18_awake.tab4 : rtab .any (opsOf Try.f35 4) = headgatelaw18_awake.T4 := by kernel_rfl
theorem headgatelaw18_awake.bits4 : waitsOk headgatelaw18_awake.T4.2 headgatelaw18_awake.B4 = true := by kernel_rfl
set_option maxHeartbeats 4000000 in
set_option maxRecDepth 100000 in
theorem headgatelaw18_awake.calls (r : Bool) (w : World) (h : headgatelaw18_awake.f = some r) :
  Calls Try.prog 35 #[] w fun e w' => e = .returned (.bool r) ∧ Below w.heap.size w w' := by
 obtain rfl := Option.some.inj h
 have HB := Aside0.mk (Below.refl w.heap.size w)
 have hu43 := Try.underlying43
 go_enter Try.func35, Try.ntmps35
 go_wp2_with fail
 refine (headgatelaw18_of.calls 60 _ _ ([2, 0] : List Int) ([2, 0] : List Int) ([false, false] : List Bool) _ ?s0 ?t0 (by decide +kernel)).mono ?_
 case s0 => repeat (first | exact lit_Cb _ _ _ (by simp) _ (by simp) | (with_reducible refine Kd.C_alloc ?_ _) | (with_reducible refine Kd.C_drewN ?_ _) | (with_reducible refine Kd.C_drew ?_))
 case t0 => exact Nat.le_refl _
 rintro e w1 ⟨v2, v3, rfl, ho2, ho3, hb⟩
 replace HB := Aside0.mk (below_step (by repeat (first | (with_reducible first | exact HB.out | apply below_alloc | apply pw_below_drewN | apply below_drew1) | exact HB.out)) hb)
 obtain ⟨A2, c2, rfl, l2, h2⟩ := IsRow.of ho2
 have H2 := Aside0.mk h2
 clear h2 ho2
 obtain ⟨A3, c3, rfl, l3, h3⟩ := IsRow.of ho3
 have H3 := Aside0.mk h3
 clear h3 ho3
 clear hb
 go_wp2_with fail
 refine (slots_Ref.calls 60 _ _ ([2, 0] : List Int) _ _ ([false, false] : List Bool) 0 ([3, 0] : List Int) ([false, false] : List Bool) 0 _ ?s0 ?t0 ?s1 ?t1 (by decide +kernel)).mono ?_
 case s0 => repeat (first | exact H2.out | (with_reducible refine Kd.C_alloc ?_ _) | (with_reducible refine Kd.C_drewN ?_ _) | (with_reducible refine Kd.C_drew ?_))
 case t0 => exact l2
 case s1 => repeat (first | exact H3.out | (with_reducible refine Kd.C_alloc ?_ _) | (with_reducible refine Kd.C_drewN ?_ _) | (with_reducible refine Kd.C_drew ?_))
 case t1 => exact l3
 rintro e w2 ⟨v4, v5, rfl, ho4, ho5, hb⟩
 clear H2
 clear H3
 replace HB := Aside0.mk (below_step (by repeat (first | (with_reducible first | exact HB.out | apply below_alloc | apply pw_below_drewN | apply below_drew1) | exact HB.out)) hb)
 obtain ⟨A4, c4, rfl, l4, h4⟩ := IsRow.of ho4
 have H4 := Aside0.mk h4
 clear h4 ho4
 obtain ⟨A5, c5, rfl, l5, h5⟩ := IsRow.of ho5
 have H5 := Aside0.mk h5
 clear h5 ho5
 clear hb
 go_wp2_with fail
 refine (headgatelaw18_of.calls 60 _ _ ([1002, 0, 1, 1000] : List Int) ([2, 0, 1, 0] : List Int) ([true, false, false, true] : List Bool) _ ?s0 ?t0 (by decide +kernel)).mono ?_
 case s0 => repeat (first | exact lit_Cb _ _ _ (by simp) _ (by simp) | (with_reducible refine Kd.C_alloc ?_ _) | (with_reducible refine Kd.C_drewN ?_ _) | (with_reducible refine Kd.C_drew ?_))
 case t0 => exact Nat.le_refl _
 rintro e w3 ⟨v8, v9, rfl, ho8, ho9, hb⟩
 replace H4 : Aside0 (Kd.C (Kd.int .i64) w3 A4 ([3, 0] : List Int).length ([3, 0] : List Int)) := ⟨Kd.C_below (by repeat (first | exact H4.out | (with_reducible refine Kd.C_alloc ?_ _) | (with_reducible refine Kd.C_drewN ?_ _) | (with_reducible refine Kd.C_drew ?_))) hb⟩
 replace H5 : Aside0 (Kd.C Kd.bool w3 A5 ([false, false] : List Bool).length ([false, false] : List Bool)) := ⟨Kd.C_below (by repeat (first | exact H5.out | (with_reducible refine Kd.C_alloc ?_ _) | (with_reducible refine Kd.C_drewN ?_ _) | (with_reducible refine Kd.C_drew ?_))) hb⟩
 have BK6 : Aside0 (w3.heap[w2.heap.size]? = some (.cells #[.slice A4 ([3, 0] : List Int).length c4, .slice A5 ([false, false] : List Bool).length c5] 43 (0, 0))) := ⟨blk_below (by repeat (first | exact blk_newb _ _ _ (by simp) | refine blk_alloc ?_ _)) hb⟩
 replace HB := Aside0.mk (below_step (by repeat (first | (with_reducible first | exact HB.out | apply below_alloc | apply pw_below_drewN | apply below_drew1) | exact HB.out)) hb)
 obtain ⟨A8, c8, rfl, l8, h8⟩ := IsRow.of ho8
 have H8 := Aside0.mk h8
 clear h8 ho8
 obtain ⟨A9, c9, rfl, l9, h9⟩ := IsRow.of ho9
 have H9 := Aside0.mk h9
 clear h9 ho9
 clear hb
 go_wp2_with fail
 refine (slots_Count.calls 60 _ _ ([2, 0, 1, 0] : List Int) _ _ ([true, false, false, true] : List Bool) 1 2 3 0 _ ?s0 ?t0 ?s1 ?t1 (by decide +kernel)).mono ?_
 case s0 => repeat (first | exact H8.out | (with_reducible refine Kd.C_alloc ?_ _) | (with_reducible refine Kd.C_drewN ?_ _) | (with_reducible refine Kd.C_drew ?_))
 case t0 => exact l8
 case s1 => repeat (first | exact H9.out | (with_reducible refine Kd.C_alloc ?_ _) | (with_reducible refine Kd.C_drewN ?_ _) | (with_reducible refine Kd.C_drew ?_))
 case t1 => exact l9
 rintro e w4 ⟨rfl, hb⟩
 replace H4 : Aside0 (Kd.C (Kd.int .i64) w4 A4 ([3, 0] : List Int).length ([3, 0] : List Int)) := ⟨Kd.C_below (by repeat (first | exact H4.out | (with_reducible refine Kd.C_alloc ?_ _) | (with_reducible refine Kd.C_drewN ?_ _) | (with_reducible refine Kd.C_drew ?_))) hb⟩
 replace H5 : Aside0 (Kd.C Kd.bool w4 A5 ([false, false] : List Bool).length ([false, false] : List Bool)) := ⟨Kd.C_below (by repeat (first | exact H5.out | (with_reducible refine Kd.C_alloc ?_ _) | (with_reducible refine Kd.C_drewN ?_ _) | (with_reducible refine Kd.C_drew ?_))) hb⟩
 clear H8
 clear H9
 replace BK6 : Aside0 (w4.heap[w2.heap.size]? = some (.cells #[.slice A4 ([3, 0] : List Int).length c4, .slice A5 ([false, false] : List Bool).length c5] 43 (0, 0))) := ⟨blk_below (by (with_reducible repeat (first | refine blk_drewN ?_ _ | refine blk_drew ?_ | refine blk_alloc ?_ _)); exact BK6.out) hb⟩
 replace HB := Aside0.mk (below_step (by repeat (first | (with_reducible first | exact HB.out | apply below_alloc | apply pw_below_drewN | apply below_drew1) | exact HB.out)) hb)
 clear hb
 go_wp2_with fail
 refine (headgatelaw18_of.calls 60 _ _ ([1, 2] : List Int) ([1, 2] : List Int) ([false, false] : List Bool) _ ?s0 ?t0 (by decide +kernel)).mono ?_
 case s0 => repeat (first | exact lit_Cb _ _ _ (by simp) _ (by simp) | (with_reducible refine Kd.C_alloc ?_ _) | (with_reducible refine Kd.C_drewN ?_ _) | (with_reducible refine Kd.C_drew ?_))
 case t0 => exact Nat.le_refl _
 rintro e w5 ⟨v11, v12, rfl, ho11, ho12, hb⟩
 replace H4 : Aside0 (Kd.C (Kd.int .i64) w5 A4 ([3, 0] : List Int).length ([3, 0] : List Int)) := ⟨Kd.C_below (by repeat (first | exact H4.out | (with_reducible refine Kd.C_alloc ?_ _) | (with_reducible refine Kd.C_drewN ?_ _) | (with_reducible refine Kd.C_drew ?_))) hb⟩
 replace H5 : Aside0 (Kd.C Kd.bool w5 A5 ([false, false] : List Bool).length ([false, false] : List Bool)) := ⟨Kd.C_below (by repeat (first | exact H5.out | (with_reducible refine Kd.C_alloc ?_ _) | (with_reducible refine Kd.C_drewN ?_ _) | (with_reducible refine Kd.C_drew ?_))) hb⟩
 replace BK6 : Aside0 (w5.heap[w2.heap.size]? = some (.cells #[.slice A4 ([3, 0] : List Int).length c4, .slice A5 ([false, false] : List Bool).length c5] 43 (0, 0))) := ⟨blk_below (by (with_reducible repeat (first | refine blk_drewN ?_ _ | refine blk_drew ?_ | refine blk_alloc ?_ _)); exact BK6.out) hb⟩
 replace HB := Aside0.mk (below_step (by repeat (first | (with_reducible first | exact HB.out | apply below_alloc | apply pw_below_drewN | apply below_drew1) | exact HB.out)) hb)
 obtain ⟨A11, c11, rfl, l11, h11⟩ := IsRow.of ho11
 have H11 := Aside0.mk h11
 clear h11 ho11
 obtain ⟨A12, c12, rfl, l12, h12⟩ := IsRow.of ho12
 have H12 := Aside0.mk h12
 clear h12 ho12
 clear hb
 go_wp2_with fail
 refine (slots_Check.calls 60 _ _ ([1, 2] : List Int) _ _ ([false, false] : List Bool) 0 0 _ ?s0 ?t0 ?s1 ?t1 (by decide +kernel)).mono ?_
 case s0 => repeat (first | exact H11.out | (with_reducible refine Kd.C_alloc ?_ _) | (with_reducible refine Kd.C_drewN ?_ _) | (with_reducible refine Kd.C_drew ?_))
 case t0 => exact l11
 case s1 => repeat (first | exact H12.out | (with_reducible refine Kd.C_alloc ?_ _) | (with_reducible refine Kd.C_drewN ?_ _) | (with_reducible refine Kd.C_drew ?_))
 case t1 => exact l12
 rintro e w6 ⟨rfl, hb⟩
 replace H4 : Aside0 (Kd.C (Kd.int .i64) w6 A4 ([3, 0] : List Int).length ([3, 0] : List Int)) := ⟨Kd.C_below (by repeat (first | exact H4.out | (with_reducible refine Kd.C_alloc ?_ _) | (with_reducible refine Kd.C_drewN ?_ _) | (with_reducible refine Kd.C_drew ?_))) hb⟩
 replace H5 : Aside0 (Kd.C Kd.bool w6 A5 ([false, false] : List Bool).length ([false, false] : List Bool)) := ⟨Kd.C_below (by repeat (first | exact H5.out | (with_reducible refine Kd.C_alloc ?_ _) | (with_reducible refine Kd.C_drewN ?_ _) | (with_reducible refine Kd.C_drew ?_))) hb⟩
 clear H11
 clear H12
 replace BK6 : Aside0 (w6.heap[w2.heap.size]? = some (.cells #[.slice A4 ([3, 0] : List Int).length c4, .slice A5 ([false, false] : List Bool).length c5] 43 (0, 0))) := ⟨blk_below (by (with_reducible repeat (first | refine blk_drewN ?_ _ | refine blk_drew ?_ | refine blk_alloc ?_ _)); exact BK6.out) hb⟩
 replace HB := Aside0.mk (below_step (by repeat (first | (with_reducible first | exact HB.out | apply below_alloc | apply pw_below_drewN | apply below_drew1) | exact HB.out)) hb)
 clear hb
 go_wp2_with fail
 refine shut_code 50 [29, 30, 31, 32, 33, 34, 35, 36, 37, 38, 39, 40, 41, 42, 43, 44, 45, 46, 47, 48, 49, 50, 51, 52, 53, 54, 55, 56, 57, 58, 59, 60, 61, 62, 63, 64, 65, 66, 67, 68, 69, 70, 71, 72, 73, 74, 75, 76, 77, 0] [rowF (Kd.int .i64) ([0, 0] : List Int), aggF [rowF (Kd.int .i64) ([0, 0] : List Int), rowF Kd.bool ([false, false] : List Bool)], rowF (Kd.int .i64) ([1002, 0] : List Int), aggF [rowF (Kd.int .i64) ([2, 0] : List Int), rowF Kd.bool ([true, false] : List Bool)], litF (.bool true), litF (.bool true), rowF (Kd.int .i64) ([1002, 0] : List Int), aggF [rowF (Kd.int .i64) ([2, 0] : List Int), rowF Kd.bool ([true, false] : List Bool)], rowF (Kd.int .i64) ([1001, 0] : List Int), aggF [rowF (Kd.int .i64) ([1, 0] : List Int), rowF Kd.bool ([true, false] : List Bool)], litF (.bool true), litF (.bool true), litF (.bool true), rowF (Kd.int .i64) ([1000, 0] : List Int), aggF [rowF (Kd.int .i64) ([0, 0] : List Int), rowF Kd.bool ([true, false] : List Bool)], rowF (Kd.int .i64) ([0, 0] : List Int), aggF [rowF (Kd.int .i64) ([0, 0] : List Int), rowF Kd.bool ([false, false] : List Bool)], litF (.bool true), litF (.bool true), litF (.bool true), litF (.int .i64 0), litF (.bool true), litF (.bool true), litF (.bool true), aggF [rowF (Kd.int .i64) ([3, 0] : List Int), rowF Kd.bool ([false, false] : List Bool)], rowF (Kd.int .i64) ([3, 0] : List Int), aggF [rowF (Kd.int .i64) ([3, 0] : List Int), rowF Kd.bool ([false, false] : List Bool)], litF (.bool true), litF (.bool true), litF (.bool true), litF (.int .i64 0), litF (.bool true), litF (.bool true), litF (.bool true), litF (.int .i64 1), litF (.bool true), litF (.bool true), litF (.bool true), litF (.int .i64 2), litF (.bool true), litF (.bool true), litF (.bool true), litF (.int .i64 3), litF (.bool true), litF (.bool true), litF (.bool true), litF (.int .i64 0), litF (.bool true), litF (.bool true), litF (.bool true)] (by kernel_rfl) rfl headgatelaw18_awake.tab4 headgatelaw18_awake.bits4 (by kernel_rfl) (by kernel_rfl) (by kernel_rfl) rfl (by kernel_rfl) ?_ ?_
 ·
  rw [show List.range 50 = [0, 1, 2, 3, 4, 5, 6, 7, 8, 9, 10, 11, 12, 13, 14, 15, 16, 17, 18, 19, 20, 21, 22, 23, 24, 25, 26, 27, 28, 29, 30, 31, 32, 33, 34, 35, 36, 37, 38, 39, 40, 41, 42, 43, 44, 45, 46, 47, 48, 49] from rfl]
  refine opLaws_cons ?_ ?_
  ·
   intro a w' hB hoff hon
   refine ⟨_, rfl, fun K hK => ?_⟩
   refine Kd.R_lit_step (Kd.int .i64) _ 3 ?hg (N := 29) ?hd (xs := ([0, 0] : List Int)) (inner := [.int .i64 0, .int .i64 0]) (ok := fun _ => True) (okp := fun _ => True) ?hr ?hp (fun _ hk => hk) trivial (Below.refl _ _) (Nat.le_refl _) (by simp) ?_
   case hd => rfl
   case hg => exact rfl
   case hr => first | (go_simp; done) | (go_simp; rfl)
   case hp => exact (Reps.one (show Kd.M (Kd.int .i64) _ _ _ 0 [.int .i64 0] from rfl) (Reps.one (show Kd.M (Kd.int .i64) _ _ _ 0 [.int .i64 0] from rfl) (Reps.none _ _)))
   intro v w2 ho hb _ _
   exact hK.out _ _ _ rfl (IsRow.of ho) hb
  refine opLaws_cons ?_ ?_
  ·
   intro a w' hB hoff hon
   refine ⟨_, rfl, fun K hK => ?_⟩
   obtain ⟨x29, e29, f29⟩ := hon 0 29 _ (by kernel_rfl) rfl rfl
   obtain ⟨A13x, c13x, rfl, l13x, h13x⟩ := f29
   refine goes_ Try.func23 (by kernel_rfl) rfl #[.slice A13x ([0, 0] : List Int).length c13x] (by rfl) rfl rfl (by first | (simp only [List.map_toArray, List.map_cons, List.map_nil, Act.eval, Array.getD_eq_getD_getElem?, Option.getD_some, e29]; done) | (simp only [List.map_toArray, List.map_cons, List.map_nil, Act.eval, Array.getD_eq_getD_getElem?, Option.getD_some, e29]; rfl) | rfl) ?_
   refine (headgatelaw18_of.calls 60 _ _ ([0, 0] : List Int) ([0, 0] : List Int) ([false, false] : List Bool) _ h13x l13x (by decide +kernel)).mono ?_
   rintro e w2 ⟨v14, v15, rfl, ho14, ho15, hb⟩
   exact ⟨_, rfl, hK.out _ _ _ rfl ⟨_, rfl, ⟨_, _, rfl, (IsRow.of ho14), ⟨_, _, rfl, (IsRow.of ho15), rfl⟩⟩⟩ hb⟩
  refine opLaws_cons ?_ ?_
  ·
   intro a w' hB hoff hon
   refine ⟨_, rfl, fun K hK => ?_⟩
   refine Kd.R_lit_step (Kd.int .i64) _ 3 ?hg (N := 31) ?hd (xs := ([1002, 0] : List Int)) (inner := [.int .i64 1002, .int .i64 0]) (ok := fun _ => True) (okp := fun _ => True) ?hr ?hp (fun _ hk => hk) trivial (Below.refl _ _) (Nat.le_refl _) (by simp) ?_
   case hd => rfl
   case hg => exact rfl
   case hr => first | (go_simp; done) | (go_simp; rfl)
   case hp => exact (Reps.one (show Kd.M (Kd.int .i64) _ _ _ 1002 [.int .i64 1002] from rfl) (Reps.one (show Kd.M (Kd.int .i64) _ _ _ 0 [.int .i64 0] from rfl) (Reps.none _ _)))
   intro v w2 ho hb _ _
   exact hK.out _ _ _ rfl (IsRow.of ho) hb
  refine opLaws_cons ?_ ?_
  ·
   intro a w' hB hoff hon
   refine ⟨_, rfl, fun K hK => ?_⟩
   obtain ⟨x31, e31, f31⟩ := hon 2 31 _ (by kernel_rfl) rfl rfl
   obtain ⟨A16x, c16x, rfl, l16x, h16x⟩ := f31
   refine goes_ Try.func23 (by kernel_rfl) rfl #[.slice A16x ([1002, 0] : List Int).length c16x] (by rfl) rfl rfl (by first | (simp only [List.map_toArray, List.map_cons, List.map_nil, Act.eval, Array.getD_eq_getD_getElem?, Option.getD_some, e31]; done) | (simp only [List.map_toArray, List.map_cons, List.map_nil, Act.eval, Array.getD_eq_getD_getElem?, Option.getD_some, e31]; rfl) | rfl) ?_
   refine (headgatelaw18_of.calls 60 _ _ ([1002, 0] : List Int) ([2, 0] : List Int) ([true, false] : List Bool) _ h16x l16x (by decide +kernel)).mono ?_
   rintro e w2 ⟨v17, v18, rfl, ho17, ho18, hb⟩
   exact ⟨_, rfl, hK.out _ _ _ rfl ⟨_, rfl, ⟨_, _, rfl, (IsRow.of ho17), ⟨_, _, rfl, (IsRow.of ho18), rfl⟩⟩⟩ hb⟩
  refine opLaws_cons ?_ ?_
  ·
   intro a w' hB hoff hon
   refine ⟨_, rfl, fun K hK => ?_⟩
   obtain ⟨x30, e30, f30⟩ := hon 1 30 _ (by kernel_rfl) rfl rfl
   obtain ⟨_, rfl, ⟨_, _, rfl, ⟨A14x, c14x, rfl, l14x, h14x⟩, ⟨_, _, rfl, ⟨A15x, c15x, rfl, l15x, h15x⟩, rfl⟩⟩⟩ := f30
   obtain ⟨x32, e32, f32⟩ := hon 3 32 _ (by kernel_rfl) rfl rfl
   obtain ⟨_, rfl, ⟨_, _, rfl, ⟨A17x, c17x, rfl, l17x, h17x⟩, ⟨_, _, rfl, ⟨A18x, c18x, rfl, l18x, h18x⟩, rfl⟩⟩⟩ := f32
   refine goes_ Try.func31 (by kernel_rfl) rfl #[.agg #[.slice A14x ([0, 0] : List Int).length c14x, .slice A15x ([false, false] : List Bool).length c15x], .int .i64 2, .int .i64 0, .agg #[.slice A17x ([2, 0] : List Int).length c17x, .slice A18x ([true, false] : List Bool).length c18x]] (by rfl) rfl rfl (by first | (simp only [List.map_toArray, List.map_cons, List.map_nil, Act.eval, Array.getD_eq_getD_getElem?, Option.getD_some, e30, e32]; done) | (simp only [List.map_toArray, List.map_cons, List.map_nil, Act.eval, Array.getD_eq_getD_getElem?, Option.getD_some, e30, e32]; rfl) | rfl) ?_
   refine (headgatelaw18_gives.calls 60 _ _ ([0, 0] : List Int) _ _ ([false, false] : List Bool) 2 0 _ _ ([2, 0] : List Int) _ _ ([true, false] : List Bool) true _ h14x l14x h15x l15x h17x l17x h18x l18x (by decide +kernel)).mono ?_
   rintro e w2 ⟨rfl, hb⟩
   exact ⟨_, rfl, hK.out _ _ _ rfl rfl hb⟩
  refine opLaws_cons ?_ ?_
  ·
   intro a w' hB hoff hon
   refine ⟨_, rfl, fun K hK => ?_⟩
   obtain ⟨x33, e33, f33⟩ := hon 4 33 _ (by kernel_rfl) rfl rfl
   replace f33 : x33 = .bool true := f33
   subst f33
   refine value_ (w1 := w') (v := .bool true) (by rfl) rfl ?_ ?_
   ·
    go_simp; try rfl
   exact hK.out _ _ _ rfl rfl (Below.refl _ _)
  refine opLaws_cons ?_ ?_
  ·
   intro a w' hB hoff hon
   refine ⟨_, rfl, fun K hK => ?_⟩
   obtain ⟨x34, e34, f34⟩ := hon 5 34 _ (by kernel_rfl) rfl rfl
   replace f34 : x34 = .bool true := f34
   subst f34
   refine Kd.R_lit_step (Kd.int .i64) _ 3 ?hg (N := 35) ?hd (xs := ([1002, 0] : List Int)) (inner := [.int .i64 1002, .int .i64 0]) (ok := fun _ => True) (okp := fun _ => True) ?hr ?hp (fun _ hk => hk) trivial (Below.refl _ _) (Nat.le_refl _) (by simp) ?_
   case hd => rfl
   case hg => exact (wanted_on rfl rfl rfl e34)
   case hr => first | (go_simp; done) | (go_simp; rfl)
   case hp => exact (Reps.one (show Kd.M (Kd.int .i64) _ _ _ 1002 [.int .i64 1002] from rfl) (Reps.one (show Kd.M (Kd.int .i64) _ _ _ 0 [.int .i64 0] from rfl) (Reps.none _ _)))
   intro v w2 ho hb _ _
   exact hK.out _ _ _ rfl (IsRow.of ho) hb
  refine opLaws_cons ?_ ?_
  ·
   intro a w' hB hoff hon
   refine ⟨_, rfl, fun K hK => ?_⟩
   obtain ⟨x35, e35, f35⟩ := hon 6 35 _ (by kernel_rfl) rfl rfl
   obtain ⟨A19x, c19x, rfl, l19x, h19x⟩ := f35
   obtain ⟨x34, e34, f34⟩ := hon 5 34 _ (by kernel_rfl) rfl rfl
   replace f34 : x34 = .bool true := f34
   subst f34
   refine goes_ Try.func23 (by kernel_rfl) rfl #[.slice A19x ([1002, 0] : List Int).length c19x] (wanted_on rfl rfl rfl e34) rfl rfl (by first | (simp only [List.map_toArray, List.map_cons, List.map_nil, Act.eval, Array.getD_eq_getD_getElem?, Option.getD_some, e35, e34]; done) | (simp only [List.map_toArray, List.map_cons, List.map_nil, Act.eval, Array.getD_eq_getD_getElem?, Option.getD_some, e35, e34]; rfl) | rfl) ?_
   refine (headgatelaw18_of.calls 60 _ _ ([1002, 0] : List Int) ([2, 0] : List Int) ([true, false] : List Bool) _ h19x l19x (by decide +kernel)).mono ?_
   rintro e w2 ⟨v20, v21, rfl, ho20, ho21, hb⟩
   exact ⟨_, rfl, hK.out _ _ _ rfl ⟨_, rfl, ⟨_, _, rfl, (IsRow.of ho20), ⟨_, _, rfl, (IsRow.of ho21), rfl⟩⟩⟩ hb⟩
  refine opLaws_cons ?_ ?_
  ·
   intro a w' hB hoff hon
   refine ⟨_, rfl, fun K hK => ?_⟩
   obtain ⟨x34, e34, f34⟩ := hon 5 34 _ (by kernel_rfl) rfl rfl
   replace f34 : x34 = .bool true := f34
   subst f34
   refine Kd.R_lit_step (Kd.int .i64) _ 3 ?hg (N := 37) ?hd (xs := ([1001, 0] : List Int)) (inner := [.int .i64 1001, .int .i64 0]) (ok := fun _ => True) (okp := fun _ => True) ?hr ?hp (fun _ hk => hk) trivial (Below.refl _ _) (Nat.le_refl _) (by simp) ?_
   case hd => rfl
   case hg => exact (wanted_on rfl rfl rfl e34)
   case hr => first | (go_simp; done) | (go_simp; rfl)
   case hp => exact (Reps.one (show Kd.M (Kd.int .i64) _ _ _ 1001 [.int .i64 1001] from rfl) (Reps.one (show Kd.M (Kd.int .i64) _ _ _ 0 [.int .i64 0] from rfl) (Reps.none _ _)))
   intro v w2 ho hb _ _
   exact hK.out _ _ _ rfl (IsRow.of ho) hb
  refine opLaws_cons ?_ ?_
  ·
   intro a w' hB hoff hon
   refine ⟨_, rfl, fun K hK => ?_⟩
   obtain ⟨x37, e37, f37⟩ := hon 8 37 _ (by kernel_rfl) rfl rfl
   obtain ⟨A22x, c22x, rfl, l22x, h22x⟩ := f37
   obtain ⟨x34, e34, f34⟩ := hon 5 34 _ (by kernel_rfl) rfl rfl
   replace f34 : x34 = .bool true := f34
   subst f34
   refine goes_ Try.func23 (by kernel_rfl) rfl #[.slice A22x ([1001, 0] : List Int).length c22x] (wanted_on rfl rfl rfl e34) rfl rfl (by first | (simp only [List.map_toArray, List.map_cons, List.map_nil, Act.eval, Array.getD_eq_getD_getElem?, Option.getD_some, e37, e34]; done) | (simp only [List.map_toArray, List.map_cons, List.map_nil, Act.eval, Array.getD_eq_getD_getElem?, Option.getD_some, e37, e34]; rfl) | rfl) ?_
   refine (headgatelaw18_of.calls 60 _ _ ([1001, 0] : List Int) ([1, 0] : List Int) ([true, false] : List Bool) _ h22x l22x (by decide +kernel)).mono ?_
   rintro e w2 ⟨v23, v24, rfl, ho23, ho24, hb⟩
   exact ⟨_, rfl, hK.out _ _ _ rfl ⟨_, rfl, ⟨_, _, rfl, (IsRow.of ho23), ⟨_, _, rfl, (IsRow.of ho24), rfl⟩⟩⟩ hb⟩
  refine opLaws_cons ?_ ?_
  ·
   intro a w' hB hoff hon
   refine ⟨_, rfl, fun K hK => ?_⟩
   obtain ⟨x36, e36, f36⟩ := hon 7 36 _ (by kernel_rfl) rfl rfl
   obtain ⟨_, rfl, ⟨_, _, rfl, ⟨A20x, c20x, rfl, l20x, h20x⟩, ⟨_, _, rfl, ⟨A21x, c21x, rfl, l21x, h21x⟩, rfl⟩⟩⟩ := f36
   obtain ⟨x38, e38, f38⟩ := hon 9 38 _ (by kernel_rfl) rfl rfl
   obtain ⟨_, rfl, ⟨_, _, rfl, ⟨A23x, c23x, rfl, l23x, h23x⟩, ⟨_, _, rfl, ⟨A24x, c24x, rfl, l24x, h24x⟩, rfl⟩⟩⟩ := f38
   obtain ⟨x34, e34, f34⟩ := hon 5 34 _ (by kernel_rfl) rfl rfl
   replace f34 : x34 = .bool true := f34
   subst f34
   refine goes_ Try.func33 (by kernel_rfl) rfl #[.agg #[.slice A20x ([2, 0] : List Int).length c20x, .slice A21x ([true, false] : List Bool).length c21x], .agg #[.slice A23x ([1, 0] : List Int).length c23x, .slice A24x ([true, false] : List Bool).length c24x], .bool false] (wanted_on rfl rfl rfl e34) rfl rfl (by first | (simp only [List.map_toArray, List.map_cons, List.map_nil, Act.eval, Array.getD_eq_getD_getElem?, Option.getD_some, e36, e38, e34]; done) | (simp only [List.map_toArray, List.map_cons, List.map_nil, Act.eval, Array.getD_eq_getD_getElem?, Option.getD_some, e36, e38, e34]; rfl) | rfl) ?_
   refine (headgatelaw18_drops.calls 60 _ _ ([2, 0] : List Int) _ _ ([true, false] : List Bool) _ _ ([1, 0] : List Int) _ _ ([true, false] : List Bool) false true _ h20x l20x h21x l21x h23x l23x h24x l24x (by decide +kernel)).mono ?_
   rintro e w2 ⟨rfl, hb⟩
   exact ⟨_, rfl, hK.out _ _ _ rfl rfl hb⟩
  refine opLaws_cons ?_ ?_
  ·
   intro a w' hB hoff hon
   refine ⟨_, rfl, fun K hK => ?_⟩
   obtain ⟨x34, e34, f34⟩ := hon 5 34 _ (by kernel_rfl) rfl rfl
   replace f34 : x34 = .bool true := f34
   subst f34
   obtain ⟨x39, e39, f39⟩ := hon 10 39 _ (by kernel_rfl) rfl rfl
   replace f39 : x39 = .bool true := f39
   subst f39
   refine value_ (w1 := w') (v := .bool true) (by rfl) rfl ?_ ?_
   ·
    go_simp; try rfl
   exact hK.out _ _ _ rfl rfl (Below.refl _ _)
  refine opLaws_cons ?_ ?_
  ·
   intro a w' hB hoff hon
   refine ⟨_, rfl, fun K hK => ?_⟩
   obtain ⟨x40, e40, f40⟩ := hon 11 40 _ (by kernel_rfl) rfl rfl
   replace f40 : x40 = .bool true := f40
   subst f40
   refine value_ (w1 := w') (v := .bool true) (by rfl) rfl ?_ ?_
   ·
    go_simp; try rfl
   exact hK.out _ _ _ rfl rfl (Below.refl _ _)
  refine opLaws_cons ?_ ?_
  ·
   intro a w' hB hoff hon
   refine ⟨_, rfl, fun K hK => ?_⟩
   obtain ⟨x41, e41, f41⟩ := hon 12 41 _ (by kernel_rfl) rfl rfl
   replace f41 : x41 = .bool true := f41
   subst f41
   refine Kd.R_lit_step (Kd.int .i64) _ 3 ?hg (N := 42) ?hd (xs := ([1000, 0] : List Int)) (inner := [.int .i64 1000, .int .i64 0]) (ok := fun _ => True) (okp := fun _ => True) ?hr ?hp (fun _ hk => hk) trivial (Below.refl _ _) (Nat.le_refl _) (by simp) ?_
   case hd => rfl
   case hg => exact (wanted_on rfl rfl rfl e41)
   case hr => first | (go_simp; done) | (go_simp; rfl)
   case hp => exact (Reps.one (show Kd.M (Kd.int .i64) _ _ _ 1000 [.int .i64 1000] from rfl) (Reps.one (show Kd.M (Kd.int .i64) _ _ _ 0 [.int .i64 0] from rfl) (Reps.none _ _)))
   intro v w2 ho hb _ _
   exact hK.out _ _ _ rfl (IsRow.of ho) hb
  refine opLaws_cons ?_ ?_
  ·
   intro a w' hB hoff hon
   refine ⟨_, rfl, fun K hK => ?_⟩
   obtain ⟨x42, e42, f42⟩ := hon 13 42 _ (by kernel_rfl) rfl rfl
   obtain ⟨A25x, c25x, rfl, l25x, h25x⟩ := f42
   obtain ⟨x41, e41, f41⟩ := hon 12 41 _ (by kernel_rfl) rfl rfl
   replace f41 : x41 = .bool true := f41
   subst f41
   refine goes_ Try.func23 (by kernel_rfl) rfl #[.slice A25x ([1000, 0] : List Int).length c25x] (wanted_on rfl rfl rfl e41) rfl rfl (by first | (simp only [List.map_toArray, List.map_cons, List.map_nil, Act.eval, Array.getD_eq_getD_getElem?, Option.getD_some, e42, e41]; done) | (simp only [List.map_toArray, List.map_cons, List.map_nil, Act.eval, Array.getD_eq_getD_getElem?, Option.getD_some, e42, e41]; rfl) | rfl) ?_
   refine (headgatelaw18_of.calls 60 _ _ ([1000, 0] : List Int) ([0, 0] : List Int) ([true, false] : List Bool) _ h25x l25x (by decide +kernel)).mono ?_
   rintro e w2 ⟨v26, v27, rfl, ho26, ho27, hb⟩
   exact ⟨_, rfl, hK.out _ _ _ rfl ⟨_, rfl, ⟨_, _, rfl, (IsRow.of ho26), ⟨_, _, rfl, (IsRow.of ho27), rfl⟩⟩⟩ hb⟩
  refine opLaws_cons ?_ ?_
  ·
   intro a w' hB hoff hon
   refine ⟨_, rfl, fun K hK => ?_⟩
   obtain ⟨x41, e41, f41⟩ := hon 12 41 _ (by kernel_rfl) rfl rfl
   replace f41 : x41 = .bool true := f41
   subst f41
   refine Kd.R_lit_step (Kd.int .i64) _ 3 ?hg (N := 44) ?hd (xs := ([0, 0] : List Int)) (inner := [.int .i64 0, .int .i64 0]) (ok := fun _ => True) (okp := fun _ => True) ?hr ?hp (fun _ hk => hk) trivial (Below.refl _ _) (Nat.le_refl _) (by simp) ?_
   case hd => rfl
   case hg => exact (wanted_on rfl rfl rfl e41)
   case hr => first | (go_simp; done) | (go_simp; rfl)
   case hp => exact (Reps.one (show Kd.M (Kd.int .i64) _ _ _ 0 [.int .i64 0] from rfl) (Reps.one (show Kd.M (Kd.int .i64) _ _ _ 0 [.int .i64 0] from rfl) (Reps.none _ _)))
   intro v w2 ho hb _ _
   exact hK.out _ _ _ rfl (IsRow.of ho) hb
  refine opLaws_cons ?_ ?_
  ·
   intro a w' hB hoff hon
   refine ⟨_, rfl, fun K hK => ?_⟩
   obtain ⟨x44, e44, f44⟩ := hon 15 44 _ (by kernel_rfl) rfl rfl
   obtain ⟨A28x, c28x, rfl, l28x, h28x⟩ := f44
   obtain ⟨x41, e41, f41⟩ := hon 12 41 _ (by kernel_rfl) rfl rfl
   replace f41 : x41 = .bool true := f41
   subst f41
   refine goes_ Try.func23 (by kernel_rfl) rfl #[.slice A28x ([0, 0] : List Int).length c28x] (wanted_on rfl rfl rfl e41) rfl rfl (by first | (simp only [List.map_toArray, List.map_cons, List.map_nil, Act.eval, Array.getD_eq_getD_getElem?, Option.getD_some, e44, e41]; done) | (simp only [List.map_toArray, List.map_cons, List.map_nil, Act.eval, Array.getD_eq_getD_getElem?, Option.getD_some, e44, e41]; rfl) | rfl) ?_
   refine (headgatelaw18_of.calls 60 _ _ ([0, 0] : List Int) ([0, 0] : List Int) ([false, false] : List Bool) _ h28x l28x (by decide +kernel)).mono ?_
   rintro e w2 ⟨v29, v30, rfl, ho29, ho30, hb⟩
   exact ⟨_, rfl, hK.out _ _ _ rfl ⟨_, rfl, ⟨_, _, rfl, (IsRow.of ho29), ⟨_, _, rfl, (IsRow.of ho30), rfl⟩⟩⟩ hb⟩
  refine opLaws_cons ?_ ?_
  ·
   intro a w' hB hoff hon
   refine ⟨_, rfl, fun K hK => ?_⟩
   obtain ⟨x43, e43, f43⟩ := hon 14 43 _ (by kernel_rfl) rfl rfl
   obtain ⟨_, rfl, ⟨_, _, rfl, ⟨A26x, c26x, rfl, l26x, h26x⟩, ⟨_, _, rfl, ⟨A27x, c27x, rfl, l27x, h27x⟩, rfl⟩⟩⟩ := f43
   obtain ⟨x45, e45, f45⟩ := hon 16 45 _ (by kernel_rfl) rfl rfl
   obtain ⟨_, rfl, ⟨_, _, rfl, ⟨A29x, c29x, rfl, l29x, h29x⟩, ⟨_, _, rfl, ⟨A30x, c30x, rfl, l30x, h30x⟩, rfl⟩⟩⟩ := f45
   obtain ⟨x41, e41, f41⟩ := hon 12 41 _ (by kernel_rfl) rfl rfl
   replace f41 : x41 = .bool true := f41
   subst f41
   refine goes_ Try.func34 (by kernel_rfl) rfl #[.agg #[.slice A26x ([0, 0] : List Int).length c26x, .slice A27x ([true, false] : List Bool).length c27x], .agg #[.slice A29x ([0, 0] : List Int).length c29x, .slice A30x ([false, false] : List Bool).length c30x], .bool true] (wanted_on rfl rfl rfl e41) rfl rfl (by first | (simp only [List.map_toArray, List.map_cons, List.map_nil, Act.eval, Array.getD_eq_getD_getElem?, Option.getD_some, e43, e45, e41]; done) | (simp only [List.map_toArray, List.map_cons, List.map_nil, Act.eval, Array.getD_eq_getD_getElem?, Option.getD_some, e43, e45, e41]; rfl) | rfl) ?_
   refine (headgatelaw18_settles.calls 60 _ _ ([0, 0] : List Int) _ _ ([true, false] : List Bool) _ _ ([0, 0] : List Int) _ _ ([false, false] : List Bool) true true _ h26x l26x h27x l27x h29x l29x h30x l30x (by decide +kernel)).mono ?_
   rintro e w2 ⟨rfl, hb⟩
   exact ⟨_, rfl, hK.out _ _ _ rfl rfl hb⟩
  refine opLaws_cons ?_ ?_
  ·
   intro a w' hB hoff hon
   refine ⟨_, rfl, fun K hK => ?_⟩
   obtain ⟨x41, e41, f41⟩ := hon 12 41 _ (by kernel_rfl) rfl rfl
   replace f41 : x41 = .bool true := f41
   subst f41
   obtain ⟨x46, e46, f46⟩ := hon 17 46 _ (by kernel_rfl) rfl rfl
   replace f46 : x46 = .bool true := f46
   subst f46
   refine value_ (w1 := w') (v := .bool true) (by rfl) rfl ?_ ?_
   ·
    go_simp; try rfl
   exact hK.out _ _ _ rfl rfl (Below.refl _ _)
  refine opLaws_cons ?_ ?_
  ·
   intro a w' hB hoff hon
   refine ⟨_, rfl, fun K hK => ?_⟩
   obtain ⟨x47, e47, f47⟩ := hon 18 47 _ (by kernel_rfl) rfl rfl
   replace f47 : x47 = .bool true := f47
   subst f47
   refine value_ (w1 := w') (v := .bool true) (by rfl) rfl ?_ ?_
   ·
    go_simp; try rfl
   exact hK.out _ _ _ rfl rfl (Below.refl _ _)
  refine opLaws_cons ?_ ?_
  ·
   intro a w' hB hoff hon
   refine ⟨_, rfl, fun K hK => ?_⟩
   have e2 : a.tmps[2]? = some (.int .i64 0) := (hoff 2 (by kernel_rfl)).trans rfl
   obtain ⟨x48, e48, f48⟩ := hon 19 48 _ (by kernel_rfl) rfl rfl
   replace f48 : x48 = .bool true := f48
   subst f48
   refine value_ (w1 := w') (v := .int .i64 0) (wanted_on rfl rfl rfl e48) rfl ?_ ?_
   ·
    go_simp; try rfl
   exact hK.out _ _ _ rfl rfl (Below.refl _ _)
  refine opLaws_cons ?_ ?_
  ·
   intro a w' hB hoff hon
   refine ⟨_, rfl, fun K hK => ?_⟩
   obtain ⟨x49, e49, f49⟩ := hon 20 49 _ (by kernel_rfl) rfl rfl
   replace f49 : x49 = .int .i64 0 := f49
   subst f49
   obtain ⟨x48, e48, f48⟩ := hon 19 48 _ (by kernel_rfl) rfl rfl
   replace f48 : x48 = .bool true := f48
   subst f48
   refine value_ (w1 := w') (v := .bool true) (wanted_on rfl rfl rfl e48) rfl ?_ ?_
   ·
    go_simp; try rfl
   exact hK.out _ _ _ rfl rfl (Below.refl _ _)
  refine opLaws_cons ?_ ?_
  ·
   intro a w' hB hoff hon
   refine ⟨_, rfl, fun K hK => ?_⟩
   obtain ⟨x48, e48, f48⟩ := hon 19 48 _ (by kernel_rfl) rfl rfl
   replace f48 : x48 = .bool true := f48
   subst f48
   obtain ⟨x50, e50, f50⟩ := hon 21 50 _ (by kernel_rfl) rfl rfl
   replace f50 : x50 = .bool true := f50
   subst f50
   refine value_ (w1 := w') (v := .bool true) (by rfl) rfl ?_ ?_
   ·
    go_simp; try rfl
   exact hK.out _ _ _ rfl rfl (Below.refl _ _)
  refine opLaws_cons ?_ ?_
  ·
   intro a w' hB hoff hon
   refine ⟨_, rfl, fun K hK => ?_⟩
   obtain ⟨x51, e51, f51⟩ := hon 22 51 _ (by kernel_rfl) rfl rfl
   replace f51 : x51 = .bool true := f51
   subst f51
   refine value_ (w1 := w') (v := .bool true) (by rfl) rfl ?_ ?_
   ·
    go_simp; try rfl
   exact hK.out _ _ _ rfl rfl (Below.refl _ _)
  refine opLaws_cons ?_ ?_
  ·
   intro a w' hB hoff hon
   refine ⟨_, rfl, fun K hK => ?_⟩
   have e1 : a.tmps[1]? = some (.pointer (some ⟨w2.heap.size, 0, none⟩)) := (hoff 1 (by kernel_rfl)).trans rfl
   obtain ⟨x52, e52, f52⟩ := hon 23 52 _ (by kernel_rfl) rfl rfl
   replace f52 : x52 = .bool true := f52
   subst f52
   have bk := blk_below BK6.out hB
   have z0 : w'.cell? ⟨_, 0, none⟩ = some (.slice A4 ([3, 0] : List Int).length c4) := (blk_cell bk 0).trans rfl
   have z1 : w'.cell? ⟨_, 1, none⟩ = some (.slice A5 ([false, false] : List Bool).length c5) := (blk_cell bk 1).trans rfl
   refine value_ (w1 := w') (v := .agg #[.slice A4 ([3, 0] : List Int).length c4, .slice A5 ([false, false] : List Bool).length c5]) (wanted_on rfl rfl rfl e52) rfl ?_ ?_
   ·
    go_simp; try rfl
   exact hK.out _ _ _ rfl ⟨_, rfl, ⟨_, _, rfl, ⟨_, _, rfl, l4, Kd.C_below H4.out hB⟩, ⟨_, _, rfl, ⟨_, _, rfl, l5, Kd.C_below H5.out hB⟩, rfl⟩⟩⟩ (Below.refl _ _)
  refine opLaws_cons ?_ ?_
  ·
   intro a w' hB hoff hon
   refine ⟨_, rfl, fun K hK => ?_⟩
   obtain ⟨x52, e52, f52⟩ := hon 23 52 _ (by kernel_rfl) rfl rfl
   replace f52 : x52 = .bool true := f52
   subst f52
   refine Kd.R_lit_step (Kd.int .i64) _ 3 ?hg (N := 54) ?hd (xs := ([3, 0] : List Int)) (inner := [.int .i64 3, .int .i64 0]) (ok := fun _ => True) (okp := fun _ => True) ?hr ?hp (fun _ hk => hk) trivial (Below.refl _ _) (Nat.le_refl _) (by simp) ?_
   case hd => rfl
   case hg => exact (wanted_on rfl rfl rfl e52)
   case hr => first | (go_simp; done) | (go_simp; rfl)
   case hp => exact (Reps.one (show Kd.M (Kd.int .i64) _ _ _ 3 [.int .i64 3] from rfl) (Reps.one (show Kd.M (Kd.int .i64) _ _ _ 0 [.int .i64 0] from rfl) (Reps.none _ _)))
   intro v w2 ho hb _ _
   exact hK.out _ _ _ rfl (IsRow.of ho) hb
  refine opLaws_cons ?_ ?_
  ·
   intro a w' hB hoff hon
   refine ⟨_, rfl, fun K hK => ?_⟩
   obtain ⟨x54, e54, f54⟩ := hon 25 54 _ (by kernel_rfl) rfl rfl
   obtain ⟨A31x, c31x, rfl, l31x, h31x⟩ := f54
   obtain ⟨x52, e52, f52⟩ := hon 23 52 _ (by kernel_rfl) rfl rfl
   replace f52 : x52 = .bool true := f52
   subst f52
   refine goes_ Try.func23 (by kernel_rfl) rfl #[.slice A31x ([3, 0] : List Int).length c31x] (wanted_on rfl rfl rfl e52) rfl rfl (by first | (simp only [List.map_toArray, List.map_cons, List.map_nil, Act.eval, Array.getD_eq_getD_getElem?, Option.getD_some, e54, e52]; done) | (simp only [List.map_toArray, List.map_cons, List.map_nil, Act.eval, Array.getD_eq_getD_getElem?, Option.getD_some, e54, e52]; rfl) | rfl) ?_
   refine (headgatelaw18_of.calls 60 _ _ ([3, 0] : List Int) ([3, 0] : List Int) ([false, false] : List Bool) _ h31x l31x (by decide +kernel)).mono ?_
   rintro e w2 ⟨v32, v33, rfl, ho32, ho33, hb⟩
   exact ⟨_, rfl, hK.out _ _ _ rfl ⟨_, rfl, ⟨_, _, rfl, (IsRow.of ho32), ⟨_, _, rfl, (IsRow.of ho33), rfl⟩⟩⟩ hb⟩
  refine opLaws_cons ?_ ?_
  ·
   intro a w' hB hoff hon
   refine ⟨_, rfl, fun K hK => ?_⟩
   obtain ⟨x53, e53, f53⟩ := hon 24 53 _ (by kernel_rfl) rfl rfl
   obtain ⟨_, rfl, ⟨_, _, rfl, ⟨A4x, c4x, rfl, l4x, h4x⟩, ⟨_, _, rfl, ⟨A5x, c5x, rfl, l5x, h5x⟩, rfl⟩⟩⟩ := f53
   obtain ⟨x55, e55, f55⟩ := hon 26 55 _ (by kernel_rfl) rfl rfl
   obtain ⟨_, rfl, ⟨_, _, rfl, ⟨A32x, c32x, rfl, l32x, h32x⟩, ⟨_, _, rfl, ⟨A33x, c33x, rfl, l33x, h33x⟩, rfl⟩⟩⟩ := f55
   obtain ⟨x52, e52, f52⟩ := hon 23 52 _ (by kernel_rfl) rfl rfl
   replace f52 : x52 = .bool true := f52
   subst f52
   refine goes_ Try.func32 (by kernel_rfl) rfl #[.agg #[.slice A4x ([3, 0] : List Int).length c4x, .slice A5x ([false, false] : List Bool).length c5x], .agg #[.slice A32x ([3, 0] : List Int).length c32x, .slice A33x ([false, false] : List Bool).length c33x]] (wanted_on rfl rfl rfl e52) rfl rfl (by first | (simp only [List.map_toArray, List.map_cons, List.map_nil, Act.eval, Array.getD_eq_getD_getElem?, Option.getD_some, e53, e55, e52]; done) | (simp only [List.map_toArray, List.map_cons, List.map_nil, Act.eval, Array.getD_eq_getD_getElem?, Option.getD_some, e53, e55, e52]; rfl) | rfl) ?_
   refine (headgatekit_SameSlots.calls 60 _ _ ([3, 0] : List Int) _ _ ([false, false] : List Bool) _ _ ([3, 0] : List Int) _ _ ([false, false] : List Bool) true _ h4x l4x h5x l5x h32x l32x h33x l33x (by decide +kernel)).mono ?_
   rintro e w2 ⟨rfl, hb⟩
   exact ⟨_, rfl, hK.out _ _ _ rfl rfl hb⟩
  refine opLaws_cons ?_ ?_
  ·
   intro a w' hB hoff hon
   refine ⟨_, rfl, fun K hK => ?_⟩
   obtain ⟨x52, e52, f52⟩ := hon 23 52 _ (by kernel_rfl) rfl rfl
   replace f52 : x52 = .bool true := f52
   subst f52
   obtain ⟨x56, e56, f56⟩ := hon 27 56 _ (by kernel_rfl) rfl rfl
   replace f56 : x56 = .bool true := f56
   subst f56
   refine value_ (w1 := w') (v := .bool true) (by rfl) rfl ?_ ?_
   ·
    go_simp; try rfl
   exact hK.out _ _ _ rfl rfl (Below.refl _ _)
  refine opLaws_cons ?_ ?_
  ·
   intro a w' hB hoff hon
   refine ⟨_, rfl, fun K hK => ?_⟩
   obtain ⟨x57, e57, f57⟩ := hon 28 57 _ (by kernel_rfl) rfl rfl
   replace f57 : x57 = .bool true := f57
   subst f57
   refine value_ (w1 := w') (v := .bool true) (by rfl) rfl ?_ ?_
   ·
    go_simp; try rfl
   exact hK.out _ _ _ rfl rfl (Below.refl _ _)
  refine opLaws_cons ?_ ?_
  ·
   intro a w' hB hoff hon
   refine ⟨_, rfl, fun K hK => ?_⟩
   have e6 : a.tmps[6]? = some (.int .i64 0) := (hoff 6 (by kernel_rfl)).trans rfl
   obtain ⟨x58, e58, f58⟩ := hon 29 58 _ (by kernel_rfl) rfl rfl
   replace f58 : x58 = .bool true := f58
   subst f58
   refine value_ (w1 := w') (v := .int .i64 0) (wanted_on rfl rfl rfl e58) rfl ?_ ?_
   ·
    go_simp; try rfl
   exact hK.out _ _ _ rfl rfl (Below.refl _ _)
  refine opLaws_cons ?_ ?_
  ·
   intro a w' hB hoff hon
   refine ⟨_, rfl, fun K hK => ?_⟩
   obtain ⟨x59, e59, f59⟩ := hon 30 59 _ (by kernel_rfl) rfl rfl
   replace f59 : x59 = .int .i64 0 := f59
   subst f59
   obtain ⟨x58, e58, f58⟩ := hon 29 58 _ (by kernel_rfl) rfl rfl
   replace f58 : x58 = .bool true := f58
   subst f58
   refine value_ (w1 := w') (v := .bool true) (wanted_on rfl rfl rfl e58) rfl ?_ ?_
   ·
    go_simp; try rfl
   exact hK.out _ _ _ rfl rfl (Below.refl _ _)
  refine opLaws_cons ?_ ?_
  ·
   intro a w' hB hoff hon
   refine ⟨_, rfl, fun K hK => ?_⟩
   obtain ⟨x58, e58, f58⟩ := hon 29 58 _ (by kernel_rfl) rfl rfl
   replace f58 : x58 = .bool true := f58
   subst f58
   obtain ⟨x60, e60, f60⟩ := hon 31 60 _ (by kernel_rfl) rfl rfl
   replace f60 : x60 = .bool true := f60
   subst f60
   refine value_ (w1 := w') (v := .bool true) (by rfl) rfl ?_ ?_
   ·
    go_simp; try rfl
   exact hK.out _ _ _ rfl rfl (Below.refl _ _)
  refine opLaws_cons ?_ ?_
  ·
   intro a w' hB hoff hon
   refine ⟨_, rfl, fun K hK => ?_⟩
   obtain ⟨x61, e61, f61⟩ := hon 32 61 _ (by kernel_rfl) rfl rfl
   replace f61 : x61 = .bool true := f61
   subst f61
   refine value_ (w1 := w') (v := .bool true) (by rfl) rfl ?_ ?_
   ·
    go_simp; try rfl
   exact hK.out _ _ _ rfl rfl (Below.refl _ _)
  refine opLaws_cons ?_ ?_
  ·
   intro a w' hB hoff hon
   refine ⟨_, rfl, fun K hK => ?_⟩
   have e3 : a.tmps[3]? = some (.int .i64 1) := (hoff 3 (by kernel_rfl)).trans rfl
   obtain ⟨x62, e62, f62⟩ := hon 33 62 _ (by kernel_rfl) rfl rfl
   replace f62 : x62 = .bool true := f62
   subst f62
   refine value_ (w1 := w') (v := .int .i64 1) (wanted_on rfl rfl rfl e62) rfl ?_ ?_
   ·
    go_simp; try rfl
   exact hK.out _ _ _ rfl rfl (Below.refl _ _)
  refine opLaws_cons ?_ ?_
  ·
   intro a w' hB hoff hon
   refine ⟨_, rfl, fun K hK => ?_⟩
   obtain ⟨x63, e63, f63⟩ := hon 34 63 _ (by kernel_rfl) rfl rfl
   replace f63 : x63 = .int .i64 1 := f63
   subst f63
   obtain ⟨x62, e62, f62⟩ := hon 33 62 _ (by kernel_rfl) rfl rfl
   replace f62 : x62 = .bool true := f62
   subst f62
   refine value_ (w1 := w') (v := .bool true) (wanted_on rfl rfl rfl e62) rfl ?_ ?_
   ·
    go_simp; try rfl
   exact hK.out _ _ _ rfl rfl (Below.refl _ _)
  refine opLaws_cons ?_ ?_
  ·
   intro a w' hB hoff hon
   refine ⟨_, rfl, fun K hK => ?_⟩
   obtain ⟨x62, e62, f62⟩ := hon 33 62 _ (by kernel_rfl) rfl rfl
   replace f62 : x62 = .bool true := f62
   subst f62
   obtain ⟨x64, e64, f64⟩ := hon 35 64 _ (by kernel_rfl) rfl rfl
   replace f64 : x64 = .bool true := f64
   subst f64
   refine value_ (w1 := w') (v := .bool true) (by rfl) rfl ?_ ?_
   ·
    go_simp; try rfl
   exact hK.out _ _ _ rfl rfl (Below.refl _ _)
  refine opLaws_cons ?_ ?_
  ·
   intro a w' hB hoff hon
   refine ⟨_, rfl, fun K hK => ?_⟩
   obtain ⟨x65, e65, f65⟩ := hon 36 65 _ (by kernel_rfl) rfl rfl
   replace f65 : x65 = .bool true := f65
   subst f65
   refine value_ (w1 := w') (v := .bool true) (by rfl) rfl ?_ ?_
   ·
    go_simp; try rfl
   exact hK.out _ _ _ rfl rfl (Below.refl _ _)
  refine opLaws_cons ?_ ?_
  ·
   intro a w' hB hoff hon
   refine ⟨_, rfl, fun K hK => ?_⟩
   have e4 : a.tmps[4]? = some (.int .i64 2) := (hoff 4 (by kernel_rfl)).trans rfl
   obtain ⟨x66, e66, f66⟩ := hon 37 66 _ (by kernel_rfl) rfl rfl
   replace f66 : x66 = .bool true := f66
   subst f66
   refine value_ (w1 := w') (v := .int .i64 2) (wanted_on rfl rfl rfl e66) rfl ?_ ?_
   ·
    go_simp; try rfl
   exact hK.out _ _ _ rfl rfl (Below.refl _ _)
  refine opLaws_cons ?_ ?_
  ·
   intro a w' hB hoff hon
   refine ⟨_, rfl, fun K hK => ?_⟩
   obtain ⟨x67, e67, f67⟩ := hon 38 67 _ (by kernel_rfl) rfl rfl
   replace f67 : x67 = .int .i64 2 := f67
   subst f67
   obtain ⟨x66, e66, f66⟩ := hon 37 66 _ (by kernel_rfl) rfl rfl
   replace f66 : x66 = .bool true := f66
   subst f66
   refine value_ (w1 := w') (v := .bool true) (wanted_on rfl rfl rfl e66) rfl ?_ ?_
   ·
    go_simp; try rfl
   exact hK.out _ _ _ rfl rfl (Below.refl _ _)
  refine opLaws_cons ?_ ?_
  ·
   intro a w' hB hoff hon
   refine ⟨_, rfl, fun K hK => ?_⟩
   obtain ⟨x66, e66, f66⟩ := hon 37 66 _ (by kernel_rfl) rfl rfl
   replace f66 : x66 = .bool true := f66
   subst f66
   obtain ⟨x68, e68, f68⟩ := hon 39 68 _ (by kernel_rfl) rfl rfl
   replace f68 : x68 = .bool true := f68
   subst f68
   refine value_ (w1 := w') (v := .bool true) (by rfl) rfl ?_ ?_
   ·
    go_simp; try rfl
   exact hK.out _ _ _ rfl rfl (Below.refl _ _)
  refine opLaws_cons ?_ ?_
  ·
   intro a w' hB hoff hon
   refine ⟨_, rfl, fun K hK => ?_⟩
   obtain ⟨x69, e69, f69⟩ := hon 40 69 _ (by kernel_rfl) rfl rfl
   replace f69 : x69 = .bool true := f69
   subst f69
   refine value_ (w1 := w') (v := .bool true) (by rfl) rfl ?_ ?_
   ·
    go_simp; try rfl
   exact hK.out _ _ _ rfl rfl (Below.refl _ _)
  refine opLaws_cons ?_ ?_
  ·
   intro a w' hB hoff hon
   refine ⟨_, rfl, fun K hK => ?_⟩
   have e5 : a.tmps[5]? = some (.int .i64 3) := (hoff 5 (by kernel_rfl)).trans rfl
   obtain ⟨x70, e70, f70⟩ := hon 41 70 _ (by kernel_rfl) rfl rfl
   replace f70 : x70 = .bool true := f70
   subst f70
   refine value_ (w1 := w') (v := .int .i64 3) (wanted_on rfl rfl rfl e70) rfl ?_ ?_
   ·
    go_simp; try rfl
   exact hK.out _ _ _ rfl rfl (Below.refl _ _)
  refine opLaws_cons ?_ ?_
  ·
   intro a w' hB hoff hon
   refine ⟨_, rfl, fun K hK => ?_⟩
   obtain ⟨x71, e71, f71⟩ := hon 42 71 _ (by kernel_rfl) rfl rfl
   replace f71 : x71 = .int .i64 3 := f71
   subst f71
   obtain ⟨x70, e70, f70⟩ := hon 41 70 _ (by kernel_rfl) rfl rfl
   replace f70 : x70 = .bool true := f70
   subst f70
   refine value_ (w1 := w') (v := .bool true) (wanted_on rfl rfl rfl e70) rfl ?_ ?_
   ·
    go_simp; try rfl
   exact hK.out _ _ _ rfl rfl (Below.refl _ _)
  refine opLaws_cons ?_ ?_
  ·
   intro a w' hB hoff hon
   refine ⟨_, rfl, fun K hK => ?_⟩
   obtain ⟨x70, e70, f70⟩ := hon 41 70 _ (by kernel_rfl) rfl rfl
   replace f70 : x70 = .bool true := f70
   subst f70
   obtain ⟨x72, e72, f72⟩ := hon 43 72 _ (by kernel_rfl) rfl rfl
   replace f72 : x72 = .bool true := f72
   subst f72
   refine value_ (w1 := w') (v := .bool true) (by rfl) rfl ?_ ?_
   ·
    go_simp; try rfl
   exact hK.out _ _ _ rfl rfl (Below.refl _ _)
  refine opLaws_cons ?_ ?_
  ·
   intro a w' hB hoff hon
   refine ⟨_, rfl, fun K hK => ?_⟩
   obtain ⟨x73, e73, f73⟩ := hon 44 73 _ (by kernel_rfl) rfl rfl
   replace f73 : x73 = .bool true := f73
   subst f73
   refine value_ (w1 := w') (v := .bool true) (by rfl) rfl ?_ ?_
   ·
    go_simp; try rfl
   exact hK.out _ _ _ rfl rfl (Below.refl _ _)
  refine opLaws_cons ?_ ?_
  ·
   intro a w' hB hoff hon
   refine ⟨_, rfl, fun K hK => ?_⟩
   have e7 : a.tmps[7]? = some (.int .i64 0) := (hoff 7 (by kernel_rfl)).trans rfl
   obtain ⟨x74, e74, f74⟩ := hon 45 74 _ (by kernel_rfl) rfl rfl
   replace f74 : x74 = .bool true := f74
   subst f74
   refine value_ (w1 := w') (v := .int .i64 0) (wanted_on rfl rfl rfl e74) rfl ?_ ?_
   ·
    go_simp; try rfl
   exact hK.out _ _ _ rfl rfl (Below.refl _ _)
  refine opLaws_cons ?_ ?_
  ·
   intro a w' hB hoff hon
   refine ⟨_, rfl, fun K hK => ?_⟩
   obtain ⟨x75, e75, f75⟩ := hon 46 75 _ (by kernel_rfl) rfl rfl
   replace f75 : x75 = .int .i64 0 := f75
   subst f75
   obtain ⟨x74, e74, f74⟩ := hon 45 74 _ (by kernel_rfl) rfl rfl
   replace f74 : x74 = .bool true := f74
   subst f74
   refine value_ (w1 := w') (v := .bool true) (wanted_on rfl rfl rfl e74) rfl ?_ ?_
   ·
    go_simp; try rfl
   exact hK.out _ _ _ rfl rfl (Below.refl _ _)
  refine opLaws_cons ?_ ?_
  ·
   intro a w' hB hoff hon
   refine ⟨_, rfl, fun K hK => ?_⟩
   obtain ⟨x74, e74, f74⟩ := hon 45 74 _ (by kernel_rfl) rfl rfl
   replace f74 : x74 = .bool true := f74
   subst f74
   obtain ⟨x76, e76, f76⟩ := hon 47 76 _ (by kernel_rfl) rfl rfl
   replace f76 : x76 = .bool true := f76
   subst f76
   refine value_ (w1 := w') (v := .bool true) (by rfl) rfl ?_ ?_
   ·
    go_simp; try rfl
   exact hK.out _ _ _ rfl rfl (Below.refl _ _)
  refine opLaws_cons ?_ ?_
  ·
   intro a w' hB hoff hon
   refine ⟨_, rfl, fun K hK => ?_⟩
   obtain ⟨x77, e77, f77⟩ := hon 48 77 _ (by kernel_rfl) rfl rfl
   replace f77 : x77 = .bool true := f77
   subst f77
   refine value_ (w1 := w') (v := .bool true) (by rfl) rfl ?_ ?_
   ·
    go_simp; try rfl
   exact hK.out _ _ _ rfl rfl (Below.refl _ _)
  exact opLaws_nil
 intro vals w7 hb hv
 have q49 : vals 49 = .bool true := hv 49 _ rfl
 simp only [selOf, List.zipIdx_cons, List.zipIdx_nil, List.map_cons, List.map_nil, Nat.zero_add, Nat.reduceAdd, putSel, if_true, Act.put, List.setIfInBounds_toArray, List.set_cons_zero, List.set_cons_succ, q49]
 clear hv q49
 clear H4
 clear H5
 clear BK6
 replace HB := Aside0.mk (below_step (by repeat (first | (with_reducible first | exact HB.out | apply below_alloc | apply pw_below_drewN | apply below_drew1) | exact HB.out)) hb)
 clear hb
 go_wp2
 go_ret
 exact ⟨rfl, by repeat (first | (with_reducible first | exact HB.out | apply below_alloc | apply pw_below_drewN | apply below_drew1) | exact HB.out)⟩


end Go.Proofs.Ytofonnfkffbjkaa.X
