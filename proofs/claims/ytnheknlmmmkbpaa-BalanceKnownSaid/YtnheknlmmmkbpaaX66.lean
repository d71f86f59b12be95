/- What Go functions of this seat compute, told as Lean functions, and that each call of the Go code comes to that answer; for a law: its row, for every input. Written by a program of the session. -/
import Derived.Test.YtnheknlmmmkbpaaX0
import Derived.Test.YtnheknlmmmkbpaaX4
import Derived.Test.YtnheknlmmmkbpaaX2
import Derived.Test.YtnheknlmmmkbpaaX13
import Derived.Test.YtnheknlmmmkbpaaX16
import Derived.Test.YtnheknlmmmkbpaaX26
import Derived.Test.YtnheknlmmmkbpaaX39
import Derived.Test.YtnheknlmmmkbpaaX43
import Derived.Test.YtnheknlmmmkbpaaX63
namespace Go.Proofs.Ytnheknlmmmkbpaa.X
open Go.RowKit Go.Proofs.YtnheknlmmmkbpaaW.PrintWords Go.Proofs.YtnheknlmmmkbpaaW.PrintLast Go.Proofs.YtnheknlmmmkbpaaW.PrintMore
attribute [local go_sem] max2_int min2_int max_two min_two max_three min_three max_four min_four   -- for this text's walks alone
set_option linter.unusedVariables false
set_option linter.unusedSimpArgs false

/-! ### headgatelaw31_BalanceKnown: function 8 -/
def headgatelaw31_BalanceKnown.f : Option (Bool) := some true
set_option maxHeartbeats 4000000 in
set_option maxRecDepth 100000 in
theorem headgatelaw31_BalanceKnown.calls (r : Bool) (w : World) (h : headgatelaw31_BalanceKnown.f = some r) :
  Calls Try.prog 8 #[] w fun e w' => e = .returned (.bool r) ∧ Below w.heap.size w w' := by
 obtain rfl := Option.some.inj h
 have HB := Aside0.mk (Below.refl w.heap.size w)
 go_enter Try.func8, Try.ntmps8
 go_wp2_with fail
 refine (balance_Ratio.calls 60 257 0 2 _ (by first | decide +kernel | kernel_rfl)).mono ?_
 rintro e w1 ⟨rfl, hd⟩
 have hb := drawn_below hd
 clear hd
 replace HB := Aside0.mk (below_step (upH HB) hb)
 clear hb
 go_wp2_with fail
 refine (balance_Part.calls 1 2 1 0 2 _ (by first | decide +kernel | kernel_rfl)).mono ?_
 rintro e w2 ⟨rfl, hd⟩
 have hb := drawn_below hd
 clear hd
 replace HB := Aside0.mk (below_step (upH HB) hb)
 clear hb
 go_wp2_with fail
 refine (headgatelaw31_numbers.calls 60 0 1 0 true _ (by first | decide +kernel | kernel_rfl)).mono ?_
 rintro e w3 ⟨rfl, hd⟩
 have hb := drawn_below hd
 clear hd
 replace HB := Aside0.mk (below_step (upH HB) hb)
 clear hb
 go_wp2_with fail
 refine (headgatelaw31_numbers.calls 60 1 1 1 true _ (by first | decide +kernel | kernel_rfl)).mono ?_
 rintro e w4 ⟨rfl, hd⟩
 have hb := drawn_below hd
 clear hd
 replace HB := Aside0.mk (below_step (upH HB) hb)
 clear hb
 go_wp2_with fail
 refine (headgatelaw31_numbers.calls 60 15 1 8 true _ (by first | decide +kernel | kernel_rfl)).mono ?_
 rintro e w5 ⟨rfl, hd⟩
 have hb := drawn_below hd
 clear hd
 replace HB := Aside0.mk (below_step (upH HB) hb)
 clear hb
 go_wp2_with fail
 refine (headgatelaw31_numbers.calls 60 16 2 6 true _ (by first | decide +kernel | kernel_rfl)).mono ?_
 rintro e w6 ⟨rfl, hd⟩
 have hb := drawn_below hd
 clear hd
 replace HB := Aside0.mk (below_step (upH HB) hb)
 clear hb
 go_wp2_with fail
 refine (headgatelaw31_numbers.calls 60 36 3 9 true _ (by first | decide +kernel | kernel_rfl)).mono ?_
 rintro e w7 ⟨rfl, hd⟩
 have hb := drawn_below hd
 clear hd
 replace HB := Aside0.mk (below_step (upH HB) hb)
 clear hb
 go_wp2_with fail
 refine (headgatelaw31_numbers.calls 60 256 8 29 true _ (by first | decide +kernel | kernel_rfl)).mono ?_
 rintro e w8 ⟨rfl, hd⟩
 have hb := drawn_below hd
 clear hd
 replace HB := Aside0.mk (below_step (upH HB) hb)
 clear hb
 go_wp2_with fail
 refine (headgatelaw31_part.calls 7 1 2 4 true _ (by first | decide +kernel | kernel_rfl)).mono ?_
 rintro e w9 ⟨rfl, hd⟩
 have hb := drawn_below hd
 clear hd
 replace HB := Aside0.mk (below_step (upH HB) hb)
 clear hb
 go_wp2_with fail
 refine (headgatelaw31_part.calls 7 0 3 0 true _ (by first | decide +kernel | kernel_rfl)).mono ?_
 rintro e w10 ⟨rfl, hd⟩
 have hb := drawn_below hd
 clear hd
 replace HB := Aside0.mk (below_step (upH HB) hb)
 clear hb
 go_wp2_with fail
 refine (headgatelaw31_part.calls 10 1 3 3 true _ (by first | decide +kernel | kernel_rfl)).mono ?_
 rintro e w11 ⟨rfl, hd⟩
 have hb := drawn_below hd
 clear hd
 replace HB := Aside0.mk (below_step (upH HB) hb)
 clear hb
 go_wp2_with fail
 refine (headgatelaw31_lists.calls 60 (fun _ => True) _ _ ([3, 2, 1] : List Int) (fun _ => True) _ _ ([] : List Int) _ _ ([] : List Int) ([3, 2, 1] : List Int) ([] : List Int) ([false, false, false, false, false, false, false, false] : List Bool) _ ?s0 ?s1 ?s2 ?t2 (by first | decide +kernel | kernel_rfl)).mono ?_
 case s0 => exact Kd.V_mono (Kd.V_mk (Nat.le_refl _) (Kd.C_F (Kd.heap_int .i64) (by repeat (first | ((refine lit_Cb _ _ _ ?_ _ ?_) <;> (simp; done)) | (with_reducible refine Kd.C_alloc ?_ _) | (with_reducible refine Kd.C_drewN ?_ _) | (with_reducible refine Kd.C_drew ?_))))) (fun _ _ => trivial)
 case s1 => exact Kd.V_mono (Kd.V_mk (c := 0) (Nat.zero_le _) (Kd.C_F (Kd.heap_int .i64) (Kd.C_nil _ _))) (fun _ _ => trivial)
 case s2 => repeat (first | exact Kd.C_nil _ _ | (with_reducible refine Kd.C_alloc ?_ _) | (with_reducible refine Kd.C_drewN ?_ _) | (with_reducible refine Kd.C_drew ?_))
 case t2 => exact Nat.zero_le _
 rintro e w12 ⟨v2, v3, v4, rfl, ho2, ho3, ho4, hb⟩
 replace HB := Aside0.mk (below_step (upH HB) hb)
 obtain ⟨A2, c2, rfl, l2, h2⟩ : IsRow (Kd.int .i64) ([3, 2, 1] : List Int) v2 w12 := by first | exact IsRow.of ho2 | exact IsRow.ofV ho2
 have H2 := Aside0.mk h2
 clear h2 ho2
 obtain ⟨A3, c3, rfl, l3, h3⟩ : IsRow (Kd.int .i64) ([] : List Int) v3 w12 := by first | exact IsRow.of ho3 | exact IsRow.ofV ho3
 have H3 := Aside0.mk h3
 clear h3 ho3
 obtain ⟨A4, c4, rfl, l4, h4⟩ : IsRow Kd.bool ([false, false, false, false, false, false, false, false] : List Bool) v4 w12 := by first | exact IsRow.of ho4 | exact IsRow.ofV ho4
 have H4 := Aside0.mk h4
 clear h4 ho4
 clear hb
 go_wp2_with fail
 refine (headgatelaw31_which.calls 60 _ _ ([3, 2, 1] : List Int) _ _ ([] : List Int) _ _ ([false, false, false, false, false, false, false, false] : List Bool) 1 true _ ?s0 ?t0 ?s1 ?t1 ?s2 ?t2 (by first | decide +kernel | kernel_rfl)).mono ?_
 case s0 => repeat (first | exact H2.out | (with_reducible refine Kd.C_alloc ?_ _) | (with_reducible refine Kd.C_drewN ?_ _) | (with_reducible refine Kd.C_drew ?_))
 case t0 => exact l2
 case s1 => repeat (first | exact H3.out | (with_reducible refine Kd.C_alloc ?_ _) | (with_reducible refine Kd.C_drewN ?_ _) | (with_reducible refine Kd.C_drew ?_))
 case t1 => exact l3
 case s2 => repeat (first | exact H4.out | (with_reducible refine Kd.C_alloc ?_ _) | (with_reducible refine Kd.C_drewN ?_ _) | (with_reducible refine Kd.C_drew ?_))
 case t2 => exact l4
 rintro e w13 ⟨rfl, hb⟩
 clear H2
 clear H3
 clear H4
 replace HB := Aside0.mk (below_step (upH HB) hb)
 clear hb
 go_wp2_with fail
 refine (headgatelaw31_lists.calls 60 (fun _ => True) _ _ ([3] : List Int) (fun _ => True) _ _ ([2, 1] : List Int) _ _ ([1] : List Int) ([3] : List Int) ([2, 1] : List Int) ([false, true, false, false, false, false, false, false] : List Bool) _ ?s0 ?s1 ?s2 ?t2 (by first | decide +kernel | kernel_rfl)).mono ?_
 case s0 => exact Kd.V_mono (Kd.V_mk (Nat.le_refl _) (Kd.C_F (Kd.heap_int .i64) (by repeat (first | ((refine lit_Cb _ _ _ ?_ _ ?_) <;> (simp; done)) | (with_reducible refine Kd.C_alloc ?_ _) | (with_reducible refine Kd.C_drewN ?_ _) | (with_reducible refine Kd.C_drew ?_))))) (fun _ _ => trivial)
 case s1 => exact Kd.V_mono (Kd.V_mk (Nat.le_refl _) (Kd.C_F (Kd.heap_int .i64) (by repeat (first | ((refine lit_Cb _ _ _ ?_ _ ?_) <;> (simp; done)) | (with_reducible refine Kd.C_alloc ?_ _) | (with_reducible refine Kd.C_drewN ?_ _) | (with_reducible refine Kd.C_drew ?_))))) (fun _ _ => trivial)
 case s2 => repeat (first | ((refine lit_Cb _ _ _ ?_ _ ?_) <;> (simp; done)) | (with_reducible refine Kd.C_alloc ?_ _) | (with_reducible refine Kd.C_drewN ?_ _) | (with_reducible refine Kd.C_drew ?_))
 case t2 => exact Nat.le_refl _
 rintro e w14 ⟨v8, v9, v10, rfl, ho8, ho9, ho10, hb⟩
 replace HB := Aside0.mk (below_step (upH HB) hb)
 obtain ⟨A8, c8, rfl, l8, h8⟩ : IsRow (Kd.int .i64) ([3] : List Int) v8 w14 := by first | exact IsRow.of ho8 | exact IsRow.ofV ho8
 have H8 := Aside0.mk h8
 clear h8 ho8
 obtain ⟨A9, c9, rfl, l9, h9⟩ : IsRow (Kd.int .i64) ([2, 1] : List Int) v9 w14 := by first | exact IsRow.of ho9 | exact IsRow.ofV ho9
 have H9 := Aside0.mk h9
 clear h9 ho9
 obtain ⟨A10, c10, rfl, l10, h10⟩ : IsRow Kd.bool ([false, true, false, false, false, false, false, false] : List Bool) v10 w14 := by first | exact IsRow.of ho10 | exact IsRow.ofV ho10
 have H10 := Aside0.mk h10
 clear h10 ho10
 clear hb
 go_wp2_with fail
 refine (headgatelaw31_which.calls 60 _ _ ([3] : List Int) _ _ ([2, 1] : List Int) _ _ ([false, true, false, false, false, false, false, false] : List Bool) 2 true _ ?s0 ?t0 ?s1 ?t1 ?s2 ?t2 (by first | decide +kernel | kernel_rfl)).mono ?_
 case s0 => repeat (first | exact H8.out | (with_reducible refine Kd.C_alloc ?_ _) | (with_reducible refine Kd.C_drewN ?_ _) | (with_reducible refine Kd.C_drew ?_))
 case t0 => exact l8
 case s1 => repeat (first | exact H9.out | (with_reducible refine Kd.C_alloc ?_ _) | (with_reducible refine Kd.C_drewN ?_ _) | (with_reducible refine Kd.C_drew ?_))
 case t1 => exact l9
 case s2 => repeat (first | exact H10.out | (with_reducible refine Kd.C_alloc ?_ _) | (with_reducible refine Kd.C_drewN ?_ _) | (with_reducible refine Kd.C_drew ?_))
 case t2 => exact l10
 rintro e w15 ⟨rfl, hb⟩
 clear H8
 clear H9
 clear H10
 replace HB := Aside0.mk (below_step (upH HB) hb)
 clear hb
 go_wp2_with fail
 refine (headgatelaw31_lists.calls 60 (fun _ => True) _ _ ([] : List Int) (fun _ => True) _ _ ([1] : List Int) _ _ ([1] : List Int) ([] : List Int) ([1] : List Int) ([false, true, false, false, false, false, false, false] : List Bool) _ ?s0 ?s1 ?s2 ?t2 (by first | decide +kernel | kernel_rfl)).mono ?_
 case s0 => exact Kd.V_mono (Kd.V_mk (c := 0) (Nat.zero_le _) (Kd.C_F (Kd.heap_int .i64) (Kd.C_nil _ _))) (fun _ _ => trivial)
 case s1 => exact Kd.V_mono (Kd.V_mk (Nat.le_refl _) (Kd.C_F (Kd.heap_int .i64) (by repeat (first | ((refine lit_Cb _ _ _ ?_ _ ?_) <;> (simp; done)) | (with_reducible refine Kd.C_alloc ?_ _) | (with_reducible refine Kd.C_drewN ?_ _) | (with_reducible refine Kd.C_drew ?_))))) (fun _ _ => trivial)
 case s2 => repeat (first | ((refine lit_Cb _ _ _ ?_ _ ?_) <;> (simp; done)) | (with_reducible refine Kd.C_alloc ?_ _) | (with_reducible refine Kd.C_drewN ?_ _) | (with_reducible refine Kd.C_drew ?_))
 case t2 => exact Nat.le_refl _
 rintro e w16 ⟨v13, v14, v15, rfl, ho13, ho14, ho15, hb⟩
 replace HB := Aside0.mk (below_step (upH HB) hb)
 obtain ⟨A13, c13, rfl, l13, h13⟩ : IsRow (Kd.int .i64) ([] : List Int) v13 w16 := by first | exact IsRow.of ho13 | exact IsRow.ofV ho13
 have H13 := Aside0.mk h13
 clear h13 ho13
 obtain ⟨A14, c14, rfl, l14, h14⟩ : IsRow (Kd.int .i64) ([1] : List Int) v14 w16 := by first | exact IsRow.of ho14 | exact IsRow.ofV ho14
 have H14 := Aside0.mk h14
 clear h14 ho14
 obtain ⟨A15, c15, rfl, l15, h15⟩ : IsRow Kd.bool ([false, true, false, false, false, false, false, false] : List Bool) v15 w16 := by first | exact IsRow.of ho15 | exact IsRow.ofV ho15
 have H15 := Aside0.mk h15
 clear h15 ho15
 clear hb
 go_wp2_with fail
 refine (headgatelaw31_which.calls 60 _ _ ([] : List Int) _ _ ([1] : List Int) _ _ ([false, true, false, false, false, false, false, false] : List Bool) 2 true _ ?s0 ?t0 ?s1 ?t1 ?s2 ?t2 (by first | decide +kernel | kernel_rfl)).mono ?_
 case s0 => repeat (first | exact H13.out | (with_reducible refine Kd.C_alloc ?_ _) | (with_reducible refine Kd.C_drewN ?_ _) | (with_reducible refine Kd.C_drew ?_))
 case t0 => exact l13
 case s1 => repeat (first | exact H14.out | (with_reducible refine Kd.C_alloc ?_ _) | (with_reducible refine Kd.C_drewN ?_ _) | (with_reducible refine Kd.C_drew ?_))
 case t1 => exact l14
 case s2 => repeat (first | exact H15.out | (with_reducible refine Kd.C_alloc ?_ _) | (with_reducible refine Kd.C_drewN ?_ _) | (with_reducible refine Kd.C_drew ?_))
 case t2 => exact l15
 rintro e w17 ⟨rfl, hb⟩
 clear H13
 clear H14
 clear H15
 replace HB := Aside0.mk (below_step (upH HB) hb)
 clear hb
 go_wp2_with fail
 refine (headgatelaw31_lists.calls 60 (fun _ => True) _ _ ([] : List Int) (fun _ => True) _ _ ([1] : List Int) _ _ ([] : List Int) ([] : List Int) ([1] : List Int) ([false, false, false, false, false, false, false, false] : List Bool) _ ?s0 ?s1 ?s2 ?t2 (by first | decide +kernel | kernel_rfl)).mono ?_
 case s0 => exact Kd.V_mono (Kd.V_mk (c := 0) (Nat.zero_le _) (Kd.C_F (Kd.heap_int .i64) (Kd.C_nil _ _))) (fun _ _ => trivial)
 case s1 => exact Kd.V_mono (Kd.V_mk (Nat.le_refl _) (Kd.C_F (Kd.heap_int .i64) (by repeat (first | ((refine lit_Cb _ _ _ ?_ _ ?_) <;> (simp; done)) | (with_reducible refine Kd.C_alloc ?_ _) | (with_reducible refine Kd.C_drewN ?_ _) | (with_reducible refine Kd.C_drew ?_))))) (fun _ _ => trivial)
 case s2 => repeat (first | exact Kd.C_nil _ _ | (with_reducible refine Kd.C_alloc ?_ _) | (with_reducible refine Kd.C_drewN ?_ _) | (with_reducible refine Kd.C_drew ?_))
 case t2 => exact Nat.zero_le _
 rintro e w18 ⟨v17, v18, v19, rfl, ho17, ho18, ho19, hb⟩
 replace HB := Aside0.mk (below_step (upH HB) hb)
 obtain ⟨A17, c17, rfl, l17, h17⟩ : IsRow (Kd.int .i64) ([] : List Int) v17 w18 := by first | exact IsRow.of ho17 | exact IsRow.ofV ho17
 have H17 := Aside0.mk h17
 clear h17 ho17
 obtain ⟨A18, c18, rfl, l18, h18⟩ : IsRow (Kd.int .i64) ([1] : List Int) v18 w18 := by first | exact IsRow.of ho18 | exact IsRow.ofV ho18
 have H18 := Aside0.mk h18
 clear h18 ho18
 obtain ⟨A19, c19, rfl, l19, h19⟩ : IsRow Kd.bool ([false, false, false, false, false, false, false, false] : List Bool) v19 w18 := by first | exact IsRow.of ho19 | exact IsRow.ofV ho19
 have H19 := Aside0.mk h19
 clear h19 ho19
 clear hb
 go_wp2_with fail
 refine (headgatelaw31_which.calls 60 _ _ ([] : List Int) _ _ ([1] : List Int) _ _ ([false, false, false, false, false, false, false, false] : List Bool) 3 true _ ?s0 ?t0 ?s1 ?t1 ?s2 ?t2 (by first | decide +kernel | kernel_rfl)).mono ?_
 case s0 => repeat (first | exact H17.out | (with_reducible refine Kd.C_alloc ?_ _) | (with_reducible refine Kd.C_drewN ?_ _) | (with_reducible refine Kd.C_drew ?_))
 case t0 => exact l17
 case s1 => repeat (first | exact H18.out | (with_reducible refine Kd.C_alloc ?_ _) | (with_reducible refine Kd.C_drewN ?_ _) | (with_reducible refine Kd.C_drew ?_))
 case t1 => exact l18
 case s2 => repeat (first | exact H19.out | (with_reducible refine Kd.C_alloc ?_ _) | (with_reducible refine Kd.C_drewN ?_ _) | (with_reducible refine Kd.C_drew ?_))
 case t2 => exact l19
 rintro e w19 ⟨rfl, hb⟩
 clear H17
 clear H18
 clear H19
 replace HB := Aside0.mk (below_step (upH HB) hb)
 clear hb
 go_wp2_with fail
 refine (headgatelaw31_lists.calls 60 (fun _ => True) _ _ ([] : List Int) (fun _ => True) _ _ ([] : List Int) _ _ ([] : List Int) ([] : List Int) ([] : List Int) ([false, false, false, false, false, false, false, false] : List Bool) _ ?s0 ?s1 ?s2 ?t2 (by first | decide +kernel | kernel_rfl)).mono ?_
 case s0 => exact Kd.V_mono (Kd.V_mk (c := 0) (Nat.zero_le _) (Kd.C_F (Kd.heap_int .i64) (Kd.C_nil _ _))) (fun _ _ => trivial)
 case s1 => exact Kd.V_mono (Kd.V_mk (c := 0) (Nat.zero_le _) (Kd.C_F (Kd.heap_int .i64) (Kd.C_nil _ _))) (fun _ _ => trivial)
 case s2 => repeat (first | exact Kd.C_nil _ _ | (with_reducible refine Kd.C_alloc ?_ _) | (with_reducible refine Kd.C_drewN ?_ _) | (with_reducible refine Kd.C_drew ?_))
 case t2 => exact Nat.zero_le _
 rintro e w20 ⟨v20, v21, v22, rfl, ho20, ho21, ho22, hb⟩
 replace HB := Aside0.mk (below_step (upH HB) hb)
 obtain ⟨A20, c20, rfl, l20, h20⟩ : IsRow (Kd.int .i64) ([] : List Int) v20 w20 := by first | exact IsRow.of ho20 | exact IsRow.ofV ho20
 have H20 := Aside0.mk h20
 clear h20 ho20
 obtain ⟨A21, c21, rfl, l21, h21⟩ : IsRow (Kd.int .i64) ([] : List Int) v21 w20 := by first | exact IsRow.of ho21 | exact IsRow.ofV ho21
 have H21 := Aside0.mk h21
 clear h21 ho21
 obtain ⟨A22, c22, rfl, l22, h22⟩ : IsRow Kd.bool ([false, false, false, false, false, false, false, false] : List Bool) v22 w20 := by first | exact IsRow.of ho22 | exact IsRow.ofV ho22
 have H22 := Aside0.mk h22
 clear h22 ho22
 clear hb
 go_wp2_with fail
 refine (headgatelaw31_which.calls 60 _ _ ([] : List Int) _ _ ([] : List Int) _ _ ([false, false, false, false, false, false, false, false] : List Bool) 0 true _ ?s0 ?t0 ?s1 ?t1 ?s2 ?t2 (by first | decide +kernel | kernel_rfl)).mono ?_
 case s0 => repeat (first | exact H20.out | (with_reducible refine Kd.C_alloc ?_ _) | (with_reducible refine Kd.C_drewN ?_ _) | (with_reducible refine Kd.C_drew ?_))
 case t0 => exact l20
 case s1 => repeat (first | exact H21.out | (with_reducible refine Kd.C_alloc ?_ _) | (with_reducible refine Kd.C_drewN ?_ _) | (with_reducible refine Kd.C_drew ?_))
 case t1 => exact l21
 case s2 => repeat (first | exact H22.out | (with_reducible refine Kd.C_alloc ?_ _) | (with_reducible refine Kd.C_drewN ?_ _) | (with_reducible refine Kd.C_drew ?_))
 case t2 => exact l22
 rintro e w21 ⟨rfl, hb⟩
 clear H20
 clear H21
 clear H22
 replace HB := Aside0.mk (below_step (upH HB) hb)
 clear hb
 go_wp2_with fail
 refine (headgatelaw31_lists.calls 60 (fun _ => True) _ _ ([3, 2, 1] : List Int) (fun _ => True) _ _ ([] : List Int) _ _ ([] : List Int) ([3, 2, 1] : List Int) ([] : List Int) ([false, false, false, false, false, false, false, false] : List Bool) _ ?s0 ?s1 ?s2 ?t2 (by first | decide +kernel | kernel_rfl)).mono ?_
 case s0 => exact Kd.V_mono (Kd.V_mk (Nat.le_refl _) (Kd.C_F (Kd.heap_int .i64) (by repeat (first | ((refine lit_Cb _ _ _ ?_ _ ?_) <;> (simp; done)) | (with_reducible refine Kd.C_alloc ?_ _) | (with_reducible refine Kd.C_drewN ?_ _) | (with_reducible refine Kd.C_drew ?_))))) (fun _ _ => trivial)
 case s1 => exact Kd.V_mono (Kd.V_mk (c := 0) (Nat.zero_le _) (Kd.C_F (Kd.heap_int .i64) (Kd.C_nil _ _))) (fun _ _ => trivial)
 case s2 => repeat (first | exact Kd.C_nil _ _ | (with_reducible refine Kd.C_alloc ?_ _) | (with_reducible refine Kd.C_drewN ?_ _) | (with_reducible refine Kd.C_drew ?_))
 case t2 => exact Nat.zero_le _
 rintro e w22 ⟨v24, v25, v26, rfl, ho24, ho25, ho26, hb⟩
 replace HB := Aside0.mk (below_step (upH HB) hb)
 obtain ⟨A24, c24, rfl, l24, h24⟩ : IsRow (Kd.int .i64) ([3, 2, 1] : List Int) v24 w22 := by first | exact IsRow.of ho24 | exact IsRow.ofV ho24
 have H24 := Aside0.mk h24
 clear h24 ho24
 obtain ⟨A25, c25, rfl, l25, h25⟩ : IsRow (Kd.int .i64) ([] : List Int) v25 w22 := by first | exact IsRow.of ho25 | exact IsRow.ofV ho25
 have H25 := Aside0.mk h25
 clear h25 ho25
 obtain ⟨A26, c26, rfl, l26, h26⟩ : IsRow Kd.bool ([false, false, false, false, false, false, false, false] : List Bool) v26 w22 := by first | exact IsRow.of ho26 | exact IsRow.ofV ho26
 have H26 := Aside0.mk h26
 clear h26 ho26
 clear hb
 go_wp2_with fail
 refine (balance_Lacks.calls 60 _ _ ([3, 2, 1] : List Int) _ _ ([] : List Int) _ _ ([false, false, false, false, false, false, false, false] : List Bool) 2 0 _ ?s0 ?t0 ?s1 ?t1 ?s2 ?t2 (by first | decide +kernel | kernel_rfl)).mono ?_
 case s0 => repeat (first | exact H24.out | (with_reducible refine Kd.C_alloc ?_ _) | (with_reducible refine Kd.C_drewN ?_ _) | (with_reducible refine Kd.C_drew ?_))
 case t0 => exact l24
 case s1 => repeat (first | exact H25.out | (with_reducible refine Kd.C_alloc ?_ _) | (with_reducible refine Kd.C_drewN ?_ _) | (with_reducible refine Kd.C_drew ?_))
 case t1 => exact l25
 case s2 => repeat (first | exact H26.out | (with_reducible refine Kd.C_alloc ?_ _) | (with_reducible refine Kd.C_drewN ?_ _) | (with_reducible refine Kd.C_drew ?_))
 case t2 => exact l26
 rintro e w23 ⟨rfl, hb⟩
 clear H24
 clear H25
 clear H26
 replace HB := Aside0.mk (below_step (upH HB) hb)
 clear hb
 go_wp2_with fail
 refine (headgatelaw31_lists.calls 60 (fun _ => True) _ _ ([3, 2, 1] : List Int) (fun _ => True) _ _ ([] : List Int) _ _ ([] : List Int) ([3, 2, 1] : List Int) ([] : List Int) ([false, false, false, false, false, false, false, false] : List Bool) _ ?s0 ?s1 ?s2 ?t2 (by first | decide +kernel | kernel_rfl)).mono ?_
 case s0 => exact Kd.V_mono (Kd.V_mk (Nat.le_refl _) (Kd.C_F (Kd.heap_int .i64) (by repeat (first | ((refine lit_Cb _ _ _ ?_ _ ?_) <;> (simp; done)) | (with_reducible refine Kd.C_alloc ?_ _) | (with_reducible refine Kd.C_drewN ?_ _) | (with_reducible refine Kd.C_drew ?_))))) (fun _ _ => trivial)
 case s1 => exact Kd.V_mono (Kd.V_mk (c := 0) (Nat.zero_le _) (Kd.C_F (Kd.heap_int .i64) (Kd.C_nil _ _))) (fun _ _ => trivial)
 case s2 => repeat (first | exact Kd.C_nil _ _ | (with_reducible refine Kd.C_alloc ?_ _) | (with_reducible refine Kd.C_drewN ?_ _) | (with_reducible refine Kd.C_drew ?_))
 case t2 => exact Nat.zero_le _
 rintro e w24 ⟨v28, v29, v30, rfl, ho28, ho29, ho30, hb⟩
 replace HB := Aside0.mk (below_step (upH HB) hb)
 obtain ⟨A28, c28, rfl, l28, h28⟩ : IsRow (Kd.int .i64) ([3, 2, 1] : List Int) v28 w24 := by first | exact IsRow.of ho28 | exact IsRow.ofV ho28
 have H28 := Aside0.mk h28
 clear h28 ho28
 obtain ⟨A29, c29, rfl, l29, h29⟩ : IsRow (Kd.int .i64) ([] : List Int) v29 w24 := by first | exact IsRow.of ho29 | exact IsRow.ofV ho29
 have H29 := Aside0.mk h29
 clear h29 ho29
 obtain ⟨A30, c30, rfl, l30, h30⟩ : IsRow Kd.bool ([false, false, false, false, false, false, false, false] : List Bool) v30 w24 := by first | exact IsRow.of ho30 | exact IsRow.ofV ho30
 have H30 := Aside0.mk h30
 clear h30 ho30
 clear hb
 go_wp2_with fail
 refine (balance_Steps.calls 60 _ _ ([3, 2, 1] : List Int) _ _ ([] : List Int) _ _ ([false, false, false, false, false, false, false, false] : List Bool) 2 0 _ ?s0 ?t0 ?s1 ?t1 ?s2 ?t2 (by first | decide +kernel | kernel_rfl)).mono ?_
 case s0 => repeat (first | exact H28.out | (with_reducible refine Kd.C_alloc ?_ _) | (with_reducible refine Kd.C_drewN ?_ _) | (with_reducible refine Kd.C_drew ?_))
 case t0 => exact l28
 case s1 => repeat (first | exact H29.out | (with_reducible refine Kd.C_alloc ?_ _) | (with_reducible refine Kd.C_drewN ?_ _) | (with_reducible refine Kd.C_drew ?_))
 case t1 => exact l29
 case s2 => repeat (first | exact H30.out | (with_reducible refine Kd.C_alloc ?_ _) | (with_reducible refine Kd.C_drewN ?_ _) | (with_reducible refine Kd.C_drew ?_))
 case t2 => exact l30
 rintro e w25 ⟨rfl, hb⟩
 clear H28
 clear H29
 clear H30
 replace HB := Aside0.mk (below_step (upH HB) hb)
 clear hb
 go_wp2_with fail
 refine (headgatelaw31_awake.calls 60 true _ (by first | decide +kernel | kernel_rfl)).mono ?_
 rintro e w26 ⟨rfl, hb⟩
 replace HB := Aside0.mk (below_step (upH HB) hb)
 clear hb
 go_wp2
 go_ret
 exact ⟨rfl, by repeat (first | (with_reducible first | exact HB.out | apply below_alloc | apply pw_below_drewN | apply below_drew1) | exact HB.out)⟩

/-- THE ONE PURE STATEMENT of headgatelaw31_BalanceKnown. -/
def headgatelaw31_BalanceKnown.Pure : Prop := headgatelaw31_BalanceKnown.f = some true
theorem headgatelaw31_BalanceKnown.walk (P : headgatelaw31_BalanceKnown.Pure)  (w : World)  :
  Calls Try.prog 8 #[] w fun e w' => e = .returned (.bool true) ∧ Below w.heap.size w w' := by
 have h := P
 refine (headgatelaw31_BalanceKnown.calls true w h).mono ?_
 rintro e w' ⟨rfl, hd⟩
 exact ⟨rfl, hd⟩


end Go.Proofs.Ytnheknlmmmkbpaa.X
