/- What Go functions of this seat compute, told as Lean functions, and that each call of the Go code comes to that answer; for a law: its row, for every input. Written by a program of the session. -/
import Derived.Test.YtaofihdmgdpenaaX0
import Derived.Test.YtaofihdmgdpenaaX56
import Derived.Test.YtaofihdmgdpenaaX57
namespace Go.Proofs.Ytaofihdmgdpenaa.X
open Go.RowKit Go.Proofs.YtaofihdmgdpenaaW.PrintWords Go.Proofs.YtaofihdmgdpenaaW.PrintLast Go.Proofs.YtaofihdmgdpenaaW.PrintMore
attribute [local go_sem] max2_int min2_int max_two min_two max_three min_three max_four min_four   -- for this text's walks alone
set_option linter.unusedVariables false
set_option linter.unusedSimpArgs false

/-! ### slices_Concat_int_int: function 56 -/
def slices_Concat_int_int.f (l0 : List (List Int)) : Option (List Int) := if catLen l0 < 17592186044416 then some l0.flatten else none
set_option maxHeartbeats 2000000 in
set_option maxRecDepth 100000 in
theorem slices_Concat_int_int.calls (A0 : Option Addr) (c0 : Nat) (l0 : List (List Int)) (r : List Int) (w : World) (hr0 : Kd.C (Kd.slice 3 (Kd.int .i64)) w A0 l0.length l0) (hc0 : l0.length ≤ c0) (h : slices_Concat_int_int.f l0 = some r) :
  Calls Try.prog 56 #[.slice A0 l0.length c0] w fun e w' => ∃ v0_ : Value, e = .returned (v0_) ∧ Kd.R (Kd.int .i64) 3 w' w.heap.size (fun _ => True) v0_ r ∧ Below w.heap.size w w' := by
 unfold slices_Concat_int_int.f at h
 by_cases hl : catLen l0 < 17592186044416
 case neg => rw [if_neg hl] at h; cases h
 rw [if_pos hl] at h
 obtain rfl := Option.some.inj h
 clear h
 have hml := Kd.C_max hr0
 have LM := Aside0.mk hl
 have HR0 := Aside0.mk hr0
 clear hr0 hl
 go_enter Try.func56, Try.ntmps56
 go_wp2
 go_loopg [3, 11] l0.length (fun gg v3 v11 wr => ∃ i : Nat, i + gg = l0.length ∧ v3 = .int .i64 (catLen (l0.take i) : Int) ∧ v11 = .int .i64 i ∧ Aside0 (wr = w))
 case atStart => exact ⟨0, by omega, by simp [catLen], rfl, ⟨rfl⟩⟩
 case round =>
  obtain ⟨i, hi, rfl, rfl, HW⟩ := hrel
  obtain rfl := HW.out.symm
  clear HW
  by_cases hil : i < l0.length
  ·
   obtain ⟨ad, Ai, ci, hA, hx, hci, _⟩ := rows_at HR0.out i hil
   subst hA
   have hs := catLen_take l0 i hil
   have hb1 := catLen_le l0 (i + 1)
   have hb2 := LM.out
   have HS := Aside0.mk hs
   obtain ⟨s, hse⟩ : ∃ s, s = catLen (l0.take i) := ⟨_, rfl⟩
   obtain ⟨q, hqe⟩ : ∃ q, q = (l0.getD i []).length := ⟨_, rfl⟩
   have HE := Aside0.mk hse
   have HQ := Aside0.mk hqe
   rw [← hse, ← hqe] at hs
   rw [← hqe] at hx
   rw [← hse]
   have hsb : s + q < 17592186044416 := by omega
   clear hs hb1 hb2 hse hqe hci
   have d1 : decide ((i : Int) < (l0.length : Int)) = true := decide_eq_true (by omega)
   have d2 : decide (i < l0.length) = true := decide_eq_true hil
   have d3 : decide ((s : Int) + (q : Int) < 0) = false := decide_eq_false (by omega)
   have u1 : IntKind.i64.wrap ((s : Int) + (q : Int)) = (s : Int) + (q : Int) := IntWalk.i64_in _ (by omega)
   have u2 : IntKind.i64.wrap ((i : Int) + 1) = (i : Int) + 1 := IntWalk.i64_in _ (by omega)
   go_wp2
   go_roundg (gk - 1)
   case measure => omega
   case rel => exact ⟨i + 1, by omega, by rw [HS.out, ← HE.out, ← HQ.out]; first | rfl | simp, by go_num, ⟨rfl⟩⟩
  ·
   have d1 : decide ((i : Int) < (l0.length : Int)) = false := decide_eq_false (by omega)
   have d2 : decide (i < l0.length) = false := decide_eq_false hil
   have hti : l0.take i = l0 := List.take_of_length_le (by omega)
   rw [hti]
   clear hti
   obtain ⟨s, hse⟩ : ∃ s, s = catLen l0 := ⟨_, rfl⟩
   have HE := Aside0.mk hse
   rw [← hse]
   clear hse
   go_wp2_with fail
   refine (slices_Grow_int_int.atNil s _ (by have := LM.out; have := HE.out; omega)).mono ?_
   rintro e w1 ⟨v1, rfl, ho, hb⟩
   have HO := Aside0.mk ho
   have HB := Aside0.mk hb
   clear ho hb
   go_wp2
   go_loopg [6, 27] l0.length (fun gg v6 v27 wr => ∃ i : Nat, i + gg = l0.length ∧ v27 = .int .i64 i ∧ Aside0 (Kd.R (Kd.int .i64) 3 wr w.heap.size (fun _ => True) v6 (l0.take i).flatten) ∧ Aside0 (Below w.heap.size w wr))
   case atStart => exact ⟨0, by omega, rfl, ⟨by simpa using HO.out⟩, HB⟩
   case round =>
    clear HO HB
    obtain ⟨i, hi, rfl, HO, HB⟩ := hrel
    by_cases hil : i < l0.length
    ·
     obtain ⟨ad, Ai, ci, hA, hx, hci, hCi⟩ := rows_at HR0.out i hil
     subst hA
     have HF := Aside0.mk (flatten_take l0 i hil)
     have HLe := Aside0.mk (show ((l0.take i).flatten.length + (l0.getD i []).length) * 8 ≤ 140737488355328 by rw [catLen_flatten, ← catLen_take l0 i hil]; have := catLen_le l0 (i + 1); have := LM.out; omega)
     replace hx := pw_cell_below HB.out hx
     have HC := Aside0.mk (Kd.C_below hCi HB.out)
     obtain ⟨y, hy⟩ : ∃ y, y = l0.getD i [] := ⟨_, rfl⟩
     have HY := Aside0.mk hy
     rw [← hy] at hx HC HLe HF
     obtain ⟨xs, hxs⟩ : ∃ xs, xs = (l0.take i).flatten := ⟨_, rfl⟩
     have HX := Aside0.mk hxs
     rw [← hxs] at HO HLe HF
     clear hCi hci hy hxs
     have d1 : decide ((i : Int) < (l0.length : Int)) = true := decide_eq_true (by omega)
     have d2 : decide (i < l0.length) = true := decide_eq_true hil
     have u2 : IntKind.i64.wrap ((i : Int) + 1) = (i : Int) + 1 := IntWalk.i64_in _ (by omega)
     go_wp2_with ((with_reducible refine gate_builtin (b := .append) (xs := #[.tmp 31, .tmp 32]) rfl ?_); at_builtin; refine Kd.R_append_rows (Kd.int .i64) (w0 := w) w.heap.size rfl (.tmp 31) (.tmp 32) 22 3 (.int .i64 0) 8 rfl Try.underlying22 info3 rfl (by decide) (by omega) _ xs y _ _ _ (fun _ => True) (fun _ => False) rfl rfl ?aO ?aR (fun _ _ h => h) (fun _ h => h.elim) (fun _ _ => trivial) ?aB ?aS ?aL ?_; (case aO => exact HO.out); (case aR => exact HC.out); (case aB => exact HB.out); (case aS => exact HB.out.size); (case aL => exact HLe.out); intro v2 w2 ho hb _ _; have n0_ := Aside0.mk ho; have n1_ := Aside0.mk hb; clear HO HB; have HO := n0_; have HB := n1_; clear n0_ n1_ ho hb)
     go_roundg (gk - 1)
     case measure => omega
     case rel => exact ⟨i + 1, by omega, by go_num, ⟨by rw [HF.out]; exact HO.out⟩, HB⟩
    ·
     have d1 : decide ((i : Int) < (l0.length : Int)) = false := decide_eq_false (by omega)
     have d2 : decide (i < l0.length) = false := decide_eq_false hil
     have hti : l0.take i = l0 := List.take_of_length_le (by omega)
     rw [hti] at HO
     clear hti
     go_wp2
     go_ret
     exact ⟨_, rfl, HO.out, HB.out⟩


end Go.Proofs.Ytaofihdmgdpenaa.X
