/- What Go functions of this seat compute, told as Lean functions, and that each call of the Go code comes to that answer; for a law: its row, for every input. Written by a program of the session. -/
import Derived.Test.YtnheknlmmmkbpaaRows
import Derived.Test.YtnheknlmmmkbpaaX62
import Derived.Test.YtnheknlmmmkbpaaX60
import Derived.Test.YtnheknlmmmkbpaaPureBalanceWhich
import Derived.WalkKit
import Derived.ProofKit
import Derived.OpenShut
import Derived.ShutString
import Derived.ChangeOld
import Derived.Below
import Derived.SizedLaws
namespace Go.Proofs.Ytnheknlmmmkbpaa.balanceWhich
open Go.ChangeShapes Go.WideShapes Go.ChangeAt Go.RowKit Go.Proofs.YtnheknlmmmkbpaaW.PrintWords Go.Proofs.YtnheknlmmmkbpaaW.PrintLast Go.Proofs.Ytnheknlmmmkbpaa.X
open Go.ChangeMaps (open_string shut_string)
set_option linter.unusedVariables false
theorem own : ownKnob Try.prog.godebug = none := by kernel_rfl
theorem laidOut : laidOutB Try.prog = true := by kernel_rfl
set_option maxRecDepth 100000 in
theorem lifted (os : Os) (started : os.Started) (H : Type) (enc : TypeId × Value → H) :
    ReturnsInHanded {} Try.checked os 7 .any (Rows.balanceWhichSpec.pre6 enc Try.prog Try.f7 Rows.balanceWhichRow.domain false) (Rows.balanceWhichSpec.post enc Try.prog Try.f7 false true false false) := by
  refine returnsInHanded_of_change_sized (C := Try.checked) own started (by kernel_rfl) Try.func7
    (ChangeSpec.witness6 (enc := enc) (C := Try.checked) false ⟨#[], #[(.agg #[(.slice none 0 0), (.slice none 0 0), (.slice none 0 0)])], []⟩ 8 (by kernel_rfl) (by kernel_rfl) (by kernel_rfl) (by kernel_rfl)) ?_
  intro W base args ds gs before hval0 hW hcnd hsz0 _
  have hsz : (DataW.weightsEach Try.prog (Try.f7.params.toList ++ Rows.balanceWhichSpec.plain.varTypes Try.prog) (ds ++ gs)).all (· ≤ reachBytes) = true := hsz0
  have hval : ∀ (j : Nat) t v, Try.f7.params[j]? = some t → args[j]? = some v → Value.okWide Try.prog W .any base t v := hval0
  have hW' := hW
  obtain ⟨p, q, hA0, hV, rfl, hfz, hnd⟩ := hW
  have hA : DataW.TrodAll enc Try.prog W 0 (fun _ => true) true Try.f7.params.toList args.toList ds p := hA0
  rw [Try.params7] at hA hval hsz
  obtain ⟨v0, vs0, d0, ds0, p0, q0, hargs, rfl, rfl, h0, r0⟩ := trodAll_cons hA
  obtain ⟨rfl, rfl, rfl⟩ := trodAll_nil r0
  obtain rfl : args = #[v0] := by cases args; simp_all
  obtain ⟨rfl, rfl⟩ := trodVars_none hV
  have k0 := h0
  have lt0 : ∀ x ∈ p0, x.block < W.heap.size := by obtain ⟨m, hm⟩ := k0; exact DataW.trod_lt m _ _ _ hm
  obtain ⟨cs0, s0, rfl, hk0, w0⟩ := down_agg Try.underlying33 (show Down Try.prog 33 k33 _ from down_struct Try.underlying33 (fun x : S33 => (x.f0, x.f1, x.f2)) (fun a => ⟨a.1, a.2.1, a.2.2⟩) (fun _ => rfl) (downF_cons rfl (by kernel_rfl) (down_slice Try.underlying30 (by kernel_rfl) (B := 8) (by kernel_rfl) (down_int Try.underlying3)) (downF_cons rfl (by kernel_rfl) (down_slice Try.underlying30 (by kernel_rfl) (B := 8) (by kernel_rfl) (down_int Try.underlying3)) (downF_one rfl (by kernel_rfl) (by kernel_rfl) (down_slice Try.underlying31 (by kernel_rfl) (B := 1) (by kernel_rfl) (down_bool Try.underlying4)))))) (hval 0 33 v0 rfl rfl) h0 (fun n_ hn_ => of_decide_eq_true (List.all_eq_true.1 hsz n_ (DataW.weights_mem_each (j := 0) rfl rfl n_ hn_)))
  obtain ⟨A0_0, c0_0, A0_1, c0_1, A0_2, c0_2, rfl, hc0_0, hr0_0, hc0_1, hr0_1, hc0_2, hr0_2⟩ := k33_open hk0
  clear hA0 hval0 hsz0 hsz
  refine (X.headgatelaw31_BalanceWhich.walk Pure.BalanceWhich s0 A0_0 c0_0 A0_1 c0_1 A0_2 c0_2 W hr0_0 hc0_0 hr0_1 hc0_1 hr0_2 hc0_2 w0).mono fun e W' ⟨he, bel⟩ => ?_
  subst he
  exact ⟨_, rfl, _, _, _, [], _, [], hW', trodAll_mk1 (shut_bool Try.underlying4 _), (trodAll_cons_mk (Below.trod laidOut (by kernel_rfl) (of_decide_eq_true (by kernel_rfl)) k0 bel lt0) trodAll_mk0), rfl, bel.frame _, fun h => by cases h⟩
theorem over : Rows.balanceWhichRow.holds Try.pinned (OpenSpec.ofChange Rows.balanceWhichSpec) :=
  OpenClaim.holds_of_wide 7 Try.f7 rfl rfl rfl rfl rfl rfl rfl ⟨rfl, rfl, rfl, rfl, rfl⟩ rfl rfl rfl rfl rfl (by kernel_rfl) Try.func7 (by kernel_rfl)
    (of_decide_eq_true (by kernel_rfl)) (by unfold Func.isWrapper; first | (rw [if_pos (by decide +kernel)]; kernel_rfl) | (rw [if_neg (by decide +kernel)]; exact ⟨rfl, rfl⟩))
    (fun os started H enc _ => lifted os started H enc)
theorem proved : Rows.BalanceWhichSaid := over
#print axioms proved
end Go.Proofs.Ytnheknlmmmkbpaa.balanceWhich
namespace Go.Proofs.Ytnheknlmmmkbpaa
/-- The row, under a short name, for the claim. -/
theorem balanceWhich_holds : Rows.BalanceWhichSaid := balanceWhich.proved
end Go.Proofs.Ytnheknlmmmkbpaa
