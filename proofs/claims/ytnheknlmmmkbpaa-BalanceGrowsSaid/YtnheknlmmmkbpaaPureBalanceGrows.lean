/- For every number, the ratio for more frames is not less and is the greatest one, and the target lies between 1 and the number of frames: BalanceGrows returns true. -/
import Derived.Test.YtnheknlmmmkbpaaX14
namespace Go.Proofs.Ytnheknlmmmkbpaa.Pure
open Go.RowKit Go.Proofs.Ytnheknlmmmkbpaa.X Go.Proofs.YtnheknlmmmkbpaaW.PrintWords Go.Proofs.YtnheknlmmmkbpaaW.PrintLast

theorem mod_f (a n : Int) (h1 : 1 ≤ n) (h2 : n ≤ 4611686018427387904) : headgatekit_Mod.f a n = some (a % n) := by
  unfold headgatekit_Mod.f
  rw [if_neg (by omega), if_neg (by omega)]
  have e := Int.tmod_eq_emod (a := a) (b := n)
  have g0 := Int.emod_nonneg a (show n ≠ 0 by omega)
  have g1 := Int.emod_lt_of_pos a (show 0 < n by omega)
  by_cases c : 0 ≤ a ∨ n ∣ a
  · rw [if_pos c] at e
    rw [if_neg (by omega), e]
    simp
  · rw [if_neg c] at e
    have hn : (n.natAbs : Int) = n := by omega
    have hd : a % n ≠ 0 := fun h => c (.inr (Int.dvd_of_emod_eq_zero h))
    rw [hn] at e
    rw [if_pos (by omega), e]
    congr 1
    unfold wrap64
    omega

theorem awake_true : headgatelaw31_awake.f 60 = some true := by decide +kernel
theorem all_grow : ∀ m : Fin 256, (headgatelaw31_BalanceGrows.f 60 (m.val : Int)) = some true := by decide +kernel
theorem BalanceGrows : headgatelaw31_BalanceGrows.Pure := by
  intro a0 _
  refine ⟨60, ?_⟩
  have g0 := Int.emod_nonneg a0 (show (256 : Int) ≠ 0 by decide)
  have g1 := Int.emod_lt_of_pos a0 (show (0 : Int) < 256 by decide)
  have h := all_grow ⟨(a0 % 256).toNat, by omega⟩
  unfold headgatelaw31_BalanceGrows.f at h ⊢
  rw [mod_f _ _ (by decide) (by decide)] at h ⊢
  have e : (((⟨(a0 % 256).toNat, by omega⟩ : Fin 256).val : Int)) % 256 = a0 % 256 := by
    show ((a0 % 256).toNat : Int) % 256 = a0 % 256
    omega
  rw [e] at h
  exact h

end Go.Proofs.Ytnheknlmmmkbpaa.Pure
