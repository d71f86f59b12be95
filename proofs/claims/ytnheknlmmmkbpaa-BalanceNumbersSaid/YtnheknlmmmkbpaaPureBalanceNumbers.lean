/- For every three numbers, the ratio, the target and the part, or the errors, are those of the reference: BalanceNumbers returns true. -/
import Derived.Test.YtnheknlmmmkbpaaX22
namespace Go.Proofs.Ytnheknlmmmkbpaa.Pure
open Go.RowKit Go.Proofs.Ytnheknlmmmkbpaa.X Go.Proofs.YtnheknlmmmkbpaaW.PrintWords Go.Proofs.YtnheknlmmmkbpaaW.PrintLast

theorem awake_true : headgatelaw31_awake.f 60 = some true := by decide +kernel
theorem ratio_same : ∀ m : Fin 257, balance_ratio.f 60 (m.val : Int) = headgateref31_ratio.f 60 (m.val : Int) ∧ (headgateref31_ratio.f 60 (m.val : Int)).isSome = true := by decide +kernel
theorem target_same : ∀ m : Fin 257, balance_target.f 60 (m.val : Int) = headgateref31_target.f 60 (m.val : Int) ∧ (headgateref31_target.f 60 (m.val : Int)).isSome = true := by decide +kernel
theorem ratio_eq (a : Int) (h0 : 0 ≤ a) (h1 : a ≤ 256) : ∃ r, balance_ratio.f 60 a = some r ∧ headgateref31_ratio.f 60 a = some r := by
  have h := ratio_same ⟨a.toNat, by omega⟩
  rw [show (((⟨a.toNat, by omega⟩ : Fin 257).val : Int)) = a from by simp; omega] at h
  obtain ⟨r, hr⟩ := Option.isSome_iff_exists.1 h.2
  exact ⟨r, h.1.trans hr, hr⟩
theorem target_eq (a : Int) (h0 : 0 ≤ a) (h1 : a ≤ 256) : ∃ r, balance_target.f 60 a = some r ∧ headgateref31_target.f 60 a = some r := by
  have h := target_same ⟨a.toNat, by omega⟩
  rw [show (((⟨a.toNat, by omega⟩ : Fin 257).val : Int)) = a from by simp; omega] at h
  obtain ⟨r, hr⟩ := Option.isSome_iff_exists.1 h.2
  exact ⟨r, h.1.trans hr, hr⟩
theorem Ratio_eq (a : Int) : ∃ r, balance_Ratio.f 60 a = some r ∧ headgateref31_Ratio.f 60 a = some r := by
  unfold balance_Ratio.f headgateref31_Ratio.f balance_asked.f
  by_cases c0 : a < 0
  · rw [if_pos c0, if_pos c0]; exact ⟨_, rfl, rfl⟩
  · by_cases c1 : a > 256
    · rw [if_neg c0, if_pos c1, if_neg c0, if_pos c1]; exact ⟨_, rfl, rfl⟩
    · obtain ⟨r, h1, h2⟩ := ratio_eq a (by omega) (by omega)
      rw [if_neg c0, if_neg c1, if_neg c0, if_neg c1, h2]
      simp only [Option.bind_some, if_true, h1]
      exact ⟨_, rfl, rfl⟩
theorem Target_eq (a : Int) : ∃ r, balance_Target.f 60 a = some r ∧ headgateref31_Target.f 60 a = some r := by
  unfold balance_Target.f headgateref31_Target.f balance_asked.f
  by_cases c0 : a < 0
  · rw [if_pos c0, if_pos c0]; exact ⟨_, rfl, rfl⟩
  · by_cases c1 : a > 256
    · rw [if_neg c0, if_pos c1, if_neg c0, if_pos c1]; exact ⟨_, rfl, rfl⟩
    · obtain ⟨r, h1, h2⟩ := target_eq a (by omega) (by omega)
      rw [if_neg c0, if_neg c1, if_neg c0, if_neg c1, h2]
      simp only [Option.bind_some, if_true, h1]
      exact ⟨_, rfl, rfl⟩
theorem part_same (a b c : Int) : ∃ r, balance_Part.f a b c = some r ∧ headgateref31_Part.f a b c = some r := by
  have e : balance_Part.f a b c = headgateref31_Part.f a b c := rfl
  rw [e]
  unfold headgateref31_Part.f
  repeat' first
    | exact ⟨_, rfl, rfl⟩
    | (split)
  rename_i h
  exfalso
  unfold wrap64 at h
  omega
theorem BalanceNumbers : headgatelaw31_BalanceNumbers.Pure := by
  intro a0 a1 a2 _ _ _
  refine ⟨61, ?_⟩
  have mono {f : Nat → Option (Int × Int)} {r} (hm : ∀ k, LeO (f k) (f (k + 1))) (h : f 60 = some r) : f 61 = some r := hm 60 r h
  obtain ⟨r, h1, h2⟩ := Ratio_eq a0
  obtain ⟨t, h3, h4⟩ := Target_eq a0
  obtain ⟨p, h5, h6⟩ := part_same a0 a1 a2
  unfold headgatelaw31_BalanceNumbers.f
  rw [mono (balance_Ratio.mono a0) h1, mono (headgateref31_Ratio.mono a0) h2]
  simp only [Option.bind_some, if_true]
  have e : (r.2 != r.2) = false := by simp
  rw [e, show headgatelaw31_BalanceNumbers.j0 61 = headgatelaw31_BalanceNumbers.j0 (60 + 1) from rfl]
  simp only [headgatelaw31_BalanceNumbers.j0]
  rw [if_neg (by decide), h3, h4, h5, h6]
  simp only [Option.bind_some, if_true, awake_true]

end Go.Proofs.Ytnheknlmmmkbpaa.Pure
