/- For every number, a part of it and the rest are together the number or one more: BalanceParts returns true. -/
import Derived.Test.YtnheknlmmmkbpaaX16
namespace Go.Proofs.Ytnheknlmmmkbpaa.Pure
open Go.RowKit Go.Proofs.Ytnheknlmmmkbpaa.X Go.Proofs.YtnheknlmmmkbpaaW.PrintWords Go.Proofs.YtnheknlmmmkbpaaW.PrintLast

theorem mod_f (a n : Int) (h1 : 1 ≤ n) (h2 : n ≤ 4611686018427387904) : headgatekit_Mod.f a n = some (a % n) := by
  unfold headgatekit_Mod.f
  rw [if_neg (by omega), if_neg (by omega)]
  have e := Int.tmod_eq_emod (a := a) (b := n)
  have g0 := Int.emod_nonneg a (show n ≠ 0 by omega)
  have g1 := Int.emod_lt_of_pos a (show 0 < n by omega)
  by_cases c : 0 ≤ a ∨ n ∣ a
  · rw [if_pos c] at e
    rw [if_neg (by omega), e]
    simp
  · rw [if_neg c] at e
    have hn : (n.natAbs : Int) = n := by omega
    have hd : a % n ≠ 0 := fun h => c (.inr (Int.dvd_of_emod_eq_zero h))
    rw [hn] at e
    rw [if_pos (by omega), e]
    congr 1
    unfold wrap64
    omega

theorem w64 {x : Int} (h0 : -9223372036854775808 ≤ x) (h1 : x ≤ 9223372036854775807) : wrap64 x = x := by
  unfold wrap64
  omega

theorem awake_true : headgatelaw31_awake.f 60 = some true := by decide +kernel
theorem mul_le {a b c d : Int} (h0 : 0 ≤ a) (h1 : a ≤ b) (h2 : 0 ≤ c) (h3 : c ≤ d) : 0 ≤ a * c ∧ a * c ≤ b * d := ⟨Int.mul_nonneg h0 h2, Int.mul_le_mul h1 h3 h2 (by omega)⟩
theorem part_f (k m d : Int) (k0 : 0 ≤ k) (k1 : k ≤ 256) (d0 : 1 ≤ d) (d1 : d ≤ 1000) (m0 : 0 ≤ m) (m1 : m ≤ d) :
    ∃ a, balance_Part.f k m d = some (a, 0) ∧ 2 * (d * a) ≤ 2 * (k * m) + d ∧ 2 * (k * m) + d < 2 * (d * a) + 2 * d ∧ 0 ≤ a ∧ a ≤ k := by
  obtain ⟨p0, p1⟩ := mul_le k0 k1 m0 (show m ≤ 1000 by omega)
  have p2 : k * m ≤ k * d := Int.mul_le_mul_of_nonneg_left m1 k0
  refine ⟨(2 * (k * m) + d) / (2 * d), ?_, ?_, ?_, ?_, ?_⟩
  · unfold balance_Part.f
    rw [if_neg (by omega), if_neg (by omega), if_neg (by omega), if_neg (by omega), if_neg (by omega), if_neg (by omega)]
    have e0 : wrap64 (2 * k) = 2 * k := w64 (by omega) (by omega)
    have e1 : wrap64 (2 * d) = 2 * d := w64 (by omega) (by omega)
    have a1 : 2 * k * m = 2 * (k * m) := Int.mul_assoc _ _ _
    have e2 : wrap64 (2 * k * m) = 2 * (k * m) := by rw [a1]; exact w64 (by omega) (by omega)
    have e3 : wrap64 (2 * (k * m) + d) = 2 * (k * m) + d := w64 (by omega) (by omega)
    rw [e1, if_neg (by omega), e0, e2, e3, Int.tdiv_eq_ediv_of_nonneg (by omega)]
    have q0 : 0 ≤ (2 * (k * m) + d) / (2 * d) := Int.ediv_nonneg (by omega) (by omega)
    have q1 : (2 * (k * m) + d) / (2 * d) ≤ 2 * (k * m) + d := Int.ediv_le_self _ (by omega)
    rw [w64 (by omega) (by omega)]
  all_goals
    have h1 := Int.mul_ediv_add_emod (2 * (k * m) + d) (2 * d)
    have h2 := Int.emod_nonneg (2 * (k * m) + d) (show 2 * d ≠ 0 by omega)
    have h3 := Int.emod_lt_of_pos (2 * (k * m) + d) (show 0 < 2 * d by omega)
    have a2 : 2 * d * ((2 * (k * m) + d) / (2 * d)) = 2 * (d * ((2 * (k * m) + d) / (2 * d))) := Int.mul_assoc _ _ _
    rw [a2] at h1
  · omega
  · omega
  · exact Int.ediv_nonneg (by omega) (by omega)
  · generalize (2 * (k * m) + d) / (2 * d) = q at *
    by_cases c : q ≤ k
    · exact c
    · have h4 : d * (k + 1) ≤ d * q := Int.mul_le_mul_of_nonneg_left (by omega) (by omega)
      rw [Int.mul_add, Int.mul_one, Int.mul_comm d k] at h4
      omega
theorem BalanceParts : headgatelaw31_BalanceParts.Pure := by
  intro a0 a1 a2 _ _ _
  refine ⟨60, ?_⟩
  have g0 := Int.emod_nonneg a0 (show (257 : Int) ≠ 0 by decide)
  have g1 := Int.emod_lt_of_pos a0 (show (0 : Int) < 257 by decide)
  have g2 := Int.emod_nonneg a2 (show (1000 : Int) ≠ 0 by decide)
  have g3 := Int.emod_lt_of_pos a2 (show (0 : Int) < 1000 by decide)
  unfold headgatelaw31_BalanceParts.f
  rw [mod_f _ _ (by decide) (by decide), mod_f _ _ (by decide) (by decide)]
  simp only [Option.bind_some]
  generalize a0 % 257 = k at *
  obtain ⟨d, hd⟩ : ∃ d, d = a2 % 1000 + 1 := ⟨_, rfl⟩
  have e1 : wrap64 (1 + a2 % 1000) = d := by rw [w64 (by omega) (by omega)]; omega
  have e2 : wrap64 (d + 1) = d + 1 := w64 (by omega) (by omega)
  rw [e1, e2, mod_f _ _ (by omega) (by omega)]
  simp only [Option.bind_some]
  have g4 := Int.emod_nonneg a1 (show d + 1 ≠ 0 by omega)
  have g5 := Int.emod_lt_of_pos a1 (show 0 < d + 1 by omega)
  generalize a1 % (d + 1) = m at *
  have e3 : wrap64 (d - m) = d - m := w64 (by omega) (by omega)
  obtain ⟨a, ha, h1, h2, h3, h4⟩ := part_f k m d (by omega) (by omega) (by omega) (by omega) (by omega) (by omega)
  obtain ⟨b, hb, i1, i2, i3, i4⟩ := part_f k (d - m) d (by omega) (by omega) (by omega) (by omega) (by omega) (by omega)
  rw [e3, ha, hb]
  simp only [Option.bind_some]
  rw [Int.mul_sub, ] at i1 i2
  obtain ⟨p0, p1⟩ := mul_le (show 0 ≤ k by omega) (show k ≤ 256 by omega) (show 0 ≤ m by omega) (show m ≤ 1000 by omega)
  obtain ⟨q0, q1⟩ := mul_le (show 0 ≤ k by omega) (show k ≤ 256 by omega) (show 0 ≤ d by omega) (show d ≤ 1000 by omega)
  obtain ⟨r0, r1⟩ := mul_le (show 0 ≤ a by omega) (show a ≤ 256 by omega) (show 0 ≤ d by omega) (show d ≤ 1000 by omega)
  have f1 : wrap64 (a + b) = a + b := w64 (by omega) (by omega)
  have f2 : wrap64 (k + 1) = k + 1 := w64 (by omega) (by omega)
  have f3 : wrap64 (2 * a) = 2 * a := w64 (by omega) (by omega)
  have f4 : wrap64 (2 * k) = 2 * k := w64 (by omega) (by omega)
  have f5 : 2 * a * d = 2 * (a * d) := Int.mul_assoc _ _ _
  have f6 : 2 * k * m = 2 * (k * m) := Int.mul_assoc _ _ _
  have f7 : wrap64 (2 * (a * d)) = 2 * (a * d) := w64 (by omega) (by omega)
  have f8 : wrap64 (2 * (k * m)) = 2 * (k * m) := w64 (by omega) (by omega)
  have f9 : wrap64 (2 * (k * m) + d) = 2 * (k * m) + d := w64 (by omega) (by omega)
  have f0 : wrap64 (2 * (a * d) + d) = 2 * (a * d) + d := w64 (by omega) (by omega)
  have s : a + b = k ∨ a + b = k + 1 := by
    have u : d * (a + b) ≤ d * (k + 1) := by
      rw [Int.mul_add, Int.mul_add, Int.mul_one, Int.mul_comm d k]; omega
    have v : d * (k + 1) < d * (a + b + 2) := by
      rw [Int.mul_add, Int.mul_add, Int.mul_add, Int.mul_one, Int.mul_comm d k]; omega
    have u' := Int.le_of_mul_le_mul_left u (by omega)
    have v' := Int.lt_of_mul_lt_mul_left v (by omega)
    omega
  rw [Int.mul_comm d a] at h1 h2
  simp only [f1, f2, f3, f4, f5, f6, f7, f8, f9, f0, if_true]
  rcases s with s | s
  · rw [if_pos s, if_pos (by omega), if_pos (by omega), if_pos (by omega), if_pos (by omega), awake_true]; rfl
  · rw [if_neg (by omega), if_pos s, if_pos (by omega), if_pos (by omega), if_pos (by omega), if_pos (by omega), awake_true]; rfl

end Go.Proofs.Ytnheknlmmmkbpaa.Pure
