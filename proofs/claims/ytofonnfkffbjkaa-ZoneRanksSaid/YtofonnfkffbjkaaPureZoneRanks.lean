/- Who may as Background may as Normal and as Reserve, and more free frames never forbid anything nor raise the level: ZoneRanks returns true, for every two numbers. -/
import Derived.Test.YtofonnfkffbjkaaX22
namespace Go.Proofs.Ytofonnfkffbjkaa.Pure
open Go.RowKit Go.Proofs.Ytofonnfkffbjkaa.X Go.Proofs.YtofonnfkffbjkaaW.PrintWords Go.Proofs.YtofonnfkffbjkaaW.PrintLast

theorem mod_f (a n : Int) (h1 : 1 ≤ n) (h2 : n ≤ 4611686018427387904) : headgatekit_Mod.f a n = some (a % n) := by
  unfold headgatekit_Mod.f
  rw [if_neg (by omega), if_neg (by omega)]
  have e := Int.tmod_eq_emod (a := a) (b := n)
  have g0 := Int.emod_nonneg a (show n ≠ 0 by omega)
  have g1 := Int.emod_lt_of_pos a (show 0 < n by omega)
  by_cases c : 0 ≤ a ∨ n ∣ a
  · rw [if_pos c] at e
    rw [if_neg (by omega), e]
    simp
  · rw [if_neg c] at e
    have hn : (n.natAbs : Int) = n := by omega
    have hd : a % n ≠ 0 := fun h => c (.inr (Int.dvd_of_emod_eq_zero h))
    rw [hn] at e
    rw [if_pos (by omega), e]
    congr 1
    unfold wrap64
    omega

theorem w64 {x : Int} (h0 : -9223372036854775808 ≤ x) (h1 : x ≤ 9223372036854775807) : wrap64 x = x := by
  unfold wrap64
  omega

theorem known_true : headgatelaw10_ZoneKnown.f 40 = some true := by decide +kernel
def fl (mn hi c : Int) : Int := if c = 1 then mn else if c = 2 then 0 else hi
theorem compare_lt (a b : Int) (h : a < b) : cmp_Compare_int.f a b = some (-1) := by
  unfold cmp_Compare_int.f cmp_isNaN_int.f
  simp [h]
theorem asked_ok (k : Nat) (mn lo hi c fr : Int) (h0 : 0 ≤ mn) (h1 : mn < lo) (h2 : lo < hi) (h3 : hi ≤ 256) (h4 : 1 ≤ c) (h5 : c ≤ 3) (h6 : 0 ≤ fr) (h7 : fr ≤ 256) :
    zone_asked.f (k + 2) mn lo hi c fr 0 = some (fl mn hi c, 0) := by
  have hc : zone_Check.f (k + 2) mn lo hi 256 = some 0 := by
    unfold zone_Check.f
    rw [if_neg (by decide)]
    simp only [zone_Check.j0]
    rw [if_neg (by decide), if_neg (by omega), decide_eq_false (show ¬ hi > 256 by omega)]
    simp only [zone_Check.j1]
    rw [if_neg (by decide), compare_lt mn lo h1]
    simp only [Option.bind_some]
    rw [if_neg (by decide), compare_lt lo hi h2]
    simp only [Option.bind_some]
    rw [if_neg (by decide)]
  unfold zone_asked.f fl
  rw [hc]
  simp only [Option.bind_some, if_true]
  rw [if_neg (by omega), if_neg (by omega), if_neg (by omega), if_neg (by omega), if_neg (by omega), if_neg (by omega)]
  by_cases c1 : c = 1
  · rw [if_pos c1, if_pos c1]
  · rw [if_neg c1, if_neg c1]
    by_cases c2 : c = 2
    · rw [if_pos c2, if_pos c2]
    · rw [if_neg c2, if_neg c2]
theorem may_ok (k : Nat) (mn lo hi c fr : Int) (h0 : 0 ≤ mn) (h1 : mn < lo) (h2 : lo < hi) (h3 : hi ≤ 256) (h4 : 1 ≤ c) (h5 : c ≤ 3) (h6 : 0 ≤ fr) (h7 : fr ≤ 256) :
    zone_May.f (k + 2) mn lo hi c fr = some (decide (fr > fl mn hi c), 0) := by
  unfold zone_May.f
  rw [asked_ok k mn lo hi c fr h0 h1 h2 h3 h4 h5 h6 h7]
  simp only [Option.bind_some, if_true]
theorem ZoneRanks : headgatelaw10_ZoneRanks.Pure := by
  intro a0 a1 _ _
  refine ⟨40, ?_⟩
  unfold headgatelaw10_ZoneRanks.f headgatelaw10_made.f
  rw [known_true, mod_f _ _ (by decide) (by decide), mod_f _ _ (by decide) (by decide)]
  simp only [Option.bind_some]
  have g0 := Int.emod_nonneg a0 (show (1073741824 : Int) ≠ 0 by decide)
  have g1 := Int.emod_lt_of_pos a0 (show (0 : Int) < 1073741824 by decide)
  have g2 := Int.emod_nonneg a1 (show (100 : Int) ≠ 0 by decide)
  have g3 := Int.emod_lt_of_pos a1 (show (0 : Int) < 100 by decide)
  generalize a0 % 1073741824 = n at *
  generalize a1 % 100 = more at *
  simp only [Int.tmod_eq_emod_of_nonneg g0, Int.tdiv_eq_ediv_of_nonneg g0]
  have q1 : wrap64 (n / 20) = n / 20 := w64 (by omega) (by omega)
  have q2 : wrap64 (n / 400) = n / 400 := w64 (by omega) (by omega)
  have q4 : wrap64 (n / 24000) = n / 24000 := w64 (by omega) (by omega)
  simp only [q1, q2, q4, Int.tmod_eq_emod_of_nonneg (show 0 ≤ n / 20 by omega), Int.tmod_eq_emod_of_nonneg (show 0 ≤ n / 400 by omega), Int.tmod_eq_emod_of_nonneg (show 0 ≤ n / 24000 by omega)]
  obtain ⟨mn, hmn⟩ : ∃ x, x = n % 20 := ⟨_, rfl⟩
  obtain ⟨lo, hlo⟩ : ∃ x, x = mn + 1 + n / 20 % 20 := ⟨_, rfl⟩
  obtain ⟨hi, hhi⟩ : ∃ x, x = lo + 1 + n / 400 % 20 := ⟨_, rfl⟩
  obtain ⟨fr, hfr⟩ : ∃ x, x = n / 24000 % 100 := ⟨_, rfl⟩
  have b1 : 0 ≤ mn ∧ mn < 20 := by omega
  have b2 : mn < lo ∧ lo ≤ mn + 20 := by omega
  have b3 : lo < hi ∧ hi ≤ lo + 20 := by omega
  have b4 : 0 ≤ fr ∧ fr < 100 := by omega
  rw [← hmn, ← hfr, w64 (x := mn + 1) (by omega) (by omega), ← hlo, w64 (x := lo) (by omega) (by omega), w64 (x := lo + 1) (by omega) (by omega), ← hhi, w64 (x := hi) (by omega) (by omega)]
  clear hmn hlo hhi hfr q1 q2 q4 g0 g1
  have m (k c f) (h4 : 1 ≤ c) (h5 : c ≤ 3) (h6 : 0 ≤ f) (h7 : f ≤ 256) := may_ok k mn lo hi c f b1.1 b2.1 b3.1 (by omega) h4 h5 h6 h7
  have a (k c f) (h4 : 1 ≤ c) (h5 : c ≤ 3) (h6 : 0 ≤ f) (h7 : f ≤ 256) := asked_ok k mn lo hi c f b1.1 b2.1 b3.1 (by omega) h4 h5 h6 h7
  have wm : wrap64 (fr + more) = fr + more := w64 (by omega) (by omega)
  have l1 (k : Nat) : headgatelaw10_ZoneRanks.l1 (k + 6) more true fr 1 mn lo hi = some true := by
    have s3 : headgatelaw10_ZoneRanks.l1 (k + 3) more true fr 4 mn lo hi = some true := by
      simp only [headgatelaw10_ZoneRanks.l1]
      rw [if_neg (by decide), wm]
      unfold zone_Level.f zone_Awake.f
      rw [a k 1 fr (by omega) (by omega) (by omega) (by omega), a k 1 (fr + more) (by omega) (by omega) (by omega) (by omega)]
      simp only [Option.bind_some, if_true]
      by_cases c1 : fr ≥ hi
      · simp [show fr + more ≥ hi by omega, c1, show ¬ fr < lo by omega, show ¬ fr < hi by omega]
      · by_cases c2 : fr ≥ lo
        · by_cases d1 : fr + more ≥ hi
          · simp [c1, c2, d1, show ¬ fr < lo by omega, show fr < hi by omega]
          · simp [c1, c2, d1, show fr + more ≥ lo by omega, show ¬ fr < lo by omega, show fr < hi by omega]
        · have e1 : fr < lo := by omega
          have e2 : fr < hi := by omega
          by_cases d1 : fr + more ≥ hi
          · by_cases c3 : fr > mn
            · simp [c1, c2, c3, d1, e1, e2]
            · simp [c1, c2, c3, d1, e1, e2]
          · by_cases d2 : fr + more ≥ lo
            · by_cases c3 : fr > mn
              · simp [c1, c2, c3, d1, d2, e1, e2]
              · simp [c1, c2, c3, d1, d2, e1, e2]
            · by_cases c3 : fr > mn
              · simp [c1, c2, c3, d1, d2, e1, e2, show fr + more > mn by omega]
              · by_cases d3 : fr + more > mn
                · simp [c1, c2, c3, d1, d2, d3, e1, e2]
                · simp [c1, c2, c3, d1, d2, d3, e1, e2]
    have step (j : Nat) (c : Int) (h4 : 1 ≤ c) (h5 : c ≤ 3) : headgatelaw10_ZoneRanks.l1 (j + 3) more true fr c mn lo hi = headgatelaw10_ZoneRanks.l1 (j + 2) more true fr (c + 1) mn lo hi := by
      rw [headgatelaw10_ZoneRanks.l1]
      rw [if_pos h5, wm, m j c fr h4 h5 (by omega) (by omega), m j c (fr + more) h4 h5 (by omega) (by omega), w64 (x := c + 1) (by omega) (by omega)]
      simp only [Option.bind_some, if_true]
      by_cases c1 : fr > fl mn hi c
      · simp [c1, show fr + more > fl mn hi c by omega]
      · simp [c1]
    rw [step (k + 3) 1 (by omega) (by omega), step (k + 2) (1 + 1) (by omega) (by omega), step (k + 1) (1 + 1 + 1) (by omega) (by omega)]
    exact s3
  rw [show (40 : Nat) = 31 + 2 + 5 + 1 + 1 from rfl]
  rw [headgatelaw10_ZoneRanks.l0, if_pos (by omega), m _ 2 fr (by omega) (by omega) (by omega) (by omega)]
  simp only [Option.bind_some, if_true, show wrap64 (2 - 1) = 1 from by decide +kernel]
  have r1 : headgatelaw10_ZoneRanks.l0 (31 + 2 + 5 + 1) more true fr (decide (fr > fl mn hi 2)) 1 mn lo hi = some true := by
    rw [headgatelaw10_ZoneRanks.l0, if_pos (by omega), m _ 1 fr (by omega) (by omega) (by omega) (by omega)]
    simp only [Option.bind_some, if_true, show wrap64 (1 - 1) = 0 from by decide +kernel]
    have r0 : headgatelaw10_ZoneRanks.l0 (31 + 2 + 5) more true fr (decide (fr > fl mn hi 1)) 0 mn lo hi = some true := by
      rw [headgatelaw10_ZoneRanks.l0, if_neg (by omega), m _ 3 fr (by omega) (by omega) (by omega) (by omega)]
      simp only [Option.bind_some, if_true]
      by_cases c1 : fr > fl mn hi 3
      · have c2 : fr > fl mn hi 1 := by simp [fl] at c1 ⊢; omega
        rw [decide_eq_true c1, decide_eq_true c2, if_pos rfl]
        simp only [headgatelaw10_ZoneRanks.j1]
        exact l1 30
      · rw [decide_eq_false c1, if_neg (by decide)]
        simp only [headgatelaw10_ZoneRanks.j1]
        exact l1 30
    by_cases c1 : fr > fl mn hi 1
    · have c2 : fr > fl mn hi 2 := by simp [fl] at c1 ⊢; omega
      rw [decide_eq_true c1, if_pos rfl, decide_eq_true c2, if_pos rfl]
      rw [decide_eq_true c1] at r0
      exact r0
    · rw [decide_eq_false c1, if_neg (by decide)]
      rw [decide_eq_false c1] at r0
      exact r0
  by_cases c1 : fr > fl mn hi 2
  · rw [decide_eq_true c1, if_pos rfl]
    rw [decide_eq_true c1] at r1
    exact r1
  · rw [decide_eq_false c1, if_neg (by decide)]
    rw [decide_eq_false c1] at r1
    exact r1

end Go.Proofs.Ytofonnfkffbjkaa.Pure
