/- A slot is given out only when it is free, the least one that is, and all kinds of slots add up, whatever happens: SlotsFree returns true, for every number of slots and every script. -/
import Derived.Test.YtofonnfkffbjkaaX29
namespace Go.Proofs.Ytofonnfkffbjkaa.Pure
open Go.RowKit Go.Proofs.Ytofonnfkffbjkaa.X Go.Proofs.YtofonnfkffbjkaaW.PrintWords Go.Proofs.YtofonnfkffbjkaaW.PrintLast
set_option linter.unusedVariables false
set_option linter.unusedSimpArgs false

theorem mod_f (a n : Int) (h1 : 1 ≤ n) (h2 : n ≤ 4611686018427387904) : headgatekit_Mod.f a n = some (a % n) := by
  unfold headgatekit_Mod.f
  rw [if_neg (by omega), if_neg (by omega)]
  have e := Int.tmod_eq_emod (a := a) (b := n)
  have g0 := Int.emod_nonneg a (show n ≠ 0 by omega)
  have g1 := Int.emod_lt_of_pos a (show 0 < n by omega)
  by_cases c : 0 ≤ a ∨ n ∣ a
  · rw [if_pos c] at e
    rw [if_neg (by omega), e]
    simp
  · rw [if_neg c] at e
    have hn : (n.natAbs : Int) = n := by omega
    have hd : a % n ≠ 0 := fun h => c (.inr (Int.dvd_of_emod_eq_zero h))
    rw [hn] at e
    rw [if_pos (by omega), e]
    congr 1
    unfold wrap64
    omega

theorem w64 {x : Int} (h0 : -9223372036854775808 ≤ x) (h1 : x ≤ 9223372036854775807) : wrap64 x = x := by
  unfold wrap64
  omega

structure Ok (R : List Int) (B : List Bool) (n : Nat) : Prop where
  r : R.length = n
  b : B.length = n
  n1 : 1 ≤ n
  n2 : n ≤ 8
  v : ∀ i, i < n → 0 ≤ R.getD i 0 ∧ R.getD i 0 ≤ 512
def fr (R : List Int) (B : List Bool) (i : Nat) : Bool := decide (R.getD i 0 = 0) && !B.getD i false
theorem succ_w {i : Nat} (h : i ≤ 100000) : wrap64 ((i : Int) + 1) = ((i + 1 : Nat) : Int) := by rw [w64 (by omega) (by omega)]; omega
theorem rd_nat (R : List Int) (i : Nat) : rd R (i : Int) = R.getD i 0 := rfl
theorem rdb_nat (B : List Bool) (i : Nat) : rdOf false B (i : Int) = B.getD i false := rfl
theorem check_loop {R : List Int} {B : List Bool} {n : Nat} (h : Ok R B n) : ∀ (d i k : Nat), i + d = n → d < k → slots_Check.l0 k R (n : Int) (i : Int) = some (0, 0)
  | 0, i, k, hd, hk => by
    obtain ⟨k, rfl⟩ : ∃ m, k = m + 1 := ⟨k - 1, by omega⟩
    rw [slots_Check.l0, if_neg (by omega)]
  | d + 1, i, k, hd, hk => by
    obtain ⟨k, rfl⟩ : ∃ m, k = m + 1 := ⟨k - 1, by omega⟩
    have hn := h.n2
    have hr := h.r
    have hv := h.v i (by omega)
    rw [slots_Check.l0, if_pos (by omega), if_pos (by omega), if_pos (by omega), rd_nat, if_neg (by omega), if_neg (by omega), succ_w (by omega)]
    exact check_loop h d (i + 1) k (by omega) (by omega)
theorem check_f {R : List Int} {B : List Bool} {n : Nat} (h : Ok R B n) (k : Nat) (hk : 20 ≤ k) : slots_Check.f k R B = some (0, 0) := by
  obtain ⟨k, rfl⟩ : ∃ m, k = m + 1 := ⟨k - 1, by omega⟩
  have hn := h.n2
  have hn1 := h.n1
  have hr := h.r
  have hb := h.b
  unfold slots_Check.f
  rw [if_neg (by omega), decide_eq_false (by omega), slots_Check.j0, if_neg (by decide), if_pos (by omega), hr]
  exact check_loop h n 0 k (by omega) (by omega)
theorem free_f {R : List Int} {B : List Bool} {n : Nat} (h : Ok R B n) {i : Nat} (hi : i < n) : slots_free.f R B (i : Int) = some (fr R B i) := by
  have hr := h.r
  have hb := h.b
  unfold slots_free.f fr
  rw [if_pos (by omega), if_pos (by omega), rd_nat, rdb_nat]
  by_cases c : R.getD i 0 = 0
  · rw [if_pos c, if_pos (by omega), decide_eq_true c]
    simp
  · rw [if_neg c, decide_eq_false c]
    simp
theorem first_loop {R : List Int} {B : List Bool} {n : Nat} (h : Ok R B n) : ∀ (d i k : Nat), i + d = n → d < k → (∀ j, j < i → fr R B j = false) →
    ∃ r, slots_first.l0 k (-1) (n : Int) (i : Int) R B = some r ∧ (r = -1 ∨ ∃ p : Nat, r = p ∧ p < n ∧ fr R B p = true ∧ ∀ j, j < p → fr R B j = false)
  | 0, i, k, hd, hk, hj => by
    obtain ⟨k, rfl⟩ : ∃ m, k = m + 1 := ⟨k - 1, by omega⟩
    exact ⟨-1, by rw [slots_first.l0, if_neg (by omega)], .inl rfl⟩
  | d + 1, i, k, hd, hk, hj => by
    obtain ⟨k, rfl⟩ : ∃ m, k = m + 1 := ⟨k - 1, by omega⟩
    have hn := h.n2
    rw [slots_first.l0, if_pos (by omega), free_f h (by omega)]
    simp only [Option.bind_some]
    cases hf : fr R B i with
    | true => exact ⟨i, by simp, .inr ⟨i, rfl, by omega, hf, hj⟩⟩
    | false =>
      rw [if_neg (by decide), succ_w (by omega)]
      refine first_loop h d (i + 1) k (by omega) (by omega) fun j h1 => ?_
      by_cases e : j = i
      · rw [e]; exact hf
      · exact hj j (by omega)
theorem first_f {R : List Int} {B : List Bool} {n : Nat} (h : Ok R B n) (k : Nat) (hk : 20 ≤ k) : ∃ r, slots_first.f k R B = some r ∧ (r = -1 ∨ ∃ p : Nat, r = p ∧ p < n ∧ fr R B p = true ∧ ∀ j, j < p → fr R B j = false) := by
  have hn := h.n2
  unfold slots_first.f
  rw [h.r]
  exact first_loop h n 0 k (by omega) (by omega) (fun j hj => by omega)
theorem copied_f {R : List Int} {B : List Bool} {n : Nat} (h : Ok R B n) : slots_copied.f R B = some (R, B) := by
  have hn := h.n2
  have hr := h.r
  have hb := h.b
  unfold slots_copied.f slices_Clone_int_int.f slices_Clone_bool_bool.f
  rw [if_pos (by omega), if_pos (by omega)]
  rfl
theorem asked_f {R : List Int} {B : List Bool} {n : Nat} (h : Ok R B n) (k : Nat) (hk : 20 ≤ k) {i : Nat} (hi : i < n) : slots_asked.f k R B (i : Int) = some 0 := by
  have hr := h.r
  unfold slots_asked.f
  rw [check_f h k hk]
  simp only [Option.bind_some, if_true]
  rw [if_neg (by omega), if_neg (by omega)]
theorem getD_set {α : Type} (l : List α) (i j : Nat) (x d : α) (hi : i < l.length) : (l.set i x).getD j d = if j = i then x else l.getD j d := by
  simp only [List.getD_eq_getElem?_getD, List.getElem?_set]
  by_cases e : i = j
  · subst e
    simp [hi]
  · simp [e, Ne.symm e]
theorem Ok.setR {R : List Int} {B : List Bool} {n : Nat} (h : Ok R B n) {i : Nat} (hi : i < n) {x : Int} (h0 : 0 ≤ x) (h1 : x ≤ 512) : Ok (R.set i x) B n :=
  ⟨by simp [h.r], h.b, h.n1, h.n2, fun j hj => by
    rw [getD_set _ _ _ _ _ (by rw [h.r]; exact hi)]
    by_cases e : j = i
    · rw [if_pos e]; exact ⟨h0, h1⟩
    · rw [if_neg e]; exact h.v j hj⟩
theorem Ok.setB {R : List Int} {B : List Bool} {n : Nat} (h : Ok R B n) (i : Nat) (x : Bool) : Ok R (B.set i x) n := ⟨h.r, by simp [h.b], h.n1, h.n2, h.v⟩
theorem new_f {n : Nat} (h1 : 1 ≤ n) (h2 : n ≤ 8) : slots_New.f (n : Int) = some (List.replicate n 0, List.replicate n false, 0) := by
  unfold slots_New.f
  rw [if_neg (by omega), if_neg (by omega), if_pos (by omega), if_pos (by omega), if_pos (by omega)]
  rfl
theorem new_ok {n : Nat} (h1 : 1 ≤ n) (h2 : n ≤ 8) : Ok (List.replicate n 0) (List.replicate n false) n := ⟨by simp, by simp, h1, h2, fun i hi => by simp [List.getD_eq_getElem?_getD, List.getElem?_replicate, hi]⟩
/-- What a step leaves, if it has no error. -/
def Stepped (R : List Int) (B : List Bool) (n : Nat) (R' : List Int) (B' : List Bool) (s : Int) : Prop :=
  Ok R' B' n ∧ (s = -1 ∨ ∃ p : Nat, s = p ∧ p < n ∧ fr R B p = true ∧ (∀ j, j < p → fr R B j = false) ∧ B'.getD p false = true)
theorem alloc_f {R : List Int} {B : List Bool} {n : Nat} (h : Ok R B n) (k : Nat) (hk : 20 ≤ k) {x : Int} (x1 : 1 ≤ x) (x2 : x ≤ 512) : ∃ R' B' s e, slots_Alloc.f k R B x = some (R', B', s, e) ∧ (e = 0 → Stepped R B n R' B' s) := by
  have hr := h.r
  have hb := h.b
  unfold slots_Alloc.f
  rw [check_f h k hk]
  simp only [Option.bind_some, if_true]
  rw [if_neg (by omega)]
  obtain ⟨r, h1, h2⟩ := first_f h k hk
  rw [h1]
  simp only [Option.bind_some]
  rcases h2 with rfl | ⟨p, rfl, h3, h4, h5⟩
  · rw [if_pos (by omega)]
    exact ⟨_, _, _, _, rfl, fun e => by cases e⟩
  · rw [if_neg (by omega), copied_f h]
    simp only [Option.bind_some]
    rw [if_pos (by omega)]
    refine ⟨_, _, _, _, rfl, fun _ => ⟨(h.setR h3 (by omega) x2).setB p true, .inr ⟨p, rfl, h3, h4, h5, ?_⟩⟩⟩
    simp only [Int.toNat_natCast]
    rw [getD_set _ _ _ _ _ (by omega), if_pos rfl]
theorem ref_f {R : List Int} {B : List Bool} {n : Nat} (h : Ok R B n) (k : Nat) (hk : 20 ≤ k) {i : Nat} (hi : i < n) : slots_Ref.f k R B (i : Int) = some (if fr R B i = true then ([], [], 9) else if R.getD i 0 = 512 then ([], [], 15) else (R.set i (R.getD i 0 + 1), B, 0)) := by
  have hr := h.r
  have hv := h.v i hi
  unfold slots_Ref.f
  rw [asked_f h k hk hi, free_f h hi]
  simp only [Option.bind_some, if_true]
  cases fr R B i with
  | true => rfl
  | false =>
    simp only [Bool.false_eq_true, if_false]
    rw [if_pos (by omega), if_pos (by omega), rd_nat]
    by_cases c : R.getD i 0 = 512
    · rw [if_pos c, if_pos c]
    · rw [if_neg c, if_neg c, copied_f h]
      simp only [Option.bind_some]
      rw [if_pos (by omega), rd_nat, w64 (by omega) (by omega)]
      rfl
theorem unref_f {R : List Int} {B : List Bool} {n : Nat} (h : Ok R B n) (k : Nat) (hk : 20 ≤ k) {i : Nat} (hi : i < n) : slots_Unref.f k R B (i : Int) = some (if R.getD i 0 = 0 then ([], [], false, 15) else (R.set i (R.getD i 0 - 1), B, fr (R.set i (R.getD i 0 - 1)) B i, 0)) := by
  have hr := h.r
  have hv := h.v i hi
  unfold slots_Unref.f
  rw [asked_f h k hk hi]
  simp only [Option.bind_some, if_true]
  rw [if_pos (by omega), if_pos (by omega), rd_nat]
  by_cases c : R.getD i 0 = 0
  · rw [if_pos c, if_pos c]
  · rw [if_neg c, if_neg c, copied_f h]
    simp only [Option.bind_some]
    rw [if_pos (by omega), rd_nat, w64 (by omega) (by omega)]
    simp only [Option.bind_some, Int.toNat_natCast]
    rw [free_f (h.setR hi (x := R.getD i 0 - 1) (by omega) (by omega)) hi]
    rfl
theorem start_f {R : List Int} {B : List Bool} {n : Nat} (h : Ok R B n) (k : Nat) (hk : 20 ≤ k) {i : Nat} (hi : i < n) : slots_Start.f k R B (i : Int) = some (if B.getD i false = true then ([], [], 10) else if R.getD i 0 = 0 then ([], [], 9) else (R, B.set i true, 0)) := by
  have hr := h.r
  have hb := h.b
  unfold slots_Start.f
  rw [asked_f h k hk hi]
  simp only [Option.bind_some, if_true]
  rw [if_pos (by omega), if_pos (by omega), rdb_nat]
  cases B.getD i false with
  | true => rfl
  | false =>
    simp only [Bool.false_eq_true, if_false]
    rw [if_pos (by omega), rd_nat]
    by_cases c : R.getD i 0 = 0
    · rw [if_pos c, if_pos c]
    · rw [if_neg c, if_neg c, copied_f h]
      simp only [Option.bind_some]
      rw [if_pos (by omega)]
      rfl
theorem settle_f {R : List Int} {B : List Bool} {n : Nat} (h : Ok R B n) (k : Nat) (hk : 20 ≤ k) {i : Nat} (hi : i < n) : slots_Settle.f k R B (i : Int) = some (if B.getD i false = true then (R, B.set i false, fr R (B.set i false) i, 0) else ([], [], false, 9)) := by
  have hr := h.r
  have hb := h.b
  unfold slots_Settle.f
  rw [asked_f h k hk hi]
  simp only [Option.bind_some, if_true]
  rw [if_pos (by omega), if_pos (by omega), rdb_nat]
  cases B.getD i false with
  | false => rfl
  | true =>
    simp only [if_true]
    rw [copied_f h]
    simp only [Option.bind_some]
    rw [if_pos (by omega)]
    simp only [Option.bind_some, Int.toNat_natCast]
    rw [free_f (h.setB i false) hi]
    rfl
theorem slot_nat (t : Int) (h0 : 0 ≤ t) (h1 : t < 1048576) {n : Nat} (hn : 1 ≤ n) : ∃ p : Nat, Int.tmod (wrap64 (Int.tdiv t 6)) (n : Int) = p ∧ p < n := by
  have e1 : Int.tdiv t 6 = t / 6 := Int.tdiv_eq_ediv_of_nonneg h0
  have e2 : wrap64 (t / 6) = t / 6 := w64 (by omega) (by omega)
  have g0 := Int.emod_nonneg (t / 6) (show (n : Int) ≠ 0 by omega)
  have g1 := Int.emod_lt_of_pos (t / 6) (show (0 : Int) < n by omega)
  refine ⟨(t / 6 % (n : Int)).toNat, ?_, by omega⟩
  rw [e1, e2, Int.tmod_eq_emod_of_nonneg (by omega)]
  omega
theorem refs_nat (t : Int) (h0 : 0 ≤ t) (h1 : t < 1048576) : ∃ x, wrap64 (1 + (Int.tmod (wrap64 (Int.tdiv t 100)) 3)) = x ∧ 1 ≤ x ∧ x ≤ 512 := by
  have e1 : Int.tdiv t 100 = t / 100 := Int.tdiv_eq_ediv_of_nonneg h0
  have e2 : wrap64 (t / 100) = t / 100 := w64 (by omega) (by omega)
  rw [e1, e2, Int.tmod_eq_emod_of_nonneg (by omega), w64 (by omega) (by omega)]
  exact ⟨_, rfl, by omega, by omega⟩
theorem step_f {R : List Int} {B : List Bool} {n : Nat} (h : Ok R B n) (k : Nat) (hk : 30 ≤ k) (c : Int) : ∃ R' B' s e, headgatelaw18_step.f k R B c = some (R', B', s, e) ∧ (e = 0 → Stepped R B n R' B' s) := by
  obtain ⟨k, rfl⟩ : ∃ m, k = m + 1 := ⟨k - 1, by omega⟩
  have hr := h.r
  have hn1 := h.n1
  unfold headgatelaw18_step.f
  rw [mod_f c _ (by decide) (by decide)]
  simp only [Option.bind_some]
  rw [if_neg (by omega), hr]
  have g0 := Int.emod_nonneg c (show (1048576 : Int) ≠ 0 by decide)
  have g1 := Int.emod_lt_of_pos c (show (0 : Int) < 1048576 by decide)
  generalize c % 1048576 = t at *
  obtain ⟨p, hp, hpn⟩ := slot_nat t g0 g1 hn1
  obtain ⟨x, hx, x1, x2⟩ := refs_nat t g0 g1
  rw [hp]
  have key : ∀ b : Bool, ∃ R' B' s e, headgatelaw18_step.j0 (k + 1) t (p : Int) (Int.tmod t 6) b R B = some (R', B', s, e) ∧ (e = 0 → Stepped R B n R' B' s) := by
    intro b
    rw [headgatelaw18_step.j0, hx]
    cases b with
    | true =>
      obtain ⟨R', B', s, e, h1, h2⟩ := alloc_f h k (by omega) x1 x2
      rw [if_pos rfl, h1]
      exact ⟨_, _, _, _, rfl, h2⟩
    | false =>
      rw [if_neg (by decide)]
      by_cases c2 : Int.tmod t 6 = 2
      · rw [if_pos c2, ref_f h k (by omega) hpn]
        refine ⟨_, _, _, _, rfl, ?_⟩
        have hv := h.v p hpn
        cases fr R B p with
        | true => intro e; simp at e
        | false =>
          by_cases c3 : R.getD p 0 = 512
          · simp only [Bool.false_eq_true, if_false]
            rw [if_pos c3]
            intro e; simp at e
          · simp only [Bool.false_eq_true, if_false]
            rw [if_neg c3]
            exact fun _ => ⟨h.setR hpn (by omega) (by omega), .inl rfl⟩
      · rw [if_neg c2]
        by_cases c3 : Int.tmod t 6 = 3
        · rw [if_pos c3, unref_f h k (by omega) hpn]
          refine ⟨_, _, _, _, rfl, ?_⟩
          have hv := h.v p hpn
          by_cases c4 : R.getD p 0 = 0
          · rw [if_pos c4]
            intro e; simp at e
          · rw [if_neg c4]
            exact fun _ => ⟨h.setR hpn (by omega) (by omega), .inl rfl⟩
        · rw [if_neg c3]
          by_cases c4 : Int.tmod t 6 = 4
          · rw [if_pos c4, start_f h k (by omega) hpn]
            refine ⟨_, _, _, _, rfl, ?_⟩
            cases B.getD p false with
            | true => intro e; simp at e
            | false =>
              by_cases c5 : R.getD p 0 = 0
              · simp only [Bool.false_eq_true, if_false]
                rw [if_pos c5]
                intro e; simp at e
              · simp only [Bool.false_eq_true, if_false]
                rw [if_neg c5]
                exact fun _ => ⟨h.setB p true, .inl rfl⟩
          · rw [if_neg c4, settle_f h k (by omega) hpn]
            refine ⟨_, _, _, _, rfl, ?_⟩
            cases B.getD p false with
            | false => intro e; simp at e
            | true => exact fun _ => ⟨h.setB p false, .inl rfl⟩
  by_cases c1 : Int.tmod t 6 = 0
  · rw [if_pos c1]; exact key _
  · rw [if_neg c1]; exact key _

def usedOf : List Int → List Bool → Nat
  | x :: xs, y :: ys => (if x > 0 ∧ y = false then 1 else 0) + usedOf xs ys
  | _, _ => 0
def sumOf : List Int → Int
  | [] => 0
  | x :: xs => x + sumOf xs
theorem cnt : ∀ (xs : List Int) (ys : List Bool) (u b r : Int), xs.length = ys.length → xs.length ≤ 8 → (∀ x ∈ xs, 0 ≤ x ∧ x ≤ 512) → 0 ≤ r → r + 512 * xs.length ≤ 1000000 →
    (slotsCnt u b r xs ys).1 + (slotsCnt u b r xs ys).2.1 + (usedOf xs ys : Int) = u + b + xs.length ∧ (slotsCnt u b r xs ys).2.2 = r + sumOf xs
  | [], [], u, b, r, _, _, _, _, _ => by simp [slotsCnt, usedOf, sumOf]
  | [], y :: ys, u, b, r, h, _, _, _, _ => by simp at h
  | x :: xs, [], u, b, r, h, _, _, _, _ => by simp at h
  | x :: xs, y :: ys, u, b, r, h, h8, hv, h0, h1 => by
    have hx := hv x (by simp)
    simp only [List.length_cons] at h h8 h1
    obtain ⟨e1, e2⟩ := cnt xs ys (if x = 0 ∧ y = false then u + 1 else u) (if y = true then b + 1 else b) (r + x) (by omega) (by omega) (fun z hz => hv z (by simp [hz])) (by omega) (by omega)
    simp only [slotsCnt, usedOf, sumOf, List.length_cons]
    rw [w64 (by omega) (by omega), e2]
    refine ⟨?_, by omega⟩
    cases y with
    | true =>
      simp only [Bool.true_eq_false, and_false, if_false, if_true] at e1 ⊢
      omega
    | false =>
      by_cases c : x = 0
      · simp only [c, and_self, if_true, Bool.false_eq_true, if_false, gt_iff_lt, Int.lt_irrefl, false_and] at e1 ⊢
        omega
      · have c2 : x > 0 := by omega
        simp only [c, false_and, if_false, Bool.false_eq_true, c2, and_self, if_true] at e1 ⊢
        omega
theorem count_f {R : List Int} {B : List Bool} {n : Nat} (h : Ok R B n) (k : Nat) (hk : 20 ≤ k) : ∃ u b, slots_Count.f k R B = some (u, b, sumOf R, 0) ∧ u + b + (usedOf R B : Int) = n := by
  have hr := h.r
  have hb := h.b
  have hn := h.n2
  obtain ⟨e1, e2⟩ := cnt R B 0 0 0 (by omega) (by omega) (fun x hx => by
    obtain ⟨i, hi, rfl⟩ := List.mem_iff_getElem.1 hx
    have := h.v i (by omega)
    simpa [List.getD_eq_getElem?_getD, List.getElem?_eq_getElem hi] using this) (by omega) (by omega)
  refine ⟨(slotsCnt 0 0 0 R B).1, (slotsCnt 0 0 0 R B).2.1, ?_, by omega⟩
  unfold slots_Count.f
  rw [check_f h k hk]
  simp only [Option.bind_some, if_true]
  rw [if_pos ⟨by omega, by omega⟩, e2, Int.zero_add]
theorem dropI {l : List Int} {i : Nat} (hi : i < l.length) : l.drop i = l.getD i 0 :: l.drop (i + 1) := by
  rw [List.drop_eq_getElem_cons hi]
  simp [List.getD_eq_getElem?_getD, List.getElem?_eq_getElem hi]
theorem dropB {l : List Bool} {i : Nat} (hi : i < l.length) : l.drop i = l.getD i false :: l.drop (i + 1) := by
  rw [List.drop_eq_getElem_cons hi]
  simp [List.getD_eq_getElem?_getD, List.getElem?_eq_getElem hi]
theorem inner (x1 : List Int) (R R' : List Int) (B B' : List Bool) (n : Nat) (s u b : Int) (h : Ok R B n) (h' : Ok R' B' n) (hs : s = -1 ∨ ∃ p : Nat, s = p ∧ p < n ∧ fr R B p = true ∧ (∀ j, j < p → fr R B j = false) ∧ B'.getD p false = true)
    (x8 : Int) (K0 : Nat) (hG : ∀ k, K0 ≤ k → headgatelaw18_SlotsFree.l0 k (n : Int) x1 true (wrap64 (x8 + 1)) R' B' = some true) (hub : u + b + (usedOf R' B' : Int) = n) (hu0 : 0 ≤ u + b ∧ u + b ≤ 100) :
    ∀ (d i k : Nat) (used sum : Int), i + d = n → 2 * d + 1 + K0 ≤ k → used + (usedOf (R'.drop i) (B'.drop i) : Int) = usedOf R' B' → 0 ≤ used → used ≤ 100 → sum + sumOf (R'.drop i) = sumOf R' → 0 ≤ sum → sum ≤ 512 * i →
    headgatelaw18_SlotsFree.l1 k (n : Int) x1 true x8 s u b (sumOf R') used sum (i : Int) R B R' B' = some true
  | 0, i, k, used, sum, hd, hk, e1, g0, g1, e2, s0, s1 => by
    obtain ⟨k, rfl⟩ : ∃ m, k = m + 1 := ⟨k - 1, by omega⟩
    have hn := h.n2
    rw [List.drop_eq_nil_of_le (by rw [h'.r]; omega)] at e1 e2
    simp only [usedOf, sumOf] at e1 e2
    have k1 : wrap64 (wrap64 (u + b) + used) = (n : Int) := by
      rw [w64 (x := u + b) (by omega) (by omega), w64 (by omega) (by omega)]; omega
    have k2 : sumOf R' = sum := by omega
    have hl := hG k (by omega)
    rw [headgatelaw18_SlotsFree.l1, if_neg (by omega)]
    rcases hs with rfl | ⟨p, rfl, hp, hf, hlt, hB⟩
    · rw [if_neg (by omega), if_neg (by omega), if_pos k1, if_pos k2, hl]
    · have hr := h.r
      have hb := h.b
      have hb' := h'.b
      unfold fr at hf
      simp at hf
      rw [if_neg (by omega), if_pos (by omega), if_pos (by omega), if_pos (by omega), rd_nat, rdb_nat, rdb_nat, if_pos (by simpa [List.getD_eq_getElem?_getD] using hf.1), if_pos (by omega), if_neg (by simp [List.getD_eq_getElem?_getD, hf.2]), if_pos (by omega), if_pos hB, if_pos k1, if_pos k2, hl]
  | d + 1, i, k, used, sum, hd, hk, e1, g0, g1, e2, s0, s1 => by
    obtain ⟨k, rfl⟩ : ∃ m, k = m + 2 := ⟨k - 2, by omega⟩
    have hn := h.n2
    have hr := h.r
    have hb := h.b
    have hr' := h'.r
    have hb' := h'.b
    have hv := h'.v i (by omega)
    rw [dropI (by omega), dropB (by omega)] at e1
    rw [dropI (by omega)] at e2
    simp only [usedOf, sumOf] at e1 e2
    have nofree : ∀ p : Nat, s = p → i < p → fr R B i = false := fun p hp hip => by
      rcases hs with hs | ⟨q, hq2, _, _, hlt, _⟩
      · omega
      · exact hlt i (by omega)
    have ih := fun used' sum' => inner x1 R R' B B' n s u b h h' hs x8 K0 hG hub hu0 d (i + 1) k used' sum' (by omega) (by omega)
    have five : ∀ (used' sum' : Int) (t : Bool), headgatelaw18_SlotsFree.l1 k (n : Int) x1 true x8 s u b (sumOf R') (if t = true then wrap64 (used' + 1) else used') sum' ((i + 1 : Nat) : Int) R B R' B' = some true → headgatelaw18_SlotsFree.j5 (k + 1) (n : Int) x1 true x8 s u b (sumOf R') used' sum' (i : Int) t R B R' B' = some true := by
      intro used' sum' t hh
      rw [headgatelaw18_SlotsFree.j5, succ_w (by omega)]
      have rest : ∀ q : Option Bool, q = some true → (if s ≥ 0 then (if (i : Int) < s then (if 0 ≤ (i : Int) then (if (i : Int) < (R.length : Int) then (if (rd R (i : Int)) = 0 then (if (i : Int) < (B.length : Int) then (if rdOf false B (i : Int) = true then q else (some false)) else (none)) else q) else (none)) else (none)) else q) else q) = some true := by
        intro q hq2
        by_cases c : s ≥ 0
        · rw [if_pos c]
          by_cases c2 : (i : Int) < s
          · rw [if_pos c2, if_pos (by omega), if_pos (by omega), rd_nat, rdb_nat]
            have hnf := nofree s.toNat (by omega) (by omega)
            unfold fr at hnf
            by_cases c3 : R.getD i 0 = 0
            · rw [if_pos c3, if_pos (by omega)]
              rw [decide_eq_true c3] at hnf
              cases hBi : B.getD i false with
              | true => rw [if_pos rfl]; exact hq2
              | false => rw [hBi] at hnf; simp at hnf
            · rw [if_neg c3]; exact hq2
          · rw [if_neg c2]; exact hq2
        · rw [if_neg c]; exact hq2
      cases t with
      | true => rw [if_pos rfl]; exact rest _ (by simpa using hh)
      | false => rw [if_neg (by decide)]; exact rest _ (by simpa using hh)
    rw [headgatelaw18_SlotsFree.l1, if_pos (by omega), if_pos (by omega), if_pos (by omega), rd_nat, rdb_nat, w64 (x := sum + R'.getD i 0) (by omega) (by omega)]
    by_cases c : R'.getD i 0 > 0
    · rw [if_pos c, if_pos (by omega)]
      refine five _ _ _ ?_
      cases hy : B'.getD i false with
      | true =>
        rw [hy] at e1
        simp only [Bool.true_eq_false, and_false, if_false] at e1
        simp only [Bool.not_true, Bool.false_eq_true, if_false]
        exact ih _ _ (by omega) (by omega) (by omega) (by omega) (by omega) (by omega)
      | false =>
        rw [hy] at e1
        simp only [c, and_self, if_true] at e1
        simp only [Bool.not_false, if_true]
        rw [w64 (by omega) (by omega)]
        exact ih _ _ (by omega) (by omega) (by omega) (by omega) (by omega) (by omega)
    · rw [if_neg c]
      refine five _ _ _ ?_
      simp only [c, false_and, if_false] at e1
      simp only [Bool.false_eq_true, if_false]
      exact ih _ _ (by omega) (by omega) (by omega) (by omega) (by omega) (by omega)
theorem outer (x1 : List Int) (n : Nat) : ∀ (d i k : Nat) (R : List Int) (B : List Bool), i + d = 60 → 40 * d + 60 < k → Ok R B n → headgatelaw18_SlotsFree.l0 k (n : Int) x1 true (i : Int) R B = some true
  | 0, i, k, R, B, hd, hk, h => by
    obtain ⟨k, rfl⟩ : ∃ m, k = m + 2 := ⟨k - 2, by omega⟩
    rw [headgatelaw18_SlotsFree.l0, decide_eq_false (by omega), ite_self, headgatelaw18_SlotsFree.j2, if_neg (by decide)]
  | d + 1, i, k, R, B, hd, hk, h => by
    obtain ⟨k, rfl⟩ : ∃ m, k = m + 3 := ⟨k - 3, by omega⟩
    rw [headgatelaw18_SlotsFree.l0]
    by_cases c : (i : Int) < (x1.length : Int)
    · rw [if_pos c, decide_eq_true (by omega), headgatelaw18_SlotsFree.j2, if_pos rfl, if_pos (by omega), if_pos c]
      obtain ⟨R', B', s, e, h1, h2⟩ := step_f h (k + 1) (by omega) (rd x1 (i : Int))
      rw [h1]
      simp only [Option.bind_some]
      by_cases ce : e = 0
      · obtain ⟨ho, hs⟩ := h2 ce
        obtain ⟨u, b, hc, hub⟩ := count_f ho (k + 1) (by omega)
        rw [if_pos ce, check_f ho (k + 1) (by omega), hc]
        simp only [Option.bind_some, if_true]
        have hn := h.n2
        have hus : usedOf R' B' ≤ n := by
          have : ∀ (xs : List Int) (ys : List Bool), usedOf xs ys ≤ xs.length := by
            intro xs
            induction xs with
            | nil => intro ys; simp [usedOf]
            | cons x xs ih =>
              intro ys
              cases ys with
              | nil => simp [usedOf]
              | cons y ys => have := ih ys; simp only [usedOf, List.length_cons]; split <;> omega
          have h3 := this R' B'
          have h4 := ho.r
          omega
        rw [show ((R'.length : Int) != (n : Int)) = false by simp [ho.r], headgatelaw18_SlotsFree.j3, if_neg (by decide)]
        refine inner x1 R R' B B' n s u b h ho hs (i : Int) (40 * d + 61) (fun q hq => ?_) hub (by omega) n 0 k 0 0 (by omega) (by omega) (by simp) (by omega) (by omega) (by simp) (by omega) (by omega)
        rw [succ_w (by omega)]
        exact outer x1 n d (i + 1) q R' B' (by omega) (by omega) ho
      · rw [if_neg ce, succ_w (by omega)]
        exact outer x1 n d (i + 1) (k + 1) R B (by omega) (by omega) h
    · rw [if_neg c, headgatelaw18_SlotsFree.j2, if_neg (by decide)]
theorem SlotsFree : headgatelaw18_SlotsFree.Pure := by
  intro a0 x1 _ _ _ _
  refine ⟨4001, ?_⟩
  unfold headgatelaw18_SlotsFree.f headgatelaw18_SlotsKnown.f
  rw [mod_f a0 8 (by decide) (by decide)]
  simp only [Option.bind_some]
  have g0 := Int.emod_nonneg a0 (show (8 : Int) ≠ 0 by decide)
  have g1 := Int.emod_lt_of_pos a0 (show (0 : Int) < 8 by decide)
  obtain ⟨n, hn⟩ : ∃ n : Nat, 1 + a0 % 8 = n := ⟨(1 + a0 % 8).toNat, by omega⟩
  have h1 : 1 ≤ n := by omega
  have h2 : n ≤ 8 := by omega
  rw [w64 (x := 1 + a0 % 8) (by omega) (by omega), hn, new_f h1 h2]
  simp only [Option.bind_some, if_true]
  rw [show (((List.replicate n (0 : Int)).length : Int) != (n : Int)) = false by simp, headgatelaw18_SlotsFree.j0, if_neg (by decide)]
  exact outer x1 n 60 0 4000 _ _ (by omega) (by omega) (new_ok h1 h2)

end Go.Proofs.Ytofonnfkffbjkaa.Pure
