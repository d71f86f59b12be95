/- Order has each frame once, the inactive ones first, and begins with Last: LruOrder returns true, for every list of numbers. -/
import Derived.Test.YtaofihdmgdpenaaX63
namespace Go.Proofs.Ytaofihdmgdpenaa.Pure
open Go.RowKit Go.Proofs.Ytaofihdmgdpenaa.X Go.Proofs.YtaofihdmgdpenaaW.PrintWords Go.Proofs.YtaofihdmgdpenaaW.PrintLast
set_option linter.unusedVariables false
set_option linter.unusedSimpArgs false

theorem mod_f (a n : Int) (h1 : 1 ≤ n) (h2 : n ≤ 4611686018427387904) : headgatekit_Mod.f a n = some (a % n) := by
  unfold headgatekit_Mod.f
  rw [if_neg (by omega), if_neg (by omega)]
  have e := Int.tmod_eq_emod (a := a) (b := n)
  have g0 := Int.emod_nonneg a (show n ≠ 0 by omega)
  have g1 := Int.emod_lt_of_pos a (show 0 < n by omega)
  by_cases c : 0 ≤ a ∨ n ∣ a
  · rw [if_pos c] at e
    rw [if_neg (by omega), e]
    simp
  · rw [if_neg c] at e
    have hn : (n.natAbs : Int) = n := by omega
    have hd : a % n ≠ 0 := fun h => c (.inr (Int.dvd_of_emod_eq_zero h))
    rw [hn] at e
    rw [if_pos (by omega), e]
    congr 1
    unfold wrap64
    omega

theorem w64 {x : Int} (h0 : -9223372036854775808 ≤ x) (h1 : x ≤ 9223372036854775807) : wrap64 x = x := by
  unfold wrap64
  omega

theorem nat_succ {i : Nat} (h : i ≤ 1000) : wrap64 ((i : Int) + 1) = ((i + 1 : Nat) : Int) := by rw [w64 (by omega) (by omega)]; omega
theorem rd_nat (l : List Int) (i : Nat) : rd l (i : Int) = l.getD i 0 := rfl
structure OkL (a b : List Int) (r : List Bool) : Prop where
  len : r.length = 16
  size : a.length + b.length ≤ 16
  nd : (a ++ b).Nodup
  rng : ∀ x ∈ a ++ b, 0 ≤ x ∧ x < 16
  ref : ∀ f : Nat, r.getD f false = true → (f : Int) ∈ a ++ b
theorem lruIn_ok (N : Nat) (k : List Int → Int) : ∀ (xs seen : List Int), (∀ x ∈ xs, 0 ≤ x ∧ x < (N : Int)) → xs.Nodup → (∀ x ∈ xs, x ∉ seen) → lruIn N k xs seen = k (xs.reverse ++ seen)
  | [], seen, _, _, _ => rfl
  | x :: xs, seen, h1, h2, h3 => by
    obtain ⟨p, q⟩ := h1 x (List.mem_cons_self ..)
    have h4 := List.nodup_cons.1 h2
    rw [lruIn, if_neg (by omega), if_neg (by omega), if_neg (by simpa using h3 x (List.mem_cons_self ..)),
      lruIn_ok N k xs (x :: seen) (fun y hy => h1 y (List.mem_cons_of_mem _ hy)) h4.2 (fun y hy hm => by
        rcases List.mem_cons.1 hm with rfl | hm
        · exact h4.1 hy
        · exact h3 y (List.mem_cons_of_mem _ hy) hm)]
    simp
theorem lruFrom_ok (seen : List Int) : ∀ (bs : List Bool) (f : Nat), (∀ j, bs.getD j false = true → ((f + j : Nat) : Int) ∈ seen) → lruFrom seen bs f = 0
  | [], _, _ => rfl
  | b :: bs, f, h => by
    have ih := lruFrom_ok seen bs (f + 1) (fun j hj => by
      have := h (j + 1) (by simpa using hj)
      rwa [show f + 1 + j = f + (j + 1) by omega])
    rw [lruFrom]
    by_cases c : b = true
    · have := h 0 (by simpa using c)
      rw [if_pos c, if_pos (by simpa using this), ih]
    · rw [if_neg c, ih]
theorem OkL.check {a b : List Int} {r : List Bool} (h : OkL a b r) : lru_Check.f a b r = some 0 := by
  unfold lru_Check.f
  have hs := h.size
  have hl := h.len
  obtain ⟨n1, n2, n3⟩ := List.nodup_append.1 h.nd
  rw [if_pos (by omega)]
  unfold lruCheck
  have eo : lruOut a b r 0 [] = lruIn r.length (fun s => lruIn r.length (fun s => lruFrom s r 0) b s) a [] := rfl
  rw [if_neg (by omega), if_neg (by omega), eo, hl, lruIn_ok 16 _ a [] (fun x hx => h.rng x (List.mem_append_left _ hx)) n1 (fun x _ hm => by cases hm)]
  rw [lruIn_ok 16 _ b _ (fun x hx => h.rng x (List.mem_append_right _ hx)) n2 (fun x hx hm => by
    simp at hm
    exact n3 x hm x hx rfl)]
  rw [lruFrom_ok _ r 0 (fun j hj => by
    have := h.ref j hj
    simp at this ⊢
    exact this.symm)]
theorem clone_int (l : List Int) (h : l.length ≤ 1000) : slices_Clone_int_int.f l = some l := by
  unfold slices_Clone_int_int.f
  rw [if_pos (by omega)]
theorem clone_bool (l : List Bool) (h : l.length ≤ 1000) : slices_Clone_bool_bool.f l = some l := by
  unfold slices_Clone_bool_bool.f
  rw [if_pos (by omega)]
theorem OkL.opened {a b : List Int} {r : List Bool} (h : OkL a b r) : lru_opened.f a b r = some (a, b, r, 0) := by
  unfold lru_opened.f
  have hs := h.size
  have hl := h.len
  rw [h.check, clone_int a (by omega), clone_int b (by omega), clone_bool r (by omega)]
  rfl
theorem drop_getD {l : List Int} {i : Nat} (hi : i < l.length) : l.drop i = l.getD i 0 :: l.drop (i + 1) := by
  rw [List.drop_eq_getElem_cons hi]
  simp [List.getD_eq_getElem?_getD, List.getElem?_eq_getElem hi]
theorem index_step (l : List Int) (x : Int) (hl : l.length ≤ 1000) : ∀ (d i k : Nat), i + d = l.length → d < k → ∃ v : Int, slices_Index_int_int.l0 k l x (l.length : Int) (i : Int) = some v ∧ (v ≥ 0 ↔ x ∈ l.drop i)
  | 0, i, k, hd, hk => by
    obtain ⟨k, rfl⟩ : ∃ m, k = m + 1 := ⟨k - 1, by omega⟩
    refine ⟨-1, by rw [slices_Index_int_int.l0, if_neg (by omega)], ?_⟩
    rw [List.drop_eq_nil_of_le (by omega)]
    simp
  | d + 1, i, k, hd, hk => by
    obtain ⟨k, rfl⟩ : ∃ m, k = m + 1 := ⟨k - 1, by omega⟩
    have hi : i < l.length := by omega
    obtain ⟨v, h1, h2⟩ := index_step l x hl d (i + 1) k (by omega) (by omega)
    rw [slices_Index_int_int.l0, if_pos (by omega), if_pos (by omega), if_pos (by omega), rd_nat, drop_getD hi, nat_succ (by omega)]
    by_cases c : x = l.getD i 0
    · exact ⟨i, by rw [if_pos c], fun _ => by rw [c]; exact List.mem_cons_self .., fun _ => by omega⟩
    · exact ⟨v, by rw [if_neg c, h1], by rw [h2, List.mem_cons]; exact ⟨.inr, fun h => h.resolve_left c⟩⟩
theorem contains_f (l : List Int) (x : Int) (hl : l.length ≤ 1000) (k : Nat) (hk : l.length < k) : slices_Contains_int_int.f k l x = some (decide (x ∈ l)) := by
  obtain ⟨v, h1, h2⟩ := index_step l x hl l.length 0 k (by omega) hk
  unfold slices_Contains_int_int.f slices_Index_int_int.f
  rw [show (0 : Int) = ((0 : Nat) : Int) from rfl, h1]
  simp only [Option.bind_some, Option.some.injEq]
  rw [List.drop_zero] at h2
  simp only [decide_eq_decide]
  exact h2
def whereOf (a b : List Int) (f : Int) : Int := if f ∈ a then 1 else if f ∈ b then 2 else 0
theorem OkL.about {a b : List Int} {r : List Bool} (h : OkL a b r) (f : Int) (h0 : 0 ≤ f) (h1 : f < 16) (k : Nat) (hk : 40 ≤ k) : lru_about.f k a b r f = some (a, b, r, whereOf a b f, 0) := by
  have hs := h.size
  have hl := h.len
  unfold lru_about.f
  rw [h.opened]
  simp only [Option.bind_some, if_true]
  rw [if_neg (by omega), decide_eq_false (by omega)]
  obtain ⟨k, rfl⟩ : ∃ m, k = m + 1 := ⟨k - 1, by omega⟩
  rw [lru_about.j0, if_neg (by decide), contains_f a f (by omega) k (by omega), contains_f b f (by omega) k (by omega)]
  unfold whereOf
  by_cases ca : f ∈ a
  · simp [ca]
  · by_cases cb : f ∈ b
    · simp [ca, cb]
    · simp [ca, cb]
theorem OkL.where_ {a b : List Int} {r : List Bool} (h : OkL a b r) (f : Int) (h0 : 0 ≤ f) (h1 : f < 16) (k : Nat) (hk : 40 ≤ k) : lru_Where.f k a b r f = some (whereOf a b f, 0) := by
  unfold lru_Where.f
  rw [h.about f h0 h1 k hk]
  rfl
/-! ### made -/
def frameOf (i : Nat) : Int := (((5 * i + 3) % 16 : Nat) : Int)
theorem frame_num : ∀ i : Fin 16, Int.tmod (wrap64 ((wrap64 (5 * (i.val : Int))) + 3)) 16 = frameOf i.val := by decide +kernel
theorem frame_inj : ∀ i j : Fin 16, frameOf i.val = frameOf j.val → i = j := by decide +kernel
theorem frame_rng (i : Nat) : 0 ≤ frameOf i ∧ frameOf i < 16 := by unfold frameOf; omega
structure Form (i : Nat) (a b : List Int) (r : List Bool) : Prop where
  len : r.length = 16
  size : a.length + b.length ≤ i
  nd : (a ++ b).Nodup
  from_ : ∀ x ∈ a ++ b, ∃ j, j < i ∧ x = frameOf j
  ref : ∀ f : Nat, r.getD f false = true → (f : Int) ∈ a ++ b
theorem getD_set (r : List Bool) (n f : Nat) (v : Bool) : (r.set n v).getD f false = if n = f ∧ n < r.length then v else r.getD f false := by
  simp only [List.getD_eq_getElem?_getD, List.getElem?_set]
  by_cases c : n = f
  · subst c
    by_cases c2 : n < r.length <;> simp [c2]
  · simp [c]
theorem Form.fresh {i : Nat} {a b : List Int} {r : List Bool} (h : Form i a b r) (hi : i < 16) : frameOf i ∉ a ++ b := fun hm => by
  obtain ⟨j, hj, he⟩ := h.from_ _ hm
  have := frame_inj ⟨i, hi⟩ ⟨j, by omega⟩ he
  simp at this
  omega
theorem Form.next {i : Nat} {a b : List Int} {r : List Bool} (h : Form i a b r) : Form (i + 1) a b (r.set (frameOf i).toNat false) :=
  ⟨by rw [List.length_set, h.len], by have := h.size; omega, h.nd, fun x hx => by obtain ⟨j, hj, he⟩ := h.from_ x hx; exact ⟨j, by omega, he⟩, fun f hf => by
    rw [getD_set] at hf
    split at hf
    · cases hf
    · exact h.ref f hf⟩
theorem Form.act {i : Nat} {a b : List Int} {r : List Bool} (h : Form i a b r) (hi : i < 16) (v : Bool) : Form (i + 1) (a ++ [frameOf i]) b (r.set (frameOf i).toNat v) := by
  have hf := h.fresh hi
  have hm : ∀ x, x ∈ a ++ [frameOf i] ++ b ↔ x = frameOf i ∨ x ∈ a ++ b := fun x => by simp; constructor <;> (rintro (h | h | h) <;> simp [h])
  refine ⟨by rw [List.length_set, h.len], by have := h.size; simp; omega, ?_, fun x hx => ?_, fun f hfr => ?_⟩
  · have hp : (a ++ [frameOf i] ++ b).Perm (frameOf i :: (a ++ b)) := by
      rw [List.append_assoc]
      exact List.perm_middle
    exact hp.nodup_iff.2 (List.nodup_cons.2 ⟨hf, h.nd⟩)
  · rcases (hm x).1 hx with rfl | hx
    · exact ⟨i, by omega, rfl⟩
    · obtain ⟨j, hj, he⟩ := h.from_ x hx
      exact ⟨j, by omega, he⟩
  · rw [getD_set] at hfr
    rw [hm]
    have := frame_rng i
    split at hfr
    · left; omega
    · right; exact h.ref f hfr
theorem Form.inact {i : Nat} {a b : List Int} {r : List Bool} (h : Form i a b r) (hi : i < 16) (v : Bool) : Form (i + 1) a (frameOf i :: b) (r.set (frameOf i).toNat v) := by
  have hf := h.fresh hi
  have hm : ∀ x, x ∈ a ++ frameOf i :: b ↔ x = frameOf i ∨ x ∈ a ++ b := fun x => by simp; constructor <;> (rintro (h | h | h) <;> simp [h])
  refine ⟨by rw [List.length_set, h.len], by have := h.size; simp; omega, ?_, fun x hx => ?_, fun f hfr => ?_⟩
  · exact (List.perm_middle.nodup_iff).2 (List.nodup_cons.2 ⟨hf, h.nd⟩)
  · rcases (hm x).1 hx with rfl | hx
    · exact ⟨i, by omega, rfl⟩
    · obtain ⟨j, hj, he⟩ := h.from_ x hx
      exact ⟨j, by omega, he⟩
  · rw [getD_set] at hfr
    rw [hm]
    have := frame_rng i
    split at hfr
    · left; omega
    · right; exact h.ref f hfr
theorem at_f (l : List Int) (i : Int) : ∃ v, headgatekit_At.f l i = some v := by
  unfold headgatekit_At.f
  by_cases c1 : i < 0
  · exact ⟨_, if_pos c1⟩
  · by_cases c2 : i ≥ (l.length : Int)
    · exact ⟨_, by rw [if_neg c1, if_pos c2]⟩
    · exact ⟨_, by rw [if_neg c1, if_neg c2, if_pos (by omega), if_pos (by omega)]⟩
theorem made_step (x0 : List Int) : ∀ (d i k : Nat) (a b : List Int) (r : List Bool), i + d = 16 → d < k → Form i a b r → ∃ a' b' r', headgatelaw07_made.l0 k x0 (i : Int) a b r = some (a', b', r') ∧ Form 16 a' b' r'
  | 0, i, k, a, b, r, hd, hk, hf => by
    obtain ⟨k, rfl⟩ : ∃ m, k = m + 1 := ⟨k - 1, by omega⟩
    obtain rfl : i = 16 := by omega
    exact ⟨a, b, r, by rw [headgatelaw07_made.l0, if_neg (by omega)], hf⟩
  | d + 1, i, k, a, b, r, hd, hk, hf => by
    obtain ⟨k, rfl⟩ : ∃ m, k = m + 1 := ⟨k - 1, by omega⟩
    have hi : i < 16 := by omega
    have hn := frame_num ⟨i, hi⟩
    simp only at hn
    obtain ⟨v, hv⟩ := at_f x0 (i : Int)
    have hr := frame_rng i
    have hl := hf.len
    have hs := hf.size
    have g0 := Int.emod_nonneg v (show (24 : Int) ≠ 0 by omega)
    rw [headgatelaw07_made.l0, if_pos (by omega), hv, hn]
    simp only [Option.bind_some]
    rw [mod_f v 24 (by omega) (by omega)]
    simp only [Option.bind_some]
    rw [nat_succ (by omega)]
    generalize hm : v % 24 = m at *
    have ht : Int.tmod m 3 = m % 3 := Int.tmod_eq_emod_of_nonneg g0
    have g1 := Int.emod_nonneg m (show (3 : Int) ≠ 0 by omega)
    have g2 := Int.emod_lt_of_pos m (show (0 : Int) < 3 by omega)
    rw [ht]
    generalize m % 3 = q at *
    clear ht hm
    by_cases c1 : q = 1
    · rw [if_pos c1, if_pos (by omega), if_pos (by omega), if_pos (by omega), if_pos (by omega)]
      exact made_step x0 d (i + 1) k _ _ _ (by omega) (by omega) (hf.act hi _)
    · by_cases c2 : q = 2
      · rw [if_neg c1, if_pos c2, if_pos (by simp; omega), if_pos (by omega), if_pos (by omega), if_pos (by omega)]
        exact made_step x0 d (i + 1) k _ _ _ (by omega) (by omega) (hf.inact hi _)
      · rw [if_neg c1, if_neg c2, if_neg (by omega), if_pos (by omega), if_pos (by omega)]
        exact made_step x0 d (i + 1) k _ _ _ (by omega) (by omega) hf.next
theorem made_ok (x0 : List Int) (k : Nat) (hk : 20 < k) : ∃ a b r, headgatelaw07_made.f k x0 = some (a, b, r) ∧ OkL a b r := by
  unfold headgatelaw07_made.f
  rw [if_pos (by decide)]
  obtain ⟨a, b, r, h1, h2⟩ := made_step x0 16 0 k [] [] (List.replicate 16 false) (by omega) (by omega) ⟨by simp, by simp, by simp, fun x hx => (by cases hx), fun f hf => (by
    rw [List.getD_eq_getElem?_getD, List.getElem?_replicate] at hf
    split at hf <;> simp at hf)⟩
  exact ⟨a, b, r, h1, h2.len, h2.size, h2.nd, fun x hx => by obtain ⟨j, _, rfl⟩ := h2.from_ x hx; exact frame_rng j, h2.ref⟩

/-- What a list holds after some rounds of the swaps. -/
theorem rev_step (l : List Int) (hl : l.length ≤ 1000) : ∀ (d i j k : Nat) (x : List Int), i + j + 1 = l.length → j ≤ i + d → d < k → x.length = l.length → (∀ m, m < l.length → x.getD m 0 = if m < i ∨ j < m then l.getD (l.length - 1 - m) 0 else l.getD m 0) →
    slices_Reverse_int_int.l0 k x (i : Int) (j : Int) = some l.reverse
  | d, i, j, k, x, hij, hd, hk, hx, h => by
    obtain ⟨k, rfl⟩ : ∃ m, k = m + 1 := ⟨k - 1, by omega⟩
    rw [slices_Reverse_int_int.l0]
    by_cases c : i < j
    · match d, hd, hk with
      | 0, hd, hk => omega
      | d + 1, hd, hk =>
        rw [if_pos (by omega), if_pos (by omega), if_pos (by omega), if_pos (by omega), if_pos (by omega), nat_succ (by omega), rd_nat, rd_nat, show wrap64 ((j : Int) - 1) = ((j - 1 : Nat) : Int) by rw [w64 (by omega) (by omega)]; omega]
        refine rev_step l hl d (i + 1) (j - 1) k _ (by omega) (by omega) (by omega) (by simp [hx]) fun m hm => ?_
        have hi := h i (by omega)
        have hj := h j (by omega)
        have hmm := h m hm
        rw [if_neg (by omega)] at hi hj
        simp only [Int.toNat_natCast]
        rw [hi, hj]
        simp only [List.getD_eq_getElem?_getD, List.getElem?_set, List.length_set] at hmm ⊢
        by_cases c1 : j = m
        · subst c1
          rw [if_pos rfl, if_pos (by omega), if_pos (by omega), show l.length - 1 - j = i by omega]
          rfl
        · rw [if_neg c1]
          by_cases c2 : i = m
          · subst c2
            rw [if_pos rfl, if_pos (by omega), if_pos (by omega), show l.length - 1 - i = j by omega]
            rfl
          · rw [if_neg c2, hmm]
            by_cases c3 : m < i ∨ j < m
            · rw [if_pos c3, if_pos (by omega)]
            · rw [if_neg c3, if_neg (by omega)]
    · rw [if_neg (by omega)]
      congr 1
      apply List.ext_getElem?
      intro m
      by_cases hm : m < l.length
      · have := h m hm
        have e : (if m < i ∨ j < m then l.getD (l.length - 1 - m) 0 else l.getD m 0) = l.getD (l.length - 1 - m) 0 := by
          by_cases c3 : m < i ∨ j < m
          · rw [if_pos c3]
          · rw [if_neg c3, show l.length - 1 - m = m by omega]
        rw [e] at this
        rw [List.getElem?_reverse hm, List.getElem?_eq_getElem (show m < x.length by omega), List.getElem?_eq_getElem (show l.length - 1 - m < l.length by omega)]
        simp only [List.getD_eq_getElem?_getD, List.getElem?_eq_getElem (show m < x.length by omega), List.getElem?_eq_getElem (show l.length - 1 - m < l.length by omega), Option.getD_some] at this
        rw [this]
      · rw [List.getElem?_eq_none (by omega), List.getElem?_eq_none (by simp; omega)]
theorem reverse_f (l : List Int) (hl : l.length ≤ 1000) (k : Nat) (hk : l.length < k) : slices_Reverse_int_int.f k l = some l.reverse := by
  unfold slices_Reverse_int_int.f
  by_cases c : l.length = 0
  · have : l = [] := List.eq_nil_of_length_eq_zero c
    subst this
    obtain ⟨k, rfl⟩ : ∃ m, k = m + 1 := ⟨k - 1, by omega⟩
    rw [show wrap64 ((([] : List Int).length : Int) - 1) = -1 by decide +kernel, slices_Reverse_int_int.l0, if_neg (by decide)]
    rfl
  · rw [show wrap64 ((l.length : Int) - 1) = ((l.length - 1 : Nat) : Int) by rw [w64 (by omega) (by omega)]; omega]
    have := rev_step l hl l.length 0 (l.length - 1) k l (by omega) (by omega) (by omega) rfl (fun m hm => by rw [if_neg (by omega)])
    simpa using this
theorem OkL.order {a b : List Int} {r : List Bool} (h : OkL a b r) (k : Nat) (hk : 40 ≤ k) : lru_Order.f k a b r = some (b.reverse ++ a.reverse, 0) := by
  have hs := h.size
  unfold lru_Order.f
  rw [h.opened]
  simp only [Option.bind_some, if_true]
  rw [reverse_f b (by omega) k (by omega), reverse_f a (by omega) k (by omega)]
  simp only [Option.bind_some]
  unfold slices_Concat_int_int.f
  rw [if_pos (by simp [catLen]; omega)]
  simp
theorem has_step (l : List Int) (x : Int) (hl : l.length ≤ 1000) : ∀ (d i k : Nat), i + d = l.length → d < k → headgatekit_Has.l0 k l x (i : Int) = some (decide (x ∈ l.drop i))
  | 0, i, k, hd, hk => by
    obtain ⟨k, rfl⟩ : ∃ m, k = m + 1 := ⟨k - 1, by omega⟩
    rw [headgatekit_Has.l0, if_neg (by omega), List.drop_eq_nil_of_le (by omega)]
    simp
  | d + 1, i, k, hd, hk => by
    obtain ⟨k, rfl⟩ : ∃ m, k = m + 1 := ⟨k - 1, by omega⟩
    have hi : i < l.length := by omega
    rw [headgatekit_Has.l0, if_pos (by omega), if_pos (by omega), rd_nat, drop_getD hi, nat_succ (by omega)]
    by_cases c : l.getD i 0 = x
    · rw [if_pos c, decide_eq_true (by rw [c]; exact List.mem_cons_self ..)]
    · rw [if_neg c, has_step l x hl d (i + 1) k (by omega) (by omega)]
      congr 1
      rw [decide_eq_decide, List.mem_cons]
      exact ⟨.inr, fun h => h.resolve_left fun e => c e.symm⟩
theorem has_f (l : List Int) (x : Int) (hl : l.length ≤ 1000) (k : Nat) (hk : l.length < k) : headgatekit_Has.f k l x = some (decide (x ∈ l)) := by
  have := has_step l x hl l.length 0 k (by omega) hk
  simpa [headgatekit_Has.f] using this
def ordOf (a b : List Int) : List Int := b.reverse ++ a.reverse
theorem ord_length (a b : List Int) : (ordOf a b).length = a.length + b.length := by simp [ordOf]; omega
theorem ord_perm (a b : List Int) : (ordOf a b).Perm (a ++ b) := by
  unfold ordOf
  exact (List.perm_append_comm).trans (List.Perm.append (List.reverse_perm a) (List.reverse_perm b))
theorem getD_mem {l : List Int} {j : Nat} (hj : j < l.length) : l.getD j 0 ∈ l := by
  simp [List.getD_eq_getElem?_getD, List.getElem?_eq_getElem hj]
theorem ord_left {a b : List Int} {i : Nat} (h : i < b.length) : (ordOf a b).getD i 0 ∈ b := by
  unfold ordOf
  rw [List.getD_eq_getElem?_getD, List.getElem?_append_left (by simpa using h), ← List.getD_eq_getElem?_getD]
  exact List.mem_reverse.1 (getD_mem (by simpa using h))
theorem ord_right {a b : List Int} {i : Nat} (h : b.length ≤ i) (h2 : i < (ordOf a b).length) : (ordOf a b).getD i 0 ∈ a := by
  rw [ord_length] at h2
  unfold ordOf
  rw [List.getD_eq_getElem?_getD, List.getElem?_append_right (by simpa using h), ← List.getD_eq_getElem?_getD]
  exact List.mem_reverse.1 (getD_mem (by simp; omega))
theorem last_rev {l : List Int} (h : 0 < l.length) : l.reverse.getD 0 0 = l.getD (l.length - 1) 0 := by
  rw [List.getD_eq_getElem?_getD, List.getElem?_reverse h, List.getD_eq_getElem?_getD]
  simp
theorem OkL.last {a b : List Int} {r : List Bool} (h : OkL a b r) : lru_Last.f a b r = some (if (ordOf a b).length = 0 then (0, 6) else ((ordOf a b).getD 0 0, 0)) := by
  have hs := h.size
  unfold lru_Last.f
  rw [h.check]
  simp only [Option.bind_some, if_true]
  unfold slices_Concat_int_int.f
  rw [if_pos (by simp [catLen]; omega)]
  simp only [Option.bind_some, List.flatten_cons, List.flatten_nil, List.append_nil]
  rw [ord_length]
  by_cases cb : 0 < b.length
  · have ew : wrap64 ((b.length : Int) - 1) = ((b.length - 1 : Nat) : Int) := by
      rw [w64 (by omega) (by omega)]
      omega
    rw [if_pos (by omega), ew, if_pos (by omega), if_pos (by omega), rd_nat, if_neg (by omega)]
    unfold ordOf
    rw [List.getD_eq_getElem?_getD (l := b.reverse ++ a.reverse), List.getElem?_append_left (by simpa using cb), ← List.getD_eq_getElem?_getD, last_rev cb]
  · have hb : b = [] := List.eq_nil_of_length_eq_zero (by omega)
    subst hb
    simp only [List.nil_append, List.length_nil, Nat.add_zero]
    rw [if_neg (by decide)]
    by_cases ca : 0 < a.length
    · have ew : wrap64 ((a.length : Int) - 1) = ((a.length - 1 : Nat) : Int) := by
        rw [w64 (by omega) (by omega)]
        omega
      rw [if_pos (by omega), ew, if_pos (by omega), if_pos (by omega), rd_nat, if_neg (by omega)]
      unfold ordOf
      simp only [List.reverse_nil, List.nil_append]
      rw [last_rev ca]
    · rw [if_neg (by omega), if_pos (by omega)]
theorem OkL.loop {a b : List Int} {r : List Bool} (h : OkL a b r) : ∀ (d i k : Nat), i + d = (ordOf a b).length → d + 60 < k → headgatelaw07_LruOrder.l0 k (ordOf a b) (i : Int) a b r = some true
  | 0, i, k, hd, hk => by
    have hs := h.size
    have hol := ord_length a b
    obtain ⟨k, rfl⟩ : ∃ m, k = m + 1 := ⟨k - 1, by omega⟩
    rw [headgatelaw07_LruOrder.l0, if_neg (by omega), h.last]
    simp only [Option.bind_some, headgatelaw07_awake.f]
    by_cases c : (ordOf a b).length = 0
    · rw [if_pos (by omega), if_pos c, if_pos rfl]
    · rw [if_neg (by omega), if_pos (by omega), if_neg c, if_pos rfl, if_pos (by omega), if_pos (show ((ordOf a b).getD 0 0, (0 : Int)).1 = rd (ordOf a b) 0 from rfl)]
  | d + 1, i, k, hd, hk => by
    have hs := h.size
    have hol := ord_length a b
    obtain ⟨k, rfl⟩ : ∃ m, k = m + 1 := ⟨k - 1, by omega⟩
    have hi : i < (ordOf a b).length := by omega
    have hmem : (ordOf a b).getD i 0 ∈ a ++ b := (ord_perm a b).mem_iff.1 (getD_mem hi)
    obtain ⟨r0, r1⟩ := h.rng _ hmem
    obtain ⟨n1, n2, n3⟩ := List.nodup_append.1 h.nd
    have hnd : (ordOf a b).Nodup := (ord_perm a b).nodup_iff.2 h.nd
    have hno : (ordOf a b).getD i 0 ∉ (ordOf a b).take i := fun hm => by
      have e : ordOf a b = (ordOf a b).take i ++ (ordOf a b).getD i 0 :: (ordOf a b).drop (i + 1) := by rw [← drop_getD hi, List.take_append_drop]
      rw [e] at hnd
      exact (List.nodup_append.1 hnd).2.2 _ hm _ (List.mem_cons_self ..) rfl
    rw [headgatelaw07_LruOrder.l0, if_pos (by omega), if_pos (by omega), rd_nat, h.where_ _ r0 r1 k (by omega)]
    simp only [Option.bind_some, if_true]
    have hw : whereOf a b ((ordOf a b).getD i 0) = if i < b.length then 2 else 1 := by
      unfold whereOf
      by_cases c : i < b.length
      · have hb := ord_left (a := a) c
        rw [if_neg (fun ha => n3 _ ha _ hb rfl), if_pos hb, if_pos c]
      · rw [if_pos (ord_right (by omega) hi), if_neg c]
    rw [hw, if_neg (by split <;> omega)]
    rw [show (((if i < b.length then (2 : Int) else 1) == 2) != decide ((i : Int) < (b.length : Int))) = false by
      by_cases c : i < b.length
      · rw [if_pos c, decide_eq_true (by omega)]; rfl
      · rw [if_neg c, decide_eq_false (by omega)]; rfl]
    rw [if_neg (by decide), if_pos (by omega)]
    simp only [Int.toNat_natCast]
    rw [has_f _ _ (by simp; omega) k (by simp; omega), decide_eq_false hno]
    simp only [Option.bind_some, Bool.false_eq_true, if_false]
    rw [nat_succ (by omega)]
    exact h.loop d (i + 1) k (by omega) (by omega)

theorem OkL.whole {a b : List Int} {r : List Bool} (hok : OkL a b r) (l : List Int) (k : Nat) (hk : 100 ≤ k) (hm : headgatelaw07_made.f (k + 1) l = some (a, b, r)) : headgatelaw07_LruOrder.f (k + 1) l = some true := by
  have hs := hok.size
  have hol := ord_length a b
  have hsz : headgatelaw07_size.f a b r = some ((ordOf a b).length : Int) := by
    unfold headgatelaw07_size.f
    rw [w64 (by omega) (by omega)]
    congr 1
    omega
  have ho : lru_Order.f (k + 1) a b r = some (ordOf a b, 0) := hok.order (k + 1) (by omega)
  have hl := hok.loop (ordOf a b).length 0 k (by omega) (by omega)
  generalize ordOf a b = o at *
  unfold headgatelaw07_LruOrder.f
  rw [hm, Option.bind_some, ho, Option.bind_some]
  dsimp only
  rw [if_pos rfl, hsz, Option.bind_some, bne_self_eq_false, headgatelaw07_LruOrder.j0, if_neg (by decide)]
  exact hl
theorem LruOrder : headgatelaw07_LruOrder.Pure := fun l _ _ _ =>
  let ⟨_, _, _, hm, hok⟩ := made_ok l (100 + 1) (by omega)
  ⟨100 + 1, hok.whole l 100 (by omega) hm⟩

end Go.Proofs.Ytaofihdmgdpenaa.Pure
