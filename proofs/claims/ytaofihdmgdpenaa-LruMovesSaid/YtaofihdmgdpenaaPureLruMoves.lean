/- Demote and Promote move one frame to the beginning of the other list, no longer referenced, and keep all others: LruMoves returns true, for every list of numbers. -/
import Derived.Test.YtaofihdmgdpenaaX56
namespace Go.Proofs.Ytaofihdmgdpenaa.Pure
open Go.RowKit Go.Proofs.Ytaofihdmgdpenaa.X Go.Proofs.YtaofihdmgdpenaaW.PrintWords Go.Proofs.YtaofihdmgdpenaaW.PrintLast
set_option linter.unusedVariables false
set_option linter.unusedSimpArgs false

theorem mod_f (a n : Int) (h1 : 1 ≤ n) (h2 : n ≤ 4611686018427387904) : headgatekit_Mod.f a n = some (a % n) := by
  unfold headgatekit_Mod.f
  rw [if_neg (by omega), if_neg (by omega)]
  have e := Int.tmod_eq_emod (a := a) (b := n)
  have g0 := Int.emod_nonneg a (show n ≠ 0 by omega)
  have g1 := Int.emod_lt_of_pos a (show 0 < n by omega)
  by_cases c : 0 ≤ a ∨ n ∣ a
  · rw [if_pos c] at e
    rw [if_neg (by omega), e]
    simp
  · rw [if_neg c] at e
    have hn : (n.natAbs : Int) = n := by omega
    have hd : a % n ≠ 0 := fun h => c (.inr (Int.dvd_of_emod_eq_zero h))
    rw [hn] at e
    rw [if_pos (by omega), e]
    congr 1
    unfold wrap64
    omega

theorem w64 {x : Int} (h0 : -9223372036854775808 ≤ x) (h1 : x ≤ 9223372036854775807) : wrap64 x = x := by
  unfold wrap64
  omega

theorem nat_succ {i : Nat} (h : i ≤ 1000) : wrap64 ((i : Int) + 1) = ((i + 1 : Nat) : Int) := by rw [w64 (by omega) (by omega)]; omega
theorem rd_nat (l : List Int) (i : Nat) : rd l (i : Int) = l.getD i 0 := rfl
structure OkL (a b : List Int) (r : List Bool) : Prop where
  len : r.length = 16
  size : a.length + b.length ≤ 40
  nd : (a ++ b).Nodup
  rng : ∀ x ∈ a ++ b, 0 ≤ x ∧ x < 16
  ref : ∀ f : Nat, r.getD f false = true → (f : Int) ∈ a ++ b
theorem lruIn_ok (N : Nat) (k : List Int → Int) : ∀ (xs seen : List Int), (∀ x ∈ xs, 0 ≤ x ∧ x < (N : Int)) → xs.Nodup → (∀ x ∈ xs, x ∉ seen) → lruIn N k xs seen = k (xs.reverse ++ seen)
  | [], seen, _, _, _ => rfl
  | x :: xs, seen, h1, h2, h3 => by
    obtain ⟨p, q⟩ := h1 x (List.mem_cons_self ..)
    have h4 := List.nodup_cons.1 h2
    rw [lruIn, if_neg (by omega), if_neg (by omega), if_neg (by simpa using h3 x (List.mem_cons_self ..)),
      lruIn_ok N k xs (x :: seen) (fun y hy => h1 y (List.mem_cons_of_mem _ hy)) h4.2 (fun y hy hm => by
        rcases List.mem_cons.1 hm with rfl | hm
        · exact h4.1 hy
        · exact h3 y (List.mem_cons_of_mem _ hy) hm)]
    simp
theorem lruFrom_ok (seen : List Int) : ∀ (bs : List Bool) (f : Nat), (∀ j, bs.getD j false = true → ((f + j : Nat) : Int) ∈ seen) → lruFrom seen bs f = 0
  | [], _, _ => rfl
  | b :: bs, f, h => by
    have ih := lruFrom_ok seen bs (f + 1) (fun j hj => by
      have := h (j + 1) (by simpa using hj)
      rwa [show f + 1 + j = f + (j + 1) by omega])
    rw [lruFrom]
    by_cases c : b = true
    · have := h 0 (by simpa using c)
      rw [if_pos c, if_pos (by simpa using this), ih]
    · rw [if_neg c, ih]
theorem OkL.check {a b : List Int} {r : List Bool} (h : OkL a b r) : lru_Check.f a b r = some 0 := by
  unfold lru_Check.f
  have hs := h.size
  have hl := h.len
  obtain ⟨n1, n2, n3⟩ := List.nodup_append.1 h.nd
  rw [if_pos (by omega)]
  unfold lruCheck
  have eo : lruOut a b r 0 [] = lruIn r.length (fun s => lruIn r.length (fun s => lruFrom s r 0) b s) a [] := rfl
  rw [if_neg (by omega), if_neg (by omega), eo, hl, lruIn_ok 16 _ a [] (fun x hx => h.rng x (List.mem_append_left _ hx)) n1 (fun x _ hm => by cases hm)]
  rw [lruIn_ok 16 _ b _ (fun x hx => h.rng x (List.mem_append_right _ hx)) n2 (fun x hx hm => by
    simp at hm
    exact n3 x hm x hx rfl)]
  rw [lruFrom_ok _ r 0 (fun j hj => by
    have := h.ref j hj
    simp at this ⊢
    exact this.symm)]
theorem clone_int (l : List Int) (h : l.length ≤ 1000) : slices_Clone_int_int.f l = some l := by
  unfold slices_Clone_int_int.f
  rw [if_pos (by omega)]
theorem clone_bool (l : List Bool) (h : l.length ≤ 1000) : slices_Clone_bool_bool.f l = some l := by
  unfold slices_Clone_bool_bool.f
  rw [if_pos (by omega)]
theorem OkL.opened {a b : List Int} {r : List Bool} (h : OkL a b r) : lru_opened.f a b r = some (a, b, r, 0) := by
  unfold lru_opened.f
  have hs := h.size
  have hl := h.len
  rw [h.check, clone_int a (by omega), clone_int b (by omega), clone_bool r (by omega)]
  rfl
theorem drop_getD {l : List Int} {i : Nat} (hi : i < l.length) : l.drop i = l.getD i 0 :: l.drop (i + 1) := by
  rw [List.drop_eq_getElem_cons hi]
  simp [List.getD_eq_getElem?_getD, List.getElem?_eq_getElem hi]
theorem index_step (l : List Int) (x : Int) (hl : l.length ≤ 1000) : ∀ (d i k : Nat), i + d = l.length → d < k → ∃ v : Int, slices_Index_int_int.l0 k l x (l.length : Int) (i : Int) = some v ∧ (v ≥ 0 ↔ x ∈ l.drop i)
  | 0, i, k, hd, hk => by
    obtain ⟨k, rfl⟩ : ∃ m, k = m + 1 := ⟨k - 1, by omega⟩
    refine ⟨-1, by rw [slices_Index_int_int.l0, if_neg (by omega)], ?_⟩
    rw [List.drop_eq_nil_of_le (by omega)]
    simp
  | d + 1, i, k, hd, hk => by
    obtain ⟨k, rfl⟩ : ∃ m, k = m + 1 := ⟨k - 1, by omega⟩
    have hi : i < l.length := by omega
    obtain ⟨v, h1, h2⟩ := index_step l x hl d (i + 1) k (by omega) (by omega)
    rw [slices_Index_int_int.l0, if_pos (by omega), if_pos (by omega), if_pos (by omega), rd_nat, drop_getD hi, nat_succ (by omega)]
    by_cases c : x = l.getD i 0
    · exact ⟨i, by rw [if_pos c], fun _ => by rw [c]; exact List.mem_cons_self .., fun _ => by omega⟩
    · exact ⟨v, by rw [if_neg c, h1], by rw [h2, List.mem_cons]; exact ⟨.inr, fun h => h.resolve_left c⟩⟩
theorem contains_f (l : List Int) (x : Int) (hl : l.length ≤ 1000) (k : Nat) (hk : l.length < k) : slices_Contains_int_int.f k l x = some (decide (x ∈ l)) := by
  obtain ⟨v, h1, h2⟩ := index_step l x hl l.length 0 k (by omega) hk
  unfold slices_Contains_int_int.f slices_Index_int_int.f
  rw [show (0 : Int) = ((0 : Nat) : Int) from rfl, h1]
  simp only [Option.bind_some, Option.some.injEq]
  rw [List.drop_zero] at h2
  simp only [decide_eq_decide]
  exact h2
def whereOf (a b : List Int) (f : Int) : Int := if f ∈ a then 1 else if f ∈ b then 2 else 0
theorem OkL.about {a b : List Int} {r : List Bool} (h : OkL a b r) (f : Int) (h0 : 0 ≤ f) (h1 : f < 16) (k : Nat) (hk : 60 ≤ k) : lru_about.f k a b r f = some (a, b, r, whereOf a b f, 0) := by
  have hs := h.size
  have hl := h.len
  unfold lru_about.f
  rw [h.opened]
  simp only [Option.bind_some, if_true]
  rw [if_neg (by omega), decide_eq_false (by omega)]
  obtain ⟨k, rfl⟩ : ∃ m, k = m + 1 := ⟨k - 1, by omega⟩
  rw [lru_about.j0, if_neg (by decide), contains_f a f (by omega) k (by omega), contains_f b f (by omega) k (by omega)]
  unfold whereOf
  by_cases ca : f ∈ a
  · simp [ca]
  · by_cases cb : f ∈ b
    · simp [ca, cb]
    · simp [ca, cb]
theorem getD_mem {l : List Int} {j : Nat} (hj : j < l.length) : l.getD j 0 ∈ l := by
  simp [List.getD_eq_getElem?_getD, List.getElem?_eq_getElem hj]
/-! ### made -/
def frameOf (i : Nat) : Int := (((5 * i + 3) % 16 : Nat) : Int)
theorem frame_num : ∀ i : Fin 16, Int.tmod (wrap64 ((wrap64 (5 * (i.val : Int))) + 3)) 16 = frameOf i.val := by decide +kernel
theorem frame_inj : ∀ i j : Fin 16, frameOf i.val = frameOf j.val → i = j := by decide +kernel
theorem frame_rng (i : Nat) : 0 ≤ frameOf i ∧ frameOf i < 16 := by unfold frameOf; omega
structure Form (i : Nat) (a b : List Int) (r : List Bool) : Prop where
  len : r.length = 16
  size : a.length + b.length ≤ i
  nd : (a ++ b).Nodup
  from_ : ∀ x ∈ a ++ b, ∃ j, j < i ∧ x = frameOf j
  ref : ∀ f : Nat, r.getD f false = true → (f : Int) ∈ a ++ b
theorem getD_set (r : List Bool) (n f : Nat) (v : Bool) : (r.set n v).getD f false = if n = f ∧ n < r.length then v else r.getD f false := by
  simp only [List.getD_eq_getElem?_getD, List.getElem?_set]
  by_cases c : n = f
  · subst c
    by_cases c2 : n < r.length <;> simp [c2]
  · simp [c]
theorem Form.fresh {i : Nat} {a b : List Int} {r : List Bool} (h : Form i a b r) (hi : i < 16) : frameOf i ∉ a ++ b := fun hm => by
  obtain ⟨j, hj, he⟩ := h.from_ _ hm
  have := frame_inj ⟨i, hi⟩ ⟨j, by omega⟩ he
  simp at this
  omega
theorem Form.next {i : Nat} {a b : List Int} {r : List Bool} (h : Form i a b r) : Form (i + 1) a b (r.set (frameOf i).toNat false) :=
  ⟨by rw [List.length_set, h.len], by have := h.size; omega, h.nd, fun x hx => by obtain ⟨j, hj, he⟩ := h.from_ x hx; exact ⟨j, by omega, he⟩, fun f hf => by
    rw [getD_set] at hf
    split at hf
    · cases hf
    · exact h.ref f hf⟩
theorem Form.act {i : Nat} {a b : List Int} {r : List Bool} (h : Form i a b r) (hi : i < 16) (v : Bool) : Form (i + 1) (a ++ [frameOf i]) b (r.set (frameOf i).toNat v) := by
  have hf := h.fresh hi
  have hm : ∀ x, x ∈ a ++ [frameOf i] ++ b ↔ x = frameOf i ∨ x ∈ a ++ b := fun x => by simp; constructor <;> (rintro (h | h | h) <;> simp [h])
  refine ⟨by rw [List.length_set, h.len], by have := h.size; simp; omega, ?_, fun x hx => ?_, fun f hfr => ?_⟩
  · have hp : (a ++ [frameOf i] ++ b).Perm (frameOf i :: (a ++ b)) := by
      rw [List.append_assoc]
      exact List.perm_middle
    exact hp.nodup_iff.2 (List.nodup_cons.2 ⟨hf, h.nd⟩)
  · rcases (hm x).1 hx with rfl | hx
    · exact ⟨i, by omega, rfl⟩
    · obtain ⟨j, hj, he⟩ := h.from_ x hx
      exact ⟨j, by omega, he⟩
  · rw [getD_set] at hfr
    rw [hm]
    have := frame_rng i
    split at hfr
    · left; omega
    · right; exact h.ref f hfr
theorem Form.inact {i : Nat} {a b : List Int} {r : List Bool} (h : Form i a b r) (hi : i < 16) (v : Bool) : Form (i + 1) a (frameOf i :: b) (r.set (frameOf i).toNat v) := by
  have hf := h.fresh hi
  have hm : ∀ x, x ∈ a ++ frameOf i :: b ↔ x = frameOf i ∨ x ∈ a ++ b := fun x => by simp; constructor <;> (rintro (h | h | h) <;> simp [h])
  refine ⟨by rw [List.length_set, h.len], by have := h.size; simp; omega, ?_, fun x hx => ?_, fun f hfr => ?_⟩
  · exact (List.perm_middle.nodup_iff).2 (List.nodup_cons.2 ⟨hf, h.nd⟩)
  · rcases (hm x).1 hx with rfl | hx
    · exact ⟨i, by omega, rfl⟩
    · obtain ⟨j, hj, he⟩ := h.from_ x hx
      exact ⟨j, by omega, he⟩
  · rw [getD_set] at hfr
    rw [hm]
    have := frame_rng i
    split at hfr
    · left; omega
    · right; exact h.ref f hfr
theorem at_f (l : List Int) (i : Int) : ∃ v, headgatekit_At.f l i = some v := by
  unfold headgatekit_At.f
  by_cases c1 : i < 0
  · exact ⟨_, if_pos c1⟩
  · by_cases c2 : i ≥ (l.length : Int)
    · exact ⟨_, by rw [if_neg c1, if_pos c2]⟩
    · exact ⟨_, by rw [if_neg c1, if_neg c2, if_pos (by omega), if_pos (by omega)]⟩
theorem made_step (x0 : List Int) : ∀ (d i k : Nat) (a b : List Int) (r : List Bool), i + d = 16 → d < k → Form i a b r → ∃ a' b' r', headgatelaw07_made.l0 k x0 (i : Int) a b r = some (a', b', r') ∧ Form 16 a' b' r'
  | 0, i, k, a, b, r, hd, hk, hf => by
    obtain ⟨k, rfl⟩ : ∃ m, k = m + 1 := ⟨k - 1, by omega⟩
    obtain rfl : i = 16 := by omega
    exact ⟨a, b, r, by rw [headgatelaw07_made.l0, if_neg (by omega)], hf⟩
  | d + 1, i, k, a, b, r, hd, hk, hf => by
    obtain ⟨k, rfl⟩ : ∃ m, k = m + 1 := ⟨k - 1, by omega⟩
    have hi : i < 16 := by omega
    have hn := frame_num ⟨i, hi⟩
    simp only at hn
    obtain ⟨v, hv⟩ := at_f x0 (i : Int)
    have hr := frame_rng i
    have hl := hf.len
    have hs := hf.size
    have g0 := Int.emod_nonneg v (show (24 : Int) ≠ 0 by omega)
    rw [headgatelaw07_made.l0, if_pos (by omega), hv, hn]
    simp only [Option.bind_some]
    rw [mod_f v 24 (by omega) (by omega)]
    simp only [Option.bind_some]
    rw [nat_succ (by omega)]
    generalize hm : v % 24 = m at *
    have ht : Int.tmod m 3 = m % 3 := Int.tmod_eq_emod_of_nonneg g0
    have g1 := Int.emod_nonneg m (show (3 : Int) ≠ 0 by omega)
    have g2 := Int.emod_lt_of_pos m (show (0 : Int) < 3 by omega)
    rw [ht]
    generalize m % 3 = q at *
    clear ht hm
    by_cases c1 : q = 1
    · rw [if_pos c1, if_pos (by omega), if_pos (by omega), if_pos (by omega), if_pos (by omega)]
      exact made_step x0 d (i + 1) k _ _ _ (by omega) (by omega) (hf.act hi _)
    · by_cases c2 : q = 2
      · rw [if_neg c1, if_pos c2, if_pos (by simp; omega), if_pos (by omega), if_pos (by omega), if_pos (by omega)]
        exact made_step x0 d (i + 1) k _ _ _ (by omega) (by omega) (hf.inact hi _)
      · rw [if_neg c1, if_neg c2, if_neg (by omega), if_pos (by omega), if_pos (by omega)]
        exact made_step x0 d (i + 1) k _ _ _ (by omega) (by omega) hf.next
theorem made_ok (x0 : List Int) (k : Nat) (hk : 20 < k) : ∃ a b r, headgatelaw07_made.f k x0 = some (a, b, r) ∧ OkL a b r ∧ a.length + b.length ≤ 16 := by
  unfold headgatelaw07_made.f
  rw [if_pos (by decide)]
  obtain ⟨a, b, r, h1, h2⟩ := made_step x0 16 0 k [] [] (List.replicate 16 false) (by omega) (by omega) ⟨by simp, by simp, by simp, fun x hx => (by cases hx), fun f hf => (by
    rw [List.getD_eq_getElem?_getD, List.getElem?_replicate] at hf
    split at hf <;> simp at hf)⟩
  exact ⟨a, b, r, h1, ⟨h2.len, by have := h2.size; omega, h2.nd, fun x hx => (by obtain ⟨j, _, rfl⟩ := h2.from_ x hx; exact frame_rng j), h2.ref⟩, h2.size⟩

theorem ints_step (l : List Int) (hl : l.length ≤ 1000) : ∀ (d i k : Nat), i + d = l.length → d < k → headgatekit_SameInts.l0 k l l (i : Int) = some true
  | 0, i, k, hd, hk => by
    obtain ⟨k, rfl⟩ : ∃ m, k = m + 1 := ⟨k - 1, by omega⟩
    rw [headgatekit_SameInts.l0, if_neg (by omega)]
  | d + 1, i, k, hd, hk => by
    obtain ⟨k, rfl⟩ : ∃ m, k = m + 1 := ⟨k - 1, by omega⟩
    rw [headgatekit_SameInts.l0, if_pos (by omega), if_pos (by omega), if_pos (by omega), if_pos rfl, nat_succ (by omega)]
    exact ints_step l hl d (i + 1) k (by omega) (by omega)
theorem same_ints (l : List Int) (hl : l.length ≤ 1000) (k : Nat) (hk : l.length < k) : headgatekit_SameInts.f k l l = some true := by
  unfold headgatekit_SameInts.f
  rw [if_pos rfl]
  exact ints_step l hl l.length 0 k (by omega) (by omega)
theorem bools_step (l : List Bool) (hl : l.length ≤ 1000) : ∀ (d i k : Nat), i + d = l.length → d < k → headgatekit_SameBools.l0 k l l (i : Int) = some true
  | 0, i, k, hd, hk => by
    obtain ⟨k, rfl⟩ : ∃ m, k = m + 1 := ⟨k - 1, by omega⟩
    rw [headgatekit_SameBools.l0, if_neg (by omega)]
  | d + 1, i, k, hd, hk => by
    obtain ⟨k, rfl⟩ : ∃ m, k = m + 1 := ⟨k - 1, by omega⟩
    rw [headgatekit_SameBools.l0, if_pos (by omega), if_pos (by omega), if_pos (by omega)]
    simp only [bne_self_eq_false, beq_self_eq_true, Bool.false_eq_true, if_false, if_true]
    rw [nat_succ (by omega)]
    exact bools_step l hl d (i + 1) k (by omega) (by omega)
theorem same_bools (l : List Bool) (hl : l.length ≤ 1000) (k : Nat) (hk : l.length < k) : headgatekit_SameBools.f k l l = some true := by
  unfold headgatekit_SameBools.f
  rw [if_pos rfl]
  exact bools_step l hl l.length 0 k (by omega) (by omega)
theorem is_same (a b : List Int) (r : List Bool) (ha : a.length ≤ 100) (hb : b.length ≤ 100) (hr : r.length ≤ 100) (k : Nat) (hk : 101 < k) : headgatelaw07_is.f k a b r a b r 0 = some true := by
  unfold headgatelaw07_is.f headgatekit_SameLists.f
  rw [if_pos rfl, same_ints a (by omega) k (by omega), same_ints b (by omega) k (by omega), same_bools r (by omega) k (by omega)]
  rfl

theorem rd_last (l : List Int) (h : l.length ≠ 0) : rd l ((l.length - 1 : Nat) : Int) ∈ l := by
  rw [rd_nat]
  exact getD_mem (by omega)
theorem take_last (l : List Int) (h : l.length ≠ 0) : l = l.take (l.length - 1) ++ [rd l ((l.length - 1 : Nat) : Int)] := by
  have e := drop_getD (l := l) (i := l.length - 1) (by omega)
  rw [List.drop_eq_nil_of_le (show l.length ≤ l.length - 1 + 1 by omega)] at e
  rw [rd_nat, ← e, List.take_append_drop]
theorem OkL.demote {a b : List Int} {r : List Bool} (h : OkL a b r) : lru_Demote.f a b r = if a.length = 0 then some ([], [], [], 0, 6) else some (a.take (a.length - 1), rd a ((a.length - 1 : Nat) : Int) :: b, r.set (rd a ((a.length - 1 : Nat) : Int)).toNat false, rd a ((a.length - 1 : Nat) : Int), 0) := by
  have hs := h.size
  have hl := h.len
  unfold lru_Demote.f
  rw [h.opened, Option.bind_some]
  dsimp only
  rw [if_pos rfl]
  by_cases c : a.length = 0
  · rw [if_pos c, if_pos c]
  · have := h.rng _ (List.mem_append_left b (rd_last a c))
    rw [if_neg c, if_neg c, if_pos ⟨by omega, by omega, this.1, by omega⟩]
theorem OkL.promote {a b : List Int} {r : List Bool} (h : OkL a b r) : lru_Promote.f a b r = if b.length = 0 then some ([], [], [], 0, 6) else some (rd b ((b.length - 1 : Nat) : Int) :: a, b.take (b.length - 1), r.set (rd b ((b.length - 1 : Nat) : Int)).toNat false, rd b ((b.length - 1 : Nat) : Int), 0) := by
  have hs := h.size
  have hl := h.len
  unfold lru_Promote.f
  rw [h.opened, Option.bind_some]
  dsimp only
  rw [if_pos rfl]
  by_cases c : b.length = 0
  · rw [if_pos c, if_pos c]
  · have := h.rng _ (List.mem_append_right a (rd_last b c))
    rw [if_neg c, if_neg c, if_pos ⟨by omega, by omega, this.1, by omega⟩]

theorem without_step (l : List Int) (x : Int) (hl : l.length ≤ 1000) : ∀ (d i k : Nat) (acc : List Int), i + d = l.length → d < k → acc.length ≤ i → headgatelaw07_without.l0 k l x acc (i : Int) = some (acc ++ (l.drop i).filter fun y => !(y == x))
  | 0, i, k, acc, hd, hk, _ => by
    obtain ⟨k, rfl⟩ : ∃ m, k = m + 1 := ⟨k - 1, by omega⟩
    rw [headgatelaw07_without.l0, if_neg (by omega), List.drop_eq_nil_of_le (by omega)]
    simp
  | d + 1, i, k, acc, hd, hk, ha => by
    obtain ⟨k, rfl⟩ : ∃ m, k = m + 1 := ⟨k - 1, by omega⟩
    have hi : i < l.length := by omega
    rw [headgatelaw07_without.l0, if_pos (by omega), if_pos (by omega), rd_nat, drop_getD hi, nat_succ (by omega)]
    by_cases c : l.getD i 0 = x
    · rw [if_pos c, without_step l x hl d (i + 1) k acc (by omega) (by omega) (by omega), List.filter_cons_of_neg (by rw [c]; simp)]
    · rw [if_neg c, if_pos (by omega), without_step l x hl d (i + 1) k _ (by omega) (by omega) (by simp; omega), List.filter_cons_of_pos (by rw [Bool.not_eq_true', beq_eq_false_iff_ne]; exact c)]
      simp
theorem without_last (p : List Int) (f : Int) (hl : p.length ≤ 900) (hn : f ∉ p) (k : Nat) (hk : p.length + 1 < k) : headgatelaw07_without.f k (p ++ [f]) f = some p := by
  unfold headgatelaw07_without.f
  have := without_step (p ++ [f]) f (by simp; omega) (p.length + 1) 0 k [] (by simp) hk (by simp)
  rw [show ((0 : Nat) : Int) = 0 from rfl] at this
  rw [this]
  have e : (p.filter fun y => !(y == f)) = p := List.filter_eq_self.2 fun y hy => by
    have : y ≠ f := fun e => hn (e ▸ hy)
    simpa using this
  rw [List.drop_zero, List.filter_append, e]
  simp
theorem bits_step (r : List Bool) (f : Int) (h0 : 0 ≤ f) (hl : r.length ≤ 1000) (p0 p1 q0 q1 : List Int) : ∀ (d i k : Nat), i + d = r.length → d < k → headgatelaw07_bits.l0 k f (i : Int) p0 p1 (r.set f.toNat false) q0 q1 r = some true
  | 0, i, k, hd, hk => by
    obtain ⟨k, rfl⟩ : ∃ m, k = m + 1 := ⟨k - 1, by omega⟩
    rw [headgatelaw07_bits.l0, if_neg (by simp; omega)]
  | d + 1, i, k, hd, hk => by
    obtain ⟨k, rfl⟩ : ∃ m, k = m + 1 := ⟨k - 1, by omega⟩
    rw [headgatelaw07_bits.l0, if_pos (by simp; omega), if_pos (by omega), if_pos (by omega), nat_succ (by omega)]
    have ih := bits_step r f h0 hl p0 p1 q0 q1 d (i + 1) k (by omega) (by omega)
    have e1 : rdOf false (r.set f.toNat false) (i : Int) = if f.toNat = i ∧ f.toNat < r.length then false else r.getD i false := by
      unfold rdOf
      rw [Int.toNat_natCast, getD_set]
    have e2 : rdOf false r (i : Int) = r.getD i false := by
      unfold rdOf
      rw [Int.toNat_natCast]
    rw [e1, e2]
    by_cases c : r.getD i false = true
    · rw [if_pos c]
      by_cases cf : f.toNat = i
      · have : (i : Int) = f := by omega
        rw [if_pos (show f.toNat = i ∧ f.toNat < r.length from ⟨cf, by omega⟩), this]
        simp only [bne_self_eq_false, Bool.false_eq_true, if_false]
        exact this ▸ ih
      · have : ((i : Int) != f) = true := by
          rw [bne_iff_ne]
          omega
        rw [if_neg (show ¬ (f.toNat = i ∧ f.toNat < r.length) from fun hh => cf hh.1), this, c]
        simp only [bne_self_eq_false, Bool.false_eq_true, if_false]
        exact ih
    · rw [if_neg c]
      have c' : r.getD i false = false := by simpa using c
      have : (if f.toNat = i ∧ f.toNat < r.length then false else r.getD i false) = false := by
        split
        · rfl
        · exact c'
      rw [this]
      simp only [bne_self_eq_false, Bool.false_eq_true, if_false]
      exact ih
theorem bits_f (r : List Bool) (f : Int) (h0 : 0 ≤ f) (hl : r.length ≤ 1000) (p0 p1 q0 q1 : List Int) (k : Nat) (hk : r.length < k) : headgatelaw07_bits.f k p0 p1 (r.set f.toNat false) q0 q1 r f = some true := by
  unfold headgatelaw07_bits.f
  rw [if_pos (by simp)]
  exact bits_step r f h0 hl p0 p1 q0 q1 r.length 0 k (by omega) hk
theorem last_w {l : List Int} (h : l.length ≠ 0) (hl : l.length ≤ 1000) : wrap64 ((l.length : Int) - 1) = ((l.length - 1 : Nat) : Int) := by
  rw [w64 (by omega) (by omega)]
  omega
theorem OkL.half {a b : List Int} {r : List Bool} (h : OkL a b r) (hs : a.length + b.length ≤ 16) (k : Nat) (hk : 100 ≤ k) : headgatelaw07_LruMoves.j0 k (if a.length = 0 then 6 else 0) a b r = some true := by
  obtain ⟨k, rfl⟩ : ∃ m, k = m + 1 := ⟨k - 1, by omega⟩
  have hl := h.len
  have ex : ((if a.length = 0 then (6 : Int) else 0) == 0) = decide ((a.length : Int) > 0) := by
    by_cases c : a.length = 0
    · rw [if_pos c, decide_eq_false (by omega)]; rfl
    · rw [if_neg c, decide_eq_true (by omega)]; rfl
  rw [headgatelaw07_LruMoves.j0, h.promote]
  by_cases c : b.length = 0
  · rw [if_pos c, Option.bind_some]
    dsimp only
    rw [if_neg (by decide), ex, if_pos (by simp), decide_eq_false (by omega), if_pos (by decide)]
    rfl
  · rw [if_neg c, Option.bind_some]
    dsimp only
    have he := take_last b c
    have hm := rd_last b c
    obtain ⟨n1, n2, n3⟩ := List.nodup_append.1 h.nd
    have hr := h.rng _ (List.mem_append_right a hm)
    rw [last_w c (by omega)]
    generalize hf : rd b ((b.length - 1 : Nat) : Int) = f at *
    generalize hp : b.take (b.length - 1) = p at *
    have hpl : p.length ≤ 16 := by rw [← hp, List.length_take]; omega
    have hw := without_last p f (by omega) (by
      rw [he] at n2
      have := List.nodup_append.1 n2
      intro hm
      exact this.2.2 _ hm _ (List.mem_singleton.2 rfl) rfl) k (by omega)
    rw [← he] at hw
    rw [if_pos rfl, if_neg (by rw [List.length_cons]; omega), if_pos (by rw [List.length_cons]; omega), if_pos (show rd (f :: a) 0 = f from rfl), if_pos (by omega), if_pos (by omega), if_pos rfl, hw, Option.bind_some, same_ints p (by omega) k (by omega), Option.bind_some, if_pos rfl, if_pos (by rw [List.length_cons]; omega), List.drop_one, List.tail_cons, same_ints a (by omega) k (by omega), Option.bind_some, if_pos rfl,
      bits_f r f hr.1 (by omega) _ _ _ _ k (by omega), Option.bind_some, if_pos rfl, ex, if_pos (by simp), decide_eq_true (by omega), if_pos (by decide)]
    rfl
theorem OkL.moves {a b : List Int} {r : List Bool} (h : OkL a b r) (hs : a.length + b.length ≤ 16) (k : Nat) (hk : 200 ≤ k) (l : List Int) (hm : headgatelaw07_made.f k l = some (a, b, r)) : headgatelaw07_LruMoves.f k l = some true := by
  have hl := h.len
  have hh := h.half hs k (by omega)
  unfold headgatelaw07_LruMoves.f
  rw [hm, Option.bind_some]
  dsimp only
  rw [h.demote]
  by_cases c : a.length = 0
  · rw [if_pos c] at hh
    rw [if_pos c, Option.bind_some]
    dsimp only
    rw [if_neg (by decide)]
    exact hh
  · rw [if_neg c] at hh
    rw [if_neg c, Option.bind_some]
    dsimp only
    have he := take_last a c
    have hm := rd_last a c
    obtain ⟨n1, n2, n3⟩ := List.nodup_append.1 h.nd
    have hr := h.rng _ (List.mem_append_left b hm)
    rw [last_w c (by omega)]
    generalize hf : rd a ((a.length - 1 : Nat) : Int) = f at *
    generalize hp : a.take (a.length - 1) = p at *
    have hpl : p.length ≤ 16 := by rw [← hp, List.length_take]; omega
    have hw := without_last p f (by omega) (by
      rw [he] at n1
      have := List.nodup_append.1 n1
      intro hm
      exact this.2.2 _ hm _ (List.mem_singleton.2 rfl) rfl) k (by omega)
    rw [← he] at hw
    rw [if_pos rfl, if_neg (by rw [List.length_cons]; omega), if_pos (by rw [List.length_cons]; omega), if_pos (show rd (f :: b) 0 = f from rfl), if_pos (by omega), if_pos (by omega), if_pos rfl, hw, Option.bind_some, same_ints p (by omega) k (by omega), Option.bind_some, if_pos rfl, if_pos (by rw [List.length_cons]; omega), List.drop_one, List.tail_cons, same_ints b (by omega) k (by omega), Option.bind_some, if_pos rfl,
      bits_f r f hr.1 (by omega) _ _ _ _ k (by omega), Option.bind_some, if_pos rfl]
    exact hh
theorem LruMoves : headgatelaw07_LruMoves.Pure := fun l _ _ _ =>
  let ⟨_, _, _, hm, hok, hs⟩ := made_ok l 200 (by omega)
  ⟨200, hok.moves hs 200 (by omega) l hm⟩

end Go.Proofs.Ytaofihdmgdpenaa.Pure
