/- Which lists are valid, where a frame is, and what the lists are with it, without it, or with it referenced: LruChanges returns true, for any lists and any two numbers. -/
import Derived.Test.YtaofihdmgdpenaaX42
namespace Go.Proofs.Ytaofihdmgdpenaa.Pure
open Go.RowKit Go.Proofs.Ytaofihdmgdpenaa.X Go.Proofs.YtaofihdmgdpenaaW.PrintWords Go.Proofs.YtaofihdmgdpenaaW.PrintLast
set_option linter.unusedVariables false
set_option linter.unusedSimpArgs false

theorem w64 {x : Int} (h0 : -9223372036854775808 ≤ x) (h1 : x ≤ 9223372036854775807) : wrap64 x = x := by
  unfold wrap64
  omega

theorem nat_succ {i : Nat} (h : i ≤ 1000) : wrap64 ((i : Int) + 1) = ((i + 1 : Nat) : Int) := by rw [w64 (by omega) (by omega)]; omega
theorem rd_nat (l : List Int) (i : Nat) : rd l (i : Int) = l.getD i 0 := rfl
theorem lruIn_ok (N : Nat) (k : List Int → Int) : ∀ (xs seen : List Int), (∀ x ∈ xs, 0 ≤ x ∧ x < (N : Int)) → xs.Nodup → (∀ x ∈ xs, x ∉ seen) → lruIn N k xs seen = k (xs.reverse ++ seen)
  | [], seen, _, _, _ => rfl
  | x :: xs, seen, h1, h2, h3 => by
    obtain ⟨p, q⟩ := h1 x (List.mem_cons_self ..)
    have h4 := List.nodup_cons.1 h2
    rw [lruIn, if_neg (by omega), if_neg (by omega), if_neg (by simpa using h3 x (List.mem_cons_self ..)),
      lruIn_ok N k xs (x :: seen) (fun y hy => h1 y (List.mem_cons_of_mem _ hy)) h4.2 (fun y hy hm => by
        rcases List.mem_cons.1 hm with rfl | hm
        · exact h4.1 hy
        · exact h3 y (List.mem_cons_of_mem _ hy) hm)]
    simp
theorem lruFrom_ok (seen : List Int) : ∀ (bs : List Bool) (f : Nat), (∀ j, bs.getD j false = true → ((f + j : Nat) : Int) ∈ seen) → lruFrom seen bs f = 0
  | [], _, _ => rfl
  | b :: bs, f, h => by
    have ih := lruFrom_ok seen bs (f + 1) (fun j hj => by
      have := h (j + 1) (by simpa using hj)
      rwa [show f + 1 + j = f + (j + 1) by omega])
    rw [lruFrom]
    by_cases c : b = true
    · have := h 0 (by simpa using c)
      rw [if_pos c, if_pos (by simpa using this), ih]
    · rw [if_neg c, ih]
theorem clone_int (l : List Int) (h : l.length ≤ 1000) : slices_Clone_int_int.f l = some l := by
  unfold slices_Clone_int_int.f
  rw [if_pos (by omega)]
theorem clone_bool (l : List Bool) (h : l.length ≤ 1000) : slices_Clone_bool_bool.f l = some l := by
  unfold slices_Clone_bool_bool.f
  rw [if_pos (by omega)]
theorem drop_getD {l : List Int} {i : Nat} (hi : i < l.length) : l.drop i = l.getD i 0 :: l.drop (i + 1) := by
  rw [List.drop_eq_getElem_cons hi]
  simp [List.getD_eq_getElem?_getD, List.getElem?_eq_getElem hi]
theorem index_step (l : List Int) (x : Int) (hl : l.length ≤ 1000) : ∀ (d i k : Nat), i + d = l.length → d < k → ∃ v : Int, slices_Index_int_int.l0 k l x (l.length : Int) (i : Int) = some v ∧ (v ≥ 0 ↔ x ∈ l.drop i)
  | 0, i, k, hd, hk => by
    obtain ⟨k, rfl⟩ : ∃ m, k = m + 1 := ⟨k - 1, by omega⟩
    refine ⟨-1, by rw [slices_Index_int_int.l0, if_neg (by omega)], ?_⟩
    rw [List.drop_eq_nil_of_le (by omega)]
    simp
  | d + 1, i, k, hd, hk => by
    obtain ⟨k, rfl⟩ : ∃ m, k = m + 1 := ⟨k - 1, by omega⟩
    have hi : i < l.length := by omega
    obtain ⟨v, h1, h2⟩ := index_step l x hl d (i + 1) k (by omega) (by omega)
    rw [slices_Index_int_int.l0, if_pos (by omega), if_pos (by omega), if_pos (by omega), rd_nat, drop_getD hi, nat_succ (by omega)]
    by_cases c : x = l.getD i 0
    · exact ⟨i, by rw [if_pos c], fun _ => by rw [c]; exact List.mem_cons_self .., fun _ => by omega⟩
    · exact ⟨v, by rw [if_neg c, h1], by rw [h2, List.mem_cons]; exact ⟨.inr, fun h => h.resolve_left c⟩⟩
theorem contains_f (l : List Int) (x : Int) (hl : l.length ≤ 1000) (k : Nat) (hk : l.length < k) : slices_Contains_int_int.f k l x = some (decide (x ∈ l)) := by
  obtain ⟨v, h1, h2⟩ := index_step l x hl l.length 0 k (by omega) hk
  unfold slices_Contains_int_int.f slices_Index_int_int.f
  rw [show (0 : Int) = ((0 : Nat) : Int) from rfl, h1]
  simp only [Option.bind_some, Option.some.injEq]
  rw [List.drop_zero] at h2
  simp only [decide_eq_decide]
  exact h2
theorem getD_set (r : List Bool) (n f : Nat) (v : Bool) : (r.set n v).getD f false = if n = f ∧ n < r.length then v else r.getD f false := by
  simp only [List.getD_eq_getElem?_getD, List.getElem?_set]
  by_cases c : n = f
  · subst c
    by_cases c2 : n < r.length <;> simp [c2]
  · simp [c]
theorem getD_mem {l : List Int} {j : Nat} (hj : j < l.length) : l.getD j 0 ∈ l := by
  simp [List.getD_eq_getElem?_getD, List.getElem?_eq_getElem hj]

theorem ints_step (l : List Int) (hl : l.length ≤ 1000) : ∀ (d i k : Nat), i + d = l.length → d < k → headgatekit_SameInts.l0 k l l (i : Int) = some true
  | 0, i, k, hd, hk => by
    obtain ⟨k, rfl⟩ : ∃ m, k = m + 1 := ⟨k - 1, by omega⟩
    rw [headgatekit_SameInts.l0, if_neg (by omega)]
  | d + 1, i, k, hd, hk => by
    obtain ⟨k, rfl⟩ : ∃ m, k = m + 1 := ⟨k - 1, by omega⟩
    rw [headgatekit_SameInts.l0, if_pos (by omega), if_pos (by omega), if_pos (by omega), if_pos rfl, nat_succ (by omega)]
    exact ints_step l hl d (i + 1) k (by omega) (by omega)
theorem same_ints (l : List Int) (hl : l.length ≤ 1000) (k : Nat) (hk : l.length < k) : headgatekit_SameInts.f k l l = some true := by
  unfold headgatekit_SameInts.f
  rw [if_pos rfl]
  exact ints_step l hl l.length 0 k (by omega) (by omega)
theorem bools_step (l : List Bool) (hl : l.length ≤ 1000) : ∀ (d i k : Nat), i + d = l.length → d < k → headgatekit_SameBools.l0 k l l (i : Int) = some true
  | 0, i, k, hd, hk => by
    obtain ⟨k, rfl⟩ : ∃ m, k = m + 1 := ⟨k - 1, by omega⟩
    rw [headgatekit_SameBools.l0, if_neg (by omega)]
  | d + 1, i, k, hd, hk => by
    obtain ⟨k, rfl⟩ : ∃ m, k = m + 1 := ⟨k - 1, by omega⟩
    rw [headgatekit_SameBools.l0, if_pos (by omega), if_pos (by omega), if_pos (by omega)]
    simp only [bne_self_eq_false, beq_self_eq_true, Bool.false_eq_true, if_false, if_true]
    rw [nat_succ (by omega)]
    exact bools_step l hl d (i + 1) k (by omega) (by omega)
theorem same_bools (l : List Bool) (hl : l.length ≤ 1000) (k : Nat) (hk : l.length < k) : headgatekit_SameBools.f k l l = some true := by
  unfold headgatekit_SameBools.f
  rw [if_pos rfl]
  exact bools_step l hl l.length 0 k (by omega) (by omega)
theorem is_same (a b : List Int) (r : List Bool) (ha : a.length ≤ 100) (hb : b.length ≤ 100) (hr : r.length ≤ 100) (k : Nat) (hk : 101 < k) : headgatelaw07_is.f k a b r a b r 0 = some true := by
  unfold headgatelaw07_is.f headgatekit_SameLists.f
  rw [if_pos rfl, same_ints a (by omega) k (by omega), same_ints b (by omega) k (by omega), same_bools r (by omega) k (by omega)]
  rfl

structure OkN (a b : List Int) (r : List Bool) : Prop where
  lo : 1 ≤ r.length
  hi : r.length ≤ 256
  nd : (a ++ b).Nodup
  rng : ∀ x ∈ a ++ b, 0 ≤ x ∧ x < (r.length : Int)
  ref : ∀ f : Nat, r.getD f false = true → (f : Int) ∈ a ++ b
theorem OkN.zero {a b : List Int} {r : List Bool} (h : OkN a b r) : lruCheck a b r = 0 := by
  have h1 := h.lo
  have h2 := h.hi
  obtain ⟨n1, n2, n3⟩ := List.nodup_append.1 h.nd
  unfold lruCheck
  have eo : lruOut a b r 0 [] = lruIn r.length (fun s => lruIn r.length (fun s => lruFrom s r 0) b s) a [] := rfl
  rw [if_neg (by omega), if_neg (by omega), eo, lruIn_ok r.length _ a [] (fun x hx => h.rng x (List.mem_append_left _ hx)) n1 (fun x _ hm => by cases hm)]
  rw [lruIn_ok r.length _ b _ (fun x hx => h.rng x (List.mem_append_right _ hx)) n2 (fun x hx hm => by
    simp at hm
    exact n3 x hm x hx rfl)]
  rw [lruFrom_ok _ r 0 (fun j hj => by
    have := h.ref j hj
    simp at this ⊢
    exact this.symm)]
theorem lruIn_zero (N : Nat) (k : List Int → Int) : ∀ (xs seen : List Int), lruIn N k xs seen = 0 → (∀ x ∈ xs, 0 ≤ x ∧ x < (N : Int)) ∧ xs.Nodup ∧ (∀ x ∈ xs, x ∉ seen) ∧ k (xs.reverse ++ seen) = 0
  | [], seen, h => ⟨fun x hx => (by cases hx), List.nodup_nil, fun x hx => (by cases hx), h⟩
  | x :: xs, seen, h => by
    rw [lruIn] at h
    by_cases c1 : x < 0
    · rw [if_pos c1] at h
      omega
    rw [if_neg c1] at h
    by_cases c2 : (N : Int) ≤ x
    · rw [if_pos c2] at h
      omega
    rw [if_neg c2] at h
    by_cases c3 : seen.contains x = true
    · rw [if_pos c3] at h
      omega
    rw [if_neg c3] at h
    obtain ⟨p, q, s, t⟩ := lruIn_zero N k xs (x :: seen) h
    have c3' : x ∉ seen := by simpa using c3
    refine ⟨fun y hy => ?_, ?_, fun y hy => ?_, ?_⟩
    · rcases List.mem_cons.1 hy with rfl | hy
      · omega
      · exact p y hy
    · exact List.nodup_cons.2 ⟨fun hm => s x hm (List.mem_cons_self ..), q⟩
    · rcases List.mem_cons.1 hy with rfl | hy
      · exact c3'
      · exact fun hm => s y hy (List.mem_cons_of_mem _ hm)
    · simpa using t
theorem lruFrom_zero (seen : List Int) : ∀ (bs : List Bool) (f : Nat), lruFrom seen bs f = 0 → ∀ j, bs.getD j false = true → ((f + j : Nat) : Int) ∈ seen
  | [], _, _, j, hj => by simp at hj
  | b :: bs, f, h, 0, hj => by
    have hb : b = true := by simpa using hj
    rw [lruFrom, if_pos hb] at h
    by_cases c : seen.contains (f : Int) = true
    · simpa using c
    · rw [if_neg c] at h
      omega
  | b :: bs, f, h, j + 1, hj => by
    have hj' : bs.getD j false = true := by simpa using hj
    rw [lruFrom] at h
    have h' : lruFrom seen bs (f + 1) = 0 := by
      by_cases c : b = true
      · rw [if_pos c] at h
        by_cases c2 : seen.contains (f : Int) = true
        · rwa [if_pos c2] at h
        · rw [if_neg c2] at h
          omega
      · rwa [if_neg c] at h
    have := lruFrom_zero seen bs (f + 1) h' j hj'
    rwa [show f + 1 + j = f + (j + 1) by omega] at this
theorem OkN.of {a b : List Int} {r : List Bool} (h : lruCheck a b r = 0) : OkN a b r := by
  unfold lruCheck at h
  by_cases c1 : r.length < 1
  · rw [if_pos c1] at h
    omega
  rw [if_neg c1] at h
  by_cases c2 : 256 < r.length
  · rw [if_pos c2] at h
    omega
  rw [if_neg c2] at h
  have eo : lruOut a b r 0 [] = lruIn r.length (fun s => lruIn r.length (fun s => lruFrom s r 0) b s) a [] := rfl
  rw [eo] at h
  obtain ⟨p1, q1, _, t1⟩ := lruIn_zero _ _ _ _ h
  obtain ⟨p2, q2, s2, t2⟩ := lruIn_zero _ _ _ _ t1
  refine ⟨by omega, by omega, List.nodup_append.2 ⟨q1, q2, fun x hx y hy e => ?_⟩, fun x hx => ?_, fun f hf => ?_⟩
  · subst e
    exact s2 x hy (by simpa using hx)
  · rcases List.mem_append.1 hx with hx | hx
    · exact p1 x hx
    · exact p2 x hx
  · have := lruFrom_zero _ _ _ t2 f hf
    rw [Nat.zero_add] at this
    simp at this ⊢
    exact this.symm
def outOf (r : List Bool) (f : Int) : Prop := f < 0 ∨ (r.length : Int) ≤ f
instance (r : List Bool) (f : Int) : Decidable (outOf r f) := inferInstanceAs (Decidable (f < 0 ∨ (r.length : Int) ≤ f))
def askE (a b : List Int) (r : List Bool) (f : Int) : Int := if lruCheck a b r = 0 then (if outOf r f then 2 else 0) else lruCheck a b r
def whereOf (a b : List Int) (f : Int) : Int := if f ∈ a then 1 else if f ∈ b then 2 else 0
def remv (l : List Int) (f : Int) : List Int := l.filter fun x => !(x == f)
section
variable {a b : List Int} {r : List Bool}
theorem check_f (ha : a.length ≤ 900) (hb : b.length ≤ 900) : lru_Check.f a b r = some (lruCheck a b r) := by
  unfold lru_Check.f
  rw [if_pos (by omega)]
theorem opened_f (ha : a.length ≤ 900) (hb : b.length ≤ 900) (hr : r.length ≤ 900) : lru_opened.f a b r = if lruCheck a b r = 0 then some (a, b, r, 0) else some ([], [], [], lruCheck a b r) := by
  unfold lru_opened.f
  rw [check_f ha hb, Option.bind_some]
  by_cases c : lruCheck a b r = 0
  · rw [if_pos c, if_pos c, clone_int a (by omega), clone_int b (by omega), clone_bool r (by omega)]
    rfl
  · rw [if_neg c, if_neg c]
theorem about_f (ha : a.length ≤ 900) (hb : b.length ≤ 900) (hr : r.length ≤ 900) (f : Int) (k : Nat) (hk : 902 ≤ k) : lru_about.f k a b r f = if askE a b r f = 0 then some (a, b, r, whereOf a b f, 0) else some ([], [], [], 0, askE a b r f) := by
  unfold lru_about.f askE
  rw [opened_f ha hb hr]
  obtain ⟨k, rfl⟩ : ∃ m, k = m + 1 := ⟨k - 1, by omega⟩
  by_cases c : lruCheck a b r = 0
  · rw [if_pos c, if_pos c, Option.bind_some]
    dsimp only
    rw [if_pos rfl]
    by_cases c1 : f < 0
    · rw [if_pos c1, if_pos (show outOf r f from .inl c1), if_neg (by decide), lru_about.j0, if_pos rfl]
    · rw [if_neg c1]
      by_cases c2 : f ≥ (r.length : Int)
      · rw [decide_eq_true c2, if_pos (show outOf r f from .inr c2), if_neg (by decide), lru_about.j0, if_pos rfl]
      · rw [decide_eq_false c2, if_neg (show ¬ outOf r f from fun h => h.elim c1 c2), if_pos rfl, lru_about.j0, if_neg (by decide), contains_f a f (by omega) k (by omega), contains_f b f (by omega) k (by omega)]
        unfold whereOf
        by_cases ca : f ∈ a
        · simp [ca]
        · by_cases cb : f ∈ b
          · simp [ca, cb]
          · simp [ca, cb]
  · rw [if_neg c, if_neg c, Option.bind_some]
    dsimp only
    rw [if_neg c, if_neg c]
theorem asks_f (f : Int) : headgateref07_asks.f a b r f = some (askE a b r f) := by
  unfold headgateref07_asks.f headgateref07_Check.f askE
  rw [Option.bind_some]
  by_cases c : lruCheck a b r = 0
  · rw [if_pos c, if_pos c]
    by_cases c1 : f < 0
    · rw [if_pos c1, if_pos (show outOf r f from .inl c1)]
    · rw [if_neg c1]
      by_cases c2 : f ≥ (r.length : Int)
      · rw [if_pos c2, if_pos (show outOf r f from .inr c2)]
      · rw [if_neg c2, if_neg (show ¬ outOf r f from fun h => h.elim c1 c2), c]
  · rw [if_neg c, if_neg c]
theorem place_step (l : List Int) (x : Int) (hl : l.length ≤ 1000) : ∀ (d i k : Nat), i + d = l.length → d < k → ∃ v : Int, headgateref07_place.l0 k l x (i : Int) = some v ∧ (v ≥ 0 ↔ x ∈ l.drop i)
  | 0, i, k, hd, hk => by
    obtain ⟨k, rfl⟩ : ∃ m, k = m + 1 := ⟨k - 1, by omega⟩
    refine ⟨-1, by rw [headgateref07_place.l0, if_neg (by omega)], ?_⟩
    rw [List.drop_eq_nil_of_le (by omega)]
    simp
  | d + 1, i, k, hd, hk => by
    obtain ⟨k, rfl⟩ : ∃ m, k = m + 1 := ⟨k - 1, by omega⟩
    have hi : i < l.length := by omega
    obtain ⟨v, h1, h2⟩ := place_step l x hl d (i + 1) k (by omega) (by omega)
    rw [headgateref07_place.l0, if_pos (by omega), if_pos (by omega), rd_nat, drop_getD hi, nat_succ (by omega)]
    by_cases c : l.getD i 0 = x
    · exact ⟨i, by rw [if_pos c], fun _ => by rw [c]; exact List.mem_cons_self .., fun _ => by omega⟩
    · exact ⟨v, by rw [if_neg c, h1], by rw [h2, List.mem_cons]; exact ⟨.inr, fun h => h.resolve_left fun e => c e.symm⟩⟩
theorem rwhere_f (ha : a.length ≤ 900) (hb : b.length ≤ 900) (f : Int) (k : Nat) (hk : 902 ≤ k) : headgateref07_Where.f k a b r f = if askE a b r f = 0 then some (whereOf a b f, 0) else some (0, askE a b r f) := by
  unfold headgateref07_Where.f
  rw [asks_f, Option.bind_some]
  by_cases c : askE a b r f = 0
  · rw [if_pos c, if_pos c]
    obtain ⟨u, u1, u2⟩ := place_step a f (by omega) a.length 0 k (by omega) (by omega)
    obtain ⟨v, v1, v2⟩ := place_step b f (by omega) b.length 0 k (by omega) (by omega)
    unfold headgateref07_place.f whereOf
    rw [show (0 : Int) = ((0 : Nat) : Int) from rfl, u1, v1, Option.bind_some]
    rw [List.drop_zero] at u2 v2
    by_cases ca : f ∈ a
    · rw [if_pos (by have := u2.2 ca; omega), if_pos ca]
    · rw [if_neg (fun h => ca (u2.1 (by omega))), if_neg ca, Option.bind_some]
      by_cases cb : f ∈ b
      · rw [if_pos (by have := v2.2 cb; omega), if_pos cb]
      · rw [if_neg (fun h => cb (v2.1 (by omega))), if_neg cb]
  · rw [if_neg c, if_neg c]
theorem where_nn (f : Int) : 0 ≤ whereOf a b f := by
  unfold whereOf
  split
  · omega
  · split <;> omega
theorem ask_in {f : Int} (c : askE a b r f = 0) : 0 ≤ f ∧ f < (r.length : Int) ∧ lruCheck a b r = 0 := by
  unfold askE at c
  by_cases c1 : lruCheck a b r = 0
  · rw [if_pos c1] at c
    by_cases c2 : outOf r f
    · rw [if_pos c2] at c
      omega
    · unfold outOf at c2
      exact ⟨by omega, by omega, c1⟩
  · rw [if_neg c1] at c
    exact absurd c c1
def resRem (a b : List Int) (r : List Bool) (f : Int) : List Int × List Int × List Bool × Int := if askE a b r f = 0 then (if whereOf a b f = 0 then ([], [], [], 6) else (remv a f, remv b f, r.set f.toNat false, 0)) else ([], [], [], askE a b r f)
theorem own_f (ha : a.length ≤ 900) (hb : b.length ≤ 900) (hr : r.length ≤ 900) : headgateref07_own.f a b r = some (a, b, r) := by
  unfold headgateref07_own.f
  rw [if_pos ⟨by omega, by omega, by omega⟩]
theorem without_step (l : List Int) (x : Int) (hl : l.length ≤ 1000) : ∀ (d i k : Nat) (acc : List Int), i + d = l.length → d < k → acc.length ≤ i → headgateref07_without.l0 k l x acc (i : Int) = some (acc ++ (l.drop i).filter fun y => !(y == x))
  | 0, i, k, acc, hd, hk, _ => by
    obtain ⟨k, rfl⟩ : ∃ m, k = m + 1 := ⟨k - 1, by omega⟩
    rw [headgateref07_without.l0, if_neg (by omega), List.drop_eq_nil_of_le (by omega)]
    simp
  | d + 1, i, k, acc, hd, hk, ha => by
    obtain ⟨k, rfl⟩ : ∃ m, k = m + 1 := ⟨k - 1, by omega⟩
    have hi : i < l.length := by omega
    rw [headgateref07_without.l0, if_pos (by omega), if_pos (by omega), rd_nat, drop_getD hi, nat_succ (by omega)]
    by_cases c : l.getD i 0 = x
    · rw [if_pos c, without_step l x hl d (i + 1) k acc (by omega) (by omega) (by omega), List.filter_cons_of_neg (by rw [c]; simp)]
    · rw [if_neg c, if_pos (by omega), without_step l x hl d (i + 1) k _ (by omega) (by omega) (by simp; omega), List.filter_cons_of_pos (by rw [Bool.not_eq_true', beq_eq_false_iff_ne]; exact c)]
      simp
theorem without_f (l : List Int) (x : Int) (hl : l.length ≤ 1000) (k : Nat) (hk : l.length < k) : headgateref07_without.f k l x = some (remv l x) := by
  unfold headgateref07_without.f
  have := without_step l x hl l.length 0 k [] (by omega) hk (by simp)
  rw [show ((0 : Nat) : Int) = 0 from rfl] at this
  rw [this]
  simp [remv]
theorem rremove_f (ha : a.length ≤ 900) (hb : b.length ≤ 900) (hr : r.length ≤ 900) (f : Int) (k : Nat) (hk : 904 ≤ k) : headgateref07_Remove.f k a b r f = some (resRem a b r f) := by
  unfold headgateref07_Remove.f resRem
  rw [rwhere_f ha hb f k (by omega)]
  obtain ⟨k, rfl⟩ : ∃ m, k = m + 2 := ⟨k - 2, by omega⟩
  by_cases c : askE a b r f = 0
  · obtain ⟨f0, f1, _⟩ := ask_in c
    rw [if_pos c, if_pos c, Option.bind_some]
    dsimp only
    rw [if_pos rfl, headgateref07_Remove.j0]
    by_cases c2 : whereOf a b f = 0
    · rw [if_pos c2, c2, if_pos (by decide), headgateref07_Remove.j1, if_neg (by decide)]
    · rw [if_neg c2, beq_eq_false_iff_ne.2 c2, if_neg (by decide), headgateref07_Remove.j1, if_pos rfl, own_f ha hb hr, Option.bind_some, without_f a f (by omega) k (by omega), Option.bind_some, without_f b f (by omega) k (by omega), Option.bind_some, if_pos f0, if_pos f1]
  · rw [if_neg c, if_neg c, Option.bind_some]
    dsimp only
    rw [if_neg c, headgateref07_Remove.j0, if_neg (by decide), headgateref07_Remove.j1, if_neg c]
def Lens (n : Nat) (x : List Int × List Int × List Bool × Int) : Prop := x.1.length ≤ n ∧ x.2.1.length ≤ n ∧ x.2.2.1.length ≤ n
theorem lens_no (n : Nat) (e : Int) : Lens n ([], [], [], e) := ⟨Nat.zero_le _, Nat.zero_le _, Nat.zero_le _⟩
theorem remv_le (l : List Int) (f : Int) : (remv l f).length ≤ l.length := List.length_filter_le _ _
theorem lens_rem (ha : a.length ≤ 900) (hb : b.length ≤ 900) (hr : r.length ≤ 900) (f : Int) : Lens 901 (resRem a b r f) := by
  unfold resRem
  have h1 := remv_le a f
  have h2 := remv_le b f
  split
  · split
    · exact lens_no _ _
    · exact ⟨by show (remv a f).length ≤ _; omega, by show (remv b f).length ≤ _; omega, by simp; omega⟩
  · exact lens_no _ _
end
theorem same_lists (a b : List Int) (r : List Bool) (ha : a.length ≤ 1000) (hb : b.length ≤ 1000) (hr : r.length ≤ 1000) (k : Nat) (hk : 1001 ≤ k) : headgatekit_SameLists.f k a b r a b r = some true := by
  unfold headgatekit_SameLists.f
  rw [same_ints a (by omega) k (by omega), same_ints b (by omega) k (by omega), same_bools r (by omega) k (by omega)]
  rfl
theorem lens_same {x : List Int × List Int × List Bool × Int} (h : Lens 901 x) (k : Nat) (hk : 1001 ≤ k) : headgatekit_SameLists.f k x.1 x.2.1 x.2.2.1 x.1 x.2.1 x.2.2.1 = some true := by
  obtain ⟨h1, h2, h3⟩ := h
  exact same_lists _ _ _ (by omega) (by omega) (by omega) k hk
theorem light_f (a b : List Int) (r : List Bool) : headgatelaw07_light.f a b r = some (decide (a.length ≤ 260 ∧ b.length ≤ 260 ∧ r.length ≤ 260)) := by
  unfold headgatelaw07_light.f
  by_cases c1 : a.length ≤ 260
  · rw [if_pos (by omega)]
    by_cases c2 : b.length ≤ 260
    · rw [if_pos (by omega)]
      congr 1
      rw [decide_eq_decide]
      omega
    · rw [if_neg (by omega), decide_eq_false (by omega)]
  · rw [if_neg (by omega), decide_eq_false (by omega)]
theorem ownlists_f {a b : List Int} {r : List Bool} (ha : a.length ≤ 900) (hb : b.length ≤ 900) (hr : r.length ≤ 900) : headgatekit_OwnLists.f a b r = some (a, b, r) := by
  unfold headgatekit_OwnLists.f
  rw [if_pos ⟨by omega, by omega, by omega⟩]

section
variable {a b : List Int} {r : List Bool}
theorem remove_f (ha : a.length ≤ 900) (hb : b.length ≤ 900) (hr : r.length ≤ 900) (f : Int) (k : Nat) (hk : 902 ≤ k) : lru_Remove.f k a b r f = some (resRem a b r f) := by
  unfold lru_Remove.f resRem
  rw [about_f ha hb hr f k hk]
  by_cases c : askE a b r f = 0
  · obtain ⟨f0, f1, _⟩ := ask_in c
    rw [if_pos c, if_pos c, Option.bind_some]
    dsimp only
    rw [if_pos rfl, if_pos (show a.length ≤ 1000000 ∧ b.length ≤ 1000000 ∧ 0 ≤ f ∧ f < (r.length : Int) from ⟨by omega, by omega, f0, f1⟩)]
    split <;> rfl
  · rw [if_neg c, if_neg c, Option.bind_some]
    dsimp only
    rw [if_neg c]
theorem where_f (ha : a.length ≤ 900) (hb : b.length ≤ 900) (hr : r.length ≤ 900) (f : Int) (k : Nat) (hk : 902 ≤ k) : lru_Where.f k a b r f = if askE a b r f = 0 then some (whereOf a b f, 0) else some (0, askE a b r f) := by
  unfold lru_Where.f
  rw [about_f ha hb hr f k hk]
  by_cases c : askE a b r f = 0
  · rw [if_pos c, if_pos c]
    rfl
  · rw [if_neg c, if_neg c]
    rfl
def resAdd (a b : List Int) (r : List Bool) (f : Int) : List Int × List Int × List Bool × Int := if askE a b r f = 0 then (if whereOf a b f > 0 then ([], [], [], 7) else (f :: a, b, r, 0)) else ([], [], [], askE a b r f)
def resTouch (a b : List Int) (r : List Bool) (f : Int) : List Int × List Int × List Bool × Int := if askE a b r f = 0 then (if whereOf a b f = 0 then ([], [], [], 6) else (a, b, r.set f.toNat true, 0)) else ([], [], [], askE a b r f)
theorem add_f (ha : a.length ≤ 900) (hb : b.length ≤ 900) (hr : r.length ≤ 900) (f : Int) (k : Nat) (hk : 902 ≤ k) : lru_Add.f k a b r f = some (resAdd a b r f) := by
  unfold lru_Add.f resAdd
  rw [about_f ha hb hr f k hk]
  by_cases c : askE a b r f = 0
  · rw [if_pos c, if_pos c, Option.bind_some]
    dsimp only
    rw [if_pos rfl, if_pos (show a.length ≤ 1000000 by omega)]
    split <;> rfl
  · rw [if_neg c, if_neg c, Option.bind_some]
    dsimp only
    rw [if_neg c]
theorem radd_f (ha : a.length ≤ 900) (hb : b.length ≤ 900) (hr : r.length ≤ 900) (f : Int) (k : Nat) (hk : 903 ≤ k) : headgateref07_Add.f k a b r f = some (resAdd a b r f) := by
  unfold headgateref07_Add.f resAdd
  rw [rwhere_f ha hb f k (by omega)]
  obtain ⟨k, rfl⟩ : ∃ m, k = m + 1 := ⟨k - 1, by omega⟩
  have hw := where_nn (a := a) (b := b) f
  by_cases c : askE a b r f = 0
  · rw [if_pos c, if_pos c, Option.bind_some]
    dsimp only
    rw [if_pos rfl, headgateref07_Add.j0]
    by_cases c2 : whereOf a b f > 0
    · rw [if_pos c2, if_pos (bne_iff_ne.2 (by omega)), if_neg (by decide)]
    · rw [if_neg c2, show whereOf a b f = 0 by omega, if_neg (by decide), if_pos rfl, own_f ha hb hr, Option.bind_some, Option.bind_some, if_pos (by simp only [List.length_singleton]; omega)]
      rfl
  · rw [if_neg c, if_neg c, Option.bind_some]
    dsimp only
    rw [if_neg c, headgateref07_Add.j0, if_neg (by decide), if_neg c]
theorem touch_f (ha : a.length ≤ 900) (hb : b.length ≤ 900) (hr : r.length ≤ 900) (f : Int) (k : Nat) (hk : 903 ≤ k) : lru_Touch.f k a b r f = some (resTouch a b r f) := by
  unfold lru_Touch.f resTouch
  rw [about_f ha hb hr f k (by omega)]
  obtain ⟨k, rfl⟩ : ∃ m, k = m + 1 := ⟨k - 1, by omega⟩
  by_cases c : askE a b r f = 0
  · obtain ⟨f0, f1, _⟩ := ask_in c
    rw [if_pos c, if_pos c, Option.bind_some]
    dsimp only
    rw [if_pos rfl, lru_Touch.j0]
    by_cases c2 : whereOf a b f = 0
    · rw [if_pos c2, c2, if_pos (by decide), if_neg (by decide)]
    · rw [if_neg c2, beq_eq_false_iff_ne.2 c2, if_neg (by decide), if_pos rfl, if_pos f0, if_pos f1]
  · rw [if_neg c, if_neg c, Option.bind_some]
    dsimp only
    rw [if_neg c, lru_Touch.j0, if_neg (by decide), if_neg c]
theorem rtouch_f (ha : a.length ≤ 900) (hb : b.length ≤ 900) (hr : r.length ≤ 900) (f : Int) (k : Nat) (hk : 903 ≤ k) : headgateref07_Touch.f k a b r f = some (resTouch a b r f) := by
  unfold headgateref07_Touch.f resTouch
  rw [rwhere_f ha hb f k (by omega)]
  obtain ⟨k, rfl⟩ : ∃ m, k = m + 1 := ⟨k - 1, by omega⟩
  by_cases c : askE a b r f = 0
  · obtain ⟨f0, f1, _⟩ := ask_in c
    rw [if_pos c, if_pos c, Option.bind_some]
    dsimp only
    rw [if_pos rfl, headgateref07_Touch.j0]
    by_cases c2 : whereOf a b f = 0
    · rw [if_pos c2, c2, if_pos (by decide), if_neg (by decide)]
    · rw [if_neg c2, beq_eq_false_iff_ne.2 c2, if_neg (by decide), if_pos rfl, own_f ha hb hr, Option.bind_some]
      dsimp only
      rw [if_pos f0, if_pos f1]
  · rw [if_neg c, if_neg c, Option.bind_some]
    dsimp only
    rw [if_neg c, headgateref07_Touch.j0, if_neg (by decide), if_neg c]
theorem lens_add (ha : a.length ≤ 900) (hb : b.length ≤ 900) (hr : r.length ≤ 900) (f : Int) : Lens 901 (resAdd a b r f) := by
  unfold resAdd
  split
  · split
    · exact lens_no _ _
    · exact ⟨by simp; omega, by simp; omega, by simp; omega⟩
  · exact lens_no _ _
theorem lens_touch (ha : a.length ≤ 900) (hb : b.length ≤ 900) (hr : r.length ≤ 900) (f : Int) : Lens 901 (resTouch a b r f) := by
  unfold resTouch
  split
  · split
    · exact lens_no _ _
    · exact ⟨by simp; omega, by simp; omega, by simp; omega⟩
  · exact lens_no _ _
end

theorem new_f (n : Int) : ∃ x, lru_New.f n = some x ∧ headgateref07_New.f n = some x ∧ Lens 901 x := by
  unfold lru_New.f headgateref07_New.f
  by_cases c1 : n < 1
  · exact ⟨_, by rw [if_pos c1], by rw [if_pos c1], lens_no _ _⟩
  · by_cases c2 : n > 256
    · exact ⟨_, by rw [if_neg c1, if_pos c2], by rw [if_neg c1, if_pos c2], lens_no _ _⟩
    · exact ⟨_, by rw [if_neg c1, if_neg c2, if_pos (by omega), if_pos (by omega)], by rw [if_neg c1, if_neg c2, if_pos (by omega), if_pos (by omega)], Nat.zero_le _, Nat.zero_le _, by simp; omega⟩
theorem changes_j2 {a b : List Int} {r : List Bool} (ha : a.length ≤ 260) (hb : b.length ≤ 260) (hr : r.length ≤ 260) (f : Int) (k : Nat) (hk : 1001 ≤ k) : headgatelaw07_LruChanges.j2 (k + 1) f false a b r a b r = some true := by
  have h1 := touch_f (a := a) (b := b) (r := r) (by omega) (by omega) (by omega) f k (by omega)
  have h2 := rtouch_f (a := a) (b := b) (r := r) (by omega) (by omega) (by omega) f k (by omega)
  have h3 := where_f (a := a) (b := b) (r := r) (by omega) (by omega) (by omega) f k (by omega)
  have h4 := rwhere_f (a := a) (b := b) (r := r) (by omega) (by omega) f k (by omega)
  have h5 := lens_touch (a := a) (b := b) (r := r) (by omega) (by omega) (by omega) f
  obtain ⟨v, hv⟩ : ∃ v, (if askE a b r f = 0 then some (whereOf a b f, (0 : Int)) else some (0, askE a b r f)) = some v := by
    split <;> exact ⟨_, rfl⟩
  rw [hv] at h3 h4
  rw [headgatelaw07_LruChanges.j2, if_neg (by decide), h1, h2, h3, h4]
  rw [Option.bind_some, Option.bind_some, Option.bind_some, Option.bind_some]
  rw [lens_same h5 k hk, Option.bind_some, if_pos rfl, if_pos rfl, if_pos rfl, if_pos rfl, same_lists a b r (by omega) (by omega) (by omega) k hk]
  rfl
theorem changes_j1 {a b : List Int} {r : List Bool} (ha : a.length ≤ 260) (hb : b.length ≤ 260) (hr : r.length ≤ 260) (f : Int) (k : Nat) (hk : 1002 ≤ k) : headgatelaw07_LruChanges.j1 (k + 1) f false a b r a b r = some true := by
  have h1 := remove_f (a := a) (b := b) (r := r) (by omega) (by omega) (by omega) f k (by omega)
  have h2 := rremove_f (a := a) (b := b) (r := r) (by omega) (by omega) (by omega) f k (by omega)
  have h5 := lens_rem (a := a) (b := b) (r := r) (by omega) (by omega) (by omega) f
  rw [headgatelaw07_LruChanges.j1, if_neg (by decide), h1, h2]
  rw [Option.bind_some, Option.bind_some]
  rw [lens_same h5 k (by omega), Option.bind_some, if_pos rfl, bne_self_eq_false]
  obtain ⟨k, rfl⟩ : ∃ m, k = m + 1 := ⟨k - 1, by omega⟩
  exact changes_j2 ha hb hr f k (by omega)
theorem changes_j0 {a b : List Int} {r : List Bool} (ha : a.length ≤ 260) (hb : b.length ≤ 260) (hr : r.length ≤ 260) (f : Int) (k : Nat) (hk : 1003 ≤ k) : headgatelaw07_LruChanges.j0 (k + 1) f false a b r a b r = some true := by
  have h1 := add_f (a := a) (b := b) (r := r) (by omega) (by omega) (by omega) f k (by omega)
  have h2 := radd_f (a := a) (b := b) (r := r) (by omega) (by omega) (by omega) f k (by omega)
  have h5 := lens_add (a := a) (b := b) (r := r) (by omega) (by omega) (by omega) f
  rw [headgatelaw07_LruChanges.j0, if_neg (by decide), h1, h2]
  rw [Option.bind_some, Option.bind_some]
  rw [lens_same h5 k (by omega), Option.bind_some, if_pos rfl, bne_self_eq_false]
  obtain ⟨k, rfl⟩ : ∃ m, k = m + 1 := ⟨k - 1, by omega⟩
  exact changes_j1 ha hb hr f k (by omega)
theorem changes_all (a b : List Int) (r : List Bool) (f n : Int) (k : Nat) (hk : 1004 ≤ k) : headgatelaw07_LruChanges.f (k + 1) a b r f n = some true := by
  unfold headgatelaw07_LruChanges.f
  rw [light_f, Option.bind_some]
  by_cases c : a.length ≤ 260 ∧ b.length ≤ 260 ∧ r.length ≤ 260
  · obtain ⟨ha, hb, hr⟩ := c
    rw [decide_eq_true ⟨ha, hb, hr⟩, if_pos rfl, ownlists_f (by omega) (by omega) (by omega), Option.bind_some]
    obtain ⟨x, x1, x2, x3⟩ := new_f n
    rw [x1, x2, Option.bind_some, Option.bind_some, lens_same x3 (k + 1) (by omega), Option.bind_some, if_pos rfl, if_pos rfl]
    dsimp only
    rw [check_f (by omega) (by omega), Option.bind_some]
    unfold headgateref07_Check.f
    rw [Option.bind_some, bne_self_eq_false]
    exact changes_j0 ha hb hr f k (by omega)
  · rw [decide_eq_false c, if_neg (by decide)]
    rfl
theorem LruChanges : headgatelaw07_LruChanges.Pure := fun s f n _ _ _ => ⟨2001, changes_all s.f0 s.f1 s.f2 f n 2000 (by omega)⟩

end Go.Proofs.Ytaofihdmgdpenaa.Pure
