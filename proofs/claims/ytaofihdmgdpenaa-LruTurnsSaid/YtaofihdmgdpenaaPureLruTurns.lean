/- Which frame is the last one, what the lists are after one is demoted or promoted, and in which order frames leave: LruTurns returns true, for any lists. -/
import Derived.Test.YtaofihdmgdpenaaX70
namespace Go.Proofs.Ytaofihdmgdpenaa.Pure
open Go.RowKit Go.Proofs.Ytaofihdmgdpenaa.X Go.Proofs.YtaofihdmgdpenaaW.PrintWords Go.Proofs.YtaofihdmgdpenaaW.PrintLast
set_option linter.unusedVariables false
set_option linter.unusedSimpArgs false

theorem w64 {x : Int} (h0 : -9223372036854775808 ≤ x) (h1 : x ≤ 9223372036854775807) : wrap64 x = x := by
  unfold wrap64
  omega

theorem nat_succ {i : Nat} (h : i ≤ 1000) : wrap64 ((i : Int) + 1) = ((i + 1 : Nat) : Int) := by rw [w64 (by omega) (by omega)]; omega
theorem rd_nat (l : List Int) (i : Nat) : rd l (i : Int) = l.getD i 0 := rfl
theorem lruIn_ok (N : Nat) (k : List Int → Int) : ∀ (xs seen : List Int), (∀ x ∈ xs, 0 ≤ x ∧ x < (N : Int)) → xs.Nodup → (∀ x ∈ xs, x ∉ seen) → lruIn N k xs seen = k (xs.reverse ++ seen)
  | [], seen, _, _, _ => rfl
  | x :: xs, seen, h1, h2, h3 => by
    obtain ⟨p, q⟩ := h1 x (List.mem_cons_self ..)
    have h4 := List.nodup_cons.1 h2
    rw [lruIn, if_neg (by omega), if_neg (by omega), if_neg (by simpa using h3 x (List.mem_cons_self ..)),
      lruIn_ok N k xs (x :: seen) (fun y hy => h1 y (List.mem_cons_of_mem _ hy)) h4.2 (fun y hy hm => by
        rcases List.mem_cons.1 hm with rfl | hm
        · exact h4.1 hy
        · exact h3 y (List.mem_cons_of_mem _ hy) hm)]
    simp
theorem lruFrom_ok (seen : List Int) : ∀ (bs : List Bool) (f : Nat), (∀ j, bs.getD j false = true → ((f + j : Nat) : Int) ∈ seen) → lruFrom seen bs f = 0
  | [], _, _ => rfl
  | b :: bs, f, h => by
    have ih := lruFrom_ok seen bs (f + 1) (fun j hj => by
      have := h (j + 1) (by simpa using hj)
      rwa [show f + 1 + j = f + (j + 1) by omega])
    rw [lruFrom]
    by_cases c : b = true
    · have := h 0 (by simpa using c)
      rw [if_pos c, if_pos (by simpa using this), ih]
    · rw [if_neg c, ih]
theorem clone_int (l : List Int) (h : l.length ≤ 1000) : slices_Clone_int_int.f l = some l := by
  unfold slices_Clone_int_int.f
  rw [if_pos (by omega)]
theorem clone_bool (l : List Bool) (h : l.length ≤ 1000) : slices_Clone_bool_bool.f l = some l := by
  unfold slices_Clone_bool_bool.f
  rw [if_pos (by omega)]
theorem drop_getD {l : List Int} {i : Nat} (hi : i < l.length) : l.drop i = l.getD i 0 :: l.drop (i + 1) := by
  rw [List.drop_eq_getElem_cons hi]
  simp [List.getD_eq_getElem?_getD, List.getElem?_eq_getElem hi]
theorem index_step (l : List Int) (x : Int) (hl : l.length ≤ 1000) : ∀ (d i k : Nat), i + d = l.length → d < k → ∃ v : Int, slices_Index_int_int.l0 k l x (l.length : Int) (i : Int) = some v ∧ (v ≥ 0 ↔ x ∈ l.drop i)
  | 0, i, k, hd, hk => by
    obtain ⟨k, rfl⟩ : ∃ m, k = m + 1 := ⟨k - 1, by omega⟩
    refine ⟨-1, by rw [slices_Index_int_int.l0, if_neg (by omega)], ?_⟩
    rw [List.drop_eq_nil_of_le (by omega)]
    simp
  | d + 1, i, k, hd, hk => by
    obtain ⟨k, rfl⟩ : ∃ m, k = m + 1 := ⟨k - 1, by omega⟩
    have hi : i < l.length := by omega
    obtain ⟨v, h1, h2⟩ := index_step l x hl d (i + 1) k (by omega) (by omega)
    rw [slices_Index_int_int.l0, if_pos (by omega), if_pos (by omega), if_pos (by omega), rd_nat, drop_getD hi, nat_succ (by omega)]
    by_cases c : x = l.getD i 0
    · exact ⟨i, by rw [if_pos c], fun _ => by rw [c]; exact List.mem_cons_self .., fun _ => by omega⟩
    · exact ⟨v, by rw [if_neg c, h1], by rw [h2, List.mem_cons]; exact ⟨.inr, fun h => h.resolve_left c⟩⟩
theorem contains_f (l : List Int) (x : Int) (hl : l.length ≤ 1000) (k : Nat) (hk : l.length < k) : slices_Contains_int_int.f k l x = some (decide (x ∈ l)) := by
  obtain ⟨v, h1, h2⟩ := index_step l x hl l.length 0 k (by omega) hk
  unfold slices_Contains_int_int.f slices_Index_int_int.f
  rw [show (0 : Int) = ((0 : Nat) : Int) from rfl, h1]
  simp only [Option.bind_some, Option.some.injEq]
  rw [List.drop_zero] at h2
  simp only [decide_eq_decide]
  exact h2
theorem getD_set (r : List Bool) (n f : Nat) (v : Bool) : (r.set n v).getD f false = if n = f ∧ n < r.length then v else r.getD f false := by
  simp only [List.getD_eq_getElem?_getD, List.getElem?_set]
  by_cases c : n = f
  · subst c
    by_cases c2 : n < r.length <;> simp [c2]
  · simp [c]
theorem getD_mem {l : List Int} {j : Nat} (hj : j < l.length) : l.getD j 0 ∈ l := by
  simp [List.getD_eq_getElem?_getD, List.getElem?_eq_getElem hj]

theorem ints_step (l : List Int) (hl : l.length ≤ 1000) : ∀ (d i k : Nat), i + d = l.length → d < k → headgatekit_SameInts.l0 k l l (i : Int) = some true
  | 0, i, k, hd, hk => by
    obtain ⟨k, rfl⟩ : ∃ m, k = m + 1 := ⟨k - 1, by omega⟩
    rw [headgatekit_SameInts.l0, if_neg (by omega)]
  | d + 1, i, k, hd, hk => by
    obtain ⟨k, rfl⟩ : ∃ m, k = m + 1 := ⟨k - 1, by omega⟩
    rw [headgatekit_SameInts.l0, if_pos (by omega), if_pos (by omega), if_pos (by omega), if_pos rfl, nat_succ (by omega)]
    exact ints_step l hl d (i + 1) k (by omega) (by omega)
theorem same_ints (l : List Int) (hl : l.length ≤ 1000) (k : Nat) (hk : l.length < k) : headgatekit_SameInts.f k l l = some true := by
  unfold headgatekit_SameInts.f
  rw [if_pos rfl]
  exact ints_step l hl l.length 0 k (by omega) (by omega)
theorem bools_step (l : List Bool) (hl : l.length ≤ 1000) : ∀ (d i k : Nat), i + d = l.length → d < k → headgatekit_SameBools.l0 k l l (i : Int) = some true
  | 0, i, k, hd, hk => by
    obtain ⟨k, rfl⟩ : ∃ m, k = m + 1 := ⟨k - 1, by omega⟩
    rw [headgatekit_SameBools.l0, if_neg (by omega)]
  | d + 1, i, k, hd, hk => by
    obtain ⟨k, rfl⟩ : ∃ m, k = m + 1 := ⟨k - 1, by omega⟩
    rw [headgatekit_SameBools.l0, if_pos (by omega), if_pos (by omega), if_pos (by omega)]
    simp only [bne_self_eq_false, beq_self_eq_true, Bool.false_eq_true, if_false, if_true]
    rw [nat_succ (by omega)]
    exact bools_step l hl d (i + 1) k (by omega) (by omega)
theorem same_bools (l : List Bool) (hl : l.length ≤ 1000) (k : Nat) (hk : l.length < k) : headgatekit_SameBools.f k l l = some true := by
  unfold headgatekit_SameBools.f
  rw [if_pos rfl]
  exact bools_step l hl l.length 0 k (by omega) (by omega)
theorem is_same (a b : List Int) (r : List Bool) (ha : a.length ≤ 100) (hb : b.length ≤ 100) (hr : r.length ≤ 100) (k : Nat) (hk : 101 < k) : headgatelaw07_is.f k a b r a b r 0 = some true := by
  unfold headgatelaw07_is.f headgatekit_SameLists.f
  rw [if_pos rfl, same_ints a (by omega) k (by omega), same_ints b (by omega) k (by omega), same_bools r (by omega) k (by omega)]
  rfl

structure OkN (a b : List Int) (r : List Bool) : Prop where
  lo : 1 ≤ r.length
  hi : r.length ≤ 256
  nd : (a ++ b).Nodup
  rng : ∀ x ∈ a ++ b, 0 ≤ x ∧ x < (r.length : Int)
  ref : ∀ f : Nat, r.getD f false = true → (f : Int) ∈ a ++ b
theorem OkN.zero {a b : List Int} {r : List Bool} (h : OkN a b r) : lruCheck a b r = 0 := by
  have h1 := h.lo
  have h2 := h.hi
  obtain ⟨n1, n2, n3⟩ := List.nodup_append.1 h.nd
  unfold lruCheck
  have eo : lruOut a b r 0 [] = lruIn r.length (fun s => lruIn r.length (fun s => lruFrom s r 0) b s) a [] := rfl
  rw [if_neg (by omega), if_neg (by omega), eo, lruIn_ok r.length _ a [] (fun x hx => h.rng x (List.mem_append_left _ hx)) n1 (fun x _ hm => by cases hm)]
  rw [lruIn_ok r.length _ b _ (fun x hx => h.rng x (List.mem_append_right _ hx)) n2 (fun x hx hm => by
    simp at hm
    exact n3 x hm x hx rfl)]
  rw [lruFrom_ok _ r 0 (fun j hj => by
    have := h.ref j hj
    simp at this ⊢
    exact this.symm)]
theorem lruIn_zero (N : Nat) (k : List Int → Int) : ∀ (xs seen : List Int), lruIn N k xs seen = 0 → (∀ x ∈ xs, 0 ≤ x ∧ x < (N : Int)) ∧ xs.Nodup ∧ (∀ x ∈ xs, x ∉ seen) ∧ k (xs.reverse ++ seen) = 0
  | [], seen, h => ⟨fun x hx => (by cases hx), List.nodup_nil, fun x hx => (by cases hx), h⟩
  | x :: xs, seen, h => by
    rw [lruIn] at h
    by_cases c1 : x < 0
    · rw [if_pos c1] at h
      omega
    rw [if_neg c1] at h
    by_cases c2 : (N : Int) ≤ x
    · rw [if_pos c2] at h
      omega
    rw [if_neg c2] at h
    by_cases c3 : seen.contains x = true
    · rw [if_pos c3] at h
      omega
    rw [if_neg c3] at h
    obtain ⟨p, q, s, t⟩ := lruIn_zero N k xs (x :: seen) h
    have c3' : x ∉ seen := by simpa using c3
    refine ⟨fun y hy => ?_, ?_, fun y hy => ?_, ?_⟩
    · rcases List.mem_cons.1 hy with rfl | hy
      · omega
      · exact p y hy
    · exact List.nodup_cons.2 ⟨fun hm => s x hm (List.mem_cons_self ..), q⟩
    · rcases List.mem_cons.1 hy with rfl | hy
      · exact c3'
      · exact fun hm => s y hy (List.mem_cons_of_mem _ hm)
    · simpa using t
theorem lruFrom_zero (seen : List Int) : ∀ (bs : List Bool) (f : Nat), lruFrom seen bs f = 0 → ∀ j, bs.getD j false = true → ((f + j : Nat) : Int) ∈ seen
  | [], _, _, j, hj => by simp at hj
  | b :: bs, f, h, 0, hj => by
    have hb : b = true := by simpa using hj
    rw [lruFrom, if_pos hb] at h
    by_cases c : seen.contains (f : Int) = true
    · simpa using c
    · rw [if_neg c] at h
      omega
  | b :: bs, f, h, j + 1, hj => by
    have hj' : bs.getD j false = true := by simpa using hj
    rw [lruFrom] at h
    have h' : lruFrom seen bs (f + 1) = 0 := by
      by_cases c : b = true
      · rw [if_pos c] at h
        by_cases c2 : seen.contains (f : Int) = true
        · rwa [if_pos c2] at h
        · rw [if_neg c2] at h
          omega
      · rwa [if_neg c] at h
    have := lruFrom_zero seen bs (f + 1) h' j hj'
    rwa [show f + 1 + j = f + (j + 1) by omega] at this
theorem OkN.of {a b : List Int} {r : List Bool} (h : lruCheck a b r = 0) : OkN a b r := by
  unfold lruCheck at h
  by_cases c1 : r.length < 1
  · rw [if_pos c1] at h
    omega
  rw [if_neg c1] at h
  by_cases c2 : 256 < r.length
  · rw [if_pos c2] at h
    omega
  rw [if_neg c2] at h
  have eo : lruOut a b r 0 [] = lruIn r.length (fun s => lruIn r.length (fun s => lruFrom s r 0) b s) a [] := rfl
  rw [eo] at h
  obtain ⟨p1, q1, _, t1⟩ := lruIn_zero _ _ _ _ h
  obtain ⟨p2, q2, s2, t2⟩ := lruIn_zero _ _ _ _ t1
  refine ⟨by omega, by omega, List.nodup_append.2 ⟨q1, q2, fun x hx y hy e => ?_⟩, fun x hx => ?_, fun f hf => ?_⟩
  · subst e
    exact s2 x hy (by simpa using hx)
  · rcases List.mem_append.1 hx with hx | hx
    · exact p1 x hx
    · exact p2 x hx
  · have := lruFrom_zero _ _ _ t2 f hf
    rw [Nat.zero_add] at this
    simp at this ⊢
    exact this.symm
def outOf (r : List Bool) (f : Int) : Prop := f < 0 ∨ (r.length : Int) ≤ f
instance (r : List Bool) (f : Int) : Decidable (outOf r f) := inferInstanceAs (Decidable (f < 0 ∨ (r.length : Int) ≤ f))
def askE (a b : List Int) (r : List Bool) (f : Int) : Int := if lruCheck a b r = 0 then (if outOf r f then 2 else 0) else lruCheck a b r
def whereOf (a b : List Int) (f : Int) : Int := if f ∈ a then 1 else if f ∈ b then 2 else 0
def remv (l : List Int) (f : Int) : List Int := l.filter fun x => !(x == f)
section
variable {a b : List Int} {r : List Bool}
theorem check_f (ha : a.length ≤ 900) (hb : b.length ≤ 900) : lru_Check.f a b r = some (lruCheck a b r) := by
  unfold lru_Check.f
  rw [if_pos (by omega)]
theorem opened_f (ha : a.length ≤ 900) (hb : b.length ≤ 900) (hr : r.length ≤ 900) : lru_opened.f a b r = if lruCheck a b r = 0 then some (a, b, r, 0) else some ([], [], [], lruCheck a b r) := by
  unfold lru_opened.f
  rw [check_f ha hb, Option.bind_some]
  by_cases c : lruCheck a b r = 0
  · rw [if_pos c, if_pos c, clone_int a (by omega), clone_int b (by omega), clone_bool r (by omega)]
    rfl
  · rw [if_neg c, if_neg c]
theorem about_f (ha : a.length ≤ 900) (hb : b.length ≤ 900) (hr : r.length ≤ 900) (f : Int) (k : Nat) (hk : 902 ≤ k) : lru_about.f k a b r f = if askE a b r f = 0 then some (a, b, r, whereOf a b f, 0) else some ([], [], [], 0, askE a b r f) := by
  unfold lru_about.f askE
  rw [opened_f ha hb hr]
  obtain ⟨k, rfl⟩ : ∃ m, k = m + 1 := ⟨k - 1, by omega⟩
  by_cases c : lruCheck a b r = 0
  · rw [if_pos c, if_pos c, Option.bind_some]
    dsimp only
    rw [if_pos rfl]
    by_cases c1 : f < 0
    · rw [if_pos c1, if_pos (show outOf r f from .inl c1), if_neg (by decide), lru_about.j0, if_pos rfl]
    · rw [if_neg c1]
      by_cases c2 : f ≥ (r.length : Int)
      · rw [decide_eq_true c2, if_pos (show outOf r f from .inr c2), if_neg (by decide), lru_about.j0, if_pos rfl]
      · rw [decide_eq_false c2, if_neg (show ¬ outOf r f from fun h => h.elim c1 c2), if_pos rfl, lru_about.j0, if_neg (by decide), contains_f a f (by omega) k (by omega), contains_f b f (by omega) k (by omega)]
        unfold whereOf
        by_cases ca : f ∈ a
        · simp [ca]
        · by_cases cb : f ∈ b
          · simp [ca, cb]
          · simp [ca, cb]
  · rw [if_neg c, if_neg c, Option.bind_some]
    dsimp only
    rw [if_neg c, if_neg c]
theorem asks_f (f : Int) : headgateref07_asks.f a b r f = some (askE a b r f) := by
  unfold headgateref07_asks.f headgateref07_Check.f askE
  rw [Option.bind_some]
  by_cases c : lruCheck a b r = 0
  · rw [if_pos c, if_pos c]
    by_cases c1 : f < 0
    · rw [if_pos c1, if_pos (show outOf r f from .inl c1)]
    · rw [if_neg c1]
      by_cases c2 : f ≥ (r.length : Int)
      · rw [if_pos c2, if_pos (show outOf r f from .inr c2)]
      · rw [if_neg c2, if_neg (show ¬ outOf r f from fun h => h.elim c1 c2), c]
  · rw [if_neg c, if_neg c]
theorem place_step (l : List Int) (x : Int) (hl : l.length ≤ 1000) : ∀ (d i k : Nat), i + d = l.length → d < k → ∃ v : Int, headgateref07_place.l0 k l x (i : Int) = some v ∧ (v ≥ 0 ↔ x ∈ l.drop i)
  | 0, i, k, hd, hk => by
    obtain ⟨k, rfl⟩ : ∃ m, k = m + 1 := ⟨k - 1, by omega⟩
    refine ⟨-1, by rw [headgateref07_place.l0, if_neg (by omega)], ?_⟩
    rw [List.drop_eq_nil_of_le (by omega)]
    simp
  | d + 1, i, k, hd, hk => by
    obtain ⟨k, rfl⟩ : ∃ m, k = m + 1 := ⟨k - 1, by omega⟩
    have hi : i < l.length := by omega
    obtain ⟨v, h1, h2⟩ := place_step l x hl d (i + 1) k (by omega) (by omega)
    rw [headgateref07_place.l0, if_pos (by omega), if_pos (by omega), rd_nat, drop_getD hi, nat_succ (by omega)]
    by_cases c : l.getD i 0 = x
    · exact ⟨i, by rw [if_pos c], fun _ => by rw [c]; exact List.mem_cons_self .., fun _ => by omega⟩
    · exact ⟨v, by rw [if_neg c, h1], by rw [h2, List.mem_cons]; exact ⟨.inr, fun h => h.resolve_left fun e => c e.symm⟩⟩
theorem rwhere_f (ha : a.length ≤ 900) (hb : b.length ≤ 900) (f : Int) (k : Nat) (hk : 902 ≤ k) : headgateref07_Where.f k a b r f = if askE a b r f = 0 then some (whereOf a b f, 0) else some (0, askE a b r f) := by
  unfold headgateref07_Where.f
  rw [asks_f, Option.bind_some]
  by_cases c : askE a b r f = 0
  · rw [if_pos c, if_pos c]
    obtain ⟨u, u1, u2⟩ := place_step a f (by omega) a.length 0 k (by omega) (by omega)
    obtain ⟨v, v1, v2⟩ := place_step b f (by omega) b.length 0 k (by omega) (by omega)
    unfold headgateref07_place.f whereOf
    rw [show (0 : Int) = ((0 : Nat) : Int) from rfl, u1, v1, Option.bind_some]
    rw [List.drop_zero] at u2 v2
    by_cases ca : f ∈ a
    · rw [if_pos (by have := u2.2 ca; omega), if_pos ca]
    · rw [if_neg (fun h => ca (u2.1 (by omega))), if_neg ca, Option.bind_some]
      by_cases cb : f ∈ b
      · rw [if_pos (by have := v2.2 cb; omega), if_pos cb]
      · rw [if_neg (fun h => cb (v2.1 (by omega))), if_neg cb]
  · rw [if_neg c, if_neg c]
theorem where_nn (f : Int) : 0 ≤ whereOf a b f := by
  unfold whereOf
  split
  · omega
  · split <;> omega
theorem ask_in {f : Int} (c : askE a b r f = 0) : 0 ≤ f ∧ f < (r.length : Int) ∧ lruCheck a b r = 0 := by
  unfold askE at c
  by_cases c1 : lruCheck a b r = 0
  · rw [if_pos c1] at c
    by_cases c2 : outOf r f
    · rw [if_pos c2] at c
      omega
    · unfold outOf at c2
      exact ⟨by omega, by omega, c1⟩
  · rw [if_neg c1] at c
    exact absurd c c1
def resRem (a b : List Int) (r : List Bool) (f : Int) : List Int × List Int × List Bool × Int := if askE a b r f = 0 then (if whereOf a b f = 0 then ([], [], [], 6) else (remv a f, remv b f, r.set f.toNat false, 0)) else ([], [], [], askE a b r f)
theorem own_f (ha : a.length ≤ 900) (hb : b.length ≤ 900) (hr : r.length ≤ 900) : headgateref07_own.f a b r = some (a, b, r) := by
  unfold headgateref07_own.f
  rw [if_pos ⟨by omega, by omega, by omega⟩]
theorem without_step (l : List Int) (x : Int) (hl : l.length ≤ 1000) : ∀ (d i k : Nat) (acc : List Int), i + d = l.length → d < k → acc.length ≤ i → headgateref07_without.l0 k l x acc (i : Int) = some (acc ++ (l.drop i).filter fun y => !(y == x))
  | 0, i, k, acc, hd, hk, _ => by
    obtain ⟨k, rfl⟩ : ∃ m, k = m + 1 := ⟨k - 1, by omega⟩
    rw [headgateref07_without.l0, if_neg (by omega), List.drop_eq_nil_of_le (by omega)]
    simp
  | d + 1, i, k, acc, hd, hk, ha => by
    obtain ⟨k, rfl⟩ : ∃ m, k = m + 1 := ⟨k - 1, by omega⟩
    have hi : i < l.length := by omega
    rw [headgateref07_without.l0, if_pos (by omega), if_pos (by omega), rd_nat, drop_getD hi, nat_succ (by omega)]
    by_cases c : l.getD i 0 = x
    · rw [if_pos c, without_step l x hl d (i + 1) k acc (by omega) (by omega) (by omega), List.filter_cons_of_neg (by rw [c]; simp)]
    · rw [if_neg c, if_pos (by omega), without_step l x hl d (i + 1) k _ (by omega) (by omega) (by simp; omega), List.filter_cons_of_pos (by rw [Bool.not_eq_true', beq_eq_false_iff_ne]; exact c)]
      simp
theorem without_f (l : List Int) (x : Int) (hl : l.length ≤ 1000) (k : Nat) (hk : l.length < k) : headgateref07_without.f k l x = some (remv l x) := by
  unfold headgateref07_without.f
  have := without_step l x hl l.length 0 k [] (by omega) hk (by simp)
  rw [show ((0 : Nat) : Int) = 0 from rfl] at this
  rw [this]
  simp [remv]
theorem rremove_f (ha : a.length ≤ 900) (hb : b.length ≤ 900) (hr : r.length ≤ 900) (f : Int) (k : Nat) (hk : 904 ≤ k) : headgateref07_Remove.f k a b r f = some (resRem a b r f) := by
  unfold headgateref07_Remove.f resRem
  rw [rwhere_f ha hb f k (by omega)]
  obtain ⟨k, rfl⟩ : ∃ m, k = m + 2 := ⟨k - 2, by omega⟩
  by_cases c : askE a b r f = 0
  · obtain ⟨f0, f1, _⟩ := ask_in c
    rw [if_pos c, if_pos c, Option.bind_some]
    dsimp only
    rw [if_pos rfl, headgateref07_Remove.j0]
    by_cases c2 : whereOf a b f = 0
    · rw [if_pos c2, c2, if_pos (by decide), headgateref07_Remove.j1, if_neg (by decide)]
    · rw [if_neg c2, beq_eq_false_iff_ne.2 c2, if_neg (by decide), headgateref07_Remove.j1, if_pos rfl, own_f ha hb hr, Option.bind_some, without_f a f (by omega) k (by omega), Option.bind_some, without_f b f (by omega) k (by omega), Option.bind_some, if_pos f0, if_pos f1]
  · rw [if_neg c, if_neg c, Option.bind_some]
    dsimp only
    rw [if_neg c, headgateref07_Remove.j0, if_neg (by decide), headgateref07_Remove.j1, if_neg c]
def Lens (n : Nat) (x : List Int × List Int × List Bool × Int) : Prop := x.1.length ≤ n ∧ x.2.1.length ≤ n ∧ x.2.2.1.length ≤ n
theorem lens_no (n : Nat) (e : Int) : Lens n ([], [], [], e) := ⟨Nat.zero_le _, Nat.zero_le _, Nat.zero_le _⟩
theorem remv_le (l : List Int) (f : Int) : (remv l f).length ≤ l.length := List.length_filter_le _ _
theorem lens_rem (ha : a.length ≤ 900) (hb : b.length ≤ 900) (hr : r.length ≤ 900) (f : Int) : Lens 901 (resRem a b r f) := by
  unfold resRem
  have h1 := remv_le a f
  have h2 := remv_le b f
  split
  · split
    · exact lens_no _ _
    · exact ⟨by show (remv a f).length ≤ _; omega, by show (remv b f).length ≤ _; omega, by simp; omega⟩
  · exact lens_no _ _
end
theorem same_lists (a b : List Int) (r : List Bool) (ha : a.length ≤ 1000) (hb : b.length ≤ 1000) (hr : r.length ≤ 1000) (k : Nat) (hk : 1001 ≤ k) : headgatekit_SameLists.f k a b r a b r = some true := by
  unfold headgatekit_SameLists.f
  rw [same_ints a (by omega) k (by omega), same_ints b (by omega) k (by omega), same_bools r (by omega) k (by omega)]
  rfl
theorem lens_same {x : List Int × List Int × List Bool × Int} (h : Lens 901 x) (k : Nat) (hk : 1001 ≤ k) : headgatekit_SameLists.f k x.1 x.2.1 x.2.2.1 x.1 x.2.1 x.2.2.1 = some true := by
  obtain ⟨h1, h2, h3⟩ := h
  exact same_lists _ _ _ (by omega) (by omega) (by omega) k hk
theorem light_f (a b : List Int) (r : List Bool) : headgatelaw07_light.f a b r = some (decide (a.length ≤ 260 ∧ b.length ≤ 260 ∧ r.length ≤ 260)) := by
  unfold headgatelaw07_light.f
  by_cases c1 : a.length ≤ 260
  · rw [if_pos (by omega)]
    by_cases c2 : b.length ≤ 260
    · rw [if_pos (by omega)]
      congr 1
      rw [decide_eq_decide]
      omega
    · rw [if_neg (by omega), decide_eq_false (by omega)]
  · rw [if_neg (by omega), decide_eq_false (by omega)]
theorem ownlists_f {a b : List Int} {r : List Bool} (ha : a.length ≤ 900) (hb : b.length ≤ 900) (hr : r.length ≤ 900) : headgatekit_OwnLists.f a b r = some (a, b, r) := by
  unfold headgatekit_OwnLists.f
  rw [if_pos ⟨by omega, by omega, by omega⟩]

/-- What a list holds after some rounds of the swaps. -/
theorem rev_step (l : List Int) (hl : l.length ≤ 1000) : ∀ (d i j k : Nat) (x : List Int), i + j + 1 = l.length → j ≤ i + d → d < k → x.length = l.length → (∀ m, m < l.length → x.getD m 0 = if m < i ∨ j < m then l.getD (l.length - 1 - m) 0 else l.getD m 0) →
    slices_Reverse_int_int.l0 k x (i : Int) (j : Int) = some l.reverse
  | d, i, j, k, x, hij, hd, hk, hx, h => by
    obtain ⟨k, rfl⟩ : ∃ m, k = m + 1 := ⟨k - 1, by omega⟩
    rw [slices_Reverse_int_int.l0]
    by_cases c : i < j
    · match d, hd, hk with
      | 0, hd, hk => omega
      | d + 1, hd, hk =>
        rw [if_pos (by omega), if_pos (by omega), if_pos (by omega), if_pos (by omega), if_pos (by omega), nat_succ (by omega), rd_nat, rd_nat, show wrap64 ((j : Int) - 1) = ((j - 1 : Nat) : Int) by rw [w64 (by omega) (by omega)]; omega]
        refine rev_step l hl d (i + 1) (j - 1) k _ (by omega) (by omega) (by omega) (by simp [hx]) fun m hm => ?_
        have hi := h i (by omega)
        have hj := h j (by omega)
        have hmm := h m hm
        rw [if_neg (by omega)] at hi hj
        simp only [Int.toNat_natCast]
        rw [hi, hj]
        simp only [List.getD_eq_getElem?_getD, List.getElem?_set, List.length_set] at hmm ⊢
        by_cases c1 : j = m
        · subst c1
          rw [if_pos rfl, if_pos (by omega), if_pos (by omega), show l.length - 1 - j = i by omega]
          rfl
        · rw [if_neg c1]
          by_cases c2 : i = m
          · subst c2
            rw [if_pos rfl, if_pos (by omega), if_pos (by omega), show l.length - 1 - i = j by omega]
            rfl
          · rw [if_neg c2, hmm]
            by_cases c3 : m < i ∨ j < m
            · rw [if_pos c3, if_pos (by omega)]
            · rw [if_neg c3, if_neg (by omega)]
    · rw [if_neg (by omega)]
      congr 1
      apply List.ext_getElem?
      intro m
      by_cases hm : m < l.length
      · have := h m hm
        have e : (if m < i ∨ j < m then l.getD (l.length - 1 - m) 0 else l.getD m 0) = l.getD (l.length - 1 - m) 0 := by
          by_cases c3 : m < i ∨ j < m
          · rw [if_pos c3]
          · rw [if_neg c3, show l.length - 1 - m = m by omega]
        rw [e] at this
        rw [List.getElem?_reverse hm, List.getElem?_eq_getElem (show m < x.length by omega), List.getElem?_eq_getElem (show l.length - 1 - m < l.length by omega)]
        simp only [List.getD_eq_getElem?_getD, List.getElem?_eq_getElem (show m < x.length by omega), List.getElem?_eq_getElem (show l.length - 1 - m < l.length by omega), Option.getD_some] at this
        rw [this]
      · rw [List.getElem?_eq_none (by omega), List.getElem?_eq_none (by simp; omega)]
theorem reverse_f (l : List Int) (hl : l.length ≤ 1000) (k : Nat) (hk : l.length < k) : slices_Reverse_int_int.f k l = some l.reverse := by
  unfold slices_Reverse_int_int.f
  by_cases c : l.length = 0
  · have : l = [] := List.eq_nil_of_length_eq_zero c
    subst this
    obtain ⟨k, rfl⟩ : ∃ m, k = m + 1 := ⟨k - 1, by omega⟩
    rw [show wrap64 ((([] : List Int).length : Int) - 1) = -1 by decide +kernel, slices_Reverse_int_int.l0, if_neg (by decide)]
    rfl
  · rw [show wrap64 ((l.length : Int) - 1) = ((l.length - 1 : Nat) : Int) by rw [w64 (by omega) (by omega)]; omega]
    have := rev_step l hl l.length 0 (l.length - 1) k l (by omega) (by omega) (by omega) rfl (fun m hm => by rw [if_neg (by omega)])
    simpa using this

theorem rd_last (l : List Int) (h : l.length ≠ 0) : rd l ((l.length - 1 : Nat) : Int) ∈ l := by
  rw [rd_nat]
  exact getD_mem (by omega)
theorem take_last (l : List Int) (h : l.length ≠ 0) : l = l.take (l.length - 1) ++ [rd l ((l.length - 1 : Nat) : Int)] := by
  have e := drop_getD (l := l) (i := l.length - 1) (by omega)
  rw [List.drop_eq_nil_of_le (show l.length ≤ l.length - 1 + 1 by omega)] at e
  rw [rd_nat, ← e, List.take_append_drop]
theorem last_w {l : List Int} (h : l.length ≠ 0) (hl : l.length ≤ 1000) : wrap64 ((l.length : Int) - 1) = ((l.length - 1 : Nat) : Int) := by
  rw [w64 (by omega) (by omega)]
  omega
theorem remv_out {l : List Int} {f : Int} (h : f ∉ l) : remv l f = l := by
  unfold remv
  rw [List.filter_eq_self]
  intro x hx
  have : x ≠ f := fun e => h (e ▸ hx)
  simpa using this
theorem remv_last {p : List Int} {f : Int} (h : f ∉ p) : remv (p ++ [f]) f = p := by
  have := remv_out h
  unfold remv at *
  rw [List.filter_append, this]
  simp
theorem not_last {p : List Int} {f : Int} (h : (p ++ [f]).Nodup) : f ∉ p := fun hm => (List.nodup_append.1 h).2.2 _ hm _ (List.mem_singleton.2 rfl) rfl
theorem remv_take {l : List Int} (h : l.length ≠ 0) (hn : l.Nodup) : remv l (rd l ((l.length - 1 : Nat) : Int)) = l.take (l.length - 1) := by
  have e := take_last l h
  generalize rd l ((l.length - 1 : Nat) : Int) = f at *
  generalize l.take (l.length - 1) = p at *
  subst e
  exact remv_last (not_last hn)
section
variable {a b : List Int} {r : List Bool}
def lastOf (a b : List Int) (r : List Bool) : Int × Int := if lruCheck a b r = 0 then (if b.length = 0 then (if a.length = 0 then (0, 6) else (rd a ((a.length - 1 : Nat) : Int), 0)) else (rd b ((b.length - 1 : Nat) : Int), 0)) else (0, lruCheck a b r)
theorem last_f (ha : a.length ≤ 900) (hb : b.length ≤ 900) : lru_Last.f a b r = some (lastOf a b r) := by
  unfold lru_Last.f lastOf
  rw [check_f ha hb, Option.bind_some]
  by_cases c : lruCheck a b r = 0
  · rw [if_pos c, if_pos c]
    unfold slices_Concat_int_int.f
    rw [if_pos (by simp [catLen]; omega), Option.bind_some]
    by_cases cb : b.length = 0
    · have hb : b = [] := List.eq_nil_of_length_eq_zero cb
      subst hb
      simp only [List.flatten_cons, List.flatten_nil, List.append_nil, List.nil_append]
      rw [if_neg (by decide), if_pos (show ([] : List Int).length = 0 from rfl)]
      by_cases ca : a.length = 0
      · rw [if_neg (by omega), if_pos ca]
      · rw [if_pos (by omega), if_neg ca, last_w ca (by omega), if_pos (by omega), if_pos (by omega)]
    · rw [if_pos (by omega), if_neg cb, last_w cb (by omega), if_pos (by omega), if_pos (by omega)]
  · rw [if_neg c, if_neg c]
theorem rlast_f (ha : a.length ≤ 900) (hb : b.length ≤ 900) : headgateref07_Last.f a b r = some (lastOf a b r) := by
  unfold headgateref07_Last.f lastOf headgateref07_Check.f
  rw [Option.bind_some]
  by_cases c : lruCheck a b r = 0
  · rw [if_pos c, if_pos c]
    by_cases cb : b.length = 0
    · rw [if_neg (by omega), if_pos cb]
      by_cases ca : a.length = 0
      · rw [if_neg (by omega), if_pos ca]
      · rw [if_pos (by omega), if_neg ca, last_w ca (by omega), if_pos (by omega), if_pos (by omega)]
    · rw [if_pos (by omega), if_neg cb, last_w cb (by omega), if_pos (by omega), if_pos (by omega)]
  · rw [if_neg c, if_neg c]
def demOf (a b : List Int) (r : List Bool) : List Int × List Int × List Bool × Int × Int := if lruCheck a b r = 0 then (if a.length = 0 then ([], [], [], 0, 6) else (a.take (a.length - 1), rd a ((a.length - 1 : Nat) : Int) :: b, r.set (rd a ((a.length - 1 : Nat) : Int)).toNat false, rd a ((a.length - 1 : Nat) : Int), 0)) else ([], [], [], 0, lruCheck a b r)
def proOf (a b : List Int) (r : List Bool) : List Int × List Int × List Bool × Int × Int := if lruCheck a b r = 0 then (if b.length = 0 then ([], [], [], 0, 6) else (rd b ((b.length - 1 : Nat) : Int) :: a, b.take (b.length - 1), r.set (rd b ((b.length - 1 : Nat) : Int)).toNat false, rd b ((b.length - 1 : Nat) : Int), 0)) else ([], [], [], 0, lruCheck a b r)
theorem dem_f (ha : a.length ≤ 900) (hb : b.length ≤ 900) (hr : r.length ≤ 900) : lru_Demote.f a b r = some (demOf a b r) := by
  unfold lru_Demote.f demOf
  rw [opened_f ha hb hr]
  by_cases c : lruCheck a b r = 0
  · have h := OkN.of c
    rw [if_pos c, if_pos c, Option.bind_some]
    dsimp only
    rw [if_pos rfl]
    by_cases c : a.length = 0
    · rw [if_pos c, if_pos c]
    · have := h.rng _ (List.mem_append_left b (rd_last a c))
      rw [if_neg c, if_neg c, if_pos ⟨by omega, by omega, this.1, by omega⟩]
  · rw [if_neg c, if_neg c, Option.bind_some]
    dsimp only
    rw [if_neg c]
theorem pro_f (ha : a.length ≤ 900) (hb : b.length ≤ 900) (hr : r.length ≤ 900) : lru_Promote.f a b r = some (proOf a b r) := by
  unfold lru_Promote.f proOf
  rw [opened_f ha hb hr]
  by_cases c : lruCheck a b r = 0
  · have h := OkN.of c
    rw [if_pos c, if_pos c, Option.bind_some]
    dsimp only
    rw [if_pos rfl]
    by_cases c : b.length = 0
    · rw [if_pos c, if_pos c]
    · have := h.rng _ (List.mem_append_right a (rd_last b c))
      rw [if_neg c, if_neg c, if_pos ⟨by omega, by omega, this.1, by omega⟩]
  · rw [if_neg c, if_neg c, Option.bind_some]
    dsimp only
    rw [if_neg c]
theorem OkN.ask (h : OkN a b r) {f : Int} (hm : f ∈ a ++ b) : askE a b r f = 0 := by
  have := h.rng f hm
  rw [askE, if_pos h.zero, if_neg (show ¬ outOf r f from fun hh => by unfold outOf at hh; omega)]
theorem whereA {f : Int} (h : f ∈ a) : whereOf a b f = 1 := by
  unfold whereOf
  rw [if_pos h]
theorem whereB {f : Int} (h : f ∈ b) : whereOf a b f ≠ 0 := by
  unfold whereOf
  split
  · decide
  · decide
theorem OkN.remA (h : OkN a b r) (c : a.length ≠ 0) : resRem a b r (rd a ((a.length - 1 : Nat) : Int)) = (a.take (a.length - 1), b, r.set (rd a ((a.length - 1 : Nat) : Int)).toNat false, 0) := by
  obtain ⟨n1, n2, n3⟩ := List.nodup_append.1 h.nd
  have hm := rd_last a c
  unfold resRem
  rw [if_pos (h.ask (List.mem_append_left b hm)), if_neg (by rw [whereA hm]; decide), remv_take c n1, remv_out fun hb => n3 _ hm _ hb rfl]
theorem OkN.remB (h : OkN a b r) (c : b.length ≠ 0) : resRem a b r (rd b ((b.length - 1 : Nat) : Int)) = (a, b.take (b.length - 1), r.set (rd b ((b.length - 1 : Nat) : Int)).toNat false, 0) := by
  obtain ⟨n1, n2, n3⟩ := List.nodup_append.1 h.nd
  have hm := rd_last b c
  unfold resRem
  rw [if_pos (h.ask (List.mem_append_right a hm)), if_neg (whereB hm), remv_take c n2, remv_out fun ha => n3 _ ha _ hm rfl]
theorem rdem_f (ha : a.length ≤ 900) (hb : b.length ≤ 900) (hr : r.length ≤ 900) (k : Nat) (hk : 905 ≤ k) : headgateref07_Demote.f k a b r = some (demOf a b r) := by
  unfold headgateref07_Demote.f demOf headgateref07_Check.f
  rw [Option.bind_some]
  obtain ⟨k, rfl⟩ : ∃ m, k = m + 1 := ⟨k - 1, by omega⟩
  by_cases c : lruCheck a b r = 0
  · have h := OkN.of c
    rw [if_pos c, if_pos c, c, headgateref07_Demote.j0]
    by_cases c : a.length = 0
    · rw [if_pos c, if_pos (beq_iff_eq.2 (by omega)), if_neg (by decide)]
    · rw [if_neg c, beq_eq_false_iff_ne.2 (show (a.length : Int) ≠ 0 by omega), if_neg (by decide), if_pos rfl, last_w c (by omega), if_pos (by omega), if_pos (by omega), rremove_f ha hb hr _ k (by omega), Option.bind_some, h.remA c, Option.bind_some]
      dsimp only
      rw [if_pos (by simp only [List.length_singleton]; omega)]
      rfl
  · rw [if_neg c, if_neg c, headgateref07_Demote.j0, if_neg (by decide), if_neg c]
theorem rpro_f (ha : a.length ≤ 900) (hb : b.length ≤ 900) (hr : r.length ≤ 900) (k : Nat) (hk : 905 ≤ k) : headgateref07_Promote.f k a b r = some (proOf a b r) := by
  unfold headgateref07_Promote.f proOf headgateref07_Check.f
  rw [Option.bind_some]
  obtain ⟨k, rfl⟩ : ∃ m, k = m + 1 := ⟨k - 1, by omega⟩
  by_cases c : lruCheck a b r = 0
  · have h := OkN.of c
    rw [if_pos c, if_pos c, c, headgateref07_Promote.j0]
    by_cases c : b.length = 0
    · rw [if_pos c, if_pos (beq_iff_eq.2 (by omega)), if_neg (by decide)]
    · rw [if_neg c, beq_eq_false_iff_ne.2 (show (b.length : Int) ≠ 0 by omega), if_neg (by decide), if_pos rfl, last_w c (by omega), if_pos (by omega), if_pos (by omega), rremove_f ha hb hr _ k (by omega), Option.bind_some, h.remB c, Option.bind_some]
      dsimp only
      rw [if_pos (by simp only [List.length_singleton]; omega)]
      rfl
  · rw [if_neg c, if_neg c, headgateref07_Promote.j0, if_neg (by decide), if_neg c]
theorem OkN.less (h : OkN a b r) {a' b' : List Int} {f : Int} (hf : 0 ≤ f) (hp : (a ++ b).Perm (f :: (a' ++ b'))) : OkN a' b' (r.set f.toNat false) := by
  have hn := hp.nodup_iff.1 h.nd
  obtain ⟨h1, h2⟩ := List.nodup_cons.1 hn
  have hm := h.rng f (hp.mem_iff.2 (List.mem_cons_self ..))
  refine ⟨by rw [List.length_set]; exact h.lo, by rw [List.length_set]; exact h.hi, h2, fun x hx => ?_, fun g hg => ?_⟩
  · rw [List.length_set]
    exact h.rng x (hp.mem_iff.2 (List.mem_cons_of_mem _ hx))
  · rw [getD_set] at hg
    split at hg
    · cases hg
    · rename_i c
      rcases List.mem_cons.1 (hp.mem_iff.1 (h.ref g hg)) with e | e
      · exact absurd ⟨by omega, by omega⟩ c
      · exact e
theorem order_step : ∀ (n : Nat) (a b : List Int) (r : List Bool) (acc : List Int) (k : Nat), OkN a b r → a.length + b.length = n → a.length ≤ 900 → b.length ≤ 900 → acc.length + n ≤ 2000 → n + 910 ≤ k → headgateref07_Order.l0 k acc a b r = some (acc ++ (b.reverse ++ a.reverse), 0)
  | 0, a, b, r, acc, k, h, hn, ha, hb, hacc, hk => by
    obtain ⟨k, rfl⟩ : ∃ m, k = m + 1 := ⟨k - 1, by omega⟩
    have e : lastOf a b r = (0, 6) := by
      rw [lastOf, if_pos h.zero, if_pos (by omega), if_pos (by omega)]
    rw [headgateref07_Order.l0, rlast_f ha hb, Option.bind_some, e]
    dsimp only
    rw [if_neg (by decide)]
    obtain rfl := List.eq_nil_of_length_eq_zero (show a.length = 0 by omega)
    obtain rfl := List.eq_nil_of_length_eq_zero (show b.length = 0 by omega)
    simp
  | n + 1, a, b, r, acc, k, h, hn, ha, hb, hacc, hk => by
    obtain ⟨k, rfl⟩ : ∃ m, k = m + 1 := ⟨k - 1, by omega⟩
    have hr := h.hi
    rw [headgateref07_Order.l0, rlast_f ha hb, Option.bind_some]
    by_cases cb : b.length = 0
    · obtain rfl := List.eq_nil_of_length_eq_zero cb
      have ca : a.length ≠ 0 := by simp at hn; omega
      rw [show lastOf a [] r = (rd a ((a.length - 1 : Nat) : Int), 0) by rw [lastOf, if_pos h.zero, if_pos cb, if_neg ca]]
      dsimp only
      rw [if_pos rfl, if_pos (by omega), rremove_f ha hb (by omega) _ k (by omega), Option.bind_some, h.remA ca]
      dsimp only
      have e := take_last a ca
      have hl : (a.take (a.length - 1)).length = n := by rw [List.length_take]; simp at hn; omega
      have hf := h.rng _ (List.mem_append_left [] (rd_last a ca))
      generalize rd a ((a.length - 1 : Nat) : Int) = f at *
      generalize a.take (a.length - 1) = p at *
      rw [order_step n p [] _ _ k (h.less hf.1 (by rw [e]; simp only [List.append_nil]; exact List.perm_append_comm)) (by simpa using hl) (by omega) hb (by simp; omega) (by omega)]
      rw [e]
      simp
    · rw [show lastOf a b r = (rd b ((b.length - 1 : Nat) : Int), 0) by rw [lastOf, if_pos h.zero, if_neg cb]]
      dsimp only
      rw [if_pos rfl, if_pos (by omega), rremove_f ha hb (by omega) _ k (by omega), Option.bind_some, h.remB cb]
      dsimp only
      have e := take_last b cb
      have hl : a.length + (b.take (b.length - 1)).length = n := by rw [List.length_take]; omega
      have hf := h.rng _ (List.mem_append_right a (rd_last b cb))
      generalize rd b ((b.length - 1 : Nat) : Int) = f at *
      generalize b.take (b.length - 1) = p at *
      rw [order_step n a p _ _ k (h.less hf.1 (by rw [e, ← List.append_assoc]; exact List.perm_append_comm)) hl ha (by omega) (by simp; omega) (by omega)]
      rw [e]
      simp
def ordR (a b : List Int) (r : List Bool) : List Int × Int := if lruCheck a b r = 0 then (b.reverse ++ a.reverse, 0) else ([], lruCheck a b r)
theorem rorder_f (ha : a.length ≤ 900) (hb : b.length ≤ 900) (k : Nat) (hk : 2800 ≤ k) : headgateref07_Order.f k a b r = some (ordR a b r) := by
  unfold headgateref07_Order.f ordR headgateref07_Check.f
  rw [Option.bind_some]
  by_cases c : lruCheck a b r = 0
  · rw [if_pos c, if_pos c, order_step (a.length + b.length) a b r [] k (OkN.of c) rfl ha hb (by simp; omega) (by omega)]
    simp
  · rw [if_neg c, if_neg c]
theorem order_f (ha : a.length ≤ 900) (hb : b.length ≤ 900) (hr : r.length ≤ 900) (k : Nat) (hk : 2800 ≤ k) : lru_Order.f k a b r = some (ordR a b r) := by
  unfold lru_Order.f ordR
  rw [opened_f ha hb hr]
  by_cases c : lruCheck a b r = 0
  · rw [if_pos c, if_pos c, Option.bind_some]
    dsimp only
    rw [if_pos rfl, reverse_f b (by omega) k (by omega), reverse_f a (by omega) k (by omega)]
    simp only [Option.bind_some]
    unfold slices_Concat_int_int.f
    rw [if_pos (by simp [catLen]; omega)]
    simp
  · rw [if_neg c, if_neg c, Option.bind_some]
    dsimp only
    rw [if_neg c]
def Lens5 (n : Nat) (x : List Int × List Int × List Bool × Int × Int) : Prop := x.1.length ≤ n ∧ x.2.1.length ≤ n ∧ x.2.2.1.length ≤ n
theorem lens_dem (ha : a.length ≤ 900) (hb : b.length ≤ 900) (hr : r.length ≤ 900) : Lens5 901 (demOf a b r) := by
  unfold demOf
  split
  · split
    · exact ⟨Nat.zero_le _, Nat.zero_le _, Nat.zero_le _⟩
    · exact ⟨by simp; omega, by simp; omega, by simp; omega⟩
  · exact ⟨Nat.zero_le _, Nat.zero_le _, Nat.zero_le _⟩
theorem lens_pro (ha : a.length ≤ 900) (hb : b.length ≤ 900) (hr : r.length ≤ 900) : Lens5 901 (proOf a b r) := by
  unfold proOf
  split
  · split
    · exact ⟨Nat.zero_le _, Nat.zero_le _, Nat.zero_le _⟩
    · exact ⟨by simp; omega, by simp; omega, by simp; omega⟩
  · exact ⟨Nat.zero_le _, Nat.zero_le _, Nat.zero_le _⟩
theorem lens_ord (ha : a.length ≤ 300) (hb : b.length ≤ 300) : (ordR a b r).1.length ≤ 1000 := by
  unfold ordR
  split
  · simp; omega
  · simp
theorem turns_j1 (ha : a.length ≤ 260) (hb : b.length ≤ 260) (hr : r.length ≤ 260) (k : Nat) (hk : 2800 ≤ k) : headgatelaw07_LruTurns.j1 (k + 1) false a b r a b r = some true := by
  obtain ⟨l1, l2, l3⟩ := lens_pro (a := a) (b := b) (r := r) (by omega) (by omega) (by omega)
  have l4 := lens_ord (a := a) (b := b) (r := r) (by omega) (by omega)
  rw [headgatelaw07_LruTurns.j1, if_neg (by decide), pro_f (by omega) (by omega) (by omega), rpro_f (by omega) (by omega) (by omega) k (by omega), order_f (by omega) (by omega) (by omega) k (by omega), rorder_f (by omega) (by omega) k (by omega)]
  rw [Option.bind_some, Option.bind_some, Option.bind_some, Option.bind_some]
  generalize proOf a b r = x at *
  generalize ordR a b r = y at *
  rw [same_lists _ _ _ (by omega) (by omega) (by omega) k (by omega), Option.bind_some, if_pos rfl, if_pos rfl, if_pos rfl, same_ints _ l4 k (by omega), Option.bind_some, if_pos rfl, if_pos rfl, same_lists a b r (by omega) (by omega) (by omega) k (by omega)]
  rfl
theorem turns_j0 (ha : a.length ≤ 260) (hb : b.length ≤ 260) (hr : r.length ≤ 260) (k : Nat) (hk : 2801 ≤ k) : headgatelaw07_LruTurns.j0 (k + 1) false a b r a b r = some true := by
  obtain ⟨l1, l2, l3⟩ := lens_dem (a := a) (b := b) (r := r) (by omega) (by omega) (by omega)
  rw [headgatelaw07_LruTurns.j0, if_neg (by decide), dem_f (by omega) (by omega) (by omega), rdem_f (by omega) (by omega) (by omega) k (by omega)]
  rw [Option.bind_some, Option.bind_some]
  generalize demOf a b r = x at *
  rw [same_lists _ _ _ (by omega) (by omega) (by omega) k (by omega), Option.bind_some, if_pos rfl, if_pos rfl, bne_self_eq_false]
  obtain ⟨k, rfl⟩ : ∃ m, k = m + 1 := ⟨k - 1, by omega⟩
  exact turns_j1 ha hb hr k (by omega)
end
theorem turns_all (a b : List Int) (r : List Bool) (k : Nat) (hk : 2802 ≤ k) : headgatelaw07_LruTurns.f (k + 1) a b r = some true := by
  unfold headgatelaw07_LruTurns.f
  rw [light_f, Option.bind_some]
  by_cases c : a.length ≤ 260 ∧ b.length ≤ 260 ∧ r.length ≤ 260
  · obtain ⟨ha, hb, hr⟩ := c
    rw [decide_eq_true ⟨ha, hb, hr⟩, if_pos rfl, ownlists_f (by omega) (by omega) (by omega), Option.bind_some]
    dsimp only
    rw [last_f (by omega) (by omega), rlast_f (by omega) (by omega), Option.bind_some, Option.bind_some, if_pos rfl, bne_self_eq_false]
    exact turns_j0 ha hb hr k (by omega)
  · rw [decide_eq_false c, if_neg (by decide)]
    rfl
theorem LruTurns : headgatelaw07_LruTurns.Pure := fun s _ => ⟨4001, turns_all s.f0 s.f1 s.f2 4000 (by omega)⟩

end Go.Proofs.Ytaofihdmgdpenaa.Pure
