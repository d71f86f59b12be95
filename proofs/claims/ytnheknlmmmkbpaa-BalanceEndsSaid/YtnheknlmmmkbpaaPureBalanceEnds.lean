/- Steps steps, one by one, lead to WriteOut, or to Nothing if there are no frames, and no step before says so: BalanceEnds returns true, for every list of numbers. -/
import Derived.Test.YtnheknlmmmkbpaaX42
namespace Go.Proofs.Ytnheknlmmmkbpaa.Pure
open Go.RowKit Go.Proofs.Ytnheknlmmmkbpaa.X Go.Proofs.YtnheknlmmmkbpaaW.PrintWords Go.Proofs.YtnheknlmmmkbpaaW.PrintLast
set_option linter.unusedVariables false
set_option linter.unusedSimpArgs false

theorem w64 {x : Int} (h0 : -9223372036854775808 ≤ x) (h1 : x ≤ 9223372036854775807) : wrap64 x = x := by
  unfold wrap64
  omega

theorem nat_succ {i : Nat} (h : i ≤ 1000) : wrap64 ((i : Int) + 1) = ((i + 1 : Nat) : Int) := by rw [w64 (by omega) (by omega)]; omega
theorem rd_nat (l : List Int) (i : Nat) : rd l (i : Int) = l.getD i 0 := rfl
theorem lruIn_ok (N : Nat) (k : List Int → Int) : ∀ (xs seen : List Int), (∀ x ∈ xs, 0 ≤ x ∧ x < (N : Int)) → xs.Nodup → (∀ x ∈ xs, x ∉ seen) → lruIn N k xs seen = k (xs.reverse ++ seen)
  | [], seen, _, _, _ => rfl
  | x :: xs, seen, h1, h2, h3 => by
    obtain ⟨p, q⟩ := h1 x (List.mem_cons_self ..)
    have h4 := List.nodup_cons.1 h2
    rw [lruIn, if_neg (by omega), if_neg (by omega), if_neg (by simpa using h3 x (List.mem_cons_self ..)),
      lruIn_ok N k xs (x :: seen) (fun y hy => h1 y (List.mem_cons_of_mem _ hy)) h4.2 (fun y hy hm => by
        rcases List.mem_cons.1 hm with rfl | hm
        · exact h4.1 hy
        · exact h3 y (List.mem_cons_of_mem _ hy) hm)]
    simp
theorem lruFrom_ok (seen : List Int) : ∀ (bs : List Bool) (f : Nat), (∀ j, bs.getD j false = true → ((f + j : Nat) : Int) ∈ seen) → lruFrom seen bs f = 0
  | [], _, _ => rfl
  | b :: bs, f, h => by
    have ih := lruFrom_ok seen bs (f + 1) (fun j hj => by
      have := h (j + 1) (by simpa using hj)
      rwa [show f + 1 + j = f + (j + 1) by omega])
    rw [lruFrom]
    by_cases c : b = true
    · have := h 0 (by simpa using c)
      rw [if_pos c, if_pos (by simpa using this), ih]
    · rw [if_neg c, ih]
theorem clone_int (l : List Int) (h : l.length ≤ 1000) : slices_Clone_int_int.f l = some l := by
  unfold slices_Clone_int_int.f
  rw [if_pos (by omega)]
theorem clone_bool (l : List Bool) (h : l.length ≤ 1000) : slices_Clone_bool_bool.f l = some l := by
  unfold slices_Clone_bool_bool.f
  rw [if_pos (by omega)]
theorem drop_getD {l : List Int} {i : Nat} (hi : i < l.length) : l.drop i = l.getD i 0 :: l.drop (i + 1) := by
  rw [List.drop_eq_getElem_cons hi]
  simp [List.getD_eq_getElem?_getD, List.getElem?_eq_getElem hi]
theorem getD_set (r : List Bool) (n f : Nat) (v : Bool) : (r.set n v).getD f false = if n = f ∧ n < r.length then v else r.getD f false := by
  simp only [List.getD_eq_getElem?_getD, List.getElem?_set]
  by_cases c : n = f
  · subst c
    by_cases c2 : n < r.length <;> simp [c2]
  · simp [c]
theorem getD_mem {l : List Int} {j : Nat} (hj : j < l.length) : l.getD j 0 ∈ l := by
  simp [List.getD_eq_getElem?_getD, List.getElem?_eq_getElem hj]
structure OkN (a b : List Int) (r : List Bool) : Prop where
  lo : 1 ≤ r.length
  hi : r.length ≤ 256
  nd : (a ++ b).Nodup
  rng : ∀ x ∈ a ++ b, 0 ≤ x ∧ x < (r.length : Int)
  ref : ∀ f : Nat, r.getD f false = true → (f : Int) ∈ a ++ b
theorem OkN.zero {a b : List Int} {r : List Bool} (h : OkN a b r) : lruCheck a b r = 0 := by
  have h1 := h.lo
  have h2 := h.hi
  obtain ⟨n1, n2, n3⟩ := List.nodup_append.1 h.nd
  unfold lruCheck
  have eo : lruOut a b r 0 [] = lruIn r.length (fun s => lruIn r.length (fun s => lruFrom s r 0) b s) a [] := rfl
  rw [if_neg (by omega), if_neg (by omega), eo, lruIn_ok r.length _ a [] (fun x hx => h.rng x (List.mem_append_left _ hx)) n1 (fun x _ hm => by cases hm)]
  rw [lruIn_ok r.length _ b _ (fun x hx => h.rng x (List.mem_append_right _ hx)) n2 (fun x hx hm => by
    simp at hm
    exact n3 x hm x hx rfl)]
  rw [lruFrom_ok _ r 0 (fun j hj => by
    have := h.ref j hj
    simp at this ⊢
    exact this.symm)]
theorem lruIn_zero (N : Nat) (k : List Int → Int) : ∀ (xs seen : List Int), lruIn N k xs seen = 0 → (∀ x ∈ xs, 0 ≤ x ∧ x < (N : Int)) ∧ xs.Nodup ∧ (∀ x ∈ xs, x ∉ seen) ∧ k (xs.reverse ++ seen) = 0
  | [], seen, h => ⟨fun x hx => (by cases hx), List.nodup_nil, fun x hx => (by cases hx), h⟩
  | x :: xs, seen, h => by
    rw [lruIn] at h
    by_cases c1 : x < 0
    · rw [if_pos c1] at h
      omega
    rw [if_neg c1] at h
    by_cases c2 : (N : Int) ≤ x
    · rw [if_pos c2] at h
      omega
    rw [if_neg c2] at h
    by_cases c3 : seen.contains x = true
    · rw [if_pos c3] at h
      omega
    rw [if_neg c3] at h
    obtain ⟨p, q, s, t⟩ := lruIn_zero N k xs (x :: seen) h
    have c3' : x ∉ seen := by simpa using c3
    refine ⟨fun y hy => ?_, ?_, fun y hy => ?_, ?_⟩
    · rcases List.mem_cons.1 hy with rfl | hy
      · omega
      · exact p y hy
    · exact List.nodup_cons.2 ⟨fun hm => s x hm (List.mem_cons_self ..), q⟩
    · rcases List.mem_cons.1 hy with rfl | hy
      · exact c3'
      · exact fun hm => s y hy (List.mem_cons_of_mem _ hm)
    · simpa using t
theorem lruFrom_zero (seen : List Int) : ∀ (bs : List Bool) (f : Nat), lruFrom seen bs f = 0 → ∀ j, bs.getD j false = true → ((f + j : Nat) : Int) ∈ seen
  | [], _, _, j, hj => by simp at hj
  | b :: bs, f, h, 0, hj => by
    have hb : b = true := by simpa using hj
    rw [lruFrom, if_pos hb] at h
    by_cases c : seen.contains (f : Int) = true
    · simpa using c
    · rw [if_neg c] at h
      omega
  | b :: bs, f, h, j + 1, hj => by
    have hj' : bs.getD j false = true := by simpa using hj
    rw [lruFrom] at h
    have h' : lruFrom seen bs (f + 1) = 0 := by
      by_cases c : b = true
      · rw [if_pos c] at h
        by_cases c2 : seen.contains (f : Int) = true
        · rwa [if_pos c2] at h
        · rw [if_neg c2] at h
          omega
      · rwa [if_neg c] at h
    have := lruFrom_zero seen bs (f + 1) h' j hj'
    rwa [show f + 1 + j = f + (j + 1) by omega] at this
theorem OkN.of {a b : List Int} {r : List Bool} (h : lruCheck a b r = 0) : OkN a b r := by
  unfold lruCheck at h
  by_cases c1 : r.length < 1
  · rw [if_pos c1] at h
    omega
  rw [if_neg c1] at h
  by_cases c2 : 256 < r.length
  · rw [if_pos c2] at h
    omega
  rw [if_neg c2] at h
  have eo : lruOut a b r 0 [] = lruIn r.length (fun s => lruIn r.length (fun s => lruFrom s r 0) b s) a [] := rfl
  rw [eo] at h
  obtain ⟨p1, q1, _, t1⟩ := lruIn_zero _ _ _ _ h
  obtain ⟨p2, q2, s2, t2⟩ := lruIn_zero _ _ _ _ t1
  refine ⟨by omega, by omega, List.nodup_append.2 ⟨q1, q2, fun x hx y hy e => ?_⟩, fun x hx => ?_, fun f hf => ?_⟩
  · subst e
    exact s2 x hy (by simpa using hx)
  · rcases List.mem_append.1 hx with hx | hx
    · exact p1 x hx
    · exact p2 x hx
  · have := lruFrom_zero _ _ _ t2 f hf
    rw [Nat.zero_add] at this
    simp at this ⊢
    exact this.symm
theorem rd_last (l : List Int) (h : l.length ≠ 0) : rd l ((l.length - 1 : Nat) : Int) ∈ l := by
  rw [rd_nat]
  exact getD_mem (by omega)
theorem take_last (l : List Int) (h : l.length ≠ 0) : l = l.take (l.length - 1) ++ [rd l ((l.length - 1 : Nat) : Int)] := by
  have e := drop_getD (l := l) (i := l.length - 1) (by omega)
  rw [List.drop_eq_nil_of_le (show l.length ≤ l.length - 1 + 1 by omega)] at e
  rw [rd_nat, ← e, List.take_append_drop]
theorem last_w {l : List Int} (h : l.length ≠ 0) (hl : l.length ≤ 1000) : wrap64 ((l.length : Int) - 1) = ((l.length - 1 : Nat) : Int) := by
  rw [w64 (by omega) (by omega)]
  omega
section
variable {a b : List Int} {r : List Bool}
theorem check_f (ha : a.length ≤ 900) (hb : b.length ≤ 900) : lru_Check.f a b r = some (lruCheck a b r) := by
  unfold lru_Check.f
  rw [if_pos (by omega)]
theorem opened_f (ha : a.length ≤ 900) (hb : b.length ≤ 900) (hr : r.length ≤ 900) : lru_opened.f a b r = if lruCheck a b r = 0 then some (a, b, r, 0) else some ([], [], [], lruCheck a b r) := by
  unfold lru_opened.f
  rw [check_f ha hb, Option.bind_some]
  by_cases c : lruCheck a b r = 0
  · rw [if_pos c, if_pos c, clone_int a (by omega), clone_int b (by omega), clone_bool r (by omega)]
    rfl
  · rw [if_neg c, if_neg c]
def demOf (a b : List Int) (r : List Bool) : List Int × List Int × List Bool × Int × Int := if lruCheck a b r = 0 then (if a.length = 0 then ([], [], [], 0, 6) else (a.take (a.length - 1), rd a ((a.length - 1 : Nat) : Int) :: b, r.set (rd a ((a.length - 1 : Nat) : Int)).toNat false, rd a ((a.length - 1 : Nat) : Int), 0)) else ([], [], [], 0, lruCheck a b r)
def proOf (a b : List Int) (r : List Bool) : List Int × List Int × List Bool × Int × Int := if lruCheck a b r = 0 then (if b.length = 0 then ([], [], [], 0, 6) else (rd b ((b.length - 1 : Nat) : Int) :: a, b.take (b.length - 1), r.set (rd b ((b.length - 1 : Nat) : Int)).toNat false, rd b ((b.length - 1 : Nat) : Int), 0)) else ([], [], [], 0, lruCheck a b r)
theorem dem_f (ha : a.length ≤ 900) (hb : b.length ≤ 900) (hr : r.length ≤ 900) : lru_Demote.f a b r = some (demOf a b r) := by
  unfold lru_Demote.f demOf
  rw [opened_f ha hb hr]
  by_cases c : lruCheck a b r = 0
  · have h := OkN.of c
    rw [if_pos c, if_pos c, Option.bind_some]
    dsimp only
    rw [if_pos rfl]
    by_cases c : a.length = 0
    · rw [if_pos c, if_pos c]
    · have := h.rng _ (List.mem_append_left b (rd_last a c))
      rw [if_neg c, if_neg c, if_pos ⟨by omega, by omega, this.1, by omega⟩]
  · rw [if_neg c, if_neg c, Option.bind_some]
    dsimp only
    rw [if_neg c]
theorem pro_f (ha : a.length ≤ 900) (hb : b.length ≤ 900) (hr : r.length ≤ 900) : lru_Promote.f a b r = some (proOf a b r) := by
  unfold lru_Promote.f proOf
  rw [opened_f ha hb hr]
  by_cases c : lruCheck a b r = 0
  · have h := OkN.of c
    rw [if_pos c, if_pos c, Option.bind_some]
    dsimp only
    rw [if_pos rfl]
    by_cases c : b.length = 0
    · rw [if_pos c, if_pos c]
    · have := h.rng _ (List.mem_append_right a (rd_last b c))
      rw [if_neg c, if_neg c, if_pos ⟨by omega, by omega, this.1, by omega⟩]
  · rw [if_neg c, if_neg c, Option.bind_some]
    dsimp only
    rw [if_neg c]
end

def tgt (s : Nat) : Int := (balance_target.f 60 (s : Int)).getD 0
theorem tgt_all : ∀ m : Fin 61, balance_target.f 60 (m.val : Int) = some (tgt m.val) ∧ 0 ≤ tgt m.val ∧ tgt m.val ≤ 60 ∧ (m.val ≠ 0 → 1 ≤ tgt m.val) := by decide +kernel
theorem tgt_f (s k : Nat) (hs : s ≤ 60) (hk : 60 ≤ k) : balance_target.f k (s : Int) = some (tgt s) := at_rounds (g := fun k => balance_target.f k (s : Int)) (balance_target.mono _) hk (tgt_all ⟨s, by omega⟩).1
theorem tgt_rng (s : Nat) (hs : s ≤ 60) : 0 ≤ tgt s ∧ tgt s ≤ 60 ∧ (s ≠ 0 → 1 ≤ tgt s) := (tgt_all ⟨s, by omega⟩).2
def lk (a b : List Int) : Int := mx 0 (tgt (a.length + b.length) - (b.length : Int))
def wh (a b : List Int) (r : List Bool) : Int := if 0 < a.length ∧ 0 < lk a b then 1 else if b.length = 0 then 0 else if r.getD (rd b ((b.length - 1 : Nat) : Int)).toNat false = true then 2 else 3
section
variable {a b : List Int} {r : List Bool}
theorem sum_w (hs : a.length + b.length ≤ 60) : wrap64 ((a.length : Int) + (b.length : Int)) = ((a.length + b.length : Nat) : Int) := by
  rw [w64 (by omega) (by omega)]
  omega
theorem lacks_f (hs : a.length + b.length ≤ 60) (k : Nat) (hk : 60 ≤ k) : balance_lacks.f k a b r = some (lk a b) := by
  have ht := tgt_rng _ hs
  unfold balance_lacks.f lk
  rw [sum_w hs, tgt_f _ k hs hk, Option.bind_some, w64 (by omega) (by omega)]
theorem which_f (h : OkN a b r) (hs : a.length + b.length ≤ 60) (k : Nat) (hk : 62 ≤ k) : balance_which.f k a b r = some (wh a b r) := by
  unfold balance_which.f wh
  obtain ⟨k, rfl⟩ : ∃ m, k = m + 1 := ⟨k - 1, by omega⟩
  have tail : balance_which.j0 (k + 1) (b.length : Int) false a b r = some (if b.length = 0 then 0 else if r.getD (rd b ((b.length - 1 : Nat) : Int)).toNat false = true then 2 else 3) := by
    rw [balance_which.j0, if_neg (by decide)]
    by_cases cb : b.length = 0
    · rw [if_pos (by omega), if_pos cb]
    · have := h.rng _ (List.mem_append_right a (rd_last b cb))
      rw [if_neg (by omega), if_neg cb, last_w cb (by omega), if_pos (by omega), if_pos (by omega), if_pos this.1, if_pos this.2]
      unfold rdOf
      split <;> rfl
  by_cases ca : 0 < a.length
  · rw [if_pos (by omega), lacks_f hs (k + 1) (by omega), Option.bind_some]
    by_cases cl : 0 < lk a b
    · rw [decide_eq_true cl, if_pos ⟨ca, cl⟩, balance_which.j0, if_pos rfl]
    · rw [decide_eq_false (show ¬ lk a b > 0 from cl), if_neg (fun hh => cl hh.2), tail]
  · rw [if_neg (by omega), if_neg (fun hh => ca hh.1), tail]
theorem Which_f (h : OkN a b r) (hs : a.length + b.length ≤ 60) (k : Nat) (hk : 62 ≤ k) : balance_Which.f k a b r = some (wh a b r, 0) := by
  unfold balance_Which.f
  rw [check_f (by omega) (by omega), Option.bind_some, if_pos h.zero, which_f h hs k hk]
  rfl
theorem OkN.off (h : OkN a b r) (f : Nat) : OkN a b (r.set f false) :=
  ⟨by rw [List.length_set]; exact h.lo, by rw [List.length_set]; exact h.hi, h.nd, fun x hx => by rw [List.length_set]; exact h.rng x hx, fun g hg => by
    rw [getD_set] at hg
    split at hg
    · cases hg
    · exact h.ref g hg⟩
theorem OkN.perm {a' b' : List Int} (h : OkN a b r) (hp : (a' ++ b').Perm (a ++ b)) : OkN a' b' r :=
  ⟨h.lo, h.hi, hp.nodup_iff.2 h.nd, fun x hx => h.rng x (hp.mem_iff.1 hx), fun g hg => hp.mem_iff.2 (h.ref g hg)⟩
theorem OkN.dem (h : OkN a b r) (c : a.length ≠ 0) : OkN (a.take (a.length - 1)) (rd a ((a.length - 1 : Nat) : Int) :: b) (r.set (rd a ((a.length - 1 : Nat) : Int)).toNat false) := by
  refine (h.off _).perm (List.Perm.of_eq ?_)
  conv => rhs; rw [take_last a c]
  simp
theorem OkN.pro (h : OkN a b r) (c : b.length ≠ 0) : OkN (rd b ((b.length - 1 : Nat) : Int) :: a) (b.take (b.length - 1)) (r.set (rd b ((b.length - 1 : Nat) : Int)).toNat false) := by
  refine (h.off _).perm ?_
  have e := take_last b c
  generalize rd b ((b.length - 1 : Nat) : Int) = f at *
  generalize b.take (b.length - 1) = p at *
  subst e
  have h1 : (f :: a ++ p).Perm (f :: (a ++ p)) := List.Perm.refl _
  refine h1.trans ?_
  rw [← List.append_assoc]
  exact (List.perm_append_comm (l₁ := [f]) (l₂ := a ++ p))
theorem count_le : ∀ (r : List Bool) (n : Nat), (r.set n false).count true ≤ r.count true
  | [], n => by simp
  | x :: xs, 0 => by cases x <;> simp
  | x :: xs, n + 1 => by
    have := count_le xs n
    rw [List.set_cons_succ, List.count_cons, List.count_cons]
    omega
theorem count_lt : ∀ (r : List Bool) (n : Nat), r.getD n false = true → (r.set n false).count true + 1 = r.count true
  | [], n, h => by simp at h
  | x :: xs, 0, h => by
    have : x = true := by simpa using h
    subst this
    simp
  | x :: xs, n + 1, h => by
    have := count_lt xs n (by simpa using h)
    rw [List.set_cons_succ, List.count_cons, List.count_cons]
    omega
def meas (a b : List Int) (r : List Bool) : Nat := 2 * r.count true + (tgt (a.length + b.length) - (b.length : Int)).toNat
def dA (a : List Int) : List Int := a.take (a.length - 1)
def dF (a : List Int) : Int := rd a ((a.length - 1 : Nat) : Int)
theorem dA_len (c : a.length ≠ 0) : (dA a).length + 1 = a.length := by
  unfold dA
  rw [List.length_take]
  omega
theorem wh_one (c : wh a b r = 1) : a.length ≠ 0 ∧ 0 < lk a b := by
  unfold wh at c
  by_cases h : 0 < a.length ∧ 0 < lk a b
  · exact ⟨by omega, h.2⟩
  · rw [if_neg h] at c
    split at c
    · omega
    · split at c <;> omega
theorem wh_two (c : wh a b r = 2) : b.length ≠ 0 ∧ r.getD (dF b).toNat false = true := by
  unfold wh at c
  by_cases h : 0 < a.length ∧ 0 < lk a b
  · rw [if_pos h] at c
    omega
  · rw [if_neg h] at c
    by_cases h2 : b.length = 0
    · rw [if_pos h2] at c
      omega
    · rw [if_neg h2] at c
      by_cases h3 : r.getD (rd b ((b.length - 1 : Nat) : Int)).toNat false = true
      · exact ⟨h2, h3⟩
      · rw [if_neg h3] at c
        omega
theorem wh_rng : 0 ≤ wh a b r ∧ wh a b r ≤ 3 := by
  unfold wh
  split
  · omega
  · split
    · omega
    · split <;> omega
theorem lk_pos (c : 0 < lk a b) : (b.length : Int) < tgt (a.length + b.length) := by
  unfold lk mx at c
  split at c <;> omega
theorem meas_dem (c : wh a b r = 1) : meas (dA a) (dF a :: b) (r.set (dF a).toNat false) + 1 ≤ meas a b r := by
  obtain ⟨h1, h2⟩ := wh_one c
  have h3 := lk_pos h2
  have h4 := dA_len h1
  have h5 := count_le r (dF a).toNat
  unfold meas
  rw [show (dA a).length + (dF a :: b).length = a.length + b.length by rw [List.length_cons]; omega, List.length_cons]
  omega
theorem meas_pro (c : wh a b r = 2) : meas (dF b :: a) (dA b) (r.set (dF b).toNat false) + 1 ≤ meas a b r := by
  obtain ⟨h1, h2⟩ := wh_two c
  have h4 := dA_len h1
  have h5 := count_lt r (dF b).toNat h2
  unfold meas
  rw [show (dF b :: a).length + (dA b).length = a.length + b.length by rw [List.length_cons]; omega]
  omega
theorem demote_f (h : OkN a b r) (hs : a.length + b.length ≤ 60) (c : a.length ≠ 0) : lru_Demote.f a b r = some (dA a, dF a :: b, r.set (dF a).toNat false, dF a, 0) := by
  have := h.hi
  rw [dem_f (by omega) (by omega) (by omega), demOf, if_pos h.zero, if_neg c]
  rfl
theorem promote_f (h : OkN a b r) (hs : a.length + b.length ≤ 60) (c : b.length ≠ 0) : lru_Promote.f a b r = some (dF b :: a, dA b, r.set (dF b).toNat false, dF b, 0) := by
  have := h.hi
  rw [pro_f (by omega) (by omega) (by omega), proOf, if_pos h.zero, if_neg c]
  rfl
theorem steps_f (h : OkN a b r) (k : Nat) (v : Int) (ha : a.length + b.length ≤ 60) (hl : balance_Steps.l0 k a b r 0 = some v) : balance_Steps.f k a b r = some (v, 0) := by
  unfold balance_Steps.f
  rw [check_f (by omega) (by omega), Option.bind_some, if_pos h.zero, hl]
  rfl
end

theorem mod_f (a n : Int) (h1 : 1 ≤ n) (h2 : n ≤ 4611686018427387904) : headgatekit_Mod.f a n = some (a % n) := by
  unfold headgatekit_Mod.f
  rw [if_neg (by omega), if_neg (by omega)]
  have e := Int.tmod_eq_emod (a := a) (b := n)
  have g0 := Int.emod_nonneg a (show n ≠ 0 by omega)
  have g1 := Int.emod_lt_of_pos a (show 0 < n by omega)
  by_cases c : 0 ≤ a ∨ n ∣ a
  · rw [if_pos c] at e
    rw [if_neg (by omega), e]
    simp
  · rw [if_neg c] at e
    have hn : (n.natAbs : Int) = n := by omega
    have hd : a % n ≠ 0 := fun h => c (.inr (Int.dvd_of_emod_eq_zero h))
    rw [hn] at e
    rw [if_pos (by omega), e]
    congr 1
    unfold wrap64
    omega

def frameOf (i : Nat) : Int := (((5 * i + 3) % 16 : Nat) : Int)
theorem frame_num : ∀ i : Fin 16, Int.tmod (wrap64 ((wrap64 (5 * (i.val : Int))) + 3)) 16 = frameOf i.val := by decide +kernel
theorem frame_inj : ∀ i j : Fin 16, frameOf i.val = frameOf j.val → i = j := by decide +kernel
theorem frame_rng (i : Nat) : 0 ≤ frameOf i ∧ frameOf i < 16 := by unfold frameOf; omega
structure Form (i : Nat) (a b : List Int) (r : List Bool) : Prop where
  len : r.length = 16
  size : a.length + b.length ≤ i
  nd : (a ++ b).Nodup
  from_ : ∀ x ∈ a ++ b, ∃ j, j < i ∧ x = frameOf j
  ref : ∀ f : Nat, r.getD f false = true → (f : Int) ∈ a ++ b
theorem Form.fresh {i : Nat} {a b : List Int} {r : List Bool} (h : Form i a b r) (hi : i < 16) : frameOf i ∉ a ++ b := fun hm => by
  obtain ⟨j, hj, he⟩ := h.from_ _ hm
  have := frame_inj ⟨i, hi⟩ ⟨j, by omega⟩ he
  simp at this
  omega
theorem Form.next {i : Nat} {a b : List Int} {r : List Bool} (h : Form i a b r) : Form (i + 1) a b (r.set (frameOf i).toNat false) :=
  ⟨by rw [List.length_set, h.len], by have := h.size; omega, h.nd, fun x hx => by obtain ⟨j, hj, he⟩ := h.from_ x hx; exact ⟨j, by omega, he⟩, fun f hf => by
    rw [getD_set] at hf
    split at hf
    · cases hf
    · exact h.ref f hf⟩
theorem Form.act {i : Nat} {a b : List Int} {r : List Bool} (h : Form i a b r) (hi : i < 16) (v : Bool) : Form (i + 1) (a ++ [frameOf i]) b (r.set (frameOf i).toNat v) := by
  have hf := h.fresh hi
  have hm : ∀ x, x ∈ a ++ [frameOf i] ++ b ↔ x = frameOf i ∨ x ∈ a ++ b := fun x => by simp; constructor <;> (rintro (h | h | h) <;> simp [h])
  refine ⟨by rw [List.length_set, h.len], by have := h.size; simp; omega, ?_, fun x hx => ?_, fun f hfr => ?_⟩
  · have hp : (a ++ [frameOf i] ++ b).Perm (frameOf i :: (a ++ b)) := by
      rw [List.append_assoc]
      exact List.perm_middle
    exact hp.nodup_iff.2 (List.nodup_cons.2 ⟨hf, h.nd⟩)
  · rcases (hm x).1 hx with rfl | hx
    · exact ⟨i, by omega, rfl⟩
    · obtain ⟨j, hj, he⟩ := h.from_ x hx
      exact ⟨j, by omega, he⟩
  · rw [getD_set] at hfr
    rw [hm]
    have := frame_rng i
    split at hfr
    · left; omega
    · right; exact h.ref f hfr
theorem Form.inact {i : Nat} {a b : List Int} {r : List Bool} (h : Form i a b r) (hi : i < 16) (v : Bool) : Form (i + 1) a (frameOf i :: b) (r.set (frameOf i).toNat v) := by
  have hf := h.fresh hi
  have hm : ∀ x, x ∈ a ++ frameOf i :: b ↔ x = frameOf i ∨ x ∈ a ++ b := fun x => by simp; constructor <;> (rintro (h | h | h) <;> simp [h])
  refine ⟨by rw [List.length_set, h.len], by have := h.size; simp; omega, ?_, fun x hx => ?_, fun f hfr => ?_⟩
  · exact (List.perm_middle.nodup_iff).2 (List.nodup_cons.2 ⟨hf, h.nd⟩)
  · rcases (hm x).1 hx with rfl | hx
    · exact ⟨i, by omega, rfl⟩
    · obtain ⟨j, hj, he⟩ := h.from_ x hx
      exact ⟨j, by omega, he⟩
  · rw [getD_set] at hfr
    rw [hm]
    have := frame_rng i
    split at hfr
    · left; omega
    · right; exact h.ref f hfr
theorem at_f (l : List Int) (i : Int) : ∃ v, headgatekit_At.f l i = some v := by
  unfold headgatekit_At.f
  by_cases c1 : i < 0
  · exact ⟨_, if_pos c1⟩
  · by_cases c2 : i ≥ (l.length : Int)
    · exact ⟨_, by rw [if_neg c1, if_pos c2]⟩
    · exact ⟨_, by rw [if_neg c1, if_neg c2, if_pos (by omega), if_pos (by omega)]⟩
theorem made_step (x0 : List Int) : ∀ (d i k : Nat) (a b : List Int) (r : List Bool), i + d = 16 → d < k → Form i a b r → ∃ a' b' r', headgatelaw31_made.l0 k x0 (i : Int) a b r = some (a', b', r') ∧ Form 16 a' b' r'
  | 0, i, k, a, b, r, hd, hk, hf => by
    obtain ⟨k, rfl⟩ : ∃ m, k = m + 1 := ⟨k - 1, by omega⟩
    obtain rfl : i = 16 := by omega
    exact ⟨a, b, r, by rw [headgatelaw31_made.l0, if_neg (by omega)], hf⟩
  | d + 1, i, k, a, b, r, hd, hk, hf => by
    obtain ⟨k, rfl⟩ : ∃ m, k = m + 1 := ⟨k - 1, by omega⟩
    have hi : i < 16 := by omega
    have hn := frame_num ⟨i, hi⟩
    simp only at hn
    obtain ⟨v, hv⟩ := at_f x0 (i : Int)
    have hr := frame_rng i
    have hl := hf.len
    have hs := hf.size
    have g0 := Int.emod_nonneg v (show (24 : Int) ≠ 0 by omega)
    rw [headgatelaw31_made.l0, if_pos (by omega), hv, hn]
    simp only [Option.bind_some]
    rw [mod_f v 24 (by omega) (by omega)]
    simp only [Option.bind_some]
    rw [nat_succ (by omega)]
    generalize hm : v % 24 = m at *
    have ht : Int.tmod m 3 = m % 3 := Int.tmod_eq_emod_of_nonneg g0
    have g1 := Int.emod_nonneg m (show (3 : Int) ≠ 0 by omega)
    have g2 := Int.emod_lt_of_pos m (show (0 : Int) < 3 by omega)
    rw [ht]
    generalize m % 3 = q at *
    clear ht hm
    by_cases c1 : q = 1
    · rw [if_pos c1, if_pos (by omega), if_pos (by omega), if_pos (by omega), if_pos (by omega)]
      exact made_step x0 d (i + 1) k _ _ _ (by omega) (by omega) (hf.act hi _)
    · by_cases c2 : q = 2
      · rw [if_neg c1, if_pos c2, if_pos (by simp; omega), if_pos (by omega), if_pos (by omega), if_pos (by omega)]
        exact made_step x0 d (i + 1) k _ _ _ (by omega) (by omega) (hf.inact hi _)
      · rw [if_neg c1, if_neg c2, if_neg (by omega), if_pos (by omega), if_pos (by omega)]
        exact made_step x0 d (i + 1) k _ _ _ (by omega) (by omega) hf.next
theorem made_ok (x0 : List Int) (k : Nat) (hk : 20 < k) : ∃ a b r, headgatelaw31_made.f k x0 = some (a, b, r) ∧ OkN a b r ∧ a.length + b.length ≤ 16 ∧ r.length = 16 := by
  unfold headgatelaw31_made.f
  rw [if_pos (by decide)]
  obtain ⟨a, b, r, h1, h2⟩ := made_step x0 16 0 k [] [] (List.replicate 16 false) (by omega) (by omega) ⟨by simp, by simp, by simp, fun x hx => (by cases hx), fun f hf => (by
    rw [List.getD_eq_getElem?_getD, List.getElem?_replicate] at hf
    split at hf <;> simp at hf)⟩
  have hl := h2.len
  exact ⟨a, b, r, h1, ⟨by omega, by omega, h2.nd, fun x hx => (by obtain ⟨j, _, rfl⟩ := h2.from_ x hx; have := frame_rng j; omega), h2.ref⟩, h2.size, hl⟩

theorem awake_true (k : Nat) (hk : 60 ≤ k) : headgatelaw31_awake.f k = some true := at_rounds (g := headgatelaw31_awake.f) headgatelaw31_awake.mono hk (by decide +kernel)
theorem wh_end {a b : List Int} {r : List Bool} (hs : a.length + b.length ≤ 60) (c1 : wh a b r ≠ 1) (c2 : wh a b r ≠ 2) : wh a b r = if a.length + b.length = 0 then 0 else 3 := by
  have ht := tgt_rng _ hs
  unfold wh at *
  by_cases h : 0 < a.length ∧ 0 < lk a b
  · rw [if_pos h] at c1
    exact absurd rfl c1
  · rw [if_neg h] at *
    by_cases h2 : b.length = 0
    · rw [if_pos h2] at *
      have hl : lk a b = mx 0 (tgt (a.length + b.length) - (b.length : Int)) := rfl
      by_cases h3 : a.length = 0
      · rw [if_pos (by omega)]
      · exfalso
        apply h
        refine ⟨by omega, ?_⟩
        rw [hl]
        have := ht.2.2 (by omega)
        unfold mx
        split <;> omega
    · rw [if_neg h2] at *
      by_cases h3 : r.getD (rd b ((b.length - 1 : Nat) : Int)).toNat false = true
      · rw [if_pos h3] at c2
        exact absurd rfl c2
      · rw [if_neg h3, if_neg (by omega)]
theorem ends_run (s : Nat) (hs : s ≤ 60) : ∀ (M : Nat) (a b : List Int) (r : List Bool) (i k : Nat), OkN a b r → (s = 0 → i = 0) → a.length + b.length = s → meas a b r ≤ M → i + M ≤ 200 → M + 300 ≤ k →
    ∃ v : Nat, balance_Steps.l0 k a b r (i : Int) = some (v : Int) ∧ i ≤ v ∧ v ≤ i + M ∧ headgatelaw31_BalanceEnds.l0 k (s : Int) (v : Int) (i : Int) a b r = some true
  | M, a, b, r, i, k, h, hz, hss, hm, hi, hk => by
    obtain ⟨k, rfl⟩ : ∃ m, k = m + 1 := ⟨k - 1, by omega⟩
    have hW := Which_f h (by omega) k (by omega)
    have hw := which_f h (by omega) k (by omega)
    have hrng := wh_rng (a := a) (b := b) (r := r)
    have hin : wrap64 ((i : Int) + 1) = ((i + 1 : Nat) : Int) := nat_succ (by omega)
    by_cases c1 : wh a b r = 1
    · match M, hm, hi, hk with
      | 0, hm, hi, hk => have := meas_dem c1; omega
      | M + 1, hm, hi, hk =>
        obtain ⟨h1, _⟩ := wh_one c1
        have hms := meas_dem c1
        have hlen := dA_len h1
        obtain ⟨v, v1, v2, v3, v4⟩ := ends_run s hs M (dA a) (dF a :: b) (r.set (dF a).toNat false) (i + 1) k (h.dem h1) (by omega) (by rw [List.length_cons]; omega) (by omega) (by omega) (by omega)
        refine ⟨v, ?_, by omega, by omega, ?_⟩
        · rw [balance_Steps.l0, hw, Option.bind_some, if_pos c1, if_pos ⟨by omega, by omega⟩, demote_f h (by omega) h1, Option.bind_some]
          exact v1
        · rw [headgatelaw31_BalanceEnds.l0, if_pos (by omega), hW, Option.bind_some, if_pos rfl]
          dsimp only
          rw [if_pos c1, demote_f h (by omega) h1, Option.bind_some]
          dsimp only
          rw [if_pos rfl, sum_w (by rw [List.length_cons]; omega), if_pos (by rw [List.length_cons]; omega), hin]
          exact v4
    · by_cases c2 : wh a b r = 2
      · match M, hm, hi, hk with
        | 0, hm, hi, hk => have := meas_pro c2; omega
        | M + 1, hm, hi, hk =>
          obtain ⟨h1, _⟩ := wh_two c2
          have hms := meas_pro c2
          have hlen := dA_len h1
          obtain ⟨v, v1, v2, v3, v4⟩ := ends_run s hs M (dF b :: a) (dA b) (r.set (dF b).toNat false) (i + 1) k (h.pro h1) (by omega) (by rw [List.length_cons]; omega) (by omega) (by omega) (by omega)
          refine ⟨v, ?_, by omega, by omega, ?_⟩
          · rw [balance_Steps.l0, hw, Option.bind_some, if_neg c1, if_pos c2, if_pos ⟨by omega, by omega⟩, promote_f h (by omega) h1, Option.bind_some]
            exact v1
          · rw [headgatelaw31_BalanceEnds.l0, if_pos (by omega), hW, Option.bind_some, if_pos rfl]
            dsimp only
            rw [if_neg c1, if_pos c2, promote_f h (by omega) h1, Option.bind_some]
            dsimp only
            rw [if_pos rfl, sum_w (by rw [List.length_cons]; omega), if_pos (by rw [List.length_cons]; omega), hin]
            exact v4
      · have he := wh_end (by omega) c1 c2
        have stop : ∀ (k : Nat) (x : Int), 62 ≤ k → balance_Steps.l0 (k + 1) a b r x = some x := fun k x hk => by
          rw [balance_Steps.l0, which_f h (by omega) k (by omega), Option.bind_some, if_neg c1, if_neg c2, if_pos hrng]
        refine ⟨i, stop k i (by omega), Nat.le_refl _, by omega, ?_⟩
        rw [headgatelaw31_BalanceEnds.l0, if_neg (by omega)]
        have hlaw : ∀ (x : Int), headgatelaw31_which.f k a b r x = if wh a b r = x then some true else some false := fun x => by
          unfold headgatelaw31_which.f
          rw [hW, Option.bind_some]
          rfl
        by_cases cs : s = 0
        · have hi0 := hz cs
          rw [if_pos (by omega), if_pos (by omega), hlaw, if_pos (by rw [he, if_pos (by omega)]), Option.bind_some, if_pos rfl, awake_true _ (by omega)]
          rfl
        · rw [if_neg (by omega)]
          obtain ⟨k, rfl⟩ : ∃ m, k = m + 1 := ⟨k - 1, by omega⟩
          rw [steps_f h (k + 1) 0 (by omega) (stop k 0 (by omega)), Option.bind_some]
          dsimp only
          rw [if_pos rfl, if_pos rfl, hlaw, if_pos (by rw [he, if_neg (by omega)]), Option.bind_some, if_pos rfl, awake_true _ (by omega)]
          rfl
theorem BalanceEnds : headgatelaw31_BalanceEnds.Pure := by
  intro l _ _ _
  obtain ⟨a, b, r, hm, h, hs, hr⟩ := made_ok l 1001 (by omega)
  have ht := tgt_rng (a.length + b.length) (by omega)
  have hc : r.count true ≤ r.length := List.count_le_length ..
  have hme : meas a b r ≤ 100 := by
    unfold meas
    omega
  obtain ⟨v, v1, v2, v3, v4⟩ := ends_run (a.length + b.length) (by omega) 100 a b r 0 1000 h (by omega) rfl hme (by omega) (by omega)
  refine ⟨1001, ?_⟩
  unfold headgatelaw31_BalanceEnds.f
  have v5 := balance_Steps.mono_l 1000 a b r 0 _ v1
  rw [hm, Option.bind_some]
  dsimp only
  rw [steps_f h 1001 v (by omega) v5, Option.bind_some]
  dsimp only
  rw [if_pos rfl, if_neg (by omega), decide_eq_false (by omega), sum_w (by omega), headgatelaw31_BalanceEnds.j0, if_neg (by decide)]
  exact v4

end Go.Proofs.Ytnheknlmmmkbpaa.Pure
