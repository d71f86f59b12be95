/- What is done with lists next, by how many frames the inactive one is too short, and how many steps there are, or which errors: BalanceWhich returns true, for any lists. -/
import Derived.Test.YtnheknlmmmkbpaaX62
namespace Go.Proofs.Ytnheknlmmmkbpaa.Pure
open Go.RowKit Go.Proofs.Ytnheknlmmmkbpaa.X Go.Proofs.YtnheknlmmmkbpaaW.PrintWords Go.Proofs.YtnheknlmmmkbpaaW.PrintLast
set_option linter.unusedVariables false
set_option linter.unusedSimpArgs false

theorem w64 {x : Int} (h0 : -9223372036854775808 ≤ x) (h1 : x ≤ 9223372036854775807) : wrap64 x = x := by
  unfold wrap64
  omega

theorem nat_succ {i : Nat} (h : i ≤ 1000) : wrap64 ((i : Int) + 1) = ((i + 1 : Nat) : Int) := by rw [w64 (by omega) (by omega)]; omega
theorem rd_nat (l : List Int) (i : Nat) : rd l (i : Int) = l.getD i 0 := rfl
theorem lruIn_ok (N : Nat) (k : List Int → Int) : ∀ (xs seen : List Int), (∀ x ∈ xs, 0 ≤ x ∧ x < (N : Int)) → xs.Nodup → (∀ x ∈ xs, x ∉ seen) → lruIn N k xs seen = k (xs.reverse ++ seen)
  | [], seen, _, _, _ => rfl
  | x :: xs, seen, h1, h2, h3 => by
    obtain ⟨p, q⟩ := h1 x (List.mem_cons_self ..)
    have h4 := List.nodup_cons.1 h2
    rw [lruIn, if_neg (by omega), if_neg (by omega), if_neg (by simpa using h3 x (List.mem_cons_self ..)),
      lruIn_ok N k xs (x :: seen) (fun y hy => h1 y (List.mem_cons_of_mem _ hy)) h4.2 (fun y hy hm => by
        rcases List.mem_cons.1 hm with rfl | hm
        · exact h4.1 hy
        · exact h3 y (List.mem_cons_of_mem _ hy) hm)]
    simp
theorem lruFrom_ok (seen : List Int) : ∀ (bs : List Bool) (f : Nat), (∀ j, bs.getD j false = true → ((f + j : Nat) : Int) ∈ seen) → lruFrom seen bs f = 0
  | [], _, _ => rfl
  | b :: bs, f, h => by
    have ih := lruFrom_ok seen bs (f + 1) (fun j hj => by
      have := h (j + 1) (by simpa using hj)
      rwa [show f + 1 + j = f + (j + 1) by omega])
    rw [lruFrom]
    by_cases c : b = true
    · have := h 0 (by simpa using c)
      rw [if_pos c, if_pos (by simpa using this), ih]
    · rw [if_neg c, ih]
theorem clone_int (l : List Int) (h : l.length ≤ 1000) : slices_Clone_int_int.f l = some l := by
  unfold slices_Clone_int_int.f
  rw [if_pos (by omega)]
theorem clone_bool (l : List Bool) (h : l.length ≤ 1000) : slices_Clone_bool_bool.f l = some l := by
  unfold slices_Clone_bool_bool.f
  rw [if_pos (by omega)]
theorem drop_getD {l : List Int} {i : Nat} (hi : i < l.length) : l.drop i = l.getD i 0 :: l.drop (i + 1) := by
  rw [List.drop_eq_getElem_cons hi]
  simp [List.getD_eq_getElem?_getD, List.getElem?_eq_getElem hi]
theorem getD_set (r : List Bool) (n f : Nat) (v : Bool) : (r.set n v).getD f false = if n = f ∧ n < r.length then v else r.getD f false := by
  simp only [List.getD_eq_getElem?_getD, List.getElem?_set]
  by_cases c : n = f
  · subst c
    by_cases c2 : n < r.length <;> simp [c2]
  · simp [c]
theorem getD_mem {l : List Int} {j : Nat} (hj : j < l.length) : l.getD j 0 ∈ l := by
  simp [List.getD_eq_getElem?_getD, List.getElem?_eq_getElem hj]
structure OkN (a b : List Int) (r : List Bool) : Prop where
  lo : 1 ≤ r.length
  hi : r.length ≤ 256
  nd : (a ++ b).Nodup
  rng : ∀ x ∈ a ++ b, 0 ≤ x ∧ x < (r.length : Int)
  ref : ∀ f : Nat, r.getD f false = true → (f : Int) ∈ a ++ b
theorem OkN.zero {a b : List Int} {r : List Bool} (h : OkN a b r) : lruCheck a b r = 0 := by
  have h1 := h.lo
  have h2 := h.hi
  obtain ⟨n1, n2, n3⟩ := List.nodup_append.1 h.nd
  unfold lruCheck
  have eo : lruOut a b r 0 [] = lruIn r.length (fun s => lruIn r.length (fun s => lruFrom s r 0) b s) a [] := rfl
  rw [if_neg (by omega), if_neg (by omega), eo, lruIn_ok r.length _ a [] (fun x hx => h.rng x (List.mem_append_left _ hx)) n1 (fun x _ hm => by cases hm)]
  rw [lruIn_ok r.length _ b _ (fun x hx => h.rng x (List.mem_append_right _ hx)) n2 (fun x hx hm => by
    simp at hm
    exact n3 x hm x hx rfl)]
  rw [lruFrom_ok _ r 0 (fun j hj => by
    have := h.ref j hj
    simp at this ⊢
    exact this.symm)]
theorem lruIn_zero (N : Nat) (k : List Int → Int) : ∀ (xs seen : List Int), lruIn N k xs seen = 0 → (∀ x ∈ xs, 0 ≤ x ∧ x < (N : Int)) ∧ xs.Nodup ∧ (∀ x ∈ xs, x ∉ seen) ∧ k (xs.reverse ++ seen) = 0
  | [], seen, h => ⟨fun x hx => (by cases hx), List.nodup_nil, fun x hx => (by cases hx), h⟩
  | x :: xs, seen, h => by
    rw [lruIn] at h
    by_cases c1 : x < 0
    · rw [if_pos c1] at h
      omega
    rw [if_neg c1] at h
    by_cases c2 : (N : Int) ≤ x
    · rw [if_pos c2] at h
      omega
    rw [if_neg c2] at h
    by_cases c3 : seen.contains x = true
    · rw [if_pos c3] at h
      omega
    rw [if_neg c3] at h
    obtain ⟨p, q, s, t⟩ := lruIn_zero N k xs (x :: seen) h
    have c3' : x ∉ seen := by simpa using c3
    refine ⟨fun y hy => ?_, ?_, fun y hy => ?_, ?_⟩
    · rcases List.mem_cons.1 hy with rfl | hy
      · omega
      · exact p y hy
    · exact List.nodup_cons.2 ⟨fun hm => s x hm (List.mem_cons_self ..), q⟩
    · rcases List.mem_cons.1 hy with rfl | hy
      · exact c3'
      · exact fun hm => s y hy (List.mem_cons_of_mem _ hm)
    · simpa using t
theorem lruFrom_zero (seen : List Int) : ∀ (bs : List Bool) (f : Nat), lruFrom seen bs f = 0 → ∀ j, bs.getD j false = true → ((f + j : Nat) : Int) ∈ seen
  | [], _, _, j, hj => by simp at hj
  | b :: bs, f, h, 0, hj => by
    have hb : b = true := by simpa using hj
    rw [lruFrom, if_pos hb] at h
    by_cases c : seen.contains (f : Int) = true
    · simpa using c
    · rw [if_neg c] at h
      omega
  | b :: bs, f, h, j + 1, hj => by
    have hj' : bs.getD j false = true := by simpa using hj
    rw [lruFrom] at h
    have h' : lruFrom seen bs (f + 1) = 0 := by
      by_cases c : b = true
      · rw [if_pos c] at h
        by_cases c2 : seen.contains (f : Int) = true
        · rwa [if_pos c2] at h
        · rw [if_neg c2] at h
          omega
      · rwa [if_neg c] at h
    have := lruFrom_zero seen bs (f + 1) h' j hj'
    rwa [show f + 1 + j = f + (j + 1) by omega] at this
theorem OkN.of {a b : List Int} {r : List Bool} (h : lruCheck a b r = 0) : OkN a b r := by
  unfold lruCheck at h
  by_cases c1 : r.length < 1
  · rw [if_pos c1] at h
    omega
  rw [if_neg c1] at h
  by_cases c2 : 256 < r.length
  · rw [if_pos c2] at h
    omega
  rw [if_neg c2] at h
  have eo : lruOut a b r 0 [] = lruIn r.length (fun s => lruIn r.length (fun s => lruFrom s r 0) b s) a [] := rfl
  rw [eo] at h
  obtain ⟨p1, q1, _, t1⟩ := lruIn_zero _ _ _ _ h
  obtain ⟨p2, q2, s2, t2⟩ := lruIn_zero _ _ _ _ t1
  refine ⟨by omega, by omega, List.nodup_append.2 ⟨q1, q2, fun x hx y hy e => ?_⟩, fun x hx => ?_, fun f hf => ?_⟩
  · subst e
    exact s2 x hy (by simpa using hx)
  · rcases List.mem_append.1 hx with hx | hx
    · exact p1 x hx
    · exact p2 x hx
  · have := lruFrom_zero _ _ _ t2 f hf
    rw [Nat.zero_add] at this
    simp at this ⊢
    exact this.symm
theorem rd_last (l : List Int) (h : l.length ≠ 0) : rd l ((l.length - 1 : Nat) : Int) ∈ l := by
  rw [rd_nat]
  exact getD_mem (by omega)
theorem take_last (l : List Int) (h : l.length ≠ 0) : l = l.take (l.length - 1) ++ [rd l ((l.length - 1 : Nat) : Int)] := by
  have e := drop_getD (l := l) (i := l.length - 1) (by omega)
  rw [List.drop_eq_nil_of_le (show l.length ≤ l.length - 1 + 1 by omega)] at e
  rw [rd_nat, ← e, List.take_append_drop]
theorem last_w {l : List Int} (h : l.length ≠ 0) (hl : l.length ≤ 1000) : wrap64 ((l.length : Int) - 1) = ((l.length - 1 : Nat) : Int) := by
  rw [w64 (by omega) (by omega)]
  omega
section
variable {a b : List Int} {r : List Bool}
theorem check_f (ha : a.length ≤ 900) (hb : b.length ≤ 900) : lru_Check.f a b r = some (lruCheck a b r) := by
  unfold lru_Check.f
  rw [if_pos (by omega)]
theorem opened_f (ha : a.length ≤ 900) (hb : b.length ≤ 900) (hr : r.length ≤ 900) : lru_opened.f a b r = if lruCheck a b r = 0 then some (a, b, r, 0) else some ([], [], [], lruCheck a b r) := by
  unfold lru_opened.f
  rw [check_f ha hb, Option.bind_some]
  by_cases c : lruCheck a b r = 0
  · rw [if_pos c, if_pos c, clone_int a (by omega), clone_int b (by omega), clone_bool r (by omega)]
    rfl
  · rw [if_neg c, if_neg c]
def demOf (a b : List Int) (r : List Bool) : List Int × List Int × List Bool × Int × Int := if lruCheck a b r = 0 then (if a.length = 0 then ([], [], [], 0, 6) else (a.take (a.length - 1), rd a ((a.length - 1 : Nat) : Int) :: b, r.set (rd a ((a.length - 1 : Nat) : Int)).toNat false, rd a ((a.length - 1 : Nat) : Int), 0)) else ([], [], [], 0, lruCheck a b r)
def proOf (a b : List Int) (r : List Bool) : List Int × List Int × List Bool × Int × Int := if lruCheck a b r = 0 then (if b.length = 0 then ([], [], [], 0, 6) else (rd b ((b.length - 1 : Nat) : Int) :: a, b.take (b.length - 1), r.set (rd b ((b.length - 1 : Nat) : Int)).toNat false, rd b ((b.length - 1 : Nat) : Int), 0)) else ([], [], [], 0, lruCheck a b r)
theorem dem_f (ha : a.length ≤ 900) (hb : b.length ≤ 900) (hr : r.length ≤ 900) : lru_Demote.f a b r = some (demOf a b r) := by
  unfold lru_Demote.f demOf
  rw [opened_f ha hb hr]
  by_cases c : lruCheck a b r = 0
  · have h := OkN.of c
    rw [if_pos c, if_pos c, Option.bind_some]
    dsimp only
    rw [if_pos rfl]
    by_cases c : a.length = 0
    · rw [if_pos c, if_pos c]
    · have := h.rng _ (List.mem_append_left b (rd_last a c))
      rw [if_neg c, if_neg c, if_pos ⟨by omega, by omega, this.1, by omega⟩]
  · rw [if_neg c, if_neg c, Option.bind_some]
    dsimp only
    rw [if_neg c]
theorem pro_f (ha : a.length ≤ 900) (hb : b.length ≤ 900) (hr : r.length ≤ 900) : lru_Promote.f a b r = some (proOf a b r) := by
  unfold lru_Promote.f proOf
  rw [opened_f ha hb hr]
  by_cases c : lruCheck a b r = 0
  · have h := OkN.of c
    rw [if_pos c, if_pos c, Option.bind_some]
    dsimp only
    rw [if_pos rfl]
    by_cases c : b.length = 0
    · rw [if_pos c, if_pos c]
    · have := h.rng _ (List.mem_append_right a (rd_last b c))
      rw [if_neg c, if_neg c, if_pos ⟨by omega, by omega, this.1, by omega⟩]
  · rw [if_neg c, if_neg c, Option.bind_some]
    dsimp only
    rw [if_neg c]
end

def tgt (s : Nat) : Int := (balance_target.f 60 (s : Int)).getD 0
theorem tgt_all : ∀ m : Fin 61, balance_target.f 60 (m.val : Int) = some (tgt m.val) ∧ 0 ≤ tgt m.val ∧ tgt m.val ≤ 60 ∧ (m.val ≠ 0 → 1 ≤ tgt m.val) := by decide +kernel
theorem tgt_f (s k : Nat) (hs : s ≤ 60) (hk : 60 ≤ k) : balance_target.f k (s : Int) = some (tgt s) := at_rounds (g := fun k => balance_target.f k (s : Int)) (balance_target.mono _) hk (tgt_all ⟨s, by omega⟩).1
theorem tgt_rng (s : Nat) (hs : s ≤ 60) : 0 ≤ tgt s ∧ tgt s ≤ 60 ∧ (s ≠ 0 → 1 ≤ tgt s) := (tgt_all ⟨s, by omega⟩).2
def lk (a b : List Int) : Int := mx 0 (tgt (a.length + b.length) - (b.length : Int))
def wh (a b : List Int) (r : List Bool) : Int := if 0 < a.length ∧ 0 < lk a b then 1 else if b.length = 0 then 0 else if r.getD (rd b ((b.length - 1 : Nat) : Int)).toNat false = true then 2 else 3
section
variable {a b : List Int} {r : List Bool}
theorem sum_w (hs : a.length + b.length ≤ 60) : wrap64 ((a.length : Int) + (b.length : Int)) = ((a.length + b.length : Nat) : Int) := by
  rw [w64 (by omega) (by omega)]
  omega
theorem lacks_f (hs : a.length + b.length ≤ 60) (k : Nat) (hk : 60 ≤ k) : balance_lacks.f k a b r = some (lk a b) := by
  have ht := tgt_rng _ hs
  unfold balance_lacks.f lk
  rw [sum_w hs, tgt_f _ k hs hk, Option.bind_some, w64 (by omega) (by omega)]
theorem which_f (h : OkN a b r) (hs : a.length + b.length ≤ 60) (k : Nat) (hk : 62 ≤ k) : balance_which.f k a b r = some (wh a b r) := by
  unfold balance_which.f wh
  obtain ⟨k, rfl⟩ : ∃ m, k = m + 1 := ⟨k - 1, by omega⟩
  have tail : balance_which.j0 (k + 1) (b.length : Int) false a b r = some (if b.length = 0 then 0 else if r.getD (rd b ((b.length - 1 : Nat) : Int)).toNat false = true then 2 else 3) := by
    rw [balance_which.j0, if_neg (by decide)]
    by_cases cb : b.length = 0
    · rw [if_pos (by omega), if_pos cb]
    · have := h.rng _ (List.mem_append_right a (rd_last b cb))
      rw [if_neg (by omega), if_neg cb, last_w cb (by omega), if_pos (by omega), if_pos (by omega), if_pos this.1, if_pos this.2]
      unfold rdOf
      split <;> rfl
  by_cases ca : 0 < a.length
  · rw [if_pos (by omega), lacks_f hs (k + 1) (by omega), Option.bind_some]
    by_cases cl : 0 < lk a b
    · rw [decide_eq_true cl, if_pos ⟨ca, cl⟩, balance_which.j0, if_pos rfl]
    · rw [decide_eq_false (show ¬ lk a b > 0 from cl), if_neg (fun hh => cl hh.2), tail]
  · rw [if_neg (by omega), if_neg (fun hh => ca hh.1), tail]
theorem Which_f (h : OkN a b r) (hs : a.length + b.length ≤ 60) (k : Nat) (hk : 62 ≤ k) : balance_Which.f k a b r = some (wh a b r, 0) := by
  unfold balance_Which.f
  rw [check_f (by omega) (by omega), Option.bind_some, if_pos h.zero, which_f h hs k hk]
  rfl
theorem OkN.off (h : OkN a b r) (f : Nat) : OkN a b (r.set f false) :=
  ⟨by rw [List.length_set]; exact h.lo, by rw [List.length_set]; exact h.hi, h.nd, fun x hx => by rw [List.length_set]; exact h.rng x hx, fun g hg => by
    rw [getD_set] at hg
    split at hg
    · cases hg
    · exact h.ref g hg⟩
theorem OkN.perm {a' b' : List Int} (h : OkN a b r) (hp : (a' ++ b').Perm (a ++ b)) : OkN a' b' r :=
  ⟨h.lo, h.hi, hp.nodup_iff.2 h.nd, fun x hx => h.rng x (hp.mem_iff.1 hx), fun g hg => hp.mem_iff.2 (h.ref g hg)⟩
theorem OkN.dem (h : OkN a b r) (c : a.length ≠ 0) : OkN (a.take (a.length - 1)) (rd a ((a.length - 1 : Nat) : Int) :: b) (r.set (rd a ((a.length - 1 : Nat) : Int)).toNat false) := by
  refine (h.off _).perm (List.Perm.of_eq ?_)
  conv => rhs; rw [take_last a c]
  simp
theorem OkN.pro (h : OkN a b r) (c : b.length ≠ 0) : OkN (rd b ((b.length - 1 : Nat) : Int) :: a) (b.take (b.length - 1)) (r.set (rd b ((b.length - 1 : Nat) : Int)).toNat false) := by
  refine (h.off _).perm ?_
  have e := take_last b c
  generalize rd b ((b.length - 1 : Nat) : Int) = f at *
  generalize b.take (b.length - 1) = p at *
  subst e
  have h1 : (f :: a ++ p).Perm (f :: (a ++ p)) := List.Perm.refl _
  refine h1.trans ?_
  rw [← List.append_assoc]
  exact (List.perm_append_comm (l₁ := [f]) (l₂ := a ++ p))
theorem count_le : ∀ (r : List Bool) (n : Nat), (r.set n false).count true ≤ r.count true
  | [], n => by simp
  | x :: xs, 0 => by cases x <;> simp
  | x :: xs, n + 1 => by
    have := count_le xs n
    rw [List.set_cons_succ, List.count_cons, List.count_cons]
    omega
theorem count_lt : ∀ (r : List Bool) (n : Nat), r.getD n false = true → (r.set n false).count true + 1 = r.count true
  | [], n, h => by simp at h
  | x :: xs, 0, h => by
    have : x = true := by simpa using h
    subst this
    simp
  | x :: xs, n + 1, h => by
    have := count_lt xs n (by simpa using h)
    rw [List.set_cons_succ, List.count_cons, List.count_cons]
    omega
def meas (a b : List Int) (r : List Bool) : Nat := 2 * r.count true + (tgt (a.length + b.length) - (b.length : Int)).toNat
def dA (a : List Int) : List Int := a.take (a.length - 1)
def dF (a : List Int) : Int := rd a ((a.length - 1 : Nat) : Int)
theorem dA_len (c : a.length ≠ 0) : (dA a).length + 1 = a.length := by
  unfold dA
  rw [List.length_take]
  omega
theorem wh_one (c : wh a b r = 1) : a.length ≠ 0 ∧ 0 < lk a b := by
  unfold wh at c
  by_cases h : 0 < a.length ∧ 0 < lk a b
  · exact ⟨by omega, h.2⟩
  · rw [if_neg h] at c
    split at c
    · omega
    · split at c <;> omega
theorem wh_two (c : wh a b r = 2) : b.length ≠ 0 ∧ r.getD (dF b).toNat false = true := by
  unfold wh at c
  by_cases h : 0 < a.length ∧ 0 < lk a b
  · rw [if_pos h] at c
    omega
  · rw [if_neg h] at c
    by_cases h2 : b.length = 0
    · rw [if_pos h2] at c
      omega
    · rw [if_neg h2] at c
      by_cases h3 : r.getD (rd b ((b.length - 1 : Nat) : Int)).toNat false = true
      · exact ⟨h2, h3⟩
      · rw [if_neg h3] at c
        omega
theorem wh_rng : 0 ≤ wh a b r ∧ wh a b r ≤ 3 := by
  unfold wh
  split
  · omega
  · split
    · omega
    · split <;> omega
theorem lk_pos (c : 0 < lk a b) : (b.length : Int) < tgt (a.length + b.length) := by
  unfold lk mx at c
  split at c <;> omega
theorem meas_dem (c : wh a b r = 1) : meas (dA a) (dF a :: b) (r.set (dF a).toNat false) + 1 ≤ meas a b r := by
  obtain ⟨h1, h2⟩ := wh_one c
  have h3 := lk_pos h2
  have h4 := dA_len h1
  have h5 := count_le r (dF a).toNat
  unfold meas
  rw [show (dA a).length + (dF a :: b).length = a.length + b.length by rw [List.length_cons]; omega, List.length_cons]
  omega
theorem meas_pro (c : wh a b r = 2) : meas (dF b :: a) (dA b) (r.set (dF b).toNat false) + 1 ≤ meas a b r := by
  obtain ⟨h1, h2⟩ := wh_two c
  have h4 := dA_len h1
  have h5 := count_lt r (dF b).toNat h2
  unfold meas
  rw [show (dF b :: a).length + (dA b).length = a.length + b.length by rw [List.length_cons]; omega]
  omega
theorem demote_f (h : OkN a b r) (hs : a.length + b.length ≤ 60) (c : a.length ≠ 0) : lru_Demote.f a b r = some (dA a, dF a :: b, r.set (dF a).toNat false, dF a, 0) := by
  have := h.hi
  rw [dem_f (by omega) (by omega) (by omega), demOf, if_pos h.zero, if_neg c]
  rfl
theorem promote_f (h : OkN a b r) (hs : a.length + b.length ≤ 60) (c : b.length ≠ 0) : lru_Promote.f a b r = some (dF b :: a, dA b, r.set (dF b).toNat false, dF b, 0) := by
  have := h.hi
  rw [pro_f (by omega) (by omega) (by omega), proOf, if_pos h.zero, if_neg c]
  rfl
theorem steps_f (h : OkN a b r) (k : Nat) (v : Int) (ha : a.length + b.length ≤ 60) (hl : balance_Steps.l0 k a b r 0 = some v) : balance_Steps.f k a b r = some (v, 0) := by
  unfold balance_Steps.f
  rw [check_f (by omega) (by omega), Option.bind_some, if_pos h.zero, hl]
  rfl
end

def outOf (r : List Bool) (f : Int) : Prop := f < 0 ∨ (r.length : Int) ≤ f
instance (r : List Bool) (f : Int) : Decidable (outOf r f) := inferInstanceAs (Decidable (f < 0 ∨ (r.length : Int) ≤ f))
def askE (a b : List Int) (r : List Bool) (f : Int) : Int := if lruCheck a b r = 0 then (if outOf r f then 2 else 0) else lruCheck a b r
def whereOf (a b : List Int) (f : Int) : Int := if f ∈ a then 1 else if f ∈ b then 2 else 0
def remv (l : List Int) (f : Int) : List Int := l.filter fun x => !(x == f)
section
variable {a b : List Int} {r : List Bool}
theorem asks_f (f : Int) : headgateref07_asks.f a b r f = some (askE a b r f) := by
  unfold headgateref07_asks.f headgateref07_Check.f askE
  rw [Option.bind_some]
  by_cases c : lruCheck a b r = 0
  · rw [if_pos c, if_pos c]
    by_cases c1 : f < 0
    · rw [if_pos c1, if_pos (show outOf r f from .inl c1)]
    · rw [if_neg c1]
      by_cases c2 : f ≥ (r.length : Int)
      · rw [if_pos c2, if_pos (show outOf r f from .inr c2)]
      · rw [if_neg c2, if_neg (show ¬ outOf r f from fun h => h.elim c1 c2), c]
  · rw [if_neg c, if_neg c]
theorem place_step (l : List Int) (x : Int) (hl : l.length ≤ 1000) : ∀ (d i k : Nat), i + d = l.length → d < k → ∃ v : Int, headgateref07_place.l0 k l x (i : Int) = some v ∧ (v ≥ 0 ↔ x ∈ l.drop i)
  | 0, i, k, hd, hk => by
    obtain ⟨k, rfl⟩ : ∃ m, k = m + 1 := ⟨k - 1, by omega⟩
    refine ⟨-1, by rw [headgateref07_place.l0, if_neg (by omega)], ?_⟩
    rw [List.drop_eq_nil_of_le (by omega)]
    simp
  | d + 1, i, k, hd, hk => by
    obtain ⟨k, rfl⟩ : ∃ m, k = m + 1 := ⟨k - 1, by omega⟩
    have hi : i < l.length := by omega
    obtain ⟨v, h1, h2⟩ := place_step l x hl d (i + 1) k (by omega) (by omega)
    rw [headgateref07_place.l0, if_pos (by omega), if_pos (by omega), rd_nat, drop_getD hi, nat_succ (by omega)]
    by_cases c : l.getD i 0 = x
    · exact ⟨i, by rw [if_pos c], fun _ => by rw [c]; exact List.mem_cons_self .., fun _ => by omega⟩
    · exact ⟨v, by rw [if_neg c, h1], by rw [h2, List.mem_cons]; exact ⟨.inr, fun h => h.resolve_left fun e => c e.symm⟩⟩
theorem rwhere_f (ha : a.length ≤ 900) (hb : b.length ≤ 900) (f : Int) (k : Nat) (hk : 902 ≤ k) : headgateref07_Where.f k a b r f = if askE a b r f = 0 then some (whereOf a b f, 0) else some (0, askE a b r f) := by
  unfold headgateref07_Where.f
  rw [asks_f, Option.bind_some]
  by_cases c : askE a b r f = 0
  · rw [if_pos c, if_pos c]
    obtain ⟨u, u1, u2⟩ := place_step a f (by omega) a.length 0 k (by omega) (by omega)
    obtain ⟨v, v1, v2⟩ := place_step b f (by omega) b.length 0 k (by omega) (by omega)
    unfold headgateref07_place.f whereOf
    rw [show (0 : Int) = ((0 : Nat) : Int) from rfl, u1, v1, Option.bind_some]
    rw [List.drop_zero] at u2 v2
    by_cases ca : f ∈ a
    · rw [if_pos (by have := u2.2 ca; omega), if_pos ca]
    · rw [if_neg (fun h => ca (u2.1 (by omega))), if_neg ca, Option.bind_some]
      by_cases cb : f ∈ b
      · rw [if_pos (by have := v2.2 cb; omega), if_pos cb]
      · rw [if_neg (fun h => cb (v2.1 (by omega))), if_neg cb]
  · rw [if_neg c, if_neg c]
theorem where_nn (f : Int) : 0 ≤ whereOf a b f := by
  unfold whereOf
  split
  · omega
  · split <;> omega
theorem ask_in {f : Int} (c : askE a b r f = 0) : 0 ≤ f ∧ f < (r.length : Int) ∧ lruCheck a b r = 0 := by
  unfold askE at c
  by_cases c1 : lruCheck a b r = 0
  · rw [if_pos c1] at c
    by_cases c2 : outOf r f
    · rw [if_pos c2] at c
      omega
    · unfold outOf at c2
      exact ⟨by omega, by omega, c1⟩
  · rw [if_neg c1] at c
    exact absurd c c1
def resRem (a b : List Int) (r : List Bool) (f : Int) : List Int × List Int × List Bool × Int := if askE a b r f = 0 then (if whereOf a b f = 0 then ([], [], [], 6) else (remv a f, remv b f, r.set f.toNat false, 0)) else ([], [], [], askE a b r f)
theorem own_f (ha : a.length ≤ 900) (hb : b.length ≤ 900) (hr : r.length ≤ 900) : headgateref07_own.f a b r = some (a, b, r) := by
  unfold headgateref07_own.f
  rw [if_pos ⟨by omega, by omega, by omega⟩]
theorem without_step (l : List Int) (x : Int) (hl : l.length ≤ 1000) : ∀ (d i k : Nat) (acc : List Int), i + d = l.length → d < k → acc.length ≤ i → headgateref07_without.l0 k l x acc (i : Int) = some (acc ++ (l.drop i).filter fun y => !(y == x))
  | 0, i, k, acc, hd, hk, _ => by
    obtain ⟨k, rfl⟩ : ∃ m, k = m + 1 := ⟨k - 1, by omega⟩
    rw [headgateref07_without.l0, if_neg (by omega), List.drop_eq_nil_of_le (by omega)]
    simp
  | d + 1, i, k, acc, hd, hk, ha => by
    obtain ⟨k, rfl⟩ : ∃ m, k = m + 1 := ⟨k - 1, by omega⟩
    have hi : i < l.length := by omega
    rw [headgateref07_without.l0, if_pos (by omega), if_pos (by omega), rd_nat, drop_getD hi, nat_succ (by omega)]
    by_cases c : l.getD i 0 = x
    · rw [if_pos c, without_step l x hl d (i + 1) k acc (by omega) (by omega) (by omega), List.filter_cons_of_neg (by rw [c]; simp)]
    · rw [if_neg c, if_pos (by omega), without_step l x hl d (i + 1) k _ (by omega) (by omega) (by simp; omega), List.filter_cons_of_pos (by rw [Bool.not_eq_true', beq_eq_false_iff_ne]; exact c)]
      simp
theorem without_f (l : List Int) (x : Int) (hl : l.length ≤ 1000) (k : Nat) (hk : l.length < k) : headgateref07_without.f k l x = some (remv l x) := by
  unfold headgateref07_without.f
  have := without_step l x hl l.length 0 k [] (by omega) hk (by simp)
  rw [show ((0 : Nat) : Int) = 0 from rfl] at this
  rw [this]
  simp [remv]
theorem rremove_f (ha : a.length ≤ 900) (hb : b.length ≤ 900) (hr : r.length ≤ 900) (f : Int) (k : Nat) (hk : 904 ≤ k) : headgateref07_Remove.f k a b r f = some (resRem a b r f) := by
  unfold headgateref07_Remove.f resRem
  rw [rwhere_f ha hb f k (by omega)]
  obtain ⟨k, rfl⟩ : ∃ m, k = m + 2 := ⟨k - 2, by omega⟩
  by_cases c : askE a b r f = 0
  · obtain ⟨f0, f1, _⟩ := ask_in c
    rw [if_pos c, if_pos c, Option.bind_some]
    dsimp only
    rw [if_pos rfl, headgateref07_Remove.j0]
    by_cases c2 : whereOf a b f = 0
    · rw [if_pos c2, c2, if_pos (by decide), headgateref07_Remove.j1, if_neg (by decide)]
    · rw [if_neg c2, beq_eq_false_iff_ne.2 c2, if_neg (by decide), headgateref07_Remove.j1, if_pos rfl, own_f ha hb hr, Option.bind_some, without_f a f (by omega) k (by omega), Option.bind_some, without_f b f (by omega) k (by omega), Option.bind_some, if_pos f0, if_pos f1]
  · rw [if_neg c, if_neg c, Option.bind_some]
    dsimp only
    rw [if_neg c, headgateref07_Remove.j0, if_neg (by decide), headgateref07_Remove.j1, if_neg c]
theorem remv_out {l : List Int} {f : Int} (h : f ∉ l) : remv l f = l := by
  unfold remv
  rw [List.filter_eq_self]
  intro x hx
  have : x ≠ f := fun e => h (e ▸ hx)
  simpa using this
theorem remv_last {p : List Int} {f : Int} (h : f ∉ p) : remv (p ++ [f]) f = p := by
  have := remv_out h
  unfold remv at *
  rw [List.filter_append, this]
  simp
theorem not_last {p : List Int} {f : Int} (h : (p ++ [f]).Nodup) : f ∉ p := fun hm => (List.nodup_append.1 h).2.2 _ hm _ (List.mem_singleton.2 rfl) rfl
theorem remv_take {l : List Int} (h : l.length ≠ 0) (hn : l.Nodup) : remv l (rd l ((l.length - 1 : Nat) : Int)) = l.take (l.length - 1) := by
  have e := take_last l h
  generalize rd l ((l.length - 1 : Nat) : Int) = f at *
  generalize l.take (l.length - 1) = p at *
  subst e
  exact remv_last (not_last hn)
theorem OkN.ask (h : OkN a b r) {f : Int} (hm : f ∈ a ++ b) : askE a b r f = 0 := by
  have := h.rng f hm
  rw [askE, if_pos h.zero, if_neg (show ¬ outOf r f from fun hh => by unfold outOf at hh; omega)]
theorem whereA {f : Int} (h : f ∈ a) : whereOf a b f = 1 := by
  unfold whereOf
  rw [if_pos h]
theorem whereB {f : Int} (h : f ∈ b) : whereOf a b f ≠ 0 := by
  unfold whereOf
  split
  · decide
  · decide
theorem OkN.remA (h : OkN a b r) (c : a.length ≠ 0) : resRem a b r (rd a ((a.length - 1 : Nat) : Int)) = (a.take (a.length - 1), b, r.set (rd a ((a.length - 1 : Nat) : Int)).toNat false, 0) := by
  obtain ⟨n1, n2, n3⟩ := List.nodup_append.1 h.nd
  have hm := rd_last a c
  unfold resRem
  rw [if_pos (h.ask (List.mem_append_left b hm)), if_neg (by rw [whereA hm]; decide), remv_take c n1, remv_out fun hb => n3 _ hm _ hb rfl]
theorem OkN.remB (h : OkN a b r) (c : b.length ≠ 0) : resRem a b r (rd b ((b.length - 1 : Nat) : Int)) = (a, b.take (b.length - 1), r.set (rd b ((b.length - 1 : Nat) : Int)).toNat false, 0) := by
  obtain ⟨n1, n2, n3⟩ := List.nodup_append.1 h.nd
  have hm := rd_last b c
  unfold resRem
  rw [if_pos (h.ask (List.mem_append_right a hm)), if_neg (whereB hm), remv_take c n2, remv_out fun ha => n3 _ ha _ hm rfl]
theorem rdem_f (ha : a.length ≤ 900) (hb : b.length ≤ 900) (hr : r.length ≤ 900) (k : Nat) (hk : 905 ≤ k) : headgateref07_Demote.f k a b r = some (demOf a b r) := by
  unfold headgateref07_Demote.f demOf headgateref07_Check.f
  rw [Option.bind_some]
  obtain ⟨k, rfl⟩ : ∃ m, k = m + 1 := ⟨k - 1, by omega⟩
  by_cases c : lruCheck a b r = 0
  · have h := OkN.of c
    rw [if_pos c, if_pos c, c, headgateref07_Demote.j0]
    by_cases c : a.length = 0
    · rw [if_pos c, if_pos (beq_iff_eq.2 (by omega)), if_neg (by decide)]
    · rw [if_neg c, beq_eq_false_iff_ne.2 (show (a.length : Int) ≠ 0 by omega), if_neg (by decide), if_pos rfl, last_w c (by omega), if_pos (by omega), if_pos (by omega), rremove_f ha hb hr _ k (by omega), Option.bind_some, h.remA c, Option.bind_some]
      dsimp only
      rw [if_pos (by simp only [List.length_singleton]; omega)]
      rfl
  · rw [if_neg c, if_neg c, headgateref07_Demote.j0, if_neg (by decide), if_neg c]
theorem rpro_f (ha : a.length ≤ 900) (hb : b.length ≤ 900) (hr : r.length ≤ 900) (k : Nat) (hk : 905 ≤ k) : headgateref07_Promote.f k a b r = some (proOf a b r) := by
  unfold headgateref07_Promote.f proOf headgateref07_Check.f
  rw [Option.bind_some]
  obtain ⟨k, rfl⟩ : ∃ m, k = m + 1 := ⟨k - 1, by omega⟩
  by_cases c : lruCheck a b r = 0
  · have h := OkN.of c
    rw [if_pos c, if_pos c, c, headgateref07_Promote.j0]
    by_cases c : b.length = 0
    · rw [if_pos c, if_pos (beq_iff_eq.2 (by omega)), if_neg (by decide)]
    · rw [if_neg c, beq_eq_false_iff_ne.2 (show (b.length : Int) ≠ 0 by omega), if_neg (by decide), if_pos rfl, last_w c (by omega), if_pos (by omega), if_pos (by omega), rremove_f ha hb hr _ k (by omega), Option.bind_some, h.remB c, Option.bind_some]
      dsimp only
      rw [if_pos (by simp only [List.length_singleton]; omega)]
      rfl
  · rw [if_neg c, if_neg c, headgateref07_Promote.j0, if_neg (by decide), if_neg c]
end

theorem ints_step (l : List Int) (hl : l.length ≤ 1000) : ∀ (d i k : Nat), i + d = l.length → d < k → headgatekit_SameInts.l0 k l l (i : Int) = some true
  | 0, i, k, hd, hk => by
    obtain ⟨k, rfl⟩ : ∃ m, k = m + 1 := ⟨k - 1, by omega⟩
    rw [headgatekit_SameInts.l0, if_neg (by omega)]
  | d + 1, i, k, hd, hk => by
    obtain ⟨k, rfl⟩ : ∃ m, k = m + 1 := ⟨k - 1, by omega⟩
    rw [headgatekit_SameInts.l0, if_pos (by omega), if_pos (by omega), if_pos (by omega), if_pos rfl, nat_succ (by omega)]
    exact ints_step l hl d (i + 1) k (by omega) (by omega)
theorem same_ints (l : List Int) (hl : l.length ≤ 1000) (k : Nat) (hk : l.length < k) : headgatekit_SameInts.f k l l = some true := by
  unfold headgatekit_SameInts.f
  rw [if_pos rfl]
  exact ints_step l hl l.length 0 k (by omega) (by omega)
theorem bools_step (l : List Bool) (hl : l.length ≤ 1000) : ∀ (d i k : Nat), i + d = l.length → d < k → headgatekit_SameBools.l0 k l l (i : Int) = some true
  | 0, i, k, hd, hk => by
    obtain ⟨k, rfl⟩ : ∃ m, k = m + 1 := ⟨k - 1, by omega⟩
    rw [headgatekit_SameBools.l0, if_neg (by omega)]
  | d + 1, i, k, hd, hk => by
    obtain ⟨k, rfl⟩ : ∃ m, k = m + 1 := ⟨k - 1, by omega⟩
    rw [headgatekit_SameBools.l0, if_pos (by omega), if_pos (by omega), if_pos (by omega)]
    simp only [bne_self_eq_false, beq_self_eq_true, Bool.false_eq_true, if_false, if_true]
    rw [nat_succ (by omega)]
    exact bools_step l hl d (i + 1) k (by omega) (by omega)
theorem same_bools (l : List Bool) (hl : l.length ≤ 1000) (k : Nat) (hk : l.length < k) : headgatekit_SameBools.f k l l = some true := by
  unfold headgatekit_SameBools.f
  rw [if_pos rfl]
  exact bools_step l hl l.length 0 k (by omega) (by omega)

theorem same_lists (a b : List Int) (r : List Bool) (ha : a.length ≤ 1000) (hb : b.length ≤ 1000) (hr : r.length ≤ 1000) (k : Nat) (hk : 1001 ≤ k) : headgatekit_SameLists.f k a b r a b r = some true := by
  unfold headgatekit_SameLists.f
  rw [same_ints a (by omega) k (by omega), same_ints b (by omega) k (by omega), same_bools r (by omega) k (by omega)]
  rfl
theorem ownlists_f {a b : List Int} {r : List Bool} (ha : a.length ≤ 900) (hb : b.length ≤ 900) (hr : r.length ≤ 900) : headgatekit_OwnLists.f a b r = some (a, b, r) := by
  unfold headgatekit_OwnLists.f
  rw [if_pos ⟨by omega, by omega, by omega⟩]

theorem awake_true (k : Nat) (hk : 60 ≤ k) : headgatelaw31_awake.f k = some true := at_rounds (g := headgatelaw31_awake.f) headgatelaw31_awake.mono hk (by decide +kernel)
theorem tgt_same : ∀ m : Fin 61, headgateref31_target.f 60 (m.val : Int) = some (tgt m.val) := by decide +kernel
theorem rtgt_f (s k : Nat) (hs : s ≤ 60) (hk : 60 ≤ k) : headgateref31_target.f k (s : Int) = some (tgt s) := at_rounds (g := fun k => headgateref31_target.f k (s : Int)) (headgateref31_target.mono _) hk (tgt_same ⟨s, by omega⟩)
section
variable {a b : List Int} {r : List Bool}
theorem rlacks_f (hs : a.length + b.length ≤ 60) (k : Nat) (hk : 60 ≤ k) : headgateref31_lacks.f k a b r = some (lk a b) := by
  have ht := tgt_rng _ hs
  unfold headgateref31_lacks.f lk
  rw [sum_w hs, rtgt_f _ k hs hk, Option.bind_some, w64 (by omega) (by omega)]
theorem rWhich_f (hs : a.length + b.length ≤ 60) (k : Nat) (hk : 63 ≤ k) : headgateref31_Which.f k a b r = if lruCheck a b r = 0 then some (wh a b r, 0) else some (0, lruCheck a b r) := by
  unfold headgateref31_Which.f headgateref07_Check.f
  rw [Option.bind_some]
  by_cases c : lruCheck a b r = 0
  · have h := OkN.of c
    rw [if_pos c, if_pos c]
    obtain ⟨k, rfl⟩ : ∃ m, k = m + 2 := ⟨k - 2, by omega⟩
    unfold wh
    have tail : headgateref31_Which.j0 (k + 2) (b.length : Int) false a b r = some (if b.length = 0 then 0 else if r.getD (rd b ((b.length - 1 : Nat) : Int)).toNat false = true then 2 else 3, 0) := by
      rw [headgateref31_Which.j0, if_neg (by decide)]
      by_cases cb : b.length = 0
      · rw [if_neg (by omega), if_pos cb, headgateref31_Which.j1, if_neg (by decide), if_neg (by omega)]
      · have := h.rng _ (List.mem_append_right a (rd_last b cb))
        rw [if_pos (by omega), if_neg cb, last_w cb (by omega), if_pos (by omega), if_pos (by omega), if_pos this.1, if_pos this.2, headgateref31_Which.j1]
        unfold rdOf
        by_cases cr : r.getD (rd b ((b.length - 1 : Nat) : Int)).toNat false = true
        · rw [if_pos cr, if_pos cr]
        · rw [if_neg cr, if_neg cr, if_pos (by omega)]
    by_cases ca : 0 < a.length
    · rw [if_pos (by omega), rlacks_f hs (k + 2) (by omega), Option.bind_some]
      by_cases cl : 0 < lk a b
      · rw [decide_eq_true cl, if_pos ⟨ca, cl⟩, headgateref31_Which.j0, if_pos rfl]
      · rw [decide_eq_false (show ¬ lk a b > 0 from cl), if_neg (fun hh => cl hh.2), tail]
    · rw [if_neg (by omega), if_neg (fun hh => ca hh.1), tail]
  · rw [if_neg c, if_neg c]
theorem pWhich_f (hs : a.length + b.length ≤ 60) (k : Nat) (hk : 63 ≤ k) : balance_Which.f k a b r = if lruCheck a b r = 0 then some (wh a b r, 0) else some (0, lruCheck a b r) := by
  by_cases c : lruCheck a b r = 0
  · rw [if_pos c, Which_f (OkN.of c) hs k (by omega)]
  · unfold balance_Which.f
    rw [check_f (by omega) (by omega), Option.bind_some, if_neg c, if_neg c]
theorem Lacks_f (hs : a.length + b.length ≤ 60) (k : Nat) (hk : 63 ≤ k) : balance_Lacks.f k a b r = if lruCheck a b r = 0 then some (lk a b, 0) else some (0, lruCheck a b r) := by
  unfold balance_Lacks.f
  rw [check_f (by omega) (by omega), Option.bind_some, lacks_f hs k (by omega)]
  rfl
theorem rLacks_f (hs : a.length + b.length ≤ 60) (k : Nat) (hk : 63 ≤ k) : headgateref31_Lacks.f k a b r = if lruCheck a b r = 0 then some (lk a b, 0) else some (0, lruCheck a b r) := by
  unfold headgateref31_Lacks.f headgateref07_Check.f
  rw [Option.bind_some, rlacks_f hs k (by omega)]
  rfl
theorem rdemote_f (h : OkN a b r) (hs : a.length + b.length ≤ 60) (c : a.length ≠ 0) (k : Nat) (hk : 905 ≤ k) : headgateref07_Demote.f k a b r = some (dA a, dF a :: b, r.set (dF a).toNat false, dF a, 0) := by
  have := h.hi
  rw [rdem_f (by omega) (by omega) (by omega) k hk, demOf, if_pos h.zero, if_neg c]
  rfl
theorem rpromote_f (h : OkN a b r) (hs : a.length + b.length ≤ 60) (c : b.length ≠ 0) (k : Nat) (hk : 905 ≤ k) : headgateref07_Promote.f k a b r = some (dF b :: a, dA b, r.set (dF b).toNat false, dF b, 0) := by
  have := h.hi
  rw [rpro_f (by omega) (by omega) (by omega) k hk, proOf, if_pos h.zero, if_neg c]
  rfl
end
theorem both_run : ∀ (M : Nat) (a b : List Int) (r : List Bool) (i k : Nat), OkN a b r → a.length + b.length ≤ 60 → meas a b r ≤ M → i + M ≤ 900 → M + 1000 ≤ k →
    ∃ v : Int, balance_Steps.l0 k a b r (i : Int) = some v ∧ headgateref31_Steps.l0 k (i : Int) a b r = some (v, 0)
  | M, a, b, r, i, k, h, hs, hm, hi, hk => by
    obtain ⟨k, rfl⟩ : ∃ m, k = m + 1 := ⟨k - 1, by omega⟩
    have hW := rWhich_f (a := a) (b := b) (r := r) hs k (by omega)
    rw [if_pos h.zero] at hW
    have hw := which_f h hs k (by omega)
    have hrng := wh_rng (a := a) (b := b) (r := r)
    have hin : wrap64 ((i : Int) + 1) = ((i + 1 : Nat) : Int) := nat_succ (by omega)
    by_cases c1 : wh a b r = 1
    · match M, hm, hi, hk with
      | 0, hm, hi, hk => have := meas_dem c1; omega
      | M + 1, hm, hi, hk =>
        obtain ⟨h1, _⟩ := wh_one c1
        have hms := meas_dem c1
        have hlen := dA_len h1
        obtain ⟨v, v1, v2⟩ := both_run M (dA a) (dF a :: b) (r.set (dF a).toNat false) (i + 1) k (h.dem h1) (by rw [List.length_cons]; omega) (by omega) (by omega) (by omega)
        refine ⟨v, ?_, ?_⟩
        · rw [balance_Steps.l0, hw, Option.bind_some, if_pos c1, if_pos ⟨by omega, by omega⟩, demote_f h hs h1, Option.bind_some]
          exact v1
        · rw [headgateref31_Steps.l0, hW, Option.bind_some]
          dsimp only
          rw [if_pos c1, rdemote_f h hs h1 k (by omega), Option.bind_some]
          dsimp only
          rw [hin]
          exact v2
    · by_cases c2 : wh a b r = 2
      · match M, hm, hi, hk with
        | 0, hm, hi, hk => have := meas_pro c2; omega
        | M + 1, hm, hi, hk =>
          obtain ⟨h1, _⟩ := wh_two c2
          have hms := meas_pro c2
          have hlen := dA_len h1
          obtain ⟨v, v1, v2⟩ := both_run M (dF b :: a) (dA b) (r.set (dF b).toNat false) (i + 1) k (h.pro h1) (by rw [List.length_cons]; omega) (by omega) (by omega) (by omega)
          refine ⟨v, ?_, ?_⟩
          · rw [balance_Steps.l0, hw, Option.bind_some, if_neg c1, if_pos c2, if_pos ⟨by omega, by omega⟩, promote_f h hs h1, Option.bind_some]
            exact v1
          · rw [headgateref31_Steps.l0, hW, Option.bind_some]
            dsimp only
            rw [if_neg c1, if_pos c2, rpromote_f h hs h1 k (by omega), Option.bind_some]
            dsimp only
            rw [hin]
            exact v2
      · refine ⟨(i : Int), ?_, ?_⟩
        · rw [balance_Steps.l0, hw, Option.bind_some, if_neg c1, if_neg c2, if_pos hrng]
        · rw [headgateref31_Steps.l0, hW, Option.bind_some]
          dsimp only
          rw [if_neg c1, if_neg c2]
theorem both_steps {a b : List Int} {r : List Bool} (hs : a.length + b.length ≤ 60) (k : Nat) (hk : 2000 ≤ k) : ∃ v, balance_Steps.f k a b r = some v ∧ headgateref31_Steps.f k a b r = some v := by
  by_cases c : lruCheck a b r = 0
  · have h := OkN.of c
    have ht := tgt_rng (a.length + b.length) hs
    have hc : r.count true ≤ r.length := List.count_le_length ..
    have hi := h.hi
    have hme : meas a b r ≤ 600 := by
      unfold meas
      omega
    obtain ⟨v, v1, v2⟩ := both_run 600 a b r 0 k h hs hme (by omega) (by omega)
    refine ⟨(v, 0), steps_f h k v hs v1, ?_⟩
    unfold headgateref31_Steps.f headgateref07_Check.f
    rw [Option.bind_some, if_pos c]
    exact v2
  · refine ⟨(0, lruCheck a b r), ?_, ?_⟩
    · unfold balance_Steps.f
      rw [check_f (by omega) (by omega), Option.bind_some, if_neg c]
    · unfold headgateref31_Steps.f headgateref07_Check.f
      rw [Option.bind_some, if_neg c]
theorem which_j1 {a b : List Int} {r : List Bool} (hs : a.length + b.length ≤ 60) (hr : r.length ≤ 260) (k : Nat) (hk : 2000 ≤ k) : headgatelaw31_BalanceWhich.j1 (k + 1) false a b r a b r = some true := by
  obtain ⟨v, v1, v2⟩ := both_steps (a := a) (b := b) (r := r) hs k hk
  have h1 := Lacks_f (a := a) (b := b) (r := r) hs k (by omega)
  have h2 := rLacks_f (a := a) (b := b) (r := r) hs k (by omega)
  obtain ⟨u, hu⟩ : ∃ u, (if lruCheck a b r = 0 then some (lk a b, (0 : Int)) else some (0, lruCheck a b r)) = some u := by
    split <;> exact ⟨_, rfl⟩
  rw [hu] at h1 h2
  rw [headgatelaw31_BalanceWhich.j1, if_neg (by decide), h1, h2, v1, v2, Option.bind_some, Option.bind_some, Option.bind_some, Option.bind_some, if_pos rfl, if_pos rfl, if_pos rfl, if_pos rfl, same_lists a b r (by omega) (by omega) (by omega) k (by omega), Option.bind_some, if_pos rfl, awake_true k (by omega)]
  rfl
theorem which_j0 {a b : List Int} {r : List Bool} (hs : a.length + b.length ≤ 60) (hr : r.length ≤ 260) (k : Nat) (hk : 2001 ≤ k) : headgatelaw31_BalanceWhich.j0 (k + 1) false a b r = some true := by
  have h1 := pWhich_f (a := a) (b := b) (r := r) hs k (by omega)
  have h2 := rWhich_f (a := a) (b := b) (r := r) hs k (by omega)
  obtain ⟨u, hu⟩ : ∃ u, (if lruCheck a b r = 0 then some (wh a b r, (0 : Int)) else some (0, lruCheck a b r)) = some u := by
    split <;> exact ⟨_, rfl⟩
  rw [hu] at h1 h2
  rw [headgatelaw31_BalanceWhich.j0, if_neg (by decide), ownlists_f (by omega) (by omega) (by omega), Option.bind_some]
  dsimp only
  rw [h1, h2, Option.bind_some, Option.bind_some, if_pos rfl, bne_self_eq_false]
  obtain ⟨k, rfl⟩ : ∃ m, k = m + 1 := ⟨k - 1, by omega⟩
  exact which_j1 hs hr k (by omega)
theorem which_no (a b : List Int) (r : List Bool) (k : Nat) (hk : 100 ≤ k) : headgatelaw31_BalanceWhich.j0 (k + 1) true a b r = some true := by
  rw [headgatelaw31_BalanceWhich.j0, if_pos rfl, awake_true k (by omega)]
  rfl
theorem BalanceWhich : headgatelaw31_BalanceWhich.Pure := fun s hs => ⟨3001, by
  obtain ⟨⟨_, m0, _⟩, ⟨_, m1, _⟩, _⟩ := hs
  unfold headgatelaw31_BalanceWhich.f
  have hw : wrap64 ((s.f0.length : Int) + (s.f1.length : Int)) = (s.f0.length : Int) + (s.f1.length : Int) := w64 (by omega) (by omega)
  by_cases c : s.f0.length + s.f1.length ≤ 60
  · rw [hw, if_neg (by omega)]
    by_cases c2 : s.f2.length ≤ 260
    · rw [decide_eq_false (by omega)]
      exact which_j0 c c2 3000 (by omega)
    · rw [decide_eq_true (by omega)]
      exact which_no _ _ _ 3000 (by omega)
  · rw [hw, if_pos (by omega)]
    exact which_no _ _ _ 3000 (by omega)⟩

end Go.Proofs.Ytnheknlmmmkbpaa.Pure
