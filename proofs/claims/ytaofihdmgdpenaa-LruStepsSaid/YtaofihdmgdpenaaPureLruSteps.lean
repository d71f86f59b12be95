/- Results are valid, and frames come and go by Add and Remove alone: LruSteps returns true, for any two lists of numbers. -/
import Derived.Test.YtaofihdmgdpenaaX65
namespace Go.Proofs.Ytaofihdmgdpenaa.Pure
open Go.RowKit Go.Proofs.Ytaofihdmgdpenaa.X Go.Proofs.YtaofihdmgdpenaaW.PrintWords Go.Proofs.YtaofihdmgdpenaaW.PrintLast
set_option linter.unusedVariables false
set_option linter.unusedSimpArgs false

theorem mod_f (a n : Int) (h1 : 1 ≤ n) (h2 : n ≤ 4611686018427387904) : headgatekit_Mod.f a n = some (a % n) := by
  unfold headgatekit_Mod.f
  rw [if_neg (by omega), if_neg (by omega)]
  have e := Int.tmod_eq_emod (a := a) (b := n)
  have g0 := Int.emod_nonneg a (show n ≠ 0 by omega)
  have g1 := Int.emod_lt_of_pos a (show 0 < n by omega)
  by_cases c : 0 ≤ a ∨ n ∣ a
  · rw [if_pos c] at e
    rw [if_neg (by omega), e]
    simp
  · rw [if_neg c] at e
    have hn : (n.natAbs : Int) = n := by omega
    have hd : a % n ≠ 0 := fun h => c (.inr (Int.dvd_of_emod_eq_zero h))
    rw [hn] at e
    rw [if_pos (by omega), e]
    congr 1
    unfold wrap64
    omega

theorem w64 {x : Int} (h0 : -9223372036854775808 ≤ x) (h1 : x ≤ 9223372036854775807) : wrap64 x = x := by
  unfold wrap64
  omega

theorem nat_succ {i : Nat} (h : i ≤ 1000) : wrap64 ((i : Int) + 1) = ((i + 1 : Nat) : Int) := by rw [w64 (by omega) (by omega)]; omega
theorem rd_nat (l : List Int) (i : Nat) : rd l (i : Int) = l.getD i 0 := rfl
structure OkL (a b : List Int) (r : List Bool) : Prop where
  len : r.length = 16
  size : a.length + b.length ≤ 40
  nd : (a ++ b).Nodup
  rng : ∀ x ∈ a ++ b, 0 ≤ x ∧ x < 16
  ref : ∀ f : Nat, r.getD f false = true → (f : Int) ∈ a ++ b
theorem lruIn_ok (N : Nat) (k : List Int → Int) : ∀ (xs seen : List Int), (∀ x ∈ xs, 0 ≤ x ∧ x < (N : Int)) → xs.Nodup → (∀ x ∈ xs, x ∉ seen) → lruIn N k xs seen = k (xs.reverse ++ seen)
  | [], seen, _, _, _ => rfl
  | x :: xs, seen, h1, h2, h3 => by
    obtain ⟨p, q⟩ := h1 x (List.mem_cons_self ..)
    have h4 := List.nodup_cons.1 h2
    rw [lruIn, if_neg (by omega), if_neg (by omega), if_neg (by simpa using h3 x (List.mem_cons_self ..)),
      lruIn_ok N k xs (x :: seen) (fun y hy => h1 y (List.mem_cons_of_mem _ hy)) h4.2 (fun y hy hm => by
        rcases List.mem_cons.1 hm with rfl | hm
        · exact h4.1 hy
        · exact h3 y (List.mem_cons_of_mem _ hy) hm)]
    simp
theorem lruFrom_ok (seen : List Int) : ∀ (bs : List Bool) (f : Nat), (∀ j, bs.getD j false = true → ((f + j : Nat) : Int) ∈ seen) → lruFrom seen bs f = 0
  | [], _, _ => rfl
  | b :: bs, f, h => by
    have ih := lruFrom_ok seen bs (f + 1) (fun j hj => by
      have := h (j + 1) (by simpa using hj)
      rwa [show f + 1 + j = f + (j + 1) by omega])
    rw [lruFrom]
    by_cases c : b = true
    · have := h 0 (by simpa using c)
      rw [if_pos c, if_pos (by simpa using this), ih]
    · rw [if_neg c, ih]
theorem OkL.check {a b : List Int} {r : List Bool} (h : OkL a b r) : lru_Check.f a b r = some 0 := by
  unfold lru_Check.f
  have hs := h.size
  have hl := h.len
  obtain ⟨n1, n2, n3⟩ := List.nodup_append.1 h.nd
  rw [if_pos (by omega)]
  unfold lruCheck
  have eo : lruOut a b r 0 [] = lruIn r.length (fun s => lruIn r.length (fun s => lruFrom s r 0) b s) a [] := rfl
  rw [if_neg (by omega), if_neg (by omega), eo, hl, lruIn_ok 16 _ a [] (fun x hx => h.rng x (List.mem_append_left _ hx)) n1 (fun x _ hm => by cases hm)]
  rw [lruIn_ok 16 _ b _ (fun x hx => h.rng x (List.mem_append_right _ hx)) n2 (fun x hx hm => by
    simp at hm
    exact n3 x hm x hx rfl)]
  rw [lruFrom_ok _ r 0 (fun j hj => by
    have := h.ref j hj
    simp at this ⊢
    exact this.symm)]
theorem clone_int (l : List Int) (h : l.length ≤ 1000) : slices_Clone_int_int.f l = some l := by
  unfold slices_Clone_int_int.f
  rw [if_pos (by omega)]
theorem clone_bool (l : List Bool) (h : l.length ≤ 1000) : slices_Clone_bool_bool.f l = some l := by
  unfold slices_Clone_bool_bool.f
  rw [if_pos (by omega)]
theorem OkL.opened {a b : List Int} {r : List Bool} (h : OkL a b r) : lru_opened.f a b r = some (a, b, r, 0) := by
  unfold lru_opened.f
  have hs := h.size
  have hl := h.len
  rw [h.check, clone_int a (by omega), clone_int b (by omega), clone_bool r (by omega)]
  rfl
theorem drop_getD {l : List Int} {i : Nat} (hi : i < l.length) : l.drop i = l.getD i 0 :: l.drop (i + 1) := by
  rw [List.drop_eq_getElem_cons hi]
  simp [List.getD_eq_getElem?_getD, List.getElem?_eq_getElem hi]
theorem index_step (l : List Int) (x : Int) (hl : l.length ≤ 1000) : ∀ (d i k : Nat), i + d = l.length → d < k → ∃ v : Int, slices_Index_int_int.l0 k l x (l.length : Int) (i : Int) = some v ∧ (v ≥ 0 ↔ x ∈ l.drop i)
  | 0, i, k, hd, hk => by
    obtain ⟨k, rfl⟩ : ∃ m, k = m + 1 := ⟨k - 1, by omega⟩
    refine ⟨-1, by rw [slices_Index_int_int.l0, if_neg (by omega)], ?_⟩
    rw [List.drop_eq_nil_of_le (by omega)]
    simp
  | d + 1, i, k, hd, hk => by
    obtain ⟨k, rfl⟩ : ∃ m, k = m + 1 := ⟨k - 1, by omega⟩
    have hi : i < l.length := by omega
    obtain ⟨v, h1, h2⟩ := index_step l x hl d (i + 1) k (by omega) (by omega)
    rw [slices_Index_int_int.l0, if_pos (by omega), if_pos (by omega), if_pos (by omega), rd_nat, drop_getD hi, nat_succ (by omega)]
    by_cases c : x = l.getD i 0
    · exact ⟨i, by rw [if_pos c], fun _ => by rw [c]; exact List.mem_cons_self .., fun _ => by omega⟩
    · exact ⟨v, by rw [if_neg c, h1], by rw [h2, List.mem_cons]; exact ⟨.inr, fun h => h.resolve_left c⟩⟩
theorem contains_f (l : List Int) (x : Int) (hl : l.length ≤ 1000) (k : Nat) (hk : l.length < k) : slices_Contains_int_int.f k l x = some (decide (x ∈ l)) := by
  obtain ⟨v, h1, h2⟩ := index_step l x hl l.length 0 k (by omega) hk
  unfold slices_Contains_int_int.f slices_Index_int_int.f
  rw [show (0 : Int) = ((0 : Nat) : Int) from rfl, h1]
  simp only [Option.bind_some, Option.some.injEq]
  rw [List.drop_zero] at h2
  simp only [decide_eq_decide]
  exact h2
def whereOf (a b : List Int) (f : Int) : Int := if f ∈ a then 1 else if f ∈ b then 2 else 0
theorem OkL.about {a b : List Int} {r : List Bool} (h : OkL a b r) (f : Int) (h0 : 0 ≤ f) (h1 : f < 16) (k : Nat) (hk : 60 ≤ k) : lru_about.f k a b r f = some (a, b, r, whereOf a b f, 0) := by
  have hs := h.size
  have hl := h.len
  unfold lru_about.f
  rw [h.opened]
  simp only [Option.bind_some, if_true]
  rw [if_neg (by omega), decide_eq_false (by omega)]
  obtain ⟨k, rfl⟩ : ∃ m, k = m + 1 := ⟨k - 1, by omega⟩
  rw [lru_about.j0, if_neg (by decide), contains_f a f (by omega) k (by omega), contains_f b f (by omega) k (by omega)]
  unfold whereOf
  by_cases ca : f ∈ a
  · simp [ca]
  · by_cases cb : f ∈ b
    · simp [ca, cb]
    · simp [ca, cb]
theorem getD_mem {l : List Int} {j : Nat} (hj : j < l.length) : l.getD j 0 ∈ l := by
  simp [List.getD_eq_getElem?_getD, List.getElem?_eq_getElem hj]
/-! ### made -/
def frameOf (i : Nat) : Int := (((5 * i + 3) % 16 : Nat) : Int)
theorem frame_num : ∀ i : Fin 16, Int.tmod (wrap64 ((wrap64 (5 * (i.val : Int))) + 3)) 16 = frameOf i.val := by decide +kernel
theorem frame_inj : ∀ i j : Fin 16, frameOf i.val = frameOf j.val → i = j := by decide +kernel
theorem frame_rng (i : Nat) : 0 ≤ frameOf i ∧ frameOf i < 16 := by unfold frameOf; omega
structure Form (i : Nat) (a b : List Int) (r : List Bool) : Prop where
  len : r.length = 16
  size : a.length + b.length ≤ i
  nd : (a ++ b).Nodup
  from_ : ∀ x ∈ a ++ b, ∃ j, j < i ∧ x = frameOf j
  ref : ∀ f : Nat, r.getD f false = true → (f : Int) ∈ a ++ b
theorem getD_set (r : List Bool) (n f : Nat) (v : Bool) : (r.set n v).getD f false = if n = f ∧ n < r.length then v else r.getD f false := by
  simp only [List.getD_eq_getElem?_getD, List.getElem?_set]
  by_cases c : n = f
  · subst c
    by_cases c2 : n < r.length <;> simp [c2]
  · simp [c]
theorem Form.fresh {i : Nat} {a b : List Int} {r : List Bool} (h : Form i a b r) (hi : i < 16) : frameOf i ∉ a ++ b := fun hm => by
  obtain ⟨j, hj, he⟩ := h.from_ _ hm
  have := frame_inj ⟨i, hi⟩ ⟨j, by omega⟩ he
  simp at this
  omega
theorem Form.next {i : Nat} {a b : List Int} {r : List Bool} (h : Form i a b r) : Form (i + 1) a b (r.set (frameOf i).toNat false) :=
  ⟨by rw [List.length_set, h.len], by have := h.size; omega, h.nd, fun x hx => by obtain ⟨j, hj, he⟩ := h.from_ x hx; exact ⟨j, by omega, he⟩, fun f hf => by
    rw [getD_set] at hf
    split at hf
    · cases hf
    · exact h.ref f hf⟩
theorem Form.act {i : Nat} {a b : List Int} {r : List Bool} (h : Form i a b r) (hi : i < 16) (v : Bool) : Form (i + 1) (a ++ [frameOf i]) b (r.set (frameOf i).toNat v) := by
  have hf := h.fresh hi
  have hm : ∀ x, x ∈ a ++ [frameOf i] ++ b ↔ x = frameOf i ∨ x ∈ a ++ b := fun x => by simp; constructor <;> (rintro (h | h | h) <;> simp [h])
  refine ⟨by rw [List.length_set, h.len], by have := h.size; simp; omega, ?_, fun x hx => ?_, fun f hfr => ?_⟩
  · have hp : (a ++ [frameOf i] ++ b).Perm (frameOf i :: (a ++ b)) := by
      rw [List.append_assoc]
      exact List.perm_middle
    exact hp.nodup_iff.2 (List.nodup_cons.2 ⟨hf, h.nd⟩)
  · rcases (hm x).1 hx with rfl | hx
    · exact ⟨i, by omega, rfl⟩
    · obtain ⟨j, hj, he⟩ := h.from_ x hx
      exact ⟨j, by omega, he⟩
  · rw [getD_set] at hfr
    rw [hm]
    have := frame_rng i
    split at hfr
    · left; omega
    · right; exact h.ref f hfr
theorem Form.inact {i : Nat} {a b : List Int} {r : List Bool} (h : Form i a b r) (hi : i < 16) (v : Bool) : Form (i + 1) a (frameOf i :: b) (r.set (frameOf i).toNat v) := by
  have hf := h.fresh hi
  have hm : ∀ x, x ∈ a ++ frameOf i :: b ↔ x = frameOf i ∨ x ∈ a ++ b := fun x => by simp; constructor <;> (rintro (h | h | h) <;> simp [h])
  refine ⟨by rw [List.length_set, h.len], by have := h.size; simp; omega, ?_, fun x hx => ?_, fun f hfr => ?_⟩
  · exact (List.perm_middle.nodup_iff).2 (List.nodup_cons.2 ⟨hf, h.nd⟩)
  · rcases (hm x).1 hx with rfl | hx
    · exact ⟨i, by omega, rfl⟩
    · obtain ⟨j, hj, he⟩ := h.from_ x hx
      exact ⟨j, by omega, he⟩
  · rw [getD_set] at hfr
    rw [hm]
    have := frame_rng i
    split at hfr
    · left; omega
    · right; exact h.ref f hfr
theorem at_f (l : List Int) (i : Int) : ∃ v, headgatekit_At.f l i = some v := by
  unfold headgatekit_At.f
  by_cases c1 : i < 0
  · exact ⟨_, if_pos c1⟩
  · by_cases c2 : i ≥ (l.length : Int)
    · exact ⟨_, by rw [if_neg c1, if_pos c2]⟩
    · exact ⟨_, by rw [if_neg c1, if_neg c2, if_pos (by omega), if_pos (by omega)]⟩
theorem made_step (x0 : List Int) : ∀ (d i k : Nat) (a b : List Int) (r : List Bool), i + d = 16 → d < k → Form i a b r → ∃ a' b' r', headgatelaw07_made.l0 k x0 (i : Int) a b r = some (a', b', r') ∧ Form 16 a' b' r'
  | 0, i, k, a, b, r, hd, hk, hf => by
    obtain ⟨k, rfl⟩ : ∃ m, k = m + 1 := ⟨k - 1, by omega⟩
    obtain rfl : i = 16 := by omega
    exact ⟨a, b, r, by rw [headgatelaw07_made.l0, if_neg (by omega)], hf⟩
  | d + 1, i, k, a, b, r, hd, hk, hf => by
    obtain ⟨k, rfl⟩ : ∃ m, k = m + 1 := ⟨k - 1, by omega⟩
    have hi : i < 16 := by omega
    have hn := frame_num ⟨i, hi⟩
    simp only at hn
    obtain ⟨v, hv⟩ := at_f x0 (i : Int)
    have hr := frame_rng i
    have hl := hf.len
    have hs := hf.size
    have g0 := Int.emod_nonneg v (show (24 : Int) ≠ 0 by omega)
    rw [headgatelaw07_made.l0, if_pos (by omega), hv, hn]
    simp only [Option.bind_some]
    rw [mod_f v 24 (by omega) (by omega)]
    simp only [Option.bind_some]
    rw [nat_succ (by omega)]
    generalize hm : v % 24 = m at *
    have ht : Int.tmod m 3 = m % 3 := Int.tmod_eq_emod_of_nonneg g0
    have g1 := Int.emod_nonneg m (show (3 : Int) ≠ 0 by omega)
    have g2 := Int.emod_lt_of_pos m (show (0 : Int) < 3 by omega)
    rw [ht]
    generalize m % 3 = q at *
    clear ht hm
    by_cases c1 : q = 1
    · rw [if_pos c1, if_pos (by omega), if_pos (by omega), if_pos (by omega), if_pos (by omega)]
      exact made_step x0 d (i + 1) k _ _ _ (by omega) (by omega) (hf.act hi _)
    · by_cases c2 : q = 2
      · rw [if_neg c1, if_pos c2, if_pos (by simp; omega), if_pos (by omega), if_pos (by omega), if_pos (by omega)]
        exact made_step x0 d (i + 1) k _ _ _ (by omega) (by omega) (hf.inact hi _)
      · rw [if_neg c1, if_neg c2, if_neg (by omega), if_pos (by omega), if_pos (by omega)]
        exact made_step x0 d (i + 1) k _ _ _ (by omega) (by omega) hf.next
theorem made_ok (x0 : List Int) (k : Nat) (hk : 20 < k) : ∃ a b r, headgatelaw07_made.f k x0 = some (a, b, r) ∧ OkL a b r ∧ a.length + b.length ≤ 16 := by
  unfold headgatelaw07_made.f
  rw [if_pos (by decide)]
  obtain ⟨a, b, r, h1, h2⟩ := made_step x0 16 0 k [] [] (List.replicate 16 false) (by omega) (by omega) ⟨by simp, by simp, by simp, fun x hx => (by cases hx), fun f hf => (by
    rw [List.getD_eq_getElem?_getD, List.getElem?_replicate] at hf
    split at hf <;> simp at hf)⟩
  exact ⟨a, b, r, h1, ⟨h2.len, by have := h2.size; omega, h2.nd, fun x hx => (by obtain ⟨j, _, rfl⟩ := h2.from_ x hx; exact frame_rng j), h2.ref⟩, h2.size⟩

theorem OkL.where_ {a b : List Int} {r : List Bool} (h : OkL a b r) (f : Int) (h0 : 0 ≤ f) (h1 : f < 16) (k : Nat) (hk : 60 ≤ k) : lru_Where.f k a b r f = some (whereOf a b f, 0) := by
  unfold lru_Where.f
  rw [h.about f h0 h1 k hk]
  rfl

theorem rd_last (l : List Int) (h : l.length ≠ 0) : rd l ((l.length - 1 : Nat) : Int) ∈ l := by
  rw [rd_nat]
  exact getD_mem (by omega)
theorem take_last (l : List Int) (h : l.length ≠ 0) : l = l.take (l.length - 1) ++ [rd l ((l.length - 1 : Nat) : Int)] := by
  have e := drop_getD (l := l) (i := l.length - 1) (by omega)
  rw [List.drop_eq_nil_of_le (show l.length ≤ l.length - 1 + 1 by omega)] at e
  rw [rd_nat, ← e, List.take_append_drop]
theorem OkL.demote {a b : List Int} {r : List Bool} (h : OkL a b r) : lru_Demote.f a b r = if a.length = 0 then some ([], [], [], 0, 6) else some (a.take (a.length - 1), rd a ((a.length - 1 : Nat) : Int) :: b, r.set (rd a ((a.length - 1 : Nat) : Int)).toNat false, rd a ((a.length - 1 : Nat) : Int), 0) := by
  have hs := h.size
  have hl := h.len
  unfold lru_Demote.f
  rw [h.opened, Option.bind_some]
  dsimp only
  rw [if_pos rfl]
  by_cases c : a.length = 0
  · rw [if_pos c, if_pos c]
  · have := h.rng _ (List.mem_append_left b (rd_last a c))
    rw [if_neg c, if_neg c, if_pos ⟨by omega, by omega, this.1, by omega⟩]
theorem OkL.promote {a b : List Int} {r : List Bool} (h : OkL a b r) : lru_Promote.f a b r = if b.length = 0 then some ([], [], [], 0, 6) else some (rd b ((b.length - 1 : Nat) : Int) :: a, b.take (b.length - 1), r.set (rd b ((b.length - 1 : Nat) : Int)).toNat false, rd b ((b.length - 1 : Nat) : Int), 0) := by
  have hs := h.size
  have hl := h.len
  unfold lru_Promote.f
  rw [h.opened, Option.bind_some]
  dsimp only
  rw [if_pos rfl]
  by_cases c : b.length = 0
  · rw [if_pos c, if_pos c]
  · have := h.rng _ (List.mem_append_right a (rd_last b c))
    rw [if_neg c, if_neg c, if_pos ⟨by omega, by omega, this.1, by omega⟩]

theorem OkL.cons {a b : List Int} {r : List Bool} (h : OkL a b r) (hs : a.length + b.length ≤ 16) {f : Int} (h0 : 0 ≤ f) (h1 : f < 16) (hn : f ∉ a ++ b) : OkL (f :: a) b r :=
  ⟨h.len, by simp; omega, List.nodup_cons.2 ⟨hn, h.nd⟩, fun x hx => (by
    rcases List.mem_cons.1 hx with rfl | hx
    · exact ⟨h0, h1⟩
    · exact h.rng x hx), fun g hg => List.mem_cons_of_mem _ (h.ref g hg)⟩
theorem filter_out {l : List Int} {f : Int} (h : f ∉ l) : (l.filter fun x => !(x == f)) = l := by
  rw [List.filter_eq_self]
  intro x hx
  have : x ≠ f := fun e => h (e ▸ hx)
  simpa using this
theorem set_same {r : List Bool} {n : Nat} (h : r.getD n false = false) : r.set n false = r := by
  apply List.ext_getElem?
  intro j
  rw [List.getElem?_set]
  by_cases c : n = j
  · subst c
    by_cases c2 : n < r.length
    · rw [if_pos rfl, if_pos c2]
      rw [List.getD_eq_getElem?_getD, List.getElem?_eq_getElem c2] at h
      rw [List.getElem?_eq_getElem c2]
      simp at h
      rw [h]
    · rw [if_pos rfl, if_neg c2, List.getElem?_eq_none (by omega)]
  · rw [if_neg c]

def remv (l : List Int) (f : Int) : List Int := l.filter fun x => !(x == f)
theorem remv_len : ∀ (l : List Int) (f : Int), l.Nodup → (remv l f).length + (if f ∈ l then 1 else 0) = l.length
  | [], f, _ => rfl
  | x :: xs, f, h => by
    obtain ⟨h1, h2⟩ := List.nodup_cons.1 h
    have ih := remv_len xs f h2
    by_cases c : x = f
    · subst c
      rw [if_neg h1] at ih
      have e : remv (x :: xs) x = remv xs x := List.filter_cons_of_neg (by simp)
      rw [e, if_pos (List.mem_cons_self ..), List.length_cons]
      omega
    · have e : remv (x :: xs) f = x :: remv xs f := List.filter_cons_of_pos (by rw [Bool.not_eq_true', beq_eq_false_iff_ne]; exact c)
      have e2 : (f ∈ x :: xs) = (f ∈ xs) := propext ⟨fun h => (List.mem_cons.1 h).resolve_left fun e => c e.symm, List.mem_cons_of_mem _⟩
      rw [e, List.length_cons, List.length_cons]
      simp only [e2]
      omega
theorem nodup_bound : ∀ (N : Nat) (l : List Int), l.Nodup → (∀ x ∈ l, 0 ≤ x ∧ x < (N : Int)) → l.length ≤ N
  | 0, [], _, _ => Nat.le_refl _
  | 0, x :: xs, _, h => by
    have := h x (List.mem_cons_self ..)
    omega
  | N + 1, l, hn, h => by
    have h1 := remv_len l (N : Int) hn
    have h2 := nodup_bound N (remv l (N : Int)) (List.Pairwise.filter _ hn) fun x hx => by
      obtain ⟨p, q⟩ := List.mem_filter.1 hx
      have := h x p
      have ne : x ≠ (N : Int) := by simpa using q
      omega
    split at h1 <;> omega
theorem OkL.small {a b : List Int} {r : List Bool} (h : OkL a b r) : a.length + b.length ≤ 16 := by
  have := nodup_bound 16 (a ++ b) h.nd (fun x hx => h.rng x hx)
  simpa using this
theorem OkL.rem {a b : List Int} {r : List Bool} (h : OkL a b r) {f : Int} (h0 : 0 ≤ f) (hm : f ∈ a ++ b) : OkL (remv a f) (remv b f) (r.set f.toNat false) ∧ (remv a f).length + (remv b f).length + 1 = a.length + b.length := by
  have e : remv (a ++ b) f = remv a f ++ remv b f := List.filter_append _ _
  have hl := remv_len (a ++ b) f h.nd
  rw [if_pos hm, e, List.length_append, List.length_append] at hl
  have hs := h.size
  refine ⟨⟨by rw [List.length_set, h.len], by omega, ?_, fun x hx => ?_, fun g hg => ?_⟩, hl⟩
  · rw [← e]
    exact List.Pairwise.filter _ h.nd
  · rw [← e] at hx
    exact h.rng x (List.mem_filter.1 hx).1
  · rw [getD_set] at hg
    rw [← e]
    split at hg
    · cases hg
    · rename_i c
      have hin := h.ref g hg
      have hl2 := h.len
      refine List.mem_filter.2 ⟨hin, ?_⟩
      have hr := h.rng _ hin
      have : (g : Int) ≠ f := fun e => c ⟨by omega, by omega⟩
      simpa using this
theorem OkL.touch {a b : List Int} {r : List Bool} (h : OkL a b r) {f : Int} (h0 : 0 ≤ f) (hm : f ∈ a ++ b) : OkL a b (r.set f.toNat true) :=
  ⟨by rw [List.length_set, h.len], h.size, h.nd, h.rng, fun g hg => by
    rw [getD_set] at hg
    split at hg
    · rename_i c
      have : (g : Int) = f := by omega
      rw [this]
      exact hm
    · exact h.ref g hg⟩
theorem OkL.off {a b : List Int} {r : List Bool} (h : OkL a b r) (f : Nat) : OkL a b (r.set f false) :=
  ⟨by rw [List.length_set, h.len], h.size, h.nd, h.rng, fun g hg => by
    rw [getD_set] at hg
    split at hg
    · cases hg
    · exact h.ref g hg⟩
theorem OkL.perm {a b a' b' : List Int} {r : List Bool} (h : OkL a b r) (hp : (a' ++ b').Perm (a ++ b)) : OkL a' b' r :=
  ⟨h.len, by have := hp.length_eq; have := h.size; simp at *; omega, hp.nodup_iff.2 h.nd, fun x hx => h.rng x (hp.mem_iff.1 hx), fun g hg => hp.mem_iff.2 (h.ref g hg)⟩
theorem OkL.dem {a b : List Int} {r : List Bool} (h : OkL a b r) (c : a.length ≠ 0) : OkL (a.take (a.length - 1)) (rd a ((a.length - 1 : Nat) : Int) :: b) (r.set (rd a ((a.length - 1 : Nat) : Int)).toNat false) := by
  refine (h.off _).perm (List.Perm.of_eq ?_)
  conv => rhs; rw [take_last a c]
  simp
theorem OkL.pro {a b : List Int} {r : List Bool} (h : OkL a b r) (c : b.length ≠ 0) : OkL (rd b ((b.length - 1 : Nat) : Int) :: a) (b.take (b.length - 1)) (r.set (rd b ((b.length - 1 : Nat) : Int)).toNat false) := by
  refine (h.off _).perm ?_
  have e := take_last b c
  generalize rd b ((b.length - 1 : Nat) : Int) = f at *
  generalize b.take (b.length - 1) = p at *
  subst e
  have h1 : (f :: a ++ p).Perm (f :: (a ++ p)) := List.Perm.refl _
  refine h1.trans ?_
  rw [← List.append_assoc]
  exact (List.perm_append_comm (l₁ := [f]) (l₂ := a ++ p))

theorem where_mem {a b : List Int} {f : Int} : (whereOf a b f = 0) ↔ f ∉ a ++ b := by
  unfold whereOf
  by_cases ca : f ∈ a
  · simp [ca]
  · by_cases cb : f ∈ b
    · simp [ca, cb]
    · simp [ca, cb]
theorem where_nn {a b : List Int} {f : Int} : whereOf a b f > 0 ↔ f ∈ a ++ b := by
  have h := where_mem (a := a) (b := b) (f := f)
  have h2 : 0 ≤ whereOf a b f := by
    unfold whereOf
    split
    · omega
    · split <;> omega
  constructor
  · intro h3
    by_cases c : f ∈ a ++ b
    · exact c
    · rw [← h] at c
      omega
  · intro h3
    by_cases c : whereOf a b f = 0
    · exact absurd h3 (h.1 c)
    · omega
theorem size_f {a b : List Int} (r : List Bool) (h : a.length + b.length ≤ 40) : headgatelaw07_size.f a b r = some ((a.length + b.length : Nat) : Int) := by
  unfold headgatelaw07_size.f
  rw [w64 (by omega) (by omega)]
  congr 1
theorem OkL.add_f {a b : List Int} {r : List Bool} (h : OkL a b r) (f : Int) (h0 : 0 ≤ f) (h1 : f < 16) (k : Nat) (hk : 60 ≤ k) : lru_Add.f k a b r f = if whereOf a b f > 0 then some ([], [], [], 7) else some (f :: a, b, r, 0) := by
  have hs := h.small
  unfold lru_Add.f
  rw [h.about f h0 h1 k (by omega), Option.bind_some]
  dsimp only
  rw [if_pos rfl, if_pos (show a.length ≤ 1000000 by omega)]
theorem OkL.remove_f {a b : List Int} {r : List Bool} (h : OkL a b r) (f : Int) (h0 : 0 ≤ f) (h1 : f < 16) (k : Nat) (hk : 60 ≤ k) : lru_Remove.f k a b r f = if whereOf a b f = 0 then some ([], [], [], 6) else some (remv a f, remv b f, r.set f.toNat false, 0) := by
  have hs := h.small
  have hl := h.len
  unfold lru_Remove.f
  rw [h.about f h0 h1 k (by omega), Option.bind_some]
  dsimp only
  rw [if_pos rfl, if_pos (show a.length ≤ 1000000 ∧ b.length ≤ 1000000 ∧ 0 ≤ f ∧ f < (r.length : Int) from ⟨by omega, by omega, h0, by omega⟩)]
  rfl
theorem OkL.touch_f {a b : List Int} {r : List Bool} (h : OkL a b r) (f : Int) (h0 : 0 ≤ f) (h1 : f < 16) (k : Nat) (hk : 61 ≤ k) : lru_Touch.f k a b r f = if whereOf a b f = 0 then some ([], [], [], 6) else some (a, b, r.set f.toNat true, 0) := by
  have hl := h.len
  unfold lru_Touch.f
  rw [h.about f h0 h1 k (by omega), Option.bind_some]
  dsimp only
  obtain ⟨k, rfl⟩ : ∃ m, k = m + 1 := ⟨k - 1, by omega⟩
  rw [if_pos rfl, lru_Touch.j0]
  by_cases c : whereOf a b f = 0
  · rw [if_pos c, if_pos (by rw [c]; rfl), if_neg (by decide)]
  · rw [if_neg c, if_neg (by simpa using c), if_pos rfl, if_pos h0, if_pos (by omega)]
theorem tail_ok {a b a' b' : List Int} {r r' : List Bool} (h : OkL a' b' r') (x1 : List Int) (x6 x7 x10 x13 : Int) (k : Nat) (hx : ((a'.length + b'.length : Nat) : Int) = x13) (hi : headgatelaw07_LruSteps.l0 k x1 (wrap64 (x6 + 1)) a' b' r' = some true) : headgatelaw07_LruSteps.j2 (k + 1) x1 x6 x7 x10 0 x13 a b r a' b' r' = some true := by
  rw [headgatelaw07_LruSteps.j2, if_pos rfl, h.check, Option.bind_some, if_pos rfl, size_f _ h.size, Option.bind_some, if_pos hx]
  exact hi
theorem OkL.round {a b : List Int} {r : List Bool} (h : OkL a b r) (x1 : List Int) (i k : Nat) (hi : i < x1.length) (hk : 70 ≤ k) (hl : i < 30)
    (ih : ∀ a b r, OkL a b r → headgatelaw07_LruSteps.l0 k x1 ((i + 1 : Nat) : Int) a b r = some true) : headgatelaw07_LruSteps.j1 (k + 2) x1 (i : Int) true a b r = some true := by
  have hs := h.small
  have g0 := Int.emod_nonneg (rd x1 i) (show (80 : Int) ≠ 0 by omega)
  have g1 := Int.emod_lt_of_pos (rd x1 i) (show (0 : Int) < 80 by omega)
  rw [headgatelaw07_LruSteps.j1, if_pos rfl, if_pos (by omega), if_pos (by omega), mod_f _ 80 (by omega) (by omega), Option.bind_some]
  generalize rd x1 i % 80 = t at *
  have e1 : Int.tdiv t 5 = t / 5 := Int.tdiv_eq_ediv_of_nonneg g0
  have e2 : Int.tmod t 5 = t % 5 := Int.tmod_eq_emod_of_nonneg g0
  have e3 : wrap64 (t / 5) = t / 5 := w64 (by omega) (by omega)
  have f0 : 0 ≤ t / 5 := by omega
  have f1 : t / 5 < 16 := by omega
  have m0 : 0 ≤ t % 5 := by omega
  have m1 : t % 5 < 5 := by omega
  have hw := nat_succ (i := i) (by omega)
  rw [size_f r h.size, Option.bind_some, e1, e3, h.where_ _ f0 f1 (k + 1) (by omega), Option.bind_some]
  dsimp only
  rw [if_pos rfl, e2, h.add_f _ f0 f1 (k + 1) (by omega), h.remove_f _ f0 f1 (k + 1) (by omega), h.touch_f _ f0 f1 (k + 1) (by omega), h.demote, h.promote, w64 (x := ((a.length + b.length : Nat) : Int) + 1) (by omega) (by omega), w64 (x := ((a.length + b.length : Nat) : Int) - 1) (by omega) (by omega)]
  generalize hf : t / 5 = f at *
  generalize hq : t % 5 = q at *
  have wm := where_mem (a := a) (b := b) (f := f)
  have wn := where_nn (a := a) (b := b) (f := f)
  have hq2 : q = 0 ∨ q = 1 ∨ q = 2 ∨ q = 3 ∨ q = 4 := by omega
  have ih0 := ih a b r h
  rw [← hw] at ih
  rw [← hw] at ih0
  rcases hq2 with rfl | rfl | rfl | rfl | rfl
  · rw [if_pos rfl]
    by_cases c : whereOf a b f > 0
    · rw [if_pos c, Option.bind_some]
      dsimp only
      rw [headgatelaw07_LruSteps.j2, if_neg (by decide), e2]
      simp [show ¬ whereOf a b f = 0 by omega, ih0]
    · rw [if_neg c, Option.bind_some]
      dsimp only
      have hc : f ∉ a ++ b := fun hm => c (wn.2 hm)
      have ho := h.cons hs f0 f1 hc
      exact tail_ok ho _ _ _ _ _ _ (by rw [List.length_cons]; omega) (ih _ _ _ ho)
  · rw [if_neg (by decide), if_pos rfl]
    by_cases c : whereOf a b f = 0
    · rw [if_pos c, Option.bind_some]
      dsimp only
      rw [headgatelaw07_LruSteps.j2, if_neg (by decide), e2]
      simp [c, ih0]
    · rw [if_neg c, Option.bind_some]
      dsimp only
      have hc : f ∈ a ++ b := by
        by_cases hm : f ∈ a ++ b
        · exact hm
        · exact absurd (wm.2 hm) c
      obtain ⟨ho, hl⟩ := h.rem f0 hc
      exact tail_ok ho _ _ _ _ _ _ (by omega) (ih _ _ _ ho)
  · rw [if_neg (by decide), if_neg (by decide), if_pos rfl]
    by_cases c : whereOf a b f = 0
    · rw [if_pos c, Option.bind_some]
      dsimp only
      rw [headgatelaw07_LruSteps.j2, if_neg (by decide), e2]
      simp [c, ih0]
    · rw [if_neg c, Option.bind_some]
      dsimp only
      have hc : f ∈ a ++ b := by
        by_cases hm : f ∈ a ++ b
        · exact hm
        · exact absurd (wm.2 hm) c
      have ho := h.touch f0 hc
      exact tail_ok ho _ _ _ _ _ _ rfl (ih _ _ _ ho)
  · rw [if_neg (by decide), if_neg (by decide), if_neg (by decide), if_pos rfl]
    by_cases c : a.length = 0
    · rw [if_pos c, Option.bind_some]
      dsimp only
      rw [headgatelaw07_LruSteps.j2, if_neg (by decide), e2]
      simp [c, ih0]
    · rw [if_neg c, Option.bind_some]
      dsimp only
      have ho := h.dem c
      exact tail_ok ho _ _ _ _ _ _ (by rw [List.length_take, List.length_cons]; omega) (ih _ _ _ ho)
  · rw [if_neg (by decide), if_neg (by decide), if_neg (by decide), if_neg (by decide), if_pos rfl]
    by_cases c : b.length = 0
    · rw [if_pos c, Option.bind_some]
      dsimp only
      rw [headgatelaw07_LruSteps.j2, if_neg (by decide), e2]
      simp [c, ih0]
    · rw [if_neg c, Option.bind_some]
      dsimp only
      have ho := h.pro c
      exact tail_ok ho _ _ _ _ _ _ (by rw [List.length_take, List.length_cons]; omega) (ih _ _ _ ho)
theorem done_ (x1 : List Int) (i : Int) (k : Nat) (a b : List Int) (r : List Bool) : headgatelaw07_LruSteps.j1 (k + 1) x1 i false a b r = some true := by
  rw [headgatelaw07_LruSteps.j1, if_neg (by decide)]
  rfl
theorem OkL.run (x1 : List Int) : ∀ (d i k : Nat) (a b : List Int) (r : List Bool), OkL a b r → i + d = 30 → 3 * d + 80 ≤ k → headgatelaw07_LruSteps.l0 k x1 (i : Int) a b r = some true
  | 0, i, k, a, b, r, h, hd, hk => by
    obtain ⟨k, rfl⟩ : ∃ m, k = m + 2 := ⟨k - 2, by omega⟩
    rw [headgatelaw07_LruSteps.l0]
    split
    · rw [decide_eq_false (by omega)]
      exact done_ _ _ _ _ _ _
    · exact done_ _ _ _ _ _ _
  | d + 1, i, k, a, b, r, h, hd, hk => by
    obtain ⟨k, rfl⟩ : ∃ m, k = m + 3 := ⟨k - 3, by omega⟩
    rw [headgatelaw07_LruSteps.l0]
    by_cases c : (i : Int) < (x1.length : Int)
    · rw [if_pos c, decide_eq_true (by omega)]
      exact h.round x1 i k (by omega) (by omega) (by omega) fun a b r h => OkL.run x1 d (i + 1) k a b r h (by omega) (by omega)
    · rw [if_neg c]
      exact done_ _ _ _ _ _ _
theorem LruSteps : headgatelaw07_LruSteps.Pure := fun l s _ _ _ _ _ _ =>
  let ⟨a, b, r, hm, hok, _⟩ := made_ok l 200 (by omega)
  ⟨200, by
    unfold headgatelaw07_LruSteps.f
    rw [hm, Option.bind_some]
    exact OkL.run s 30 0 200 a b r hok (by omega) (by omega)⟩

end Go.Proofs.Ytaofihdmgdpenaa.Pure
