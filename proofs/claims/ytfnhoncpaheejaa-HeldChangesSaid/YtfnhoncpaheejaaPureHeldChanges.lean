/- The lists of writes that are valid, a list with another write, or without one, and where a write is, or the errors, are those of the reference: HeldChanges returns true, for every list of writes and every two numbers. -/
import Derived.Test.YtfnhoncpaheejaaX38
namespace Go.Proofs.Ytfnhoncpaheejaa.Pure
open Go.RowKit Go.Proofs.Ytfnhoncpaheejaa.X Go.Proofs.YtfnhoncpaheejaaW.PrintWords Go.Proofs.YtfnhoncpaheejaaW.PrintLast
set_option linter.unusedVariables false
set_option linter.unusedSimpArgs false

theorem w64 {x : Int} (h0 : -9223372036854775808 ≤ x) (h1 : x ≤ 9223372036854775807) : wrap64 x = x := by
  unfold wrap64
  omega

/-! ### What a list of writes that stand apart holds -/
theorem heldPut_eq (ks : List (Int × Int)) (i : Int) (g : Int × Int → Option Int) (k : Int × Int) : heldPut ks i g k = if k ∈ ks then some i else g k := by
  unfold heldPut
  induction ks generalizing g with
  | nil => simp
  | cons q r ih =>
    rw [List.foldl_cons, ih]
    by_cases h : k ∈ r
    · rw [if_pos h, if_pos (List.mem_cons_of_mem _ h)]
    · rw [if_neg h]
      by_cases e : k = q
      · rw [if_pos e, if_pos (by rw [e]; exact List.mem_cons_self)]
      · rw [if_neg e, if_neg (by simp [e, h])]
theorem heldFree_iff (g : Int × Int → Option Int) (ks : List (Int × Int)) : heldFree g ks = true ↔ ∀ k ∈ ks, g k = none := by
  unfold heldFree
  simp [List.all_eq_true]
def keysOf (x : S32) : List (Int × Int) := heldKeys x.f0 x.f1 x.f2
def badOf (x : S32) : Bool := heldBad x.f0 x.f1 x.f2
theorem keys_mem (x : S32) (k : Int × Int) : k ∈ keysOf x ↔ k = (0, x.f0) ∨ k = (1, x.f1) ∨ (x.f2 > 0 ∧ k = (2, x.f2)) := by
  unfold keysOf heldKeys
  by_cases h : x.f2 > 0 <;> simp [h]
def Apart (x y : S32) : Prop := x.f0 ≠ y.f0 ∧ x.f1 ≠ y.f1 ∧ (x.f2 > 0 → x.f2 ≠ y.f2)
theorem Apart.keys {x y : S32} (h : Apart x y) : ∀ k ∈ keysOf x, k ∉ keysOf y := by
  intro k hx hy
  rw [keys_mem] at hx hy
  obtain ⟨h0, h1, h2⟩ := h
  rcases hx with rfl | rfl | ⟨hc, rfl⟩ <;> rcases hy with e | e | ⟨hd, e⟩ <;> simp at e
  · exact h0 e
  · exact h1 e
  · exact h2 hc e
theorem apart_keys {x y : S32} (h : ∀ k ∈ keysOf x, k ∉ keysOf y) : Apart x y := by
  refine ⟨fun e => h (0, x.f0) ((keys_mem _ _).2 (.inl rfl)) ((keys_mem _ _).2 (.inl (by rw [e]))), fun e => h (1, x.f1) ((keys_mem _ _).2 (.inr (.inl rfl))) ((keys_mem _ _).2 (.inr (.inl (by rw [e])))), fun hc e => h (2, x.f2) ((keys_mem _ _).2 (.inr (.inr ⟨hc, rfl⟩))) ((keys_mem _ _).2 (.inr (.inr ⟨by omega, by rw [e]⟩)))⟩
theorem Apart.symm {x y : S32} (h : Apart x y) : Apart y x := ⟨fun e => h.1 e.symm, fun e => h.2.1 e.symm, fun hc e => h.2.2 (by omega) e.symm⟩
/-- Where a key stands in a list. -/
def posOf : List S32 → Int × Int → Option Nat
  | [], _ => none
  | x :: xs, k => if k ∈ keysOf x then some 0 else (posOf xs k).map (· + 1)
theorem posOf_cons (x : S32) (xs : List S32) (k : Int × Int) : posOf (x :: xs) k = if k ∈ keysOf x then some 0 else (posOf xs k).map (· + 1) := rfl
theorem posOf_none {l : List S32} {k : Int × Int} : posOf l k = none ↔ ∀ x ∈ l, k ∉ keysOf x := by
  induction l with
  | nil => simp [posOf]
  | cons y ys ih =>
    rw [posOf_cons]
    by_cases h : k ∈ keysOf y
    · simp [h]
    · simp [h, ih]
theorem posOf_some {l : List S32} {k : Int × Int} {j : Nat} (h : posOf l k = some j) : j < l.length ∧ k ∈ keysOf (l.getD j z32) := by
  induction l generalizing j with
  | nil => cases h
  | cons y ys ih =>
    rw [posOf_cons] at h
    by_cases hk : k ∈ keysOf y
    · rw [if_pos hk] at h
      obtain rfl := Option.some.inj h
      exact ⟨by simp, hk⟩
    · rw [if_neg hk] at h
      obtain ⟨i, hi, rfl⟩ := Option.map_eq_some_iff.1 h
      obtain ⟨h1, h2⟩ := ih hi
      exact ⟨by simp; omega, by simpa using h2⟩
theorem posOf_at {l : List S32} (hp : l.Pairwise Apart) {j : Nat} (hj : j < l.length) {k : Int × Int} (hk : k ∈ keysOf (l.getD j z32)) : posOf l k = some j := by
  induction l generalizing j with
  | nil => simp at hj
  | cons y ys ih =>
    rw [List.pairwise_cons] at hp
    rw [posOf_cons]
    cases j with
    | zero => rw [if_pos (by simpa using hk)]
    | succ j =>
      have hj' : j < ys.length := by simpa using hj
      have hk' : k ∈ keysOf (ys.getD j z32) := by simpa using hk
      rw [if_neg (fun h => (hp.1 (ys.getD j z32) (by rw [List.getD_eq_getElem?_getD, List.getElem?_eq_getElem hj']; exact List.getElem_mem hj')).keys k h hk'), ih hp.2 hj' hk']
      rfl
theorem scan_good : ∀ (l : List S32) (i : Nat) (g : Int × Int → Option Int), (∀ x ∈ l, badOf x = false) → l.Pairwise Apart → (∀ x ∈ l, ∀ k ∈ keysOf x, g k = none) →
    (heldScan i g l).1 = 0 ∧ (heldScan i g l).2.1 = 0 ∧ ∀ k, (heldScan i g l).2.2 k = match posOf l k with
      | some j => some ((i + j : Nat) : Int)
      | none => g k
  | [], i, g, _, _, _ => ⟨rfl, rfl, fun k => rfl⟩
  | x :: xs, i, g, hb, hp, hg => by
    rw [List.pairwise_cons] at hp
    have h1 : heldBad x.f0 x.f1 x.f2 = false := hb x (by simp)
    have h2 : heldFree g (heldKeys x.f0 x.f1 x.f2) = true := (heldFree_iff _ _).2 (hg x (by simp))
    have e : heldScan i g (x :: xs) = heldScan (i + 1) (heldPut (keysOf x) i g) xs := by
      rw [heldScan, if_neg (by rw [h1]; decide), if_pos h2]
      rfl
    rw [e]
    obtain ⟨r1, r2, r3⟩ := scan_good xs (i + 1) (heldPut (keysOf x) i g) (fun y hy => hb y (List.mem_cons_of_mem _ hy)) hp.2 (fun y hy k hk => by
      rw [heldPut_eq, if_neg (fun h => (hp.1 y hy).keys k h hk)]
      exact hg y (List.mem_cons_of_mem _ hy) k hk)
    refine ⟨r1, r2, fun k => ?_⟩
    rw [r3 k]
    rw [posOf_cons]
    by_cases hk : k ∈ keysOf x
    · have hn : posOf xs k = none := posOf_none.2 fun y hy => (hp.1 y hy).keys k hk
      rw [hn, if_pos hk, heldPut_eq, if_pos hk]
      simp
    · rw [if_neg hk, heldPut_eq, if_neg hk]
      cases posOf xs k with
      | none => rfl
      | some j => simp; omega
structure Good (l : List S32) : Prop where
  len : l.length ≤ 16
  bad : ∀ x ∈ l, badOf x = false
  apart : l.Pairwise Apart
theorem Good.check {l : List S32} (h : Good l) : (heldCheck l).1 = 0 ∧ (heldCheck l).2.1 = 0 ∧ ∀ k, (heldCheck l).2.2 k = Option.map Int.ofNat (posOf l k) := by
  have e : heldCheck l = heldScan 0 (fun _ => none) l := by unfold heldCheck; rw [if_neg (by have := h.len; omega)]
  rw [e]
  obtain ⟨h1, h2, h3⟩ := scan_good l 0 (fun _ => none) h.bad h.apart (fun _ _ _ _ => rfl)
  refine ⟨h1, h2, fun k => ?_⟩
  rw [h3 k]
  cases posOf l k <;> simp
theorem getD_mem {l : List S32} {j : Nat} (hj : j < l.length) : l.getD j z32 ∈ l := by
  rw [List.getD_eq_getElem?_getD, List.getElem?_eq_getElem hj]
  exact List.getElem_mem hj
theorem badOf_no {x : S32} (h : badOf x = false) : (0 ≤ x.f0 ∧ x.f0 < 256) ∧ (0 ≤ x.f1 ∧ x.f1 < 256) ∧ 0 ≤ x.f2 ∧ x.f2 ≤ 8 := heldBad_no h
theorem badOf_mk {s f c : Int} (h : (0 ≤ s ∧ s < 256) ∧ (0 ≤ f ∧ f < 256) ∧ 0 ≤ c ∧ c ≤ 8) : badOf ⟨s, f, c⟩ = false := by
  simp [badOf, heldBad]
  omega
theorem Good.at_ {l : List S32} (h : Good l) {j : Nat} (hj : j < l.length) : (0 ≤ (l.getD j z32).f0 ∧ (l.getD j z32).f0 < 256) ∧ (0 ≤ (l.getD j z32).f1 ∧ (l.getD j z32).f1 < 256) ∧ 0 ≤ (l.getD j z32).f2 ∧ (l.getD j z32).f2 ≤ 8 := badOf_no (h.bad _ (getD_mem hj))
theorem Good.slot {l : List S32} (h : Good l) {j : Nat} (hj : j < l.length) : posOf l (0, (l.getD j z32).f0) = some j := posOf_at h.apart hj ((keys_mem _ _).2 (.inl rfl))
theorem Good.frame {l : List S32} (h : Good l) {j : Nat} (hj : j < l.length) : posOf l (1, (l.getD j z32).f1) = some j := posOf_at h.apart hj ((keys_mem _ _).2 (.inr (.inl rfl)))
theorem Good.claim {l : List S32} (h : Good l) {j : Nat} (hj : j < l.length) (hc : (l.getD j z32).f2 > 0) : posOf l (2, (l.getD j z32).f2) = some j := posOf_at h.apart hj ((keys_mem _ _).2 (.inr (.inr ⟨hc, rfl⟩)))
theorem pos_slot {l : List S32} {s : Int} {j : Nat} (h : posOf l (0, s) = some j) : j < l.length ∧ (l.getD j z32).f0 = s := by
  obtain ⟨h1, h2⟩ := posOf_some h
  rw [keys_mem] at h2
  simp at h2
  exact ⟨h1, h2.symm⟩
theorem pos_claim {l : List S32} {s : Int} {j : Nat} (h : posOf l (2, s) = some j) : j < l.length ∧ (l.getD j z32).f2 = s ∧ s > 0 := by
  obtain ⟨h1, h2⟩ := posOf_some h
  rw [keys_mem] at h2
  simp at h2
  exact ⟨h1, h2.2.symm, by omega⟩
/-! ### What the functions come to over such a list -/
theorem nums_ok {a lo hi : Int} (h0 : lo ≤ a) (h1 : a < hi) (r : List Int) : numsErr 0 (a :: lo :: hi :: r) = numsErr 0 r := by
  unfold numsErr
  rw [if_pos rfl, if_pos rfl]
  simp [numsBad, show ¬ a < lo by omega, show ¬ hi ≤ a by omega]
theorem nums_nil : numsErr 0 [] = 0 := rfl
theorem claim_good {l : List S32} (h : Good l) {n : Nat} (hn : n < l.length) {p : Int} (h1 : 1 ≤ p) (h2 : p ≤ 8) :
    heldClaim l (l.getD n z32).f0 p = if (l.getD n z32).f2 > 0 then ([], 9) else if (posOf l (2, p)).isSome = true then ([], 7) else (heldSet l n p, 0) := by
  obtain ⟨c1, c2, c3⟩ := h.check
  have hx := h.at_ hn
  unfold heldClaim
  rw [c1, nums_ok hx.1.1 hx.1.2, nums_ok h1 (by omega), nums_nil, if_pos rfl, c3, h.slot hn, c3]
  simp only [Option.map_some, Int.ofNat_eq_natCast, Int.toNat_natCast, Option.isSome_map]
theorem set_getD {l : List S32} {n : Nat} {c : Int} (j : Nat) (hn : n < l.length) : (heldSet l n c).getD j z32 = if j = n then ⟨(l.getD n z32).f0, (l.getD n z32).f1, c⟩ else l.getD j z32 := by
  unfold heldSet
  simp only [List.getD_eq_getElem?_getD, List.getElem?_set]
  by_cases e : n = j
  · subst e
    simp [hn]
  · simp [e, Ne.symm e]
theorem pair_iff (R : S32 → S32 → Prop) (l : List S32) : l.Pairwise R ↔ ∀ i j, i < j → j < l.length → R (l.getD i z32) (l.getD j z32) := by
  rw [List.pairwise_iff_getElem]
  constructor
  · intro h i j hij hj
    have := h i j (by omega) hj hij
    simpa [List.getD_eq_getElem?_getD, List.getElem?_eq_getElem hj, List.getElem?_eq_getElem (show i < l.length by omega)] using this
  · intro h i j hi hj hij
    have := h i j hij hj
    simpa [List.getD_eq_getElem?_getD, List.getElem?_eq_getElem hj, List.getElem?_eq_getElem (show i < l.length by omega)] using this
theorem all_iff (p : S32 → Prop) (l : List S32) : (∀ x ∈ l, p x) ↔ ∀ i, i < l.length → p (l.getD i z32) := by
  constructor
  · exact fun h i hi => h _ (getD_mem hi)
  · intro h x hx
    obtain ⟨i, hi, rfl⟩ := List.mem_iff_getElem.1 hx
    have := h i hi
    simpa [List.getD_eq_getElem?_getD, List.getElem?_eq_getElem hi] using this
theorem set_good {l : List S32} (h : Good l) {n : Nat} (hn : n < l.length) {p : Int} (h1 : 1 ≤ p) (h2 : p ≤ 8) (hp : posOf l (2, p) = none) : Good (heldSet l n p) := by
  have hl : (heldSet l n p).length = l.length := by unfold heldSet; simp
  have hq : ∀ j, j < l.length → (l.getD j z32).f2 ≠ p := fun j hj e => by
    have := h.claim hj (by omega)
    rw [e, hp] at this
    cases this
  refine ⟨by rw [hl]; exact h.len, (all_iff _ _).2 fun i hi => ?_, (pair_iff _ _).2 fun i j hij hj => ?_⟩
  · rw [set_getD i hn]
    rw [hl] at hi
    by_cases e : i = n
    · rw [if_pos e]
      have := h.at_ hn
      exact badOf_mk ⟨this.1, this.2.1, by omega, by omega⟩
    · rw [if_neg e]
      exact h.bad _ (getD_mem hi)
  · rw [hl] at hj
    have hA := (pair_iff _ _).1 h.apart
    rw [set_getD i hn, set_getD j hn]
    by_cases e : i = n
    · subst e
      rw [if_pos rfl, if_neg (by omega)]
      have := hA i j hij hj
      exact ⟨this.1, this.2.1, fun _ e => hq j hj e.symm⟩
    · rw [if_neg e]
      by_cases e2 : j = n
      · subst e2
        rw [if_pos rfl]
        have := hA i j hij hj
        exact ⟨this.1, this.2.1, fun _ e => hq i (by omega) e⟩
      · rw [if_neg e2]
        exact hA i j hij hj
theorem ext_getD {l m : List S32} (h : l.length = m.length) (h2 : ∀ j, j < l.length → l.getD j z32 = m.getD j z32) : l = m := by
  apply List.ext_getElem h
  intro j hj hm
  have := h2 j hj
  simpa [List.getD_eq_getElem?_getD, List.getElem?_eq_getElem hj, List.getElem?_eq_getElem hm] using this
theorem awake_true : headgatelaw19_awake.f 60 = some true := by decide +kernel
theorem same_step (l : List S32) (hl : l.length ≤ 1000) : ∀ (d i k : Nat), i + d = l.length → d < k → headgatekit_SameWrites.l0 k l l (i : Int) = some true
  | 0, i, k, hd, hk => by
    obtain ⟨k, rfl⟩ : ∃ m, k = m + 1 := ⟨k - 1, by omega⟩
    rw [headgatekit_SameWrites.l0, if_neg (by omega)]
  | d + 1, i, k, hd, hk => by
    obtain ⟨k, rfl⟩ : ∃ m, k = m + 1 := ⟨k - 1, by omega⟩
    have c : (i : Int) < (l.length : Int) := by omega
    rw [headgatekit_SameWrites.l0, if_pos c, if_pos (by omega), if_pos c, if_neg (by simp), show wrap64 ((i : Int) + 1) = ((i + 1 : Nat) : Int) by rw [w64 (by omega) (by omega)]; omega]
    exact same_step l hl d (i + 1) k (by omega) (by omega)
theorem same_f (l : List S32) (hl : l.length ≤ 16) (k : Nat) (hk : 17 < k) : headgatekit_SameWrites.f k l l = some true := by
  unfold headgatekit_SameWrites.f
  rw [if_pos rfl]
  exact same_step l (by omega) l.length 0 k (by omega) (by omega)
theorem is_f (l : List S32) (hl : l.length ≤ 16) (k : Nat) (hk : 17 < k) : headgatelaw19_is.f k l l 0 = some true := by
  unfold headgatelaw19_is.f
  rw [if_pos rfl, same_f l hl k hk]
  rfl

theorem own_f (l : List S32) (h : l.length ≤ 1000) : headgatekit_OwnWrites.f l = some l := by
  unfold headgatekit_OwnWrites.f
  simp only [Option.bind_some, List.length_nil, List.nil_append]
  rw [if_pos (by omega)]

theorem find_good {l : List S32} (h : Good l) {n : Nat} (hn : n < l.length) : heldFind l (l.getD n z32).f0 = ((n : Int), 0) := by
  obtain ⟨c1, c2, c3⟩ := h.check
  have hx := h.at_ hn
  unfold heldFind
  rw [c1, nums_ok hx.1.1 hx.1.2, nums_nil, if_pos rfl, c3, h.slot hn]
  simp
theorem remove_good {l : List S32} (h : Good l) {n : Nat} (hn : n < l.length) : heldRemove l (l.getD n z32).f0 = (l.eraseIdx n, (l.getD n z32).f0, (l.getD n z32).f1, (l.getD n z32).f2, 0) := by
  unfold heldRemove
  rw [find_good h hn]
  simp only [if_true, Int.toNat_natCast, List.eraseIdx_eq_take_drop_succ]
theorem erase_good {l : List S32} (h : Good l) (n : Nat) : Good (l.eraseIdx n) := by
  have hs := List.eraseIdx_sublist l n
  exact ⟨Nat.le_trans hs.length_le h.len, fun x hx => h.bad x (hs.subset hx), h.apart.sublist hs⟩
theorem erase_getD {l : List S32} (n j : Nat) : (l.eraseIdx n).getD j z32 = if j < n then l.getD j z32 else l.getD (j + 1) z32 := by
  simp only [List.getD_eq_getElem?_getD, List.getElem?_eraseIdx]
  by_cases h : j < n <;> simp [h]
def hit (s f : Int) (l : List S32) : Bool := l.any fun x => x.f0 == s || x.f1 == f
theorem free_hit {l : List S32} (h : Good l) (s f : Int) : heldFree (heldCheck l).2.2 (heldKeys s f 0) = !hit s f l := by
  obtain ⟨c1, c2, c3⟩ := h.check
  have e : heldKeys s f 0 = [(0, s), (1, f)] := by simp [heldKeys]
  rw [e, Bool.eq_iff_iff, heldFree_iff]
  simp only [c3, List.mem_cons, List.not_mem_nil, or_false, forall_eq_or_imp, forall_eq, Option.map_eq_none_iff, posOf_none, keys_mem]
  unfold hit
  simp [List.any_eq_false]
  constructor
  · rintro ⟨h0, h1⟩ x hx
    exact ⟨fun e => h0 x hx e.symm, fun e => h1 x hx e.symm⟩
  · intro h0
    exact ⟨fun x hx e => (h0 x hx).1 e.symm, fun x hx e => (h0 x hx).2 e.symm⟩
theorem add_good {l : List S32} (h : Good l) {s f : Int} (s0 : 0 ≤ s) (s1 : s < 256) (f0 : 0 ≤ f) (f1 : f < 256) : heldAdd l s f = if hit s f l = true then ([], 7) else if l.length = 16 then ([], 5) else (l ++ [⟨s, f, 0⟩], 0) := by
  unfold heldAdd
  rw [h.check.1, nums_ok s0 s1, nums_ok f0 f1, nums_nil, if_pos rfl, free_hit h]
  cases hit s f l <;> simp
theorem snoc_good {l : List S32} (h : Good l) {s f : Int} (s0 : 0 ≤ s) (s1 : s < 256) (f0 : 0 ≤ f) (f1 : f < 256) (hn : l.length < 16) (hh : hit s f l = false) : Good (l ++ [⟨s, f, 0⟩]) := by
  unfold hit at hh
  simp [List.any_eq_false] at hh
  refine ⟨by simp; omega, fun x hx => ?_, ?_⟩
  · rcases List.mem_append.1 hx with hx | hx
    · exact h.bad x hx
    · obtain rfl := List.mem_singleton.1 hx
      exact badOf_mk ⟨⟨s0, s1⟩, ⟨f0, f1⟩, by omega, by omega⟩
  · rw [List.pairwise_append]
    refine ⟨h.apart, List.pairwise_singleton _ _, fun x hx y hy => ?_⟩
    obtain rfl := List.mem_singleton.1 hy
    obtain ⟨h0, h1⟩ := hh x hx
    exact ⟨h0, h1, fun hc => by simp; omega⟩
theorem snoc_getD (l : List S32) (x : S32) : (l ++ [x]).getD l.length z32 = x := by simp [List.getD_eq_getElem?_getD]

/-! ### The reference over any list -/
theorem ref_one (s f c : Int) : headgateref19_one.f s f c = some (if heldBad s f c = true then 2 else 0) := by
  unfold headgateref19_one.f heldBad
  by_cases h0 : s < 0
  · simp [h0]
  by_cases h1 : s ≥ 256
  · simp [h0, h1]
  by_cases h2 : f < 0
  · simp [h0, h1, h2]
  by_cases h3 : f ≥ 256
  · simp [h0, h1, h2, h3]
  by_cases h4 : c < 0
  · simp [h0, h1, h2, h3, h4]
  by_cases h5 : c > 8
  · simp [h0, h1, h2, h3, h4, h5]
  simp [h0, h1, h2, h3, h4, h5]
def ApartR (x y : S32) : Prop := x.f0 ≠ y.f0 ∧ x.f1 ≠ y.f1 ∧ (y.f2 = 0 ∨ x.f2 ≠ y.f2)
theorem apartR_iff {x y : S32} (hy : badOf y = false) : ApartR x y ↔ Apart x y := by
  have := badOf_no hy
  constructor
  · rintro ⟨h0, h1, h2⟩
    exact ⟨h0, h1, fun hc => by rcases h2 with h2 | h2 <;> omega⟩
  · rintro ⟨h0, h1, h2⟩
    refine ⟨h0, h1, ?_⟩
    by_cases c : y.f2 = 0
    · exact .inl c
    · exact .inr fun e => h2 (by omega) e
theorem nat_succ {i : Nat} (h : i ≤ 1000) : wrap64 ((i : Int) + 1) = ((i + 1 : Nat) : Int) := by rw [w64 (by omega) (by omega)]; omega
theorem inner_ok (l : List S32) (i : Nat) (hi : i < l.length) (hl : l.length ≤ 1000) : ∀ (d j k : Nat), j + d = i → d < k → (∀ q, j ≤ q → q < i → ApartR (l.getD q z32) (l.getD i z32)) → headgateref19_Check.l1 k l (i : Int) (j : Int) = headgateref19_Check.l0 (k - d - 1) l ((i + 1 : Nat) : Int)
  | 0, j, k, hd, hk, h => by
    obtain ⟨k, rfl⟩ : ∃ m, k = m + 1 := ⟨k - 1, by omega⟩
    rw [headgateref19_Check.l1, if_neg (by omega), nat_succ (by omega)]
    rfl
  | d + 1, j, k, hd, hk, h => by
    obtain ⟨k, rfl⟩ : ∃ m, k = m + 1 := ⟨k - 1, by omega⟩
    have ih := inner_ok l i hi hl d (j + 1) k (by omega) (by omega) (fun q h1 h2 => h q (by omega) h2)
    rw [show k + 1 - (d + 1) - 1 = k - d - 1 by omega, ← ih]
    obtain ⟨h0, h1, h2⟩ := h j (Nat.le_refl _) (by omega)
    have rj : rd_T32 l (j : Int) = l.getD j z32 := rfl
    have ri : rd_T32 l (i : Int) = l.getD i z32 := rfl
    rw [headgateref19_Check.l1, if_pos (by omega), if_pos (by omega), if_pos (by omega), if_pos (by omega), if_pos (by omega), nat_succ (by omega), rj, ri, if_neg h0, if_neg h1]
    by_cases c : (l.getD i z32).f2 = 0
    · rw [if_pos c]
    · rw [if_neg c, if_neg (by rcases h2 with h2 | h2; exact absurd h2 c; exact h2)]
theorem inner_bad (l : List S32) (i : Nat) (hi : i < l.length) (hl : l.length ≤ 1000) : ∀ (d j k : Nat), j + d = i → d < k → (∃ q, j ≤ q ∧ q < i ∧ ¬ ApartR (l.getD q z32) (l.getD i z32)) → headgateref19_Check.l1 k l (i : Int) (j : Int) = some (7, (i : Int))
  | 0, j, k, hd, hk, h => by
    obtain ⟨q, h1, h2, _⟩ := h
    omega
  | d + 1, j, k, hd, hk, h => by
    obtain ⟨k, rfl⟩ : ∃ m, k = m + 1 := ⟨k - 1, by omega⟩
    have rj : rd_T32 l (j : Int) = l.getD j z32 := rfl
    have ri : rd_T32 l (i : Int) = l.getD i z32 := rfl
    rw [headgateref19_Check.l1, if_pos (by omega), if_pos (by omega), if_pos (by omega), if_pos (by omega), if_pos (by omega), nat_succ (by omega), rj, ri]
    by_cases c0 : (l.getD j z32).f0 = (l.getD i z32).f0
    · rw [if_pos c0]
    rw [if_neg c0]
    by_cases c1 : (l.getD j z32).f1 = (l.getD i z32).f1
    · rw [if_pos c1]
    rw [if_neg c1]
    have later : ApartR (l.getD j z32) (l.getD i z32) → headgateref19_Check.l1 k l (i : Int) ((j + 1 : Nat) : Int) = some (7, (i : Int)) := fun ha => by
      obtain ⟨q, h1, h2, h3⟩ := h
      refine inner_bad l i hi hl d (j + 1) k (by omega) (by omega) ⟨q, ?_, h2, h3⟩
      by_cases e : q = j
      · subst e; exact absurd ha h3
      · omega
    by_cases c : (l.getD i z32).f2 = 0
    · rw [if_pos c]
      exact later ⟨c0, c1, .inl c⟩
    · rw [if_neg c]
      by_cases c2 : (l.getD j z32).f2 = (l.getD i z32).f2
      · rw [if_pos c2]
      · rw [if_neg c2]
        exact later ⟨c0, c1, .inr c2⟩
theorem drop_getD {l : List S32} {i : Nat} (hi : i < l.length) : l.drop i = l.getD i z32 :: l.drop (i + 1) := by
  rw [List.drop_eq_getElem_cons hi]
  simp [List.getD_eq_getElem?_getD, List.getElem?_eq_getElem hi]
theorem check_step (l : List S32) (hl : l.length ≤ 16) : ∀ (e i k : Nat) (g : Int × Int → Option Int), i + e = l.length → 20 * e + 1 < k → (∀ q, g q = none ↔ ∀ j, j < i → q ∉ keysOf (l.getD j z32)) →
    headgateref19_Check.l0 k l (i : Int) = some ((heldScan i g (l.drop i)).1, (heldScan i g (l.drop i)).2.1)
  | 0, i, k, g, he, hk, hg => by
    obtain ⟨k, rfl⟩ : ∃ m, k = m + 1 := ⟨k - 1, by omega⟩
    rw [headgateref19_Check.l0, if_neg (by omega), List.drop_eq_nil_of_le (by omega)]
    rfl
  | e + 1, i, k, g, he, hk, hg => by
    obtain ⟨k, rfl⟩ : ∃ m, k = m + 1 := ⟨k - 1, by omega⟩
    have hi : i < l.length := by omega
    have ri : rd_T32 l (i : Int) = l.getD i z32 := rfl
    rw [headgateref19_Check.l0, if_pos (by omega), if_pos (by omega), ri, ref_one, drop_getD hi]
    simp only [Option.bind_some, heldScan]
    cases hb : heldBad (l.getD i z32).f0 (l.getD i z32).f1 (l.getD i z32).f2 with
    | true => simp
    | false =>
      have hb' : badOf (l.getD i z32) = false := hb
      simp only [Bool.false_eq_true, if_false, if_true]
      cases hf : heldFree g (heldKeys (l.getD i z32).f0 (l.getD i z32).f1 (l.getD i z32).f2) with
      | true =>
        simp only [if_true]
        have hfr := (heldFree_iff _ _).1 hf
        have hap : ∀ q, 0 ≤ q → q < i → ApartR (l.getD q z32) (l.getD i z32) := fun q _ hq => (apartR_iff hb').2 (apart_keys fun k h1 h2 => (hg k).1 (hfr k h2) q hq h1)
        have := inner_ok l i hi (by omega) i 0 k (by omega) (by omega) hap
        rw [show ((0 : Nat) : Int) = 0 from rfl] at this
        rw [this]
        refine check_step l hl e (i + 1) (k - i - 1) _ (by omega) (by omega) fun q => ?_
        rw [show heldPut (heldKeys (l.getD i z32).f0 (l.getD i z32).f1 (l.getD i z32).f2) (i : Int) g = heldPut (keysOf (l.getD i z32)) (i : Int) g from rfl, heldPut_eq]
        by_cases hq : q ∈ keysOf (l.getD i z32)
        · rw [if_pos hq]
          exact ⟨fun h => (by cases h), fun h => absurd hq (h i (by omega))⟩
        · rw [if_neg hq, hg q]
          constructor
          · intro h j hj
            by_cases e : j = i
            · subst e; exact hq
            · exact h j (by omega)
          · exact fun h j hj => h j (by omega)
      | false =>
        simp only [Bool.false_eq_true, if_false]
        have hex : ∃ q, 0 ≤ q ∧ q < i ∧ ¬ ApartR (l.getD q z32) (l.getD i z32) := by
          apply Classical.byContradiction
          intro hno
          have : heldFree g (heldKeys (l.getD i z32).f0 (l.getD i z32).f1 (l.getD i z32).f2) = true := (heldFree_iff _ _).2 fun k hk2 => (hg k).2 fun j hj hkj => by
            have ha : ApartR (l.getD j z32) (l.getD i z32) := Classical.byContradiction fun hn => hno ⟨j, Nat.zero_le _, hj, hn⟩
            exact ((apartR_iff hb').1 ha).keys k hkj hk2
          rw [this] at hf
          cases hf
        have := inner_bad l i hi (by omega) i 0 k (by omega) (by omega) hex
        rw [show ((0 : Nat) : Int) = 0 from rfl] at this
        rw [this]
theorem ref_check (l : List S32) (k : Nat) (hk : 400 ≤ k) : headgateref19_Check.f k l = some ((heldCheck l).1, (heldCheck l).2.1) := by
  unfold headgateref19_Check.f heldCheck
  by_cases c : 16 < l.length
  · rw [if_pos (by omega), if_pos c]
  · rw [if_neg (by omega), if_neg c]
    have := check_step l (by omega) l.length 0 k (fun _ => none) (by omega) (by omega) (fun q => ⟨fun _ j hj => by omega, fun _ => rfl⟩)
    simpa using this
theorem scan_zero : ∀ (xs : List S32) (i : Nat) (g : Int × Int → Option Int), (heldScan i g xs).1 = 0 → (∀ x ∈ xs, badOf x = false) ∧ xs.Pairwise Apart ∧ ∀ x ∈ xs, ∀ k ∈ keysOf x, g k = none
  | [], i, g, h => ⟨fun x hx => (by cases hx), List.Pairwise.nil, fun x hx => (by cases hx)⟩
  | x :: xs, i, g, h => by
    rw [heldScan] at h
    cases hb : heldBad x.f0 x.f1 x.f2 with
    | true => rw [hb] at h; simp at h
    | false =>
      rw [hb] at h
      simp only [Bool.false_eq_true, if_false] at h
      cases hf : heldFree g (heldKeys x.f0 x.f1 x.f2) with
      | false => rw [hf] at h; simp at h
      | true =>
        rw [hf] at h
        simp only [if_true] at h
        obtain ⟨h1, h2, h3⟩ := scan_zero xs (i + 1) _ h
        have hfr := (heldFree_iff _ _).1 hf
        have hput : ∀ y ∈ xs, ∀ k ∈ keysOf y, k ∉ keysOf x ∧ g k = none := fun y hy k hk => by
          have := h3 y hy k hk
          rw [show heldPut (heldKeys x.f0 x.f1 x.f2) (i : Int) g = heldPut (keysOf x) (i : Int) g from rfl, heldPut_eq] at this
          by_cases c : k ∈ keysOf x
          · rw [if_pos c] at this; cases this
          · rw [if_neg c] at this; exact ⟨c, this⟩
        refine ⟨fun y hy => ?_, List.pairwise_cons.2 ⟨fun y hy => apart_keys fun k hk1 hk2 => (hput y hy k hk2).1 hk1, h2⟩, fun y hy k hk => ?_⟩
        · rcases List.mem_cons.1 hy with rfl | hy
          · exact hb
          · exact h1 y hy
        · rcases List.mem_cons.1 hy with rfl | hy
          · exact hfr k hk
          · exact (hput y hy k hk).2
theorem good_of {l : List S32} (h : (heldCheck l).1 = 0) : Good l := by
  have hl := heldCheck_len h
  have e : heldCheck l = heldScan 0 (fun _ => none) l := by unfold heldCheck; rw [if_neg (by omega)]
  rw [e] at h
  obtain ⟨h1, h2, _⟩ := scan_zero l 0 _ h
  exact ⟨hl, h1, h2⟩
theorem ref_asks (l : List S32) (s f p : Int) (k : Nat) (hk : 400 ≤ k) : headgateref19_asks.f k l s f p = some (numsErr (heldCheck l).1 [s, 0, 256, f, 0, 256, p, 1, 9]) := by
  unfold headgateref19_asks.f
  rw [ref_check l k hk]
  simp only [Option.bind_some, ref_one]
  unfold numsErr
  by_cases c : (heldCheck l).1 = 0
  · rw [if_pos c, if_pos c]
    have hb : numsBad [s, 0, 256, f, 0, 256, p, 1, 9] = (heldBad s f 0 || decide (p < 1) || decide (p > 8)) := by
      rw [Bool.eq_iff_iff]
      simp [numsBad, heldBad]
      omega
    rw [hb]
    cases heldBad s f 0 with
    | true => simp
    | false =>
      by_cases c1 : p < 1
      · simp [c1]
      · by_cases c2 : p > 8
        · simp [c1, c2]
        · simp [c1, c2]
  · rw [if_neg c, if_neg c]
theorem ref_own (l : List S32) (h : l.length ≤ 1000) : headgateref19_own.f l = some l := by
  unfold headgateref19_own.f
  simp only [Option.bind_some, List.length_nil, List.nil_append]
  rw [if_pos (by omega)]
theorem find_step (l : List S32) (s : Int) (hl : l.length ≤ 1000) : ∀ (d i k : Nat), i + d = l.length → d < k → headgateref19_find.l0 k l s (i : Int) = some (match posOf (l.drop i) (0, s) with
    | some j => ((i + j : Nat) : Int)
    | none => -1)
  | 0, i, k, hd, hk => by
    obtain ⟨k, rfl⟩ : ∃ m, k = m + 1 := ⟨k - 1, by omega⟩
    rw [headgateref19_find.l0, if_neg (by omega), List.drop_eq_nil_of_le (by omega)]
    rfl
  | d + 1, i, k, hd, hk => by
    obtain ⟨k, rfl⟩ : ∃ m, k = m + 1 := ⟨k - 1, by omega⟩
    have hi : i < l.length := by omega
    have ri : rd_T32 l (i : Int) = l.getD i z32 := rfl
    rw [headgateref19_find.l0, if_pos (by omega), if_pos (by omega), ri, drop_getD hi, posOf_cons, nat_succ (by omega)]
    by_cases c : (l.getD i z32).f0 = s
    · rw [if_pos c, if_pos ((keys_mem _ _).2 (.inl (by rw [c])))]
      rfl
    · have hn : (0, s) ∉ keysOf (l.getD i z32) := fun h => by
        rw [keys_mem] at h
        simp at h
        exact c h.symm
      rw [if_neg c, if_neg hn, find_step l s hl d (i + 1) k (by omega) (by omega)]
      cases posOf (l.drop (i + 1)) (0, s) with
      | none => rfl
      | some j =>
        simp only [Option.map_some, Option.some.injEq]
        rw [show i + 1 + j = i + (j + 1) by omega]
theorem ref_find (l : List S32) (s : Int) (hl : l.length ≤ 1000) (k : Nat) (hk : l.length < k) : headgateref19_find.f k l s = some (match posOf l (0, s) with
    | some j => (j : Int)
    | none => -1) := by
  have := find_step l s hl l.length 0 k (by omega) hk
  simpa [headgateref19_find.f] using this

theorem same_any (l : List S32) (hl : l.length ≤ 1000) (k : Nat) (hk : 1000 < k) : headgatekit_SameWrites.f k l l = some true := by
  unfold headgatekit_SameWrites.f
  rw [if_pos rfl]
  exact same_step l (by omega) l.length 0 k (by omega) (by omega)
theorem add_step (l : List S32) (s f : Int) (hl : l.length ≤ 16) : ∀ (d i k : Nat), i + d = l.length → d < k → headgateref19_Add.l0 k l s f (i : Int) = some (if hit s f (l.drop i) = true then ([], 7) else if l.length = 16 then ([], 5) else (l ++ [⟨s, f, 0⟩], 0))
  | 0, i, k, hd, hk => by
    obtain ⟨k, rfl⟩ : ∃ m, k = m + 1 := ⟨k - 1, by omega⟩
    rw [headgateref19_Add.l0, if_neg (by omega), List.drop_eq_nil_of_le (by omega), ref_own l (by omega)]
    simp only [Option.bind_some, hit, List.any_nil, Bool.false_eq_true, if_false]
    by_cases c : l.length = 16
    · rw [if_pos (by omega), if_pos c]
    · rw [if_neg (by omega), if_neg c, if_pos (by omega)]
  | d + 1, i, k, hd, hk => by
    obtain ⟨k, rfl⟩ : ∃ m, k = m + 1 := ⟨k - 1, by omega⟩
    have hi : i < l.length := by omega
    have ri : rd_T32 l (i : Int) = l.getD i z32 := rfl
    have hh : hit s f (l.drop i) = ((l.getD i z32).f0 == s || (l.getD i z32).f1 == f || hit s f (l.drop (i + 1))) := by rw [drop_getD hi]; rfl
    rw [headgateref19_Add.l0, if_pos (by omega), if_pos (by omega), ri, hh, nat_succ (by omega)]
    by_cases c0 : (l.getD i z32).f0 = s
    · rw [if_pos c0, show ((l.getD i z32).f0 == s) = true from beq_iff_eq.mpr c0]
      rfl
    · by_cases c1 : (l.getD i z32).f1 = f
      · rw [if_neg c0, if_pos c1, show ((l.getD i z32).f0 == s) = false from beq_eq_false_iff_ne.mpr c0, show ((l.getD i z32).f1 == f) = true from beq_iff_eq.mpr c1]
        rfl
      · rw [if_neg c0, if_neg c1, show ((l.getD i z32).f0 == s) = false from beq_eq_false_iff_ne.mpr c0, show ((l.getD i z32).f1 == f) = false from beq_eq_false_iff_ne.mpr c1, Bool.false_or, Bool.false_or]
        exact add_step l s f hl d (i + 1) k (by omega) (by omega)
theorem nums_two (e s f : Int) : numsErr e [s, 0, 256, f, 0, 256, 1, 1, 9] = numsErr e [s, 0, 256, f, 0, 256] := by
  unfold numsErr
  simp [numsBad]
theorem nums_one (e s : Int) : numsErr e [s, 0, 256, 0, 0, 256, 1, 1, 9] = numsErr e [s, 0, 256] := by
  unfold numsErr
  simp [numsBad]
theorem ref_Add (l : List S32) (s f : Int) (k : Nat) (hk : 400 ≤ k) : headgateref19_Add.f k l s f = some (heldAdd l s f) := by
  unfold headgateref19_Add.f heldAdd
  rw [ref_asks l s f 1 k hk, nums_two]
  simp only [Option.bind_some]
  by_cases c : numsErr (heldCheck l).1 [s, 0, 256, f, 0, 256] = 0
  · rw [if_pos c, if_pos c]
    have hg := good_of (numsErr_zero c).1
    have := add_step l s f hg.len l.length 0 k (by omega) (by have := hg.len; omega)
    rw [show ((0 : Nat) : Int) = 0 from rfl, List.drop_zero] at this
    rw [this, free_hit hg]
    cases hit s f l <;> simp
  · rw [if_neg c, if_neg c]
theorem held_find {l : List S32} (s : Int) (h : numsErr (heldCheck l).1 [s, 0, 256] = 0) : heldFind l s = match posOf l (0, s) with
    | some j => ((j : Int), 0)
    | none => (0, 6) := by
  have hg := good_of (numsErr_zero h).1
  unfold heldFind
  rw [if_pos h, hg.check.2.2]
  cases posOf l (0, s) <;> simp
theorem ref_Find (l : List S32) (s : Int) (k : Nat) (hk : 400 ≤ k) : headgateref19_Find.f k l s = some (heldFind l s) := by
  unfold headgateref19_Find.f
  rw [ref_asks l s 0 1 k hk, nums_one]
  simp only [Option.bind_some]
  by_cases c : numsErr (heldCheck l).1 [s, 0, 256] = 0
  · have hg := good_of (numsErr_zero c).1
    have hl := hg.len
    rw [if_pos c, ref_find l s (by omega) k (by omega), held_find s c]
    simp only [Option.bind_some]
    cases posOf l (0, s) with
    | none => rfl
    | some j => simp only; rw [if_neg (by omega)]
  · rw [if_neg c]
    unfold heldFind
    rw [if_neg c]
theorem ref_Remove (l : List S32) (s : Int) (k : Nat) (hk : 400 ≤ k) : headgateref19_Remove.f k l s = some (heldRemove l s) := by
  unfold headgateref19_Remove.f heldRemove
  rw [ref_Find l s k hk]
  simp only [Option.bind_some]
  by_cases c : (heldFind l s).2 = 0
  · obtain ⟨i0, i1, i2⟩ := heldFind_in c
    rw [if_pos c, if_pos c]
    generalize heldFind l s = q at *
    obtain ⟨a, e⟩ := q
    simp only at c i0 i1 ⊢
    obtain ⟨n, rfl⟩ : ∃ n : Nat, a = n := ⟨a.toNat, by omega⟩
    simp only [Int.toNat_natCast]
    rw [if_pos i0, if_pos (by omega), ref_own _ (by simp; omega), nat_succ (by omega)]
    simp only [Option.bind_some]
    rw [if_pos (by omega), if_pos (by omega), if_pos (by simp; omega), if_pos i1]
    rfl
  · rw [if_neg c, if_neg c]
theorem HeldChanges : headgatelaw19_HeldChanges.Pure := by
  intro l s f _ _ _
  have aw := fun k => at_rounds headgatelaw19_awake.mono (k' := 60 + k) (by omega) awake_true
  have aw1 : headgatelaw19_awake.f 2001 = some true := aw 1941
  have aw0 : headgatelaw19_awake.f 2000 = some true := aw 1940
  refine ⟨2001, ?_⟩
  unfold headgatelaw19_HeldChanges.f
  by_cases c : (l.length : Int) > 20
  · rw [if_pos c, aw1]
    rfl
  rw [if_neg c, own_f l (by omega)]
  simp only [Option.bind_some, held_Check.f, held_Add.f]
  rw [ref_check l 2001 (by omega), ref_Add l s f 2001 (by omega)]
  simp only [Option.bind_some, if_true]
  have hal : (heldAdd l s f).1.length ≤ 1000 := by
    unfold heldAdd
    split
    · split
      · split <;> simp <;> omega
      · simp
    · simp
  have hrl : (heldRemove l s).1.length ≤ 1000 := by
    unfold heldRemove
    split
    · simp; omega
    · simp
  rw [same_any _ hal 2001 (by omega)]
  simp only [Option.bind_some, if_true, bne_self_eq_false]
  rw [headgatelaw19_HeldChanges.j0, if_neg (by decide)]
  simp only [held_Find.f, held_Remove.f, Option.bind_some]
  rw [ref_Find l s 2000 (by omega), ref_Remove l s 2000 (by omega)]
  simp only [Option.bind_some, if_true]
  rw [same_any _ hrl 2000 (by omega)]
  simp only [Option.bind_some, if_true, beq_self_eq_true, Bool.and_self]
  rw [same_any l (by omega) 2000 (by omega), aw0]
  rfl

end Go.Proofs.Ytfnhoncpaheejaa.Pure
