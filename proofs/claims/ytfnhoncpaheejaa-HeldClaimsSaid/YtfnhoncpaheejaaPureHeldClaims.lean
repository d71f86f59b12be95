/- A list with a claim, or without one, which write a process claims, and which frames are being written, or which errors, are those of the reference: HeldClaims returns true, for every list of writes and every two numbers. -/
import Derived.Test.YtfnhoncpaheejaaX69
namespace Go.Proofs.Ytfnhoncpaheejaa.Pure
open Go.RowKit Go.Proofs.Ytfnhoncpaheejaa.X Go.Proofs.YtfnhoncpaheejaaW.PrintWords Go.Proofs.YtfnhoncpaheejaaW.PrintLast
set_option linter.unusedVariables false
set_option linter.unusedSimpArgs false

theorem w64 {x : Int} (h0 : -9223372036854775808 ≤ x) (h1 : x ≤ 9223372036854775807) : wrap64 x = x := by
  unfold wrap64
  omega

/-! ### What a list of writes that stand apart holds -/
theorem heldPut_eq (ks : List (Int × Int)) (i : Int) (g : Int × Int → Option Int) (k : Int × Int) : heldPut ks i g k = if k ∈ ks then some i else g k := by
  unfold heldPut
  induction ks generalizing g with
  | nil => simp
  | cons q r ih =>
    rw [List.foldl_cons, ih]
    by_cases h : k ∈ r
    · rw [if_pos h, if_pos (List.mem_cons_of_mem _ h)]
    · rw [if_neg h]
      by_cases e : k = q
      · rw [if_pos e, if_pos (by rw [e]; exact List.mem_cons_self)]
      · rw [if_neg e, if_neg (by simp [e, h])]
theorem heldFree_iff (g : Int × Int → Option Int) (ks : List (Int × Int)) : heldFree g ks = true ↔ ∀ k ∈ ks, g k = none := by
  unfold heldFree
  simp [List.all_eq_true]
def keysOf (x : S32) : List (Int × Int) := heldKeys x.f0 x.f1 x.f2
def badOf (x : S32) : Bool := heldBad x.f0 x.f1 x.f2
theorem keys_mem (x : S32) (k : Int × Int) : k ∈ keysOf x ↔ k = (0, x.f0) ∨ k = (1, x.f1) ∨ (x.f2 > 0 ∧ k = (2, x.f2)) := by
  unfold keysOf heldKeys
  by_cases h : x.f2 > 0 <;> simp [h]
def Apart (x y : S32) : Prop := x.f0 ≠ y.f0 ∧ x.f1 ≠ y.f1 ∧ (x.f2 > 0 → x.f2 ≠ y.f2)
theorem Apart.keys {x y : S32} (h : Apart x y) : ∀ k ∈ keysOf x, k ∉ keysOf y := by
  intro k hx hy
  rw [keys_mem] at hx hy
  obtain ⟨h0, h1, h2⟩ := h
  rcases hx with rfl | rfl | ⟨hc, rfl⟩ <;> rcases hy with e | e | ⟨hd, e⟩ <;> simp at e
  · exact h0 e
  · exact h1 e
  · exact h2 hc e
theorem apart_keys {x y : S32} (h : ∀ k ∈ keysOf x, k ∉ keysOf y) : Apart x y := by
  refine ⟨fun e => h (0, x.f0) ((keys_mem _ _).2 (.inl rfl)) ((keys_mem _ _).2 (.inl (by rw [e]))), fun e => h (1, x.f1) ((keys_mem _ _).2 (.inr (.inl rfl))) ((keys_mem _ _).2 (.inr (.inl (by rw [e])))), fun hc e => h (2, x.f2) ((keys_mem _ _).2 (.inr (.inr ⟨hc, rfl⟩))) ((keys_mem _ _).2 (.inr (.inr ⟨by omega, by rw [e]⟩)))⟩
theorem Apart.symm {x y : S32} (h : Apart x y) : Apart y x := ⟨fun e => h.1 e.symm, fun e => h.2.1 e.symm, fun hc e => h.2.2 (by omega) e.symm⟩
/-- Where a key stands in a list. -/
def posOf : List S32 → Int × Int → Option Nat
  | [], _ => none
  | x :: xs, k => if k ∈ keysOf x then some 0 else (posOf xs k).map (· + 1)
theorem posOf_cons (x : S32) (xs : List S32) (k : Int × Int) : posOf (x :: xs) k = if k ∈ keysOf x then some 0 else (posOf xs k).map (· + 1) := rfl
theorem posOf_none {l : List S32} {k : Int × Int} : posOf l k = none ↔ ∀ x ∈ l, k ∉ keysOf x := by
  induction l with
  | nil => simp [posOf]
  | cons y ys ih =>
    rw [posOf_cons]
    by_cases h : k ∈ keysOf y
    · simp [h]
    · simp [h, ih]
theorem posOf_some {l : List S32} {k : Int × Int} {j : Nat} (h : posOf l k = some j) : j < l.length ∧ k ∈ keysOf (l.getD j z32) := by
  induction l generalizing j with
  | nil => cases h
  | cons y ys ih =>
    rw [posOf_cons] at h
    by_cases hk : k ∈ keysOf y
    · rw [if_pos hk] at h
      obtain rfl := Option.some.inj h
      exact ⟨by simp, hk⟩
    · rw [if_neg hk] at h
      obtain ⟨i, hi, rfl⟩ := Option.map_eq_some_iff.1 h
      obtain ⟨h1, h2⟩ := ih hi
      exact ⟨by simp; omega, by simpa using h2⟩
theorem posOf_at {l : List S32} (hp : l.Pairwise Apart) {j : Nat} (hj : j < l.length) {k : Int × Int} (hk : k ∈ keysOf (l.getD j z32)) : posOf l k = some j := by
  induction l generalizing j with
  | nil => simp at hj
  | cons y ys ih =>
    rw [List.pairwise_cons] at hp
    rw [posOf_cons]
    cases j with
    | zero => rw [if_pos (by simpa using hk)]
    | succ j =>
      have hj' : j < ys.length := by simpa using hj
      have hk' : k ∈ keysOf (ys.getD j z32) := by simpa using hk
      rw [if_neg (fun h => (hp.1 (ys.getD j z32) (by rw [List.getD_eq_getElem?_getD, List.getElem?_eq_getElem hj']; exact List.getElem_mem hj')).keys k h hk'), ih hp.2 hj' hk']
      rfl
theorem scan_good : ∀ (l : List S32) (i : Nat) (g : Int × Int → Option Int), (∀ x ∈ l, badOf x = false) → l.Pairwise Apart → (∀ x ∈ l, ∀ k ∈ keysOf x, g k = none) →
    (heldScan i g l).1 = 0 ∧ (heldScan i g l).2.1 = 0 ∧ ∀ k, (heldScan i g l).2.2 k = match posOf l k with
      | some j => some ((i + j : Nat) : Int)
      | none => g k
  | [], i, g, _, _, _ => ⟨rfl, rfl, fun k => rfl⟩
  | x :: xs, i, g, hb, hp, hg => by
    rw [List.pairwise_cons] at hp
    have h1 : heldBad x.f0 x.f1 x.f2 = false := hb x (by simp)
    have h2 : heldFree g (heldKeys x.f0 x.f1 x.f2) = true := (heldFree_iff _ _).2 (hg x (by simp))
    have e : heldScan i g (x :: xs) = heldScan (i + 1) (heldPut (keysOf x) i g) xs := by
      rw [heldScan, if_neg (by rw [h1]; decide), if_pos h2]
      rfl
    rw [e]
    obtain ⟨r1, r2, r3⟩ := scan_good xs (i + 1) (heldPut (keysOf x) i g) (fun y hy => hb y (List.mem_cons_of_mem _ hy)) hp.2 (fun y hy k hk => by
      rw [heldPut_eq, if_neg (fun h => (hp.1 y hy).keys k h hk)]
      exact hg y (List.mem_cons_of_mem _ hy) k hk)
    refine ⟨r1, r2, fun k => ?_⟩
    rw [r3 k]
    rw [posOf_cons]
    by_cases hk : k ∈ keysOf x
    · have hn : posOf xs k = none := posOf_none.2 fun y hy => (hp.1 y hy).keys k hk
      rw [hn, if_pos hk, heldPut_eq, if_pos hk]
      simp
    · rw [if_neg hk, heldPut_eq, if_neg hk]
      cases posOf xs k with
      | none => rfl
      | some j => simp; omega
structure Good (l : List S32) : Prop where
  len : l.length ≤ 16
  bad : ∀ x ∈ l, badOf x = false
  apart : l.Pairwise Apart
theorem Good.check {l : List S32} (h : Good l) : (heldCheck l).1 = 0 ∧ (heldCheck l).2.1 = 0 ∧ ∀ k, (heldCheck l).2.2 k = Option.map Int.ofNat (posOf l k) := by
  have e : heldCheck l = heldScan 0 (fun _ => none) l := by unfold heldCheck; rw [if_neg (by have := h.len; omega)]
  rw [e]
  obtain ⟨h1, h2, h3⟩ := scan_good l 0 (fun _ => none) h.bad h.apart (fun _ _ _ _ => rfl)
  refine ⟨h1, h2, fun k => ?_⟩
  rw [h3 k]
  cases posOf l k <;> simp
theorem getD_mem {l : List S32} {j : Nat} (hj : j < l.length) : l.getD j z32 ∈ l := by
  rw [List.getD_eq_getElem?_getD, List.getElem?_eq_getElem hj]
  exact List.getElem_mem hj
theorem badOf_no {x : S32} (h : badOf x = false) : (0 ≤ x.f0 ∧ x.f0 < 256) ∧ (0 ≤ x.f1 ∧ x.f1 < 256) ∧ 0 ≤ x.f2 ∧ x.f2 ≤ 8 := heldBad_no h
theorem badOf_mk {s f c : Int} (h : (0 ≤ s ∧ s < 256) ∧ (0 ≤ f ∧ f < 256) ∧ 0 ≤ c ∧ c ≤ 8) : badOf ⟨s, f, c⟩ = false := by
  simp [badOf, heldBad]
  omega
theorem Good.at_ {l : List S32} (h : Good l) {j : Nat} (hj : j < l.length) : (0 ≤ (l.getD j z32).f0 ∧ (l.getD j z32).f0 < 256) ∧ (0 ≤ (l.getD j z32).f1 ∧ (l.getD j z32).f1 < 256) ∧ 0 ≤ (l.getD j z32).f2 ∧ (l.getD j z32).f2 ≤ 8 := badOf_no (h.bad _ (getD_mem hj))
theorem Good.slot {l : List S32} (h : Good l) {j : Nat} (hj : j < l.length) : posOf l (0, (l.getD j z32).f0) = some j := posOf_at h.apart hj ((keys_mem _ _).2 (.inl rfl))
theorem Good.frame {l : List S32} (h : Good l) {j : Nat} (hj : j < l.length) : posOf l (1, (l.getD j z32).f1) = some j := posOf_at h.apart hj ((keys_mem _ _).2 (.inr (.inl rfl)))
theorem Good.claim {l : List S32} (h : Good l) {j : Nat} (hj : j < l.length) (hc : (l.getD j z32).f2 > 0) : posOf l (2, (l.getD j z32).f2) = some j := posOf_at h.apart hj ((keys_mem _ _).2 (.inr (.inr ⟨hc, rfl⟩)))
theorem pos_slot {l : List S32} {s : Int} {j : Nat} (h : posOf l (0, s) = some j) : j < l.length ∧ (l.getD j z32).f0 = s := by
  obtain ⟨h1, h2⟩ := posOf_some h
  rw [keys_mem] at h2
  simp at h2
  exact ⟨h1, h2.symm⟩
theorem pos_claim {l : List S32} {s : Int} {j : Nat} (h : posOf l (2, s) = some j) : j < l.length ∧ (l.getD j z32).f2 = s ∧ s > 0 := by
  obtain ⟨h1, h2⟩ := posOf_some h
  rw [keys_mem] at h2
  simp at h2
  exact ⟨h1, h2.2.symm, by omega⟩
/-! ### What the functions come to over such a list -/
theorem nums_ok {a lo hi : Int} (h0 : lo ≤ a) (h1 : a < hi) (r : List Int) : numsErr 0 (a :: lo :: hi :: r) = numsErr 0 r := by
  unfold numsErr
  rw [if_pos rfl, if_pos rfl]
  simp [numsBad, show ¬ a < lo by omega, show ¬ hi ≤ a by omega]
theorem nums_nil : numsErr 0 [] = 0 := rfl
theorem claim_good {l : List S32} (h : Good l) {n : Nat} (hn : n < l.length) {p : Int} (h1 : 1 ≤ p) (h2 : p ≤ 8) :
    heldClaim l (l.getD n z32).f0 p = if (l.getD n z32).f2 > 0 then ([], 9) else if (posOf l (2, p)).isSome = true then ([], 7) else (heldSet l n p, 0) := by
  obtain ⟨c1, c2, c3⟩ := h.check
  have hx := h.at_ hn
  unfold heldClaim
  rw [c1, nums_ok hx.1.1 hx.1.2, nums_ok h1 (by omega), nums_nil, if_pos rfl, c3, h.slot hn, c3]
  simp only [Option.map_some, Int.ofNat_eq_natCast, Int.toNat_natCast, Option.isSome_map]
theorem set_getD {l : List S32} {n : Nat} {c : Int} (j : Nat) (hn : n < l.length) : (heldSet l n c).getD j z32 = if j = n then ⟨(l.getD n z32).f0, (l.getD n z32).f1, c⟩ else l.getD j z32 := by
  unfold heldSet
  simp only [List.getD_eq_getElem?_getD, List.getElem?_set]
  by_cases e : n = j
  · subst e
    simp [hn]
  · simp [e, Ne.symm e]
theorem pair_iff (R : S32 → S32 → Prop) (l : List S32) : l.Pairwise R ↔ ∀ i j, i < j → j < l.length → R (l.getD i z32) (l.getD j z32) := by
  rw [List.pairwise_iff_getElem]
  constructor
  · intro h i j hij hj
    have := h i j (by omega) hj hij
    simpa [List.getD_eq_getElem?_getD, List.getElem?_eq_getElem hj, List.getElem?_eq_getElem (show i < l.length by omega)] using this
  · intro h i j hi hj hij
    have := h i j hij hj
    simpa [List.getD_eq_getElem?_getD, List.getElem?_eq_getElem hj, List.getElem?_eq_getElem (show i < l.length by omega)] using this
theorem all_iff (p : S32 → Prop) (l : List S32) : (∀ x ∈ l, p x) ↔ ∀ i, i < l.length → p (l.getD i z32) := by
  constructor
  · exact fun h i hi => h _ (getD_mem hi)
  · intro h x hx
    obtain ⟨i, hi, rfl⟩ := List.mem_iff_getElem.1 hx
    have := h i hi
    simpa [List.getD_eq_getElem?_getD, List.getElem?_eq_getElem hi] using this
theorem set_good {l : List S32} (h : Good l) {n : Nat} (hn : n < l.length) {p : Int} (h1 : 1 ≤ p) (h2 : p ≤ 8) (hp : posOf l (2, p) = none) : Good (heldSet l n p) := by
  have hl : (heldSet l n p).length = l.length := by unfold heldSet; simp
  have hq : ∀ j, j < l.length → (l.getD j z32).f2 ≠ p := fun j hj e => by
    have := h.claim hj (by omega)
    rw [e, hp] at this
    cases this
  refine ⟨by rw [hl]; exact h.len, (all_iff _ _).2 fun i hi => ?_, (pair_iff _ _).2 fun i j hij hj => ?_⟩
  · rw [set_getD i hn]
    rw [hl] at hi
    by_cases e : i = n
    · rw [if_pos e]
      have := h.at_ hn
      exact badOf_mk ⟨this.1, this.2.1, by omega, by omega⟩
    · rw [if_neg e]
      exact h.bad _ (getD_mem hi)
  · rw [hl] at hj
    have hA := (pair_iff _ _).1 h.apart
    rw [set_getD i hn, set_getD j hn]
    by_cases e : i = n
    · subst e
      rw [if_pos rfl, if_neg (by omega)]
      have := hA i j hij hj
      exact ⟨this.1, this.2.1, fun _ e => hq j hj e.symm⟩
    · rw [if_neg e]
      by_cases e2 : j = n
      · subst e2
        rw [if_pos rfl]
        have := hA i j hij hj
        exact ⟨this.1, this.2.1, fun _ e => hq i (by omega) e⟩
      · rw [if_neg e2]
        exact hA i j hij hj
theorem ext_getD {l m : List S32} (h : l.length = m.length) (h2 : ∀ j, j < l.length → l.getD j z32 = m.getD j z32) : l = m := by
  apply List.ext_getElem h
  intro j hj hm
  have := h2 j hj
  simpa [List.getD_eq_getElem?_getD, List.getElem?_eq_getElem hj, List.getElem?_eq_getElem hm] using this
theorem awake_true : headgatelaw19_awake.f 60 = some true := by decide +kernel
theorem same_step (l : List S32) (hl : l.length ≤ 1000) : ∀ (d i k : Nat), i + d = l.length → d < k → headgatekit_SameWrites.l0 k l l (i : Int) = some true
  | 0, i, k, hd, hk => by
    obtain ⟨k, rfl⟩ : ∃ m, k = m + 1 := ⟨k - 1, by omega⟩
    rw [headgatekit_SameWrites.l0, if_neg (by omega)]
  | d + 1, i, k, hd, hk => by
    obtain ⟨k, rfl⟩ : ∃ m, k = m + 1 := ⟨k - 1, by omega⟩
    have c : (i : Int) < (l.length : Int) := by omega
    rw [headgatekit_SameWrites.l0, if_pos c, if_pos (by omega), if_pos c, if_neg (by simp), show wrap64 ((i : Int) + 1) = ((i + 1 : Nat) : Int) by rw [w64 (by omega) (by omega)]; omega]
    exact same_step l hl d (i + 1) k (by omega) (by omega)
theorem same_f (l : List S32) (hl : l.length ≤ 16) (k : Nat) (hk : 17 < k) : headgatekit_SameWrites.f k l l = some true := by
  unfold headgatekit_SameWrites.f
  rw [if_pos rfl]
  exact same_step l (by omega) l.length 0 k (by omega) (by omega)
theorem is_f (l : List S32) (hl : l.length ≤ 16) (k : Nat) (hk : 17 < k) : headgatelaw19_is.f k l l 0 = some true := by
  unfold headgatelaw19_is.f
  rw [if_pos rfl, same_f l hl k hk]
  rfl

theorem own_f (l : List S32) (h : l.length ≤ 1000) : headgatekit_OwnWrites.f l = some l := by
  unfold headgatekit_OwnWrites.f
  simp only [Option.bind_some, List.length_nil, List.nil_append]
  rw [if_pos (by omega)]

/-! ### The reference over any list -/
theorem ref_one (s f c : Int) : headgateref19_one.f s f c = some (if heldBad s f c = true then 2 else 0) := by
  unfold headgateref19_one.f heldBad
  by_cases h0 : s < 0
  · simp [h0]
  by_cases h1 : s ≥ 256
  · simp [h0, h1]
  by_cases h2 : f < 0
  · simp [h0, h1, h2]
  by_cases h3 : f ≥ 256
  · simp [h0, h1, h2, h3]
  by_cases h4 : c < 0
  · simp [h0, h1, h2, h3, h4]
  by_cases h5 : c > 8
  · simp [h0, h1, h2, h3, h4, h5]
  simp [h0, h1, h2, h3, h4, h5]
def ApartR (x y : S32) : Prop := x.f0 ≠ y.f0 ∧ x.f1 ≠ y.f1 ∧ (y.f2 = 0 ∨ x.f2 ≠ y.f2)
theorem apartR_iff {x y : S32} (hy : badOf y = false) : ApartR x y ↔ Apart x y := by
  have := badOf_no hy
  constructor
  · rintro ⟨h0, h1, h2⟩
    exact ⟨h0, h1, fun hc => by rcases h2 with h2 | h2 <;> omega⟩
  · rintro ⟨h0, h1, h2⟩
    refine ⟨h0, h1, ?_⟩
    by_cases c : y.f2 = 0
    · exact .inl c
    · exact .inr fun e => h2 (by omega) e
theorem nat_succ {i : Nat} (h : i ≤ 1000) : wrap64 ((i : Int) + 1) = ((i + 1 : Nat) : Int) := by rw [w64 (by omega) (by omega)]; omega
theorem inner_ok (l : List S32) (i : Nat) (hi : i < l.length) (hl : l.length ≤ 1000) : ∀ (d j k : Nat), j + d = i → d < k → (∀ q, j ≤ q → q < i → ApartR (l.getD q z32) (l.getD i z32)) → headgateref19_Check.l1 k l (i : Int) (j : Int) = headgateref19_Check.l0 (k - d - 1) l ((i + 1 : Nat) : Int)
  | 0, j, k, hd, hk, h => by
    obtain ⟨k, rfl⟩ : ∃ m, k = m + 1 := ⟨k - 1, by omega⟩
    rw [headgateref19_Check.l1, if_neg (by omega), nat_succ (by omega)]
    rfl
  | d + 1, j, k, hd, hk, h => by
    obtain ⟨k, rfl⟩ : ∃ m, k = m + 1 := ⟨k - 1, by omega⟩
    have ih := inner_ok l i hi hl d (j + 1) k (by omega) (by omega) (fun q h1 h2 => h q (by omega) h2)
    rw [show k + 1 - (d + 1) - 1 = k - d - 1 by omega, ← ih]
    obtain ⟨h0, h1, h2⟩ := h j (Nat.le_refl _) (by omega)
    have rj : rd_T32 l (j : Int) = l.getD j z32 := rfl
    have ri : rd_T32 l (i : Int) = l.getD i z32 := rfl
    rw [headgateref19_Check.l1, if_pos (by omega), if_pos (by omega), if_pos (by omega), if_pos (by omega), if_pos (by omega), nat_succ (by omega), rj, ri, if_neg h0, if_neg h1]
    by_cases c : (l.getD i z32).f2 = 0
    · rw [if_pos c]
    · rw [if_neg c, if_neg (by rcases h2 with h2 | h2; exact absurd h2 c; exact h2)]
theorem inner_bad (l : List S32) (i : Nat) (hi : i < l.length) (hl : l.length ≤ 1000) : ∀ (d j k : Nat), j + d = i → d < k → (∃ q, j ≤ q ∧ q < i ∧ ¬ ApartR (l.getD q z32) (l.getD i z32)) → headgateref19_Check.l1 k l (i : Int) (j : Int) = some (7, (i : Int))
  | 0, j, k, hd, hk, h => by
    obtain ⟨q, h1, h2, _⟩ := h
    omega
  | d + 1, j, k, hd, hk, h => by
    obtain ⟨k, rfl⟩ : ∃ m, k = m + 1 := ⟨k - 1, by omega⟩
    have rj : rd_T32 l (j : Int) = l.getD j z32 := rfl
    have ri : rd_T32 l (i : Int) = l.getD i z32 := rfl
    rw [headgateref19_Check.l1, if_pos (by omega), if_pos (by omega), if_pos (by omega), if_pos (by omega), if_pos (by omega), nat_succ (by omega), rj, ri]
    by_cases c0 : (l.getD j z32).f0 = (l.getD i z32).f0
    · rw [if_pos c0]
    rw [if_neg c0]
    by_cases c1 : (l.getD j z32).f1 = (l.getD i z32).f1
    · rw [if_pos c1]
    rw [if_neg c1]
    have later : ApartR (l.getD j z32) (l.getD i z32) → headgateref19_Check.l1 k l (i : Int) ((j + 1 : Nat) : Int) = some (7, (i : Int)) := fun ha => by
      obtain ⟨q, h1, h2, h3⟩ := h
      refine inner_bad l i hi hl d (j + 1) k (by omega) (by omega) ⟨q, ?_, h2, h3⟩
      by_cases e : q = j
      · subst e; exact absurd ha h3
      · omega
    by_cases c : (l.getD i z32).f2 = 0
    · rw [if_pos c]
      exact later ⟨c0, c1, .inl c⟩
    · rw [if_neg c]
      by_cases c2 : (l.getD j z32).f2 = (l.getD i z32).f2
      · rw [if_pos c2]
      · rw [if_neg c2]
        exact later ⟨c0, c1, .inr c2⟩
theorem drop_getD {l : List S32} {i : Nat} (hi : i < l.length) : l.drop i = l.getD i z32 :: l.drop (i + 1) := by
  rw [List.drop_eq_getElem_cons hi]
  simp [List.getD_eq_getElem?_getD, List.getElem?_eq_getElem hi]
theorem check_step (l : List S32) (hl : l.length ≤ 16) : ∀ (e i k : Nat) (g : Int × Int → Option Int), i + e = l.length → 20 * e + 1 < k → (∀ q, g q = none ↔ ∀ j, j < i → q ∉ keysOf (l.getD j z32)) →
    headgateref19_Check.l0 k l (i : Int) = some ((heldScan i g (l.drop i)).1, (heldScan i g (l.drop i)).2.1)
  | 0, i, k, g, he, hk, hg => by
    obtain ⟨k, rfl⟩ : ∃ m, k = m + 1 := ⟨k - 1, by omega⟩
    rw [headgateref19_Check.l0, if_neg (by omega), List.drop_eq_nil_of_le (by omega)]
    rfl
  | e + 1, i, k, g, he, hk, hg => by
    obtain ⟨k, rfl⟩ : ∃ m, k = m + 1 := ⟨k - 1, by omega⟩
    have hi : i < l.length := by omega
    have ri : rd_T32 l (i : Int) = l.getD i z32 := rfl
    rw [headgateref19_Check.l0, if_pos (by omega), if_pos (by omega), ri, ref_one, drop_getD hi]
    simp only [Option.bind_some, heldScan]
    cases hb : heldBad (l.getD i z32).f0 (l.getD i z32).f1 (l.getD i z32).f2 with
    | true => simp
    | false =>
      have hb' : badOf (l.getD i z32) = false := hb
      simp only [Bool.false_eq_true, if_false, if_true]
      cases hf : heldFree g (heldKeys (l.getD i z32).f0 (l.getD i z32).f1 (l.getD i z32).f2) with
      | true =>
        simp only [if_true]
        have hfr := (heldFree_iff _ _).1 hf
        have hap : ∀ q, 0 ≤ q → q < i → ApartR (l.getD q z32) (l.getD i z32) := fun q _ hq => (apartR_iff hb').2 (apart_keys fun k h1 h2 => (hg k).1 (hfr k h2) q hq h1)
        have := inner_ok l i hi (by omega) i 0 k (by omega) (by omega) hap
        rw [show ((0 : Nat) : Int) = 0 from rfl] at this
        rw [this]
        refine check_step l hl e (i + 1) (k - i - 1) _ (by omega) (by omega) fun q => ?_
        rw [show heldPut (heldKeys (l.getD i z32).f0 (l.getD i z32).f1 (l.getD i z32).f2) (i : Int) g = heldPut (keysOf (l.getD i z32)) (i : Int) g from rfl, heldPut_eq]
        by_cases hq : q ∈ keysOf (l.getD i z32)
        · rw [if_pos hq]
          exact ⟨fun h => (by cases h), fun h => absurd hq (h i (by omega))⟩
        · rw [if_neg hq, hg q]
          constructor
          · intro h j hj
            by_cases e : j = i
            · subst e; exact hq
            · exact h j (by omega)
          · exact fun h j hj => h j (by omega)
      | false =>
        simp only [Bool.false_eq_true, if_false]
        have hex : ∃ q, 0 ≤ q ∧ q < i ∧ ¬ ApartR (l.getD q z32) (l.getD i z32) := by
          apply Classical.byContradiction
          intro hno
          have : heldFree g (heldKeys (l.getD i z32).f0 (l.getD i z32).f1 (l.getD i z32).f2) = true := (heldFree_iff _ _).2 fun k hk2 => (hg k).2 fun j hj hkj => by
            have ha : ApartR (l.getD j z32) (l.getD i z32) := Classical.byContradiction fun hn => hno ⟨j, Nat.zero_le _, hj, hn⟩
            exact ((apartR_iff hb').1 ha).keys k hkj hk2
          rw [this] at hf
          cases hf
        have := inner_bad l i hi (by omega) i 0 k (by omega) (by omega) hex
        rw [show ((0 : Nat) : Int) = 0 from rfl] at this
        rw [this]
theorem ref_check (l : List S32) (k : Nat) (hk : 400 ≤ k) : headgateref19_Check.f k l = some ((heldCheck l).1, (heldCheck l).2.1) := by
  unfold headgateref19_Check.f heldCheck
  by_cases c : 16 < l.length
  · rw [if_pos (by omega), if_pos c]
  · rw [if_neg (by omega), if_neg c]
    have := check_step l (by omega) l.length 0 k (fun _ => none) (by omega) (by omega) (fun q => ⟨fun _ j hj => by omega, fun _ => rfl⟩)
    simpa using this
theorem scan_zero : ∀ (xs : List S32) (i : Nat) (g : Int × Int → Option Int), (heldScan i g xs).1 = 0 → (∀ x ∈ xs, badOf x = false) ∧ xs.Pairwise Apart ∧ ∀ x ∈ xs, ∀ k ∈ keysOf x, g k = none
  | [], i, g, h => ⟨fun x hx => (by cases hx), List.Pairwise.nil, fun x hx => (by cases hx)⟩
  | x :: xs, i, g, h => by
    rw [heldScan] at h
    cases hb : heldBad x.f0 x.f1 x.f2 with
    | true => rw [hb] at h; simp at h
    | false =>
      rw [hb] at h
      simp only [Bool.false_eq_true, if_false] at h
      cases hf : heldFree g (heldKeys x.f0 x.f1 x.f2) with
      | false => rw [hf] at h; simp at h
      | true =>
        rw [hf] at h
        simp only [if_true] at h
        obtain ⟨h1, h2, h3⟩ := scan_zero xs (i + 1) _ h
        have hfr := (heldFree_iff _ _).1 hf
        have hput : ∀ y ∈ xs, ∀ k ∈ keysOf y, k ∉ keysOf x ∧ g k = none := fun y hy k hk => by
          have := h3 y hy k hk
          rw [show heldPut (heldKeys x.f0 x.f1 x.f2) (i : Int) g = heldPut (keysOf x) (i : Int) g from rfl, heldPut_eq] at this
          by_cases c : k ∈ keysOf x
          · rw [if_pos c] at this; cases this
          · rw [if_neg c] at this; exact ⟨c, this⟩
        refine ⟨fun y hy => ?_, List.pairwise_cons.2 ⟨fun y hy => apart_keys fun k hk1 hk2 => (hput y hy k hk2).1 hk1, h2⟩, fun y hy k hk => ?_⟩
        · rcases List.mem_cons.1 hy with rfl | hy
          · exact hb
          · exact h1 y hy
        · rcases List.mem_cons.1 hy with rfl | hy
          · exact hfr k hk
          · exact (hput y hy k hk).2
theorem good_of {l : List S32} (h : (heldCheck l).1 = 0) : Good l := by
  have hl := heldCheck_len h
  have e : heldCheck l = heldScan 0 (fun _ => none) l := by unfold heldCheck; rw [if_neg (by omega)]
  rw [e] at h
  obtain ⟨h1, h2, _⟩ := scan_zero l 0 _ h
  exact ⟨hl, h1, h2⟩
theorem ref_asks (l : List S32) (s f p : Int) (k : Nat) (hk : 400 ≤ k) : headgateref19_asks.f k l s f p = some (numsErr (heldCheck l).1 [s, 0, 256, f, 0, 256, p, 1, 9]) := by
  unfold headgateref19_asks.f
  rw [ref_check l k hk]
  simp only [Option.bind_some, ref_one]
  unfold numsErr
  by_cases c : (heldCheck l).1 = 0
  · rw [if_pos c, if_pos c]
    have hb : numsBad [s, 0, 256, f, 0, 256, p, 1, 9] = (heldBad s f 0 || decide (p < 1) || decide (p > 8)) := by
      rw [Bool.eq_iff_iff]
      simp [numsBad, heldBad]
      omega
    rw [hb]
    cases heldBad s f 0 with
    | true => simp
    | false =>
      by_cases c1 : p < 1
      · simp [c1]
      · by_cases c2 : p > 8
        · simp [c1, c2]
        · simp [c1, c2]
  · rw [if_neg c, if_neg c]
theorem ref_own (l : List S32) (h : l.length ≤ 1000) : headgateref19_own.f l = some l := by
  unfold headgateref19_own.f
  simp only [Option.bind_some, List.length_nil, List.nil_append]
  rw [if_pos (by omega)]
theorem find_step (l : List S32) (s : Int) (hl : l.length ≤ 1000) : ∀ (d i k : Nat), i + d = l.length → d < k → headgateref19_find.l0 k l s (i : Int) = some (match posOf (l.drop i) (0, s) with
    | some j => ((i + j : Nat) : Int)
    | none => -1)
  | 0, i, k, hd, hk => by
    obtain ⟨k, rfl⟩ : ∃ m, k = m + 1 := ⟨k - 1, by omega⟩
    rw [headgateref19_find.l0, if_neg (by omega), List.drop_eq_nil_of_le (by omega)]
    rfl
  | d + 1, i, k, hd, hk => by
    obtain ⟨k, rfl⟩ : ∃ m, k = m + 1 := ⟨k - 1, by omega⟩
    have hi : i < l.length := by omega
    have ri : rd_T32 l (i : Int) = l.getD i z32 := rfl
    rw [headgateref19_find.l0, if_pos (by omega), if_pos (by omega), ri, drop_getD hi, posOf_cons, nat_succ (by omega)]
    by_cases c : (l.getD i z32).f0 = s
    · rw [if_pos c, if_pos ((keys_mem _ _).2 (.inl (by rw [c])))]
      rfl
    · have hn : (0, s) ∉ keysOf (l.getD i z32) := fun h => by
        rw [keys_mem] at h
        simp at h
        exact c h.symm
      rw [if_neg c, if_neg hn, find_step l s hl d (i + 1) k (by omega) (by omega)]
      cases posOf (l.drop (i + 1)) (0, s) with
      | none => rfl
      | some j =>
        simp only [Option.map_some, Option.some.injEq]
        rw [show i + 1 + j = i + (j + 1) by omega]
theorem ref_find (l : List S32) (s : Int) (hl : l.length ≤ 1000) (k : Nat) (hk : l.length < k) : headgateref19_find.f k l s = some (match posOf l (0, s) with
    | some j => (j : Int)
    | none => -1) := by
  have := find_step l s hl l.length 0 k (by omega) hk
  simpa [headgateref19_find.f] using this

theorem claims_step (l : List S32) (p : Int) (hp : 1 ≤ p) (hl : l.length ≤ 1000) : ∀ (d i k : Nat), i + d = l.length → d < k → headgateref19_claims.l0 k l p (i : Int) = some (match posOf (l.drop i) (2, p) with
    | some j => ((i + j : Nat) : Int)
    | none => -1)
  | 0, i, k, hd, hk => by
    obtain ⟨k, rfl⟩ : ∃ m, k = m + 1 := ⟨k - 1, by omega⟩
    rw [headgateref19_claims.l0, if_neg (by omega), List.drop_eq_nil_of_le (by omega)]
    rfl
  | d + 1, i, k, hd, hk => by
    obtain ⟨k, rfl⟩ : ∃ m, k = m + 1 := ⟨k - 1, by omega⟩
    have hi : i < l.length := by omega
    have ri : rd_T32 l (i : Int) = l.getD i z32 := rfl
    rw [headgateref19_claims.l0, if_pos (by omega), if_pos (by omega), ri, drop_getD hi, posOf_cons, nat_succ (by omega)]
    by_cases c : (l.getD i z32).f2 = p
    · rw [if_pos c, if_pos ((keys_mem _ _).2 (.inr (.inr ⟨by omega, by rw [c]⟩)))]
      rfl
    · have hn : (2, p) ∉ keysOf (l.getD i z32) := fun h => by
        rw [keys_mem] at h
        simp at h
        exact c h.2.symm
      rw [if_neg c, if_neg hn, claims_step l p hp hl d (i + 1) k (by omega) (by omega)]
      cases posOf (l.drop (i + 1)) (2, p) with
      | none => rfl
      | some j =>
        simp only [Option.map_some, Option.some.injEq]
        rw [show i + 1 + j = i + (j + 1) by omega]
theorem ref_claims (l : List S32) (p : Int) (hp : 1 ≤ p) (hl : l.length ≤ 1000) (k : Nat) (hk : l.length < k) : headgateref19_claims.f k l p = some (match posOf l (2, p) with
    | some j => (j : Int)
    | none => -1) := by
  have := claims_step l p hp hl l.length 0 k (by omega) hk
  simpa [headgateref19_claims.f] using this
theorem nums_claim (e s p : Int) : numsErr e [s, 0, 256, 0, 0, 256, p, 1, 9] = numsErr e [s, 0, 256, p, 1, 9] := by
  unfold numsErr
  simp [numsBad]
theorem nums_proc (e p : Int) : numsErr e [0, 0, 256, 0, 0, 256, p, 1, 9] = numsErr e [p, 1, 9] := by
  unfold numsErr
  simp [numsBad]
theorem bad_two {s p : Int} (h : numsBad [s, 0, 256, p, 1, 9] = false) : 1 ≤ p ∧ p ≤ 8 := by
  simp [numsBad] at h
  omega
theorem bad_proc {p : Int} (h : numsBad [p, 1, 9] = false) : 1 ≤ p ∧ p ≤ 8 := by
  simp [numsBad] at h
  omega
theorem ref_Claim (l : List S32) (s p : Int) (k : Nat) (hk : 400 ≤ k) : headgateref19_Claim.f k l s p = some (heldClaim l s p) := by
  unfold headgateref19_Claim.f heldClaim
  rw [ref_asks l s 0 p k hk, nums_claim]
  simp only [Option.bind_some]
  by_cases c : numsErr (heldCheck l).1 [s, 0, 256, p, 1, 9] = 0
  · have hg := good_of (numsErr_zero c).1
    have hl := hg.len
    obtain ⟨p1, p8⟩ := bad_two (numsErr_zero c).2
    rw [if_pos c, if_pos c, ref_find l s (by omega) k (by omega), hg.check.2.2, hg.check.2.2]
    simp only [Option.bind_some]
    cases hp : posOf l (0, s) with
    | none => rfl
    | some j =>
      obtain ⟨hj, hs⟩ := pos_slot hp
      have ri : rd_T32 l (j : Int) = l.getD j z32 := rfl
      have hx := (hg.at_ hj).2.2
      simp only [Option.map_some, Int.ofNat_eq_natCast, Int.toNat_natCast]
      rw [if_neg (by omega), if_pos (by omega), if_pos (by omega), ri, ref_claims l p p1 (by omega) k (by omega), ref_own l (by omega)]
      simp only [Option.bind_some]
      by_cases c2 : (l.getD j z32).f2 = 0
      · rw [if_pos c2]
        cases posOf l (2, p) with
        | none =>
          simp only
          rw [if_neg (by omega), if_pos (by omega), ri, if_neg (by omega)]
          rfl
        | some q =>
          simp only
          rw [if_pos (by omega), if_neg (by omega)]
          rfl
      · rw [if_neg c2, if_pos (by omega)]
  · rw [if_neg c, if_neg c]
theorem ref_Unclaim (l : List S32) (p : Int) (k : Nat) (hk : 400 ≤ k) : headgateref19_Unclaim.f k l p = some (heldUnclaim l p) := by
  unfold headgateref19_Unclaim.f heldUnclaim
  rw [ref_asks l 0 0 p k hk, nums_proc]
  simp only [Option.bind_some]
  by_cases c : numsErr (heldCheck l).1 [p, 1, 9] = 0
  · have hg := good_of (numsErr_zero c).1
    have hl := hg.len
    obtain ⟨p1, p8⟩ := bad_proc (numsErr_zero c).2
    rw [if_pos c, if_pos c, ref_claims l p p1 (by omega) k (by omega), ref_own l (by omega), hg.check.2.2]
    simp only [Option.bind_some]
    cases hp : posOf l (2, p) with
    | none => rfl
    | some j =>
      obtain ⟨hj, hs⟩ := pos_claim hp
      have ri : rd_T32 l (j : Int) = l.getD j z32 := rfl
      simp only [Option.map_some, Int.ofNat_eq_natCast, Int.toNat_natCast]
      rw [if_pos (by omega), if_pos (by omega), if_pos (by omega), ri, decide_eq_true (by omega)]
      rfl
  · rw [if_neg c, if_neg c]
theorem ref_Of (l : List S32) (p : Int) (k : Nat) (hk : 400 ≤ k) : headgateref19_Of.f k l p = some (heldOf l p) := by
  unfold headgateref19_Of.f heldOf
  rw [ref_asks l 0 0 p k hk, nums_proc]
  simp only [Option.bind_some]
  by_cases c : numsErr (heldCheck l).1 [p, 1, 9] = 0
  · have hg := good_of (numsErr_zero c).1
    have hl := hg.len
    obtain ⟨p1, p8⟩ := bad_proc (numsErr_zero c).2
    rw [if_pos c, if_pos c, ref_claims l p p1 (by omega) k (by omega), hg.check.2.2]
    simp only [Option.bind_some]
    cases hp : posOf l (2, p) with
    | none => rfl
    | some j =>
      obtain ⟨hj, hs⟩ := pos_claim hp
      have ri : rd_T32 l (j : Int) = l.getD j z32 := rfl
      simp only [Option.map_some, Int.ofNat_eq_natCast, Int.toNat_natCast]
      rw [if_neg (by omega), if_pos (by omega), if_pos (by omega), ri]
  · rw [if_neg c, if_neg c]
theorem framesOf_drop {l : List S32} {i : Nat} (hi : i < l.length) : framesOf (l.drop i) = (l.getD i z32).f1 :: framesOf (l.drop (i + 1)) := by rw [drop_getD hi]; rfl
theorem fr_inner (l : List S32) (hl : l.length ≤ 16) (g : Int) (hg0 : 0 ≤ g) (hg : g < 256) : ∀ (d i k : Nat) (acc : List Int), i + d = l.length → d < k → acc.length + d ≤ 100000 →
    headgateref19_Frames.l1 k l acc g (i : Int) = headgateref19_Frames.l0 (k - d - 1) l (acc ++ (framesOf (l.drop i)).filter fun x => x == g) (g + 1)
  | 0, i, k, acc, hd, hk, _ => by
    obtain ⟨k, rfl⟩ : ∃ m, k = m + 1 := ⟨k - 1, by omega⟩
    rw [headgateref19_Frames.l1, if_neg (by omega), List.drop_eq_nil_of_le (by omega), w64 (by omega) (by omega)]
    simp [framesOf]
  | d + 1, i, k, acc, hd, hk, ha => by
    obtain ⟨k, rfl⟩ : ∃ m, k = m + 1 := ⟨k - 1, by omega⟩
    have hi : i < l.length := by omega
    have ri : rd_T32 l (i : Int) = l.getD i z32 := rfl
    rw [headgateref19_Frames.l1, if_pos (by omega), if_pos (by omega), ri, framesOf_drop hi, nat_succ (by omega), show k + 1 - (d + 1) - 1 = k - d - 1 by omega, List.filter_cons]
    by_cases c : (l.getD i z32).f1 = g
    · rw [if_pos c, if_pos (by omega), fr_inner l hl g hg0 hg d (i + 1) k _ (by omega) (by omega) (by simp; omega), if_pos (beq_iff_eq.mpr c), c, List.append_assoc]
      rfl
    · rw [if_neg c, fr_inner l hl g hg0 hg d (i + 1) k _ (by omega) (by omega) (by omega), if_neg (by simpa using c)]
def outF (l : List S32) : Nat → Nat → List Int
  | _, 0 => []
  | g, e + 1 => (framesOf l).filter (fun x => x == (g : Int)) ++ outF l (g + 1) e
theorem fr_outer (l : List S32) (hl : l.length ≤ 16) : ∀ (e g k : Nat) (acc : List Int), g + e = 256 → 20 * e + 1 < k → acc.length + 16 * e ≤ 50000 →
    headgateref19_Frames.l0 k l acc (g : Int) = some (acc ++ outF l g e, 0)
  | 0, g, k, acc, he, hk, _ => by
    obtain ⟨k, rfl⟩ : ∃ m, k = m + 1 := ⟨k - 1, by omega⟩
    rw [headgateref19_Frames.l0, if_neg (by omega)]
    simp [outF]
  | e + 1, g, k, acc, he, hk, ha => by
    obtain ⟨k, rfl⟩ : ∃ m, k = m + 1 := ⟨k - 1, by omega⟩
    have hi := fr_inner l hl (g : Int) (by omega) (by omega) l.length 0 k acc (by omega) (by omega) (by omega)
    rw [show ((0 : Nat) : Int) = 0 from rfl, List.drop_zero] at hi
    have hf : ((framesOf l).filter fun x => x == (g : Int)).length ≤ 16 := by
      have := List.length_filter_le (fun x => x == (g : Int)) (framesOf l)
      rw [framesOf_length] at this
      omega
    rw [headgateref19_Frames.l0, if_pos (by omega), hi, show (g : Int) + 1 = ((g + 1 : Nat) : Int) by omega, fr_outer l hl e (g + 1) _ _ (by omega) (by omega) (by rw [List.length_append]; omega), List.append_assoc]
    rfl
theorem outF_mem (l : List S32) : ∀ (e g : Nat) (x : Int), x ∈ outF l g e → (g : Int) ≤ x
  | 0, g, x, h => by cases h
  | e + 1, g, x, h => by
    rcases List.mem_append.1 h with h | h
    · have := (List.mem_filter.1 h).2
      simp at this
      omega
    · have := outF_mem l e (g + 1) x h
      omega
theorem outF_sorted (l : List S32) : ∀ (e g : Nat), (outF l g e).Pairwise (fun x y => x ≤ y)
  | 0, g => List.Pairwise.nil
  | e + 1, g => by
    refine List.pairwise_append.2 ⟨?_, outF_sorted l e (g + 1), fun x hx y hy => ?_⟩
    · refine List.Pairwise.imp_of_mem (R := fun _ _ => True) (fun {a b} ha hb _ => ?_) (List.pairwise_of_forall fun _ _ => trivial)
      have h1 := (List.mem_filter.1 ha).2
      have h2 := (List.mem_filter.1 hb).2
      simp at h1 h2
      omega
    · have h1 := (List.mem_filter.1 hx).2
      have h2 := outF_mem l e (g + 1) y hy
      simp at h1
      omega
theorem outF_count (l : List S32) (x : Int) : ∀ (e g : Nat), (outF l g e).count x = if (g : Int) ≤ x ∧ x < ((g + e : Nat) : Int) then (framesOf l).count x else 0
  | 0, g => by rw [if_neg (by omega)]; rfl
  | e + 1, g => by
    rw [outF, List.count_append, outF_count l x e (g + 1)]
    by_cases c : x = (g : Int)
    · rw [if_neg (by omega), if_pos (by omega), List.count_filter (by simpa using c)]
      rfl
    · have h0 : ((framesOf l).filter fun y => y == (g : Int)).count x = 0 := List.count_eq_zero.2 fun h => by
        have := (List.mem_filter.1 h).2
        simp at this
        exact c this
      rw [h0, Nat.zero_add]
      by_cases c2 : ((g + 1 : Nat) : Int) ≤ x ∧ x < ((g + 1 + e : Nat) : Int)
      · rw [if_pos c2, if_pos (by omega)]
      · rw [if_neg c2, if_neg (by omega)]
theorem frames_good {l : List S32} (h : Good l) : outF l 0 256 = (framesOf l).mergeSort (fun x y => decide (x ≤ y)) := by
  have hs := List.pairwise_mergeSort (le := fun x y : Int => decide (x ≤ y)) (fun a b c h1 h2 => by simp at *; omega) (fun a b => by simp; omega) (framesOf l)
  refine List.Perm.eq_of_pairwise (le := fun x y : Int => x ≤ y) (fun a b _ _ h1 h2 => by omega) (outF_sorted l 256 0) (hs.imp fun h => by simpa using h) ?_
  refine List.Perm.trans (List.perm_iff_count.2 fun x => ?_) (List.mergeSort_perm _ _).symm
  rw [outF_count]
  by_cases c : 0 ≤ x ∧ x < 256
  · rw [if_pos (by omega)]
  · rw [if_neg (by omega)]
    refine (List.count_eq_zero.2 fun hx => ?_).symm
    obtain ⟨y, hy, rfl⟩ := List.mem_map.1 hx
    have := badOf_no (h.bad y hy)
    omega
theorem ref_Frames (l : List S32) (k : Nat) (hk : 6000 ≤ k) : headgateref19_Frames.f k l = some (heldFrames l) := by
  unfold headgateref19_Frames.f heldFrames
  rw [ref_check l k (by omega)]
  simp only [Option.bind_some]
  by_cases c : (heldCheck l).1 = 0
  · have hg := good_of c
    rw [if_pos c, if_pos c, ← frames_good hg]
    have := fr_outer l hg.len 256 0 k [] (by omega) (by omega) (by simp)
    simpa using this
  · rw [if_neg c, if_neg c]
theorem ints_step (l : List Int) (hl : l.length ≤ 1000) : ∀ (d i k : Nat), i + d = l.length → d < k → headgatekit_SameInts.l0 k l l (i : Int) = some true
  | 0, i, k, hd, hk => by
    obtain ⟨k, rfl⟩ : ∃ m, k = m + 1 := ⟨k - 1, by omega⟩
    rw [headgatekit_SameInts.l0, if_neg (by omega)]
  | d + 1, i, k, hd, hk => by
    obtain ⟨k, rfl⟩ : ∃ m, k = m + 1 := ⟨k - 1, by omega⟩
    rw [headgatekit_SameInts.l0, if_pos (by omega), if_pos (by omega), if_pos (by omega), if_pos rfl, nat_succ (by omega)]
    exact ints_step l hl d (i + 1) k (by omega) (by omega)
theorem same_ints (l : List Int) (hl : l.length ≤ 1000) (k : Nat) (hk : 1000 < k) : headgatekit_SameInts.f k l l = some true := by
  unfold headgatekit_SameInts.f
  rw [if_pos rfl]
  exact ints_step l hl l.length 0 k (by omega) (by omega)

theorem same_any (l : List S32) (hl : l.length ≤ 1000) (k : Nat) (hk : 1000 < k) : headgatekit_SameWrites.f k l l = some true := by
  unfold headgatekit_SameWrites.f
  rw [if_pos rfl]
  exact same_step l (by omega) l.length 0 k (by omega) (by omega)
theorem HeldClaims : headgatelaw19_HeldClaims.Pure := by
  intro l s p _ _ _
  have aw := fun k => at_rounds headgatelaw19_awake.mono (k' := 60 + k) (by omega) awake_true
  have aw1 : headgatelaw19_awake.f 8002 = some true := aw 7942
  have aw0 : headgatelaw19_awake.f 8000 = some true := aw 7940
  refine ⟨8002, ?_⟩
  unfold headgatelaw19_HeldClaims.f
  by_cases c : (l.length : Int) > 20
  · rw [if_pos c, aw1]
    rfl
  rw [if_neg c, own_f l (by omega)]
  simp only [Option.bind_some, held_Claim.f]
  rw [ref_Claim l s p 8002 (by omega)]
  have hal : (heldClaim l s p).1.length ≤ 1000 := by
    unfold heldClaim
    split
    · split
      · simp
      · split
        · simp
        · split
          · simp
          · simp [heldSet]; omega
    · simp
  have hul : (heldUnclaim l p).1.length ≤ 1000 := by
    unfold heldUnclaim
    split
    · split
      · simp only; omega
      · simp [heldSet]; omega
    · simp
  have hfl : (heldFrames l).1.length ≤ 1000 := by
    unfold heldFrames
    split
    · rw [List.length_mergeSort, framesOf_length]; omega
    · simp
  simp only [Option.bind_some]
  rw [same_any _ hal 8002 (by omega)]
  simp only [Option.bind_some, if_true, bne_self_eq_false]
  rw [headgatelaw19_HeldClaims.j0, if_neg (by decide)]
  simp only [held_Unclaim.f, Option.bind_some]
  rw [ref_Unclaim l p 8001 (by omega)]
  simp only [Option.bind_some]
  rw [same_any _ hul 8001 (by omega)]
  simp only [Option.bind_some, if_true, bne_self_eq_false, Bool.false_eq_true, if_false]
  rw [headgatelaw19_HeldClaims.j1, if_neg (by decide)]
  simp only [held_Of.f, held_Frames.f, Option.bind_some]
  rw [ref_Of l p 8000 (by omega), ref_Frames l 8000 (by omega)]
  simp only [Option.bind_some, beq_self_eq_true, Bool.and_self, if_true]
  rw [same_ints _ hfl 8000 (by omega)]
  simp only [Option.bind_some, if_true]
  rw [same_any l (by omega) 8000 (by omega), aw0]
  rfl

end Go.Proofs.Ytfnhoncpaheejaa.Pure
