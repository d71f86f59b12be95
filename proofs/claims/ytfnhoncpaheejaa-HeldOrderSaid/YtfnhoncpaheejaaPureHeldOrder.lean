/- Two writes may be removed in any order, with the same rest: HeldOrder returns true, for every list of numbers and every two numbers. -/
import Derived.Test.YtfnhoncpaheejaaX27
namespace Go.Proofs.Ytfnhoncpaheejaa.Pure
open Go.RowKit Go.Proofs.Ytfnhoncpaheejaa.X Go.Proofs.YtfnhoncpaheejaaW.PrintWords Go.Proofs.YtfnhoncpaheejaaW.PrintLast

theorem mod_f (a n : Int) (h1 : 1 ≤ n) (h2 : n ≤ 4611686018427387904) : headgatekit_Mod.f a n = some (a % n) := by
  unfold headgatekit_Mod.f
  rw [if_neg (by omega), if_neg (by omega)]
  have e := Int.tmod_eq_emod (a := a) (b := n)
  have g0 := Int.emod_nonneg a (show n ≠ 0 by omega)
  have g1 := Int.emod_lt_of_pos a (show 0 < n by omega)
  by_cases c : 0 ≤ a ∨ n ∣ a
  · rw [if_pos c] at e
    rw [if_neg (by omega), e]
    simp
  · rw [if_neg c] at e
    have hn : (n.natAbs : Int) = n := by omega
    have hd : a % n ≠ 0 := fun h => c (.inr (Int.dvd_of_emod_eq_zero h))
    rw [hn] at e
    rw [if_pos (by omega), e]
    congr 1
    unfold wrap64
    omega

theorem w64 {x : Int} (h0 : -9223372036854775808 ≤ x) (h1 : x ≤ 9223372036854775807) : wrap64 x = x := by
  unfold wrap64
  omega

/-! ### What a list of writes that stand apart holds -/
theorem heldPut_eq (ks : List (Int × Int)) (i : Int) (g : Int × Int → Option Int) (k : Int × Int) : heldPut ks i g k = if k ∈ ks then some i else g k := by
  unfold heldPut
  induction ks generalizing g with
  | nil => simp
  | cons q r ih =>
    rw [List.foldl_cons, ih]
    by_cases h : k ∈ r
    · rw [if_pos h, if_pos (List.mem_cons_of_mem _ h)]
    · rw [if_neg h]
      by_cases e : k = q
      · rw [if_pos e, if_pos (by rw [e]; exact List.mem_cons_self)]
      · rw [if_neg e, if_neg (by simp [e, h])]
theorem heldFree_iff (g : Int × Int → Option Int) (ks : List (Int × Int)) : heldFree g ks = true ↔ ∀ k ∈ ks, g k = none := by
  unfold heldFree
  simp [List.all_eq_true]
def keysOf (x : S32) : List (Int × Int) := heldKeys x.f0 x.f1 x.f2
def badOf (x : S32) : Bool := heldBad x.f0 x.f1 x.f2
theorem keys_mem (x : S32) (k : Int × Int) : k ∈ keysOf x ↔ k = (0, x.f0) ∨ k = (1, x.f1) ∨ (x.f2 > 0 ∧ k = (2, x.f2)) := by
  unfold keysOf heldKeys
  by_cases h : x.f2 > 0 <;> simp [h]
def Apart (x y : S32) : Prop := x.f0 ≠ y.f0 ∧ x.f1 ≠ y.f1 ∧ (x.f2 > 0 → x.f2 ≠ y.f2)
theorem Apart.keys {x y : S32} (h : Apart x y) : ∀ k ∈ keysOf x, k ∉ keysOf y := by
  intro k hx hy
  rw [keys_mem] at hx hy
  obtain ⟨h0, h1, h2⟩ := h
  rcases hx with rfl | rfl | ⟨hc, rfl⟩ <;> rcases hy with e | e | ⟨hd, e⟩ <;> simp at e
  · exact h0 e
  · exact h1 e
  · exact h2 hc e
theorem apart_keys {x y : S32} (h : ∀ k ∈ keysOf x, k ∉ keysOf y) : Apart x y := by
  refine ⟨fun e => h (0, x.f0) ((keys_mem _ _).2 (.inl rfl)) ((keys_mem _ _).2 (.inl (by rw [e]))), fun e => h (1, x.f1) ((keys_mem _ _).2 (.inr (.inl rfl))) ((keys_mem _ _).2 (.inr (.inl (by rw [e])))), fun hc e => h (2, x.f2) ((keys_mem _ _).2 (.inr (.inr ⟨hc, rfl⟩))) ((keys_mem _ _).2 (.inr (.inr ⟨by omega, by rw [e]⟩)))⟩
theorem Apart.symm {x y : S32} (h : Apart x y) : Apart y x := ⟨fun e => h.1 e.symm, fun e => h.2.1 e.symm, fun hc e => h.2.2 (by omega) e.symm⟩
/-- Where a key stands in a list. -/
def posOf : List S32 → Int × Int → Option Nat
  | [], _ => none
  | x :: xs, k => if k ∈ keysOf x then some 0 else (posOf xs k).map (· + 1)
theorem posOf_cons (x : S32) (xs : List S32) (k : Int × Int) : posOf (x :: xs) k = if k ∈ keysOf x then some 0 else (posOf xs k).map (· + 1) := rfl
theorem posOf_none {l : List S32} {k : Int × Int} : posOf l k = none ↔ ∀ x ∈ l, k ∉ keysOf x := by
  induction l with
  | nil => simp [posOf]
  | cons y ys ih =>
    rw [posOf_cons]
    by_cases h : k ∈ keysOf y
    · simp [h]
    · simp [h, ih]
theorem posOf_some {l : List S32} {k : Int × Int} {j : Nat} (h : posOf l k = some j) : j < l.length ∧ k ∈ keysOf (l.getD j z32) := by
  induction l generalizing j with
  | nil => cases h
  | cons y ys ih =>
    rw [posOf_cons] at h
    by_cases hk : k ∈ keysOf y
    · rw [if_pos hk] at h
      obtain rfl := Option.some.inj h
      exact ⟨by simp, hk⟩
    · rw [if_neg hk] at h
      obtain ⟨i, hi, rfl⟩ := Option.map_eq_some_iff.1 h
      obtain ⟨h1, h2⟩ := ih hi
      exact ⟨by simp; omega, by simpa using h2⟩
theorem posOf_at {l : List S32} (hp : l.Pairwise Apart) {j : Nat} (hj : j < l.length) {k : Int × Int} (hk : k ∈ keysOf (l.getD j z32)) : posOf l k = some j := by
  induction l generalizing j with
  | nil => simp at hj
  | cons y ys ih =>
    rw [List.pairwise_cons] at hp
    rw [posOf_cons]
    cases j with
    | zero => rw [if_pos (by simpa using hk)]
    | succ j =>
      have hj' : j < ys.length := by simpa using hj
      have hk' : k ∈ keysOf (ys.getD j z32) := by simpa using hk
      rw [if_neg (fun h => (hp.1 (ys.getD j z32) (by rw [List.getD_eq_getElem?_getD, List.getElem?_eq_getElem hj']; exact List.getElem_mem hj')).keys k h hk'), ih hp.2 hj' hk']
      rfl
theorem scan_good : ∀ (l : List S32) (i : Nat) (g : Int × Int → Option Int), (∀ x ∈ l, badOf x = false) → l.Pairwise Apart → (∀ x ∈ l, ∀ k ∈ keysOf x, g k = none) →
    (heldScan i g l).1 = 0 ∧ (heldScan i g l).2.1 = 0 ∧ ∀ k, (heldScan i g l).2.2 k = match posOf l k with
      | some j => some ((i + j : Nat) : Int)
      | none => g k
  | [], i, g, _, _, _ => ⟨rfl, rfl, fun k => rfl⟩
  | x :: xs, i, g, hb, hp, hg => by
    rw [List.pairwise_cons] at hp
    have h1 : heldBad x.f0 x.f1 x.f2 = false := hb x (by simp)
    have h2 : heldFree g (heldKeys x.f0 x.f1 x.f2) = true := (heldFree_iff _ _).2 (hg x (by simp))
    have e : heldScan i g (x :: xs) = heldScan (i + 1) (heldPut (keysOf x) i g) xs := by
      rw [heldScan, if_neg (by rw [h1]; decide), if_pos h2]
      rfl
    rw [e]
    obtain ⟨r1, r2, r3⟩ := scan_good xs (i + 1) (heldPut (keysOf x) i g) (fun y hy => hb y (List.mem_cons_of_mem _ hy)) hp.2 (fun y hy k hk => by
      rw [heldPut_eq, if_neg (fun h => (hp.1 y hy).keys k h hk)]
      exact hg y (List.mem_cons_of_mem _ hy) k hk)
    refine ⟨r1, r2, fun k => ?_⟩
    rw [r3 k]
    rw [posOf_cons]
    by_cases hk : k ∈ keysOf x
    · have hn : posOf xs k = none := posOf_none.2 fun y hy => (hp.1 y hy).keys k hk
      rw [hn, if_pos hk, heldPut_eq, if_pos hk]
      simp
    · rw [if_neg hk, heldPut_eq, if_neg hk]
      cases posOf xs k with
      | none => rfl
      | some j => simp; omega
structure Good (l : List S32) : Prop where
  len : l.length ≤ 16
  bad : ∀ x ∈ l, badOf x = false
  apart : l.Pairwise Apart
theorem Good.check {l : List S32} (h : Good l) : (heldCheck l).1 = 0 ∧ (heldCheck l).2.1 = 0 ∧ ∀ k, (heldCheck l).2.2 k = Option.map Int.ofNat (posOf l k) := by
  have e : heldCheck l = heldScan 0 (fun _ => none) l := by unfold heldCheck; rw [if_neg (by have := h.len; omega)]
  rw [e]
  obtain ⟨h1, h2, h3⟩ := scan_good l 0 (fun _ => none) h.bad h.apart (fun _ _ _ _ => rfl)
  refine ⟨h1, h2, fun k => ?_⟩
  rw [h3 k]
  cases posOf l k <;> simp
theorem getD_mem {l : List S32} {j : Nat} (hj : j < l.length) : l.getD j z32 ∈ l := by
  rw [List.getD_eq_getElem?_getD, List.getElem?_eq_getElem hj]
  exact List.getElem_mem hj
theorem badOf_no {x : S32} (h : badOf x = false) : (0 ≤ x.f0 ∧ x.f0 < 256) ∧ (0 ≤ x.f1 ∧ x.f1 < 256) ∧ 0 ≤ x.f2 ∧ x.f2 ≤ 8 := heldBad_no h
theorem badOf_mk {s f c : Int} (h : (0 ≤ s ∧ s < 256) ∧ (0 ≤ f ∧ f < 256) ∧ 0 ≤ c ∧ c ≤ 8) : badOf ⟨s, f, c⟩ = false := by
  simp [badOf, heldBad]
  omega
theorem Good.at_ {l : List S32} (h : Good l) {j : Nat} (hj : j < l.length) : (0 ≤ (l.getD j z32).f0 ∧ (l.getD j z32).f0 < 256) ∧ (0 ≤ (l.getD j z32).f1 ∧ (l.getD j z32).f1 < 256) ∧ 0 ≤ (l.getD j z32).f2 ∧ (l.getD j z32).f2 ≤ 8 := badOf_no (h.bad _ (getD_mem hj))
theorem Good.slot {l : List S32} (h : Good l) {j : Nat} (hj : j < l.length) : posOf l (0, (l.getD j z32).f0) = some j := posOf_at h.apart hj ((keys_mem _ _).2 (.inl rfl))
theorem Good.frame {l : List S32} (h : Good l) {j : Nat} (hj : j < l.length) : posOf l (1, (l.getD j z32).f1) = some j := posOf_at h.apart hj ((keys_mem _ _).2 (.inr (.inl rfl)))
theorem Good.claim {l : List S32} (h : Good l) {j : Nat} (hj : j < l.length) (hc : (l.getD j z32).f2 > 0) : posOf l (2, (l.getD j z32).f2) = some j := posOf_at h.apart hj ((keys_mem _ _).2 (.inr (.inr ⟨hc, rfl⟩)))
theorem pos_slot {l : List S32} {s : Int} {j : Nat} (h : posOf l (0, s) = some j) : j < l.length ∧ (l.getD j z32).f0 = s := by
  obtain ⟨h1, h2⟩ := posOf_some h
  rw [keys_mem] at h2
  simp at h2
  exact ⟨h1, h2.symm⟩
theorem pos_claim {l : List S32} {s : Int} {j : Nat} (h : posOf l (2, s) = some j) : j < l.length ∧ (l.getD j z32).f2 = s ∧ s > 0 := by
  obtain ⟨h1, h2⟩ := posOf_some h
  rw [keys_mem] at h2
  simp at h2
  exact ⟨h1, h2.2.symm, by omega⟩
/-! ### What the functions come to over such a list -/
theorem nums_ok {a lo hi : Int} (h0 : lo ≤ a) (h1 : a < hi) (r : List Int) : numsErr 0 (a :: lo :: hi :: r) = numsErr 0 r := by
  unfold numsErr
  rw [if_pos rfl, if_pos rfl]
  simp [numsBad, show ¬ a < lo by omega, show ¬ hi ≤ a by omega]
theorem nums_nil : numsErr 0 [] = 0 := rfl
theorem claim_good {l : List S32} (h : Good l) {n : Nat} (hn : n < l.length) {p : Int} (h1 : 1 ≤ p) (h2 : p ≤ 8) :
    heldClaim l (l.getD n z32).f0 p = if (l.getD n z32).f2 > 0 then ([], 9) else if (posOf l (2, p)).isSome = true then ([], 7) else (heldSet l n p, 0) := by
  obtain ⟨c1, c2, c3⟩ := h.check
  have hx := h.at_ hn
  unfold heldClaim
  rw [c1, nums_ok hx.1.1 hx.1.2, nums_ok h1 (by omega), nums_nil, if_pos rfl, c3, h.slot hn, c3]
  simp only [Option.map_some, Int.ofNat_eq_natCast, Int.toNat_natCast, Option.isSome_map]
theorem set_getD {l : List S32} {n : Nat} {c : Int} (j : Nat) (hn : n < l.length) : (heldSet l n c).getD j z32 = if j = n then ⟨(l.getD n z32).f0, (l.getD n z32).f1, c⟩ else l.getD j z32 := by
  unfold heldSet
  simp only [List.getD_eq_getElem?_getD, List.getElem?_set]
  by_cases e : n = j
  · subst e
    simp [hn]
  · simp [e, Ne.symm e]
theorem pair_iff (R : S32 → S32 → Prop) (l : List S32) : l.Pairwise R ↔ ∀ i j, i < j → j < l.length → R (l.getD i z32) (l.getD j z32) := by
  rw [List.pairwise_iff_getElem]
  constructor
  · intro h i j hij hj
    have := h i j (by omega) hj hij
    simpa [List.getD_eq_getElem?_getD, List.getElem?_eq_getElem hj, List.getElem?_eq_getElem (show i < l.length by omega)] using this
  · intro h i j hi hj hij
    have := h i j hij hj
    simpa [List.getD_eq_getElem?_getD, List.getElem?_eq_getElem hj, List.getElem?_eq_getElem (show i < l.length by omega)] using this
theorem all_iff (p : S32 → Prop) (l : List S32) : (∀ x ∈ l, p x) ↔ ∀ i, i < l.length → p (l.getD i z32) := by
  constructor
  · exact fun h i hi => h _ (getD_mem hi)
  · intro h x hx
    obtain ⟨i, hi, rfl⟩ := List.mem_iff_getElem.1 hx
    have := h i hi
    simpa [List.getD_eq_getElem?_getD, List.getElem?_eq_getElem hi] using this
theorem set_good {l : List S32} (h : Good l) {n : Nat} (hn : n < l.length) {p : Int} (h1 : 1 ≤ p) (h2 : p ≤ 8) (hp : posOf l (2, p) = none) : Good (heldSet l n p) := by
  have hl : (heldSet l n p).length = l.length := by unfold heldSet; simp
  have hq : ∀ j, j < l.length → (l.getD j z32).f2 ≠ p := fun j hj e => by
    have := h.claim hj (by omega)
    rw [e, hp] at this
    cases this
  refine ⟨by rw [hl]; exact h.len, (all_iff _ _).2 fun i hi => ?_, (pair_iff _ _).2 fun i j hij hj => ?_⟩
  · rw [set_getD i hn]
    rw [hl] at hi
    by_cases e : i = n
    · rw [if_pos e]
      have := h.at_ hn
      exact badOf_mk ⟨this.1, this.2.1, by omega, by omega⟩
    · rw [if_neg e]
      exact h.bad _ (getD_mem hi)
  · rw [hl] at hj
    have hA := (pair_iff _ _).1 h.apart
    rw [set_getD i hn, set_getD j hn]
    by_cases e : i = n
    · subst e
      rw [if_pos rfl, if_neg (by omega)]
      have := hA i j hij hj
      exact ⟨this.1, this.2.1, fun _ e => hq j hj e.symm⟩
    · rw [if_neg e]
      by_cases e2 : j = n
      · subst e2
        rw [if_pos rfl]
        have := hA i j hij hj
        exact ⟨this.1, this.2.1, fun _ e => hq i (by omega) e⟩
      · rw [if_neg e2]
        exact hA i j hij hj
theorem ext_getD {l m : List S32} (h : l.length = m.length) (h2 : ∀ j, j < l.length → l.getD j z32 = m.getD j z32) : l = m := by
  apply List.ext_getElem h
  intro j hj hm
  have := h2 j hj
  simpa [List.getD_eq_getElem?_getD, List.getElem?_eq_getElem hj, List.getElem?_eq_getElem hm] using this
/-! ### made -/
def Form (l : List S32) : Prop := ∀ j, j < l.length → (l.getD j z32).f0 = (((11 * j + 3) % 48 : Nat) : Int) ∧ (l.getD j z32).f1 = (((13 * j + 7) % 64 : Nat) : Int) ∧ ((l.getD j z32).f2 = 0 ∨ j < 8 ∧ (l.getD j z32).f2 = ((1 + (3 * j + 1) % 8 : Nat) : Int))
theorem form_snoc {l : List S32} (h : Form l) {x : S32} (hx : x.f0 = (((11 * l.length + 3) % 48 : Nat) : Int) ∧ x.f1 = (((13 * l.length + 7) % 64 : Nat) : Int) ∧ (x.f2 = 0 ∨ l.length < 8 ∧ x.f2 = ((1 + (3 * l.length + 1) % 8 : Nat) : Int))) : Form (l ++ [x]) := by
  intro j hj
  rw [List.length_append, List.length_singleton] at hj
  by_cases e : j < l.length
  · rw [show (l ++ [x]).getD j z32 = l.getD j z32 by simp [List.getD_eq_getElem?_getD, List.getElem?_append_left e]]
    exact h j e
  · obtain rfl : j = l.length := by omega
    rw [show (l ++ [x]).getD l.length z32 = x by simp [List.getD_eq_getElem?_getD]]
    exact hx
theorem form_good {l : List S32} (h : Form l) (hn : l.length ≤ 16) : Good l := by
  have i0 : ∀ i j : Fin 16, (11 * i.val + 3) % 48 = (11 * j.val + 3) % 48 → i = j := by decide
  have i1 : ∀ i j : Fin 16, (13 * i.val + 7) % 64 = (13 * j.val + 7) % 64 → i = j := by decide
  have i2 : ∀ i j : Fin 8, (3 * i.val + 1) % 8 = (3 * j.val + 1) % 8 → i = j := by decide
  refine ⟨hn, (all_iff _ _).2 fun i hi => ?_, (pair_iff _ _).2 fun i j hij hj => ?_⟩
  · obtain ⟨h0, h1, h2⟩ := h i hi
    generalize l.getD i z32 = y at h0 h1 h2
    obtain ⟨y0, y1, y2⟩ := y
    simp only at h0 h1 h2
    exact badOf_mk ⟨by omega, by omega, by omega, by omega⟩
  · obtain ⟨h0, h1, h2⟩ := h i (by omega)
    obtain ⟨g0, g1, g2⟩ := h j hj
    refine ⟨fun e => ?_, fun e => ?_, fun hc e => ?_⟩
    · have := i0 ⟨i, by omega⟩ ⟨j, by omega⟩ (by rw [h0, g0] at e; exact Int.ofNat.inj e)
      simp at this; omega
    · have := i1 ⟨i, by omega⟩ ⟨j, by omega⟩ (by rw [h1, g1] at e; exact Int.ofNat.inj e)
      simp at this; omega
    · rcases h2 with h2 | ⟨hi, h2⟩
      · omega
      · rcases g2 with g2 | ⟨hj8, g2⟩
        · omega
        · have := i2 ⟨i, by omega⟩ ⟨j, by omega⟩ (by simp; omega)
          simp at this; omega
theorem made_nums : ∀ i : Fin 16, Int.tmod (wrap64 ((wrap64 (11 * (i.val : Int))) + 3)) 48 = (((11 * i.val + 3) % 48 : Nat) : Int) ∧ Int.tmod (wrap64 ((wrap64 (13 * (i.val : Int))) + 7)) 64 = (((13 * i.val + 7) % 64 : Nat) : Int) ∧ wrap64 (1 + (Int.tmod (wrap64 ((wrap64 (3 * (i.val : Int))) + 1)) 8)) = ((1 + (3 * i.val + 1) % 8 : Nat) : Int) ∧ wrap64 ((i.val : Int) + 1) = ((i.val + 1 : Nat) : Int) := by decide +kernel
theorem made_nums' (i : Nat) (h : i < 16) : Int.tmod (wrap64 ((wrap64 (11 * (i : Int))) + 3)) 48 = (((11 * i + 3) % 48 : Nat) : Int) ∧ Int.tmod (wrap64 ((wrap64 (13 * (i : Int))) + 7)) 64 = (((13 * i + 7) % 64 : Nat) : Int) ∧ wrap64 (1 + (Int.tmod (wrap64 ((wrap64 (3 * (i : Int))) + 1)) 8)) = ((1 + (3 * i + 1) % 8 : Nat) : Int) ∧ wrap64 ((i : Int) + 1) = ((i + 1 : Nat) : Int) := made_nums ⟨i, h⟩
theorem made_stop (x0 : List Int) (i : Nat) (acc : List S32) (k : Nat) (ha : acc.length = i) (hi : i ≤ 16) (hf : Form acc) (hk : 2 < k) (h : ¬ (i : Int) < (x0.length : Int) ∨ ¬ i < 16) : ∃ l, headgatelaw19_made.l0 k x0 acc (i : Int) = some l ∧ Form l ∧ l.length ≤ 16 := by
  obtain ⟨k, rfl⟩ : ∃ m, k = m + 2 := ⟨k - 2, by omega⟩
  rw [headgatelaw19_made.l0]
  by_cases c : (i : Int) < (x0.length : Int)
  · rw [if_pos c, decide_eq_false (show ¬ (i : Int) < 16 by omega), headgatelaw19_made.j1, if_neg (by decide)]
    exact ⟨acc, rfl, hf, by omega⟩
  · rw [if_neg c, headgatelaw19_made.j1, if_neg (by decide)]
    exact ⟨acc, rfl, hf, by omega⟩
theorem made_step (x0 : List Int) : ∀ (d i : Nat) (acc : List S32) (k : Nat), i + d = 16 → acc.length = i → Form acc → 2 * d + 2 < k → ∃ l, headgatelaw19_made.l0 k x0 acc (i : Int) = some l ∧ Form l ∧ l.length ≤ 16
  | 0, i, acc, k, hd, ha, hf, hk => made_stop x0 i acc k ha (by omega) hf (by omega) (.inr (by omega))
  | d + 1, i, acc, k, hd, ha, hf, hk => by
    by_cases c : (i : Int) < (x0.length : Int)
    · obtain ⟨k, rfl⟩ : ∃ m, k = m + 2 := ⟨k - 2, by omega⟩
      rw [headgatelaw19_made.l0, if_pos c]
      have c2 : i < 16 := by omega
      rw [decide_eq_true (show (i : Int) < 16 by omega), headgatelaw19_made.j1, if_pos rfl, if_pos (by omega), if_pos c, mod_f _ _ (by decide) (by decide)]
      simp only [Option.bind_some]
      obtain ⟨e0, e1, e2, e3⟩ := made_nums' i c2
      rw [e0, e1, e2, e3]
      clear e0 e1 e2 e3
      generalize hA : (rd x0 (i : Int) % 1048576) = t
      have hs : ∀ x : S32, (x.f0 = (((11 * i + 3) % 48 : Nat) : Int) ∧ x.f1 = (((13 * i + 7) % 64 : Nat) : Int) ∧ (x.f2 = 0 ∨ i < 8 ∧ x.f2 = ((1 + (3 * i + 1) % 8 : Nat) : Int))) → ∃ l, headgatelaw19_made.l0 k x0 (acc ++ [x]) ((i + 1 : Nat) : Int) = some l ∧ Form l ∧ l.length ≤ 16 := fun x hx =>
        made_step x0 d (i + 1) (acc ++ [x]) k (by omega) (by simp [ha]) (form_snoc hf (by rw [ha]; exact hx)) (by omega)
      by_cases c3 : Int.tmod t 3 = 0
      · rw [if_pos c3]
        by_cases c4 : (i : Int) < 8
        · rw [if_pos c4, if_pos (by omega)]
          refine hs _ ?_
          exact ⟨Eq.refl _, Eq.refl _, Or.inr ⟨by omega, Eq.refl _⟩⟩
        · rw [if_neg c4, if_pos (by omega)]
          refine hs _ ?_
          exact ⟨Eq.refl _, Eq.refl _, Or.inl (Eq.refl _)⟩
      · rw [if_neg c3, if_pos (by omega)]
        refine hs _ ?_
        exact ⟨Eq.refl _, Eq.refl _, Or.inl (Eq.refl _)⟩
    · exact made_stop x0 i acc k ha (by omega) hf (by omega) (.inl c)
theorem made_good (x0 : List Int) : ∃ l, headgatelaw19_made.f 60 x0 = some l ∧ Good l := by
  obtain ⟨l, h1, h2, h3⟩ := made_step x0 16 0 [] 60 rfl rfl (fun j hj => by simp at hj) (by omega)
  exact ⟨l, h1, form_good h2 h3⟩
theorem awake_true : headgatelaw19_awake.f 60 = some true := by decide +kernel
theorem same_step (l : List S32) (hl : l.length ≤ 1000) : ∀ (d i k : Nat), i + d = l.length → d < k → headgatekit_SameWrites.l0 k l l (i : Int) = some true
  | 0, i, k, hd, hk => by
    obtain ⟨k, rfl⟩ : ∃ m, k = m + 1 := ⟨k - 1, by omega⟩
    rw [headgatekit_SameWrites.l0, if_neg (by omega)]
  | d + 1, i, k, hd, hk => by
    obtain ⟨k, rfl⟩ : ∃ m, k = m + 1 := ⟨k - 1, by omega⟩
    have c : (i : Int) < (l.length : Int) := by omega
    rw [headgatekit_SameWrites.l0, if_pos c, if_pos (by omega), if_pos c, if_neg (by simp), show wrap64 ((i : Int) + 1) = ((i + 1 : Nat) : Int) by rw [w64 (by omega) (by omega)]; omega]
    exact same_step l hl d (i + 1) k (by omega) (by omega)
theorem same_f (l : List S32) (hl : l.length ≤ 16) (k : Nat) (hk : 17 < k) : headgatekit_SameWrites.f k l l = some true := by
  unfold headgatekit_SameWrites.f
  rw [if_pos rfl]
  exact same_step l (by omega) l.length 0 k (by omega) (by omega)
theorem is_f (l : List S32) (hl : l.length ≤ 16) (k : Nat) (hk : 17 < k) : headgatelaw19_is.f k l l 0 = some true := by
  unfold headgatelaw19_is.f
  rw [if_pos rfl, same_f l hl k hk]
  rfl

theorem find_good {l : List S32} (h : Good l) {n : Nat} (hn : n < l.length) : heldFind l (l.getD n z32).f0 = ((n : Int), 0) := by
  obtain ⟨c1, c2, c3⟩ := h.check
  have hx := h.at_ hn
  unfold heldFind
  rw [c1, nums_ok hx.1.1 hx.1.2, nums_nil, if_pos rfl, c3, h.slot hn]
  simp
theorem remove_good {l : List S32} (h : Good l) {n : Nat} (hn : n < l.length) : heldRemove l (l.getD n z32).f0 = (l.eraseIdx n, (l.getD n z32).f0, (l.getD n z32).f1, (l.getD n z32).f2, 0) := by
  unfold heldRemove
  rw [find_good h hn]
  simp only [if_true, Int.toNat_natCast, List.eraseIdx_eq_take_drop_succ]
theorem erase_good {l : List S32} (h : Good l) (n : Nat) : Good (l.eraseIdx n) := by
  have hs := List.eraseIdx_sublist l n
  exact ⟨Nat.le_trans hs.length_le h.len, fun x hx => h.bad x (hs.subset hx), h.apart.sublist hs⟩
theorem erase_getD {l : List S32} (n j : Nat) : (l.eraseIdx n).getD j z32 = if j < n then l.getD j z32 else l.getD (j + 1) z32 := by
  simp only [List.getD_eq_getElem?_getD, List.getElem?_eraseIdx]
  by_cases h : j < n <;> simp [h]
def hit (s f : Int) (l : List S32) : Bool := l.any fun x => x.f0 == s || x.f1 == f
theorem free_hit {l : List S32} (h : Good l) (s f : Int) : heldFree (heldCheck l).2.2 (heldKeys s f 0) = !hit s f l := by
  obtain ⟨c1, c2, c3⟩ := h.check
  have e : heldKeys s f 0 = [(0, s), (1, f)] := by simp [heldKeys]
  rw [e, Bool.eq_iff_iff, heldFree_iff]
  simp only [c3, List.mem_cons, List.not_mem_nil, or_false, forall_eq_or_imp, forall_eq, Option.map_eq_none_iff, posOf_none, keys_mem]
  unfold hit
  simp [List.any_eq_false]
  constructor
  · rintro ⟨h0, h1⟩ x hx
    exact ⟨fun e => h0 x hx e.symm, fun e => h1 x hx e.symm⟩
  · intro h0
    exact ⟨fun x hx e => (h0 x hx).1 e.symm, fun x hx e => (h0 x hx).2 e.symm⟩
theorem add_good {l : List S32} (h : Good l) {s f : Int} (s0 : 0 ≤ s) (s1 : s < 256) (f0 : 0 ≤ f) (f1 : f < 256) : heldAdd l s f = if hit s f l = true then ([], 7) else if l.length = 16 then ([], 5) else (l ++ [⟨s, f, 0⟩], 0) := by
  unfold heldAdd
  rw [h.check.1, nums_ok s0 s1, nums_ok f0 f1, nums_nil, if_pos rfl, free_hit h]
  cases hit s f l <;> simp
theorem snoc_good {l : List S32} (h : Good l) {s f : Int} (s0 : 0 ≤ s) (s1 : s < 256) (f0 : 0 ≤ f) (f1 : f < 256) (hn : l.length < 16) (hh : hit s f l = false) : Good (l ++ [⟨s, f, 0⟩]) := by
  unfold hit at hh
  simp [List.any_eq_false] at hh
  refine ⟨by simp; omega, fun x hx => ?_, ?_⟩
  · rcases List.mem_append.1 hx with hx | hx
    · exact h.bad x hx
    · obtain rfl := List.mem_singleton.1 hx
      exact badOf_mk ⟨⟨s0, s1⟩, ⟨f0, f1⟩, by omega, by omega⟩
  · rw [List.pairwise_append]
    refine ⟨h.apart, List.pairwise_singleton _ _, fun x hx y hy => ?_⟩
    obtain rfl := List.mem_singleton.1 hy
    obtain ⟨h0, h1⟩ := hh x hx
    exact ⟨h0, h1, fun hc => by simp; omega⟩
theorem snoc_getD (l : List S32) (x : S32) : (l ++ [x]).getD l.length z32 = x := by simp [List.getD_eq_getElem?_getD]

theorem second {l : List S32} (h : Good l) {i j : Nat} (hi : i < l.length) (hj : j < l.length) (hij : i ≠ j) :
    heldRemove (l.eraseIdx i) (l.getD j z32).f0 = ((l.eraseIdx i).eraseIdx (if j < i then j else j - 1), (l.getD j z32).f0, (l.getD j z32).f1, (l.getD j z32).f2, 0) := by
  have hl : (l.eraseIdx i).length = l.length - 1 := List.length_eraseIdx_of_lt hi
  have e : (l.eraseIdx i).getD (if j < i then j else j - 1) z32 = l.getD j z32 := by
    rw [erase_getD]
    by_cases c : j < i
    · rw [if_pos c, if_pos c]
    · rw [if_neg c, if_neg (by omega), show j - 1 + 1 = j by omega]
  have := remove_good (erase_good h i) (n := if j < i then j else j - 1) (by split <;> omega)
  rw [e] at this
  exact this
theorem both {l : List S32} {i j : Nat} (hij : i ≠ j) : (l.eraseIdx i).eraseIdx (if j < i then j else j - 1) = (l.eraseIdx j).eraseIdx (if i < j then i else i - 1) := by
  apply List.ext_getElem?
  intro q
  simp only [List.getElem?_eraseIdx]
  by_cases c : j < i
  · rw [if_pos c, if_neg (by omega : ¬ i < j)]
    by_cases c1 : q < j
    · rw [if_pos c1, if_pos (by omega), if_pos (by omega), if_pos c1]
    · by_cases c2 : q + 1 < i
      · rw [if_neg c1, if_pos c2, if_pos (by omega), if_neg c1]
      · rw [if_neg c1, if_neg c2, if_neg (by omega), if_neg (by omega)]
  · rw [if_neg c, if_pos (by omega : i < j)]
    by_cases c1 : q < i
    · rw [if_pos (by omega), if_pos c1, if_pos c1, if_pos (by omega)]
    · by_cases c2 : q + 1 < j
      · rw [if_pos (by omega), if_neg c1, if_neg c1, if_pos c2]
      · rw [if_neg (by omega), if_neg (by omega), if_neg c1, if_neg c2]
theorem mod_ne {i m n : Nat} (hi : i < n) (hm : m < n - 1) : (i + 1 + m) % n ≠ i ∧ (i + 1 + m) % n < n := by
  refine ⟨?_, Nat.mod_lt _ (by omega)⟩
  by_cases c : i + 1 + m < n
  · rw [Nat.mod_eq_of_lt c]; omega
  · rw [Nat.mod_eq_sub_mod (by omega), Nat.mod_eq_of_lt (by omega)]; omega
theorem HeldOrder : headgatelaw19_HeldOrder.Pure := by
  intro nums a1 a2 _ _ _ _ _
  obtain ⟨l, hm, hg⟩ := made_good nums
  have aw := fun k => at_rounds headgatelaw19_awake.mono (k' := 60 + k) (by omega) awake_true
  refine ⟨200, ?_⟩
  unfold headgatelaw19_HeldOrder.f
  rw [at_rounds (headgatelaw19_made.mono nums) (k' := 200) (by omega) hm, show headgatelaw19_awake.f 200 = some true from aw 140]
  simp only [Option.bind_some]
  have hl := hg.len
  by_cases h2 : (l.length : Int) < 2
  · rw [if_pos h2]
  rw [if_neg h2, w64 (x := (l.length : Int) - 1) (by omega) (by omega), mod_f a1 _ (by omega) (by omega), mod_f a2 _ (by omega) (by omega)]
  simp only [Option.bind_some]
  have i0 := Int.emod_nonneg a1 (show (l.length : Int) ≠ 0 by omega)
  have i1 := Int.emod_lt_of_pos a1 (show (0 : Int) < (l.length : Int) by omega)
  have m0 := Int.emod_nonneg a2 (show (l.length : Int) - 1 ≠ 0 by omega)
  have m1 := Int.emod_lt_of_pos a2 (show (0 : Int) < (l.length : Int) - 1 by omega)
  obtain ⟨i, hi⟩ : ∃ n : Nat, a1 % (l.length : Int) = n := ⟨(a1 % (l.length : Int)).toNat, by omega⟩
  obtain ⟨m, hmm⟩ : ∃ n : Nat, a2 % ((l.length : Int) - 1) = n := ⟨(a2 % ((l.length : Int) - 1)).toNat, by omega⟩
  rw [hi] at i0 i1 ⊢
  rw [hmm] at m0 m1 ⊢
  have hin : i < l.length := by omega
  obtain ⟨hne, hlt⟩ := mod_ne (i := i) (m := m) (n := l.length) hin (by omega)
  have hk : Int.tmod (wrap64 ((wrap64 ((i : Int) + 1)) + (m : Int))) (l.length : Int) = (((i + 1 + m) % l.length : Nat) : Int) := by
    rw [w64 (x := (i : Int) + 1) (by omega) (by omega), w64 (by omega) (by omega), Int.tmod_eq_emod_of_nonneg (by omega)]
    push_cast
    rfl
  rw [hk, if_neg (by omega), if_pos i0, if_pos i1]
  generalize hkk : (i + 1 + m) % l.length = k at *
  have ri : rd_T32 l (i : Int) = l.getD i z32 := rfl
  have rk : rd_T32 l (k : Int) = l.getD k z32 := rfl
  rw [ri, rk]
  simp only [held_Remove.f, Option.bind_some]
  rw [remove_good hg hin, remove_good hg hlt]
  simp only
  rw [second hg hin hlt (Ne.symm hne), second hg hlt hin hne, both (l := l) (i := i) (j := k) (Ne.symm hne), if_pos (by omega), if_pos (by omega)]
  have hb : ((l.eraseIdx k).eraseIdx (if i < k then i else i - 1)).length = l.length - 2 := by
    have h1 : (l.eraseIdx k).length = l.length - 1 := List.length_eraseIdx_of_lt hlt
    rw [List.length_eraseIdx_of_lt (by split <;> omega), h1]
    omega
  simp only [if_true, beq_self_eq_true, Bool.and_self]
  rw [same_f _ (by omega) 200 (by omega), hb, w64 (by omega) (by omega)]
  simp only [Option.bind_some, if_true]
  rw [if_pos (by omega)]

end Go.Proofs.Ytfnhoncpaheejaa.Pure
