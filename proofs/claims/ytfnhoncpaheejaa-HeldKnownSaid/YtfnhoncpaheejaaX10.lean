/- What Go functions of this seat compute, told as Lean functions, and that each call of the Go code comes to that answer; for a law: its row, for every input. Written by a program of the session. -/
import Derived.Test.YtfnhoncpaheejaaX0
namespace Go.Proofs.Ytfnhoncpaheejaa.X
open Go.RowKit Go.Proofs.YtfnhoncpaheejaaW.PrintWords Go.Proofs.YtfnhoncpaheejaaW.PrintLast Go.Proofs.YtfnhoncpaheejaaW.PrintMore
attribute [local go_sem] max2_int min2_int max_two min_two max_three min_three max_four min_four   -- for this text's walks alone
set_option linter.unusedVariables false
set_option linter.unusedSimpArgs false

/-! ### Rows whose elements are written out cell by cell -/
theorem flat_get {α β : Type} (f : α → List β) (s : Nat) (hs : ∀ x, (f x).length = s) : ∀ (xs : List α) (q r : Nat), r < s → (xs.flatMap f)[q * s + r]? = (xs[q]?).bind fun x => (f x)[r]?
 | [], q, r, _ => by simp
 | x :: xs, 0, r, hr => by
  rw [List.flatMap_cons, List.getElem?_append_left (by rw [hs]; omega)]
  simp
 | x :: xs, q + 1, r, hr => by
  have e : (q + 1) * s + r = s + (q * s + r) := by rw [Nat.add_mul]; omega
  rw [List.flatMap_cons, e, List.getElem?_append_right (by rw [hs]; omega), hs, show s + (q * s + r) - s = q * s + r by omega, flat_get f s hs xs q r hr]
  simp
theorem flat_length {α β : Type} (f : α → List β) (s : Nat) (hs : ∀ x, (f x).length = s) : ∀ xs : List α, (xs.flatMap f).length = xs.length * s
 | [] => by simp
 | x :: xs => by rw [List.flatMap_cons, List.length_append, hs, flat_length f s hs xs, List.length_cons, Nat.add_mul]; omega
/-- A row that is read, cell by cell. -/
theorem flat_cells {α : Type} {d : Kd α} {f : α → List Value} (hs : ∀ x, (f x).length = d.sz) (h0 : 0 < d.sz) (hK : ∀ w x c, d.K w x c → c = f x) {w : World} {ad : Addr} {n : Nat} {xs : List α} (h : Kd.C d w (some ad) n xs) :
  ∀ j u, (xs.flatMap f)[j]? = some u → w.cell? (ad.add j) = some u := by
 intro j u hu
 have hlt := (List.getElem?_eq_some_iff.1 hu).1
 rw [flat_length f d.sz hs] at hlt
 obtain ⟨q, r, hj, hq, hr⟩ : ∃ q r, j = q * d.sz + r ∧ q < xs.length ∧ r < d.sz :=
  ⟨j / d.sz, j % d.sz, by rw [Nat.mul_comm]; exact (Nat.div_add_mod j d.sz).symm, Nat.div_lt_of_lt_mul (by rw [Nat.mul_comm]; exact hlt), Nat.mod_lt j h0⟩
 rw [hj, flat_get f d.sz hs xs _ _ hr, List.getElem?_eq_getElem hq] at hu
 simp only [Option.bind_some] at hu
 obtain ⟨ad', c, e, _, hKc, hc⟩ := Kd.C_get h xs[q] (q : Int) (by omega) (by have := h.1; omega)
 cases e
 have hx : xs.getD ((q : Int)).toNat xs[q] = xs[q] := by
  rw [Int.toNat_natCast, List.getD_eq_getElem?_getD, List.getElem?_eq_getElem hq]
  rfl
 rw [hx] at hKc
 have := hK _ _ _ hKc
 subst this
 have h2 := hc r u hu
 rw [Int.toNat_natCast, ← hj] at h2
 exact h2
theorem flat_reps {α : Type} {R : α → List Value → Prop} {f : α → List Value} {s : Nat} (hs : ∀ x, (f x).length = s) (hR : ∀ x, R x (f x)) (xs : List α) : Reps R s xs (xs.flatMap f) := by
 refine ⟨flat_length f s hs xs, fun j p hj => ?_⟩
 have e : ((xs.flatMap f).drop (j * s)).take s = f p := by
  apply List.ext_getElem?
  intro r
  by_cases hr : r < s
  ·
   rw [List.getElem?_take_of_lt hr, List.getElem?_drop, flat_get f s hs xs j r hr, hj]
   rfl
  ·
   rw [List.getElem?_eq_none (by rw [List.length_take]; omega), List.getElem?_eq_none (by rw [hs]; omega)]
 rw [e]
 exact hR p
/-- A row of the call's own, out of its cells. -/
theorem flat_own {α : Type} {d : Kd α} {f : α → List Value} (hs : ∀ x, (f x).length = d.sz) (hM : ∀ w base ok x, d.M w base ok x (f x)) {e base : Nat} {w : World} {v : Value} {xs : List α} (h : w.ownsRow base e d.sz v xs.length (xs.flatMap f)) : Kd.R d e w base (fun _ => True) v xs :=
 ⟨fun _ _ => trivial, ⟨_, h, flat_reps hs (fun x => hM _ _ _ x) xs⟩⟩
theorem lit_C (w : World) (e : TypeId) (xs : List Int) (h : xs.length ≤ 1000) : Kd.C (Kd.int .i64) (w.alloc (.cells (nums .i64 xs).toArray e)) (some ⟨w.heap.size, 0, none⟩) xs.length xs := by
 have ho := own_lit w w.heap.size e .i64 xs (Nat.le_refl _) (by omega)
 have hr : Kd.R (Kd.int .i64) e (w.alloc (.cells (nums .i64 xs).toArray e)) w.heap.size (fun _ => True) (.slice (some ⟨w.heap.size, 0, none⟩) xs.length xs.length) xs := Kd.R_of_own ho (fun _ _ => trivial)
 exact (Kd.R_reads' hr).2.2
theorem lit_Cb (w : World) (e : TypeId) (xs : List Int) (h : xs.length ≤ 1000) (b : Nat) (hb : b = w.heap.size) : Kd.C (Kd.int .i64) (w.alloc (.cells (nums .i64 xs).toArray e)) (some ⟨b, 0, none⟩) xs.length xs := by
 subst hb
 exact lit_C w e xs h


end Go.Proofs.Ytfnhoncpaheejaa.X
