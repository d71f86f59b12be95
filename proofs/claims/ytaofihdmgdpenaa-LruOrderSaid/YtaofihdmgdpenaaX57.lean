/- What Go functions of this seat compute, told as Lean functions, and that each call of the Go code comes to that answer; for a law: its row, for every input. Written by a program of the session. -/
import Derived.Test.YtaofihdmgdpenaaX0
namespace Go.Proofs.Ytaofihdmgdpenaa.X
open Go.RowKit Go.Proofs.YtaofihdmgdpenaaW.PrintWords Go.Proofs.YtaofihdmgdpenaaW.PrintLast Go.Proofs.YtaofihdmgdpenaaW.PrintMore
attribute [local go_sem] max2_int min2_int max_two min_two max_three min_three max_four min_four   -- for this text's walks alone
set_option linter.unusedVariables false
set_option linter.unusedSimpArgs false

/-! ### Rows one behind the other -/
def catLen {α : Type} : List (List α) → Nat
 | [] => 0
 | x :: xs => x.length + catLen xs
theorem catLen_take {α : Type} : ∀ (l : List (List α)) (i : Nat), i < l.length → catLen (l.take (i + 1)) = catLen (l.take i) + (l.getD i []).length
 | [], i, h => by simp at h
 | x :: xs, 0, _ => by simp [catLen]
 | x :: xs, i + 1, h => by
  have := catLen_take xs i (by simpa using h)
  simp only [List.take_succ_cons, catLen, this, List.getD_cons_succ]
  omega
theorem catLen_le {α : Type} : ∀ (l : List (List α)) (i : Nat), catLen (l.take i) ≤ catLen l
 | [], i => by simp
 | x :: xs, 0 => by simp [catLen]
 | x :: xs, i + 1 => by
  have := catLen_le xs i
  simp only [List.take_succ_cons, catLen]
  omega
theorem catLen_flatten {α : Type} : ∀ l : List (List α), l.flatten.length = catLen l
 | [] => rfl
 | x :: xs => by simp [catLen, catLen_flatten xs]
theorem flatten_take {α : Type} : ∀ (l : List (List α)) (i : Nat), i < l.length → (l.take (i + 1)).flatten = (l.take i).flatten ++ l.getD i []
 | [], i, h => by simp at h
 | x :: xs, 0, _ => by simp
 | x :: xs, i + 1, h => by
  have := flatten_take xs i (by simpa using h)
  simp only [List.take_succ_cons, List.flatten_cons, this, List.getD_cons_succ, List.append_assoc]
/-- An element of a row of rows that came in. -/
theorem rows_at {α : Type} {e : Nat} {d : Kd α} {w : World} {A : Option Addr} {n : Nat} {xs : List (List α)} (h : (Kd.slice e d).C w A n xs) (i : Nat) (hi : i < n) : ∃ ad Ai ci, A = some ad ∧ w.cell? (ad.add i) = some (.slice Ai (xs.getD i []).length ci) ∧ (xs.getD i []).length ≤ ci ∧ d.C w Ai (xs.getD i []).length (xs.getD i []) := by
 obtain ⟨ad, c, hA, _, hK, hc⟩ := Kd.C_get h [] (i : Int) (by omega) (by omega)
 obtain ⟨Ai, ci, rfl, h1, h2⟩ := hK
 refine ⟨ad, Ai, ci, hA, ?_, by simpa using h1, by simpa using h2⟩
 have := hc 0 _ rfl
 simpa [Kd.slice] using this
/-- A row of rows, cell by cell. -/
theorem rows_mk {α : Type} {e : Nat} {d : Kd α} {w : World} {b t : Nat} {l : List (List α)} {cs : Array Value} {fr : Nat × Nat} (hb : w.heap[b]? = some (.cells cs t fr)) (hn : cs.size = l.length) (hm : l.length ≤ 9223372036854775807)
  (h : ∀ i, i < l.length → ∃ A c, cs[i]? = some (.slice A (l.getD i []).length c) ∧ (l.getD i []).length ≤ c ∧ d.C w A (l.getD i []).length (l.getD i [])) (hf : fr = (0, 0)) : (Kd.slice e d).C w (some ⟨b, 0, none⟩) l.length l := by
 subst hf
 refine ⟨rfl, hm, fun _ => ⟨_, rfl, fun j p hj => ?_⟩⟩
 have hjl : j < l.length := (List.getElem?_eq_some_iff.1 hj).1
 obtain ⟨A, c, h1, h2, h3⟩ := h j hjl
 have hp : l.getD j [] = p := by rw [List.getD_eq_getElem?_getD, hj]; rfl
 rw [hp] at h1 h2 h3
 refine ⟨[.slice A p.length c], rfl, ⟨A, c, rfl, h2, h3⟩, fun i u hi => ?_⟩
 have hi0 : i = 0 := by have := (List.getElem?_eq_some_iff.1 hi).1; simp at this; omega
 subst hi0
 simp only [List.getElem?_cons_zero, Option.some.injEq] at hi
 subst hi
 have := blk_cell hb j
 rw [h1] at this
 rw [show ((⟨b, 0, none⟩ : Addr).add (j * (Kd.slice e d).sz + 0)) = ⟨b, j, none⟩ by rw [show j * (Kd.slice e d).sz + 0 = j by simp [Kd.slice], Go.WideShapes.add_plain, Nat.zero_add]]
 exact this
/-- s[:n:n], and s[n:]. -/
theorem cutn_at {P : Program} {t e : TypeId} (ht : P.underlying t = some (.slice e)) {s : Nat} (hs : ∀ W, (sizeOf e).run P W = .ok s W) (A : Option Addr) (len cap n : Nat) (h : n ≤ cap) (W : World) :
  (Instr.slice t (.slice A len cap) none (some (.int .i64 (n : Int))) (some (.int .i64 (n : Int)))).run P W = .ok (.slice A n n) W := by
 have hel : P.elem t = e := by simp [Program.elem, ht]
 have hu : P.underlying t = some (.slice (P.elem t)) := by rw [hel]; exact ht
 have ha : (A.map fun x => x.add 0) = A := by cases A <;> simp [Addr.add]
 rw [run_slice_any W t A len cap hu, hel]
 simp [Instr.sliceBounds, run_sliceBound, hs, sliced, h, Result.andThen]
 intro _
 exact ha
theorem cutn_from {P : Program} {t e : TypeId} (ht : P.underlying t = some (.slice e)) {s : Nat} (hs : ∀ W, (sizeOf e).run P W = .ok s W) (A : Option Addr) (len cap n : Nat) (h : n ≤ len) (W : World) :
  (Instr.slice t (.slice A len cap) (some (.int .i64 (n : Int))) none none).run P W = .ok (.slice (if cap = n then A else A.map (·.add (n * s))) (len - n) (cap - n)) W := by
 have hel : P.elem t = e := by simp [Program.elem, ht]
 have hu : P.underlying t = some (.slice (P.elem t)) := by rw [hel]; exact ht
 rw [run_slice_any W t A len cap hu, hel]
 simp [Instr.sliceBounds, run_sliceBound, hs, sliced, h, Result.andThen]


end Go.Proofs.Ytaofihdmgdpenaa.X
