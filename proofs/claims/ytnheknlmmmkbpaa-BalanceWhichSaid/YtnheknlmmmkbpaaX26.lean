/- What Go functions of this seat compute, told as Lean functions, and that each call of the Go code comes to that answer; for a law: its row, for every input. Written by a program of the session. -/
import Derived.Test.YtnheknlmmmkbpaaX0
import Derived.Test.YtnheknlmmmkbpaaX2
import Derived.Shelf.SlicesE.Delete
import Derived.Ground.SlgnProg
import Derived.Lib.SliceRun
import Derived.Sort.OwnSortedInts
import Derived.Shelf.Spec.SlicesInsertGrow
namespace Go.Proofs.Ytnheknlmmmkbpaa.X
open Go.RowKit Go.Proofs.YtnheknlmmmkbpaaW.PrintWords Go.Proofs.YtnheknlmmmkbpaaW.PrintLast Go.Proofs.YtnheknlmmmkbpaaW.PrintMore
attribute [local go_sem] max2_int min2_int max_two min_two max_three min_three max_four min_four   -- for this text's walks alone
set_option linter.unusedVariables false
set_option linter.unusedSimpArgs false

/-! ### Rows whose elements are written out cell by cell -/
theorem flat_get {α β : Type} (f : α → List β) (s : Nat) (hs : ∀ x, (f x).length = s) : ∀ (xs : List α) (q r : Nat), r < s → (xs.flatMap f)[q * s + r]? = (xs[q]?).bind fun x => (f x)[r]?
 | [], q, r, _ => by simp
 | x :: xs, 0, r, hr => by
  rw [List.flatMap_cons, List.getElem?_append_left (by rw [hs]; omega)]
  simp
 | x :: xs, q + 1, r, hr => by
  have e : (q + 1) * s + r = s + (q * s + r) := by rw [Nat.add_mul]; omega
  rw [List.flatMap_cons, e, List.getElem?_append_right (by rw [hs]; omega), hs, show s + (q * s + r) - s = q * s + r by omega, flat_get f s hs xs q r hr]
  simp
theorem flat_length {α β : Type} (f : α → List β) (s : Nat) (hs : ∀ x, (f x).length = s) : ∀ xs : List α, (xs.flatMap f).length = xs.length * s
 | [] => by simp
 | x :: xs => by rw [List.flatMap_cons, List.length_append, hs, flat_length f s hs xs, List.length_cons, Nat.add_mul]; omega
/-- A row that is read, cell by cell. -/
theorem flat_cells {α : Type} {d : Kd α} {f : α → List Value} (hs : ∀ x, (f x).length = d.sz) (h0 : 0 < d.sz) (hK : ∀ w x c, d.K w x c → c = f x) {w : World} {ad : Addr} {n : Nat} {xs : List α} (h : Kd.C d w (some ad) n xs) :
  ∀ j u, (xs.flatMap f)[j]? = some u → w.cell? (ad.add j) = some u := by
 intro j u hu
 have hlt := (List.getElem?_eq_some_iff.1 hu).1
 rw [flat_length f d.sz hs] at hlt
 obtain ⟨q, r, hj, hq, hr⟩ : ∃ q r, j = q * d.sz + r ∧ q < xs.length ∧ r < d.sz :=
  ⟨j / d.sz, j % d.sz, by rw [Nat.mul_comm]; exact (Nat.div_add_mod j d.sz).symm, Nat.div_lt_of_lt_mul (by rw [Nat.mul_comm]; exact hlt), Nat.mod_lt j h0⟩
 rw [hj, flat_get f d.sz hs xs _ _ hr, List.getElem?_eq_getElem hq] at hu
 simp only [Option.bind_some] at hu
 obtain ⟨ad', c, e, _, hKc, hc⟩ := Kd.C_get h xs[q] (q : Int) (by omega) (by have := h.1; omega)
 cases e
 have hx : xs.getD ((q : Int)).toNat xs[q] = xs[q] := by
  rw [Int.toNat_natCast, List.getD_eq_getElem?_getD, List.getElem?_eq_getElem hq]
  rfl
 rw [hx] at hKc
 have := hK _ _ _ hKc
 subst this
 have h2 := hc r u hu
 rw [Int.toNat_natCast, ← hj] at h2
 exact h2
theorem flat_reps {α : Type} {R : α → List Value → Prop} {f : α → List Value} {s : Nat} (hs : ∀ x, (f x).length = s) (hR : ∀ x, R x (f x)) (xs : List α) : Reps R s xs (xs.flatMap f) := by
 refine ⟨flat_length f s hs xs, fun j p hj => ?_⟩
 have e : ((xs.flatMap f).drop (j * s)).take s = f p := by
  apply List.ext_getElem?
  intro r
  by_cases hr : r < s
  ·
   rw [List.getElem?_take_of_lt hr, List.getElem?_drop, flat_get f s hs xs j r hr, hj]
   rfl
  ·
   rw [List.getElem?_eq_none (by rw [List.length_take]; omega), List.getElem?_eq_none (by rw [hs]; omega)]
 rw [e]
 exact hR p
/-- A row of the call's own, out of its cells. -/
theorem flat_own {α : Type} {d : Kd α} {f : α → List Value} (hs : ∀ x, (f x).length = d.sz) (hM : ∀ w base ok x, d.M w base ok x (f x)) {e base : Nat} {w : World} {v : Value} {xs : List α} (h : w.ownsRow base e d.sz v xs.length (xs.flatMap f)) : Kd.R d e w base (fun _ => True) v xs :=
 ⟨fun _ _ => trivial, ⟨_, h, flat_reps hs (fun x => hM _ _ _ x) xs⟩⟩
theorem lit_C (w : World) (e : TypeId) (xs : List Int) (h : xs.length ≤ 1000) : Kd.C (Kd.int .i64) (w.alloc (.cells (nums .i64 xs).toArray e)) (some ⟨w.heap.size, 0, none⟩) xs.length xs := by
 have ho := own_lit w w.heap.size e .i64 xs (Nat.le_refl _) (by omega)
 have hr : Kd.R (Kd.int .i64) e (w.alloc (.cells (nums .i64 xs).toArray e)) w.heap.size (fun _ => True) (.slice (some ⟨w.heap.size, 0, none⟩) xs.length xs.length) xs := Kd.R_of_own ho (fun _ _ => trivial)
 exact (Kd.R_reads' hr).2.2
theorem lit_Cb (w : World) (e : TypeId) (xs : List Int) (h : xs.length ≤ 1000) (b : Nat) (hb : b = w.heap.size) : Kd.C (Kd.int .i64) (w.alloc (.cells (nums .i64 xs).toArray e)) (some ⟨b, 0, none⟩) xs.length xs := by
 subst hb
 exact lit_C w e xs h

theorem R_set {α : Type} {d : Kd α} {e base g i t : Nat} {ok : Nat → Prop} {W : World} {v u : Value} {xs : List α} {cs : Array Value} {fr : Nat × Nat} (h : d.R e W base ok v xs) (hb : W.heap[g]? = some (.cells cs t fr)) (ht : ∀ q, q ∈ e :: d.E → q ≠ t) : d.R e (W.setCell ⟨g, i, none⟩ u) base ok v xs := by
 refine Kd.R_mono (Kd.R_far (p := ⟨g, i, none⟩) (ok := fun k => ok k ∧ k ≠ g) (Kd.R_mono (Kd.R_bound h) fun k hk => ⟨hk.1, fun he => ?_⟩) (fun _ hk => hk.2) u) (fun _ hk => hk.1)
 obtain ⟨q, hq, cells, hc⟩ := hk.2.2.2
 rw [he, hb] at hc
 injection hc with hc
 injection hc with _ hc2 _
 exact ht q hq hc2.symm
theorem blk_past {W : World} {g k i : Nat} {u : Value} {o : Obj} (h : W.heap[k]? = some o) (hne : k ≠ g) : (W.setCell ⟨g, i, none⟩ u).heap[k]? = some o := (Below.heap_setCell W ⟨g, i, none⟩ u k hne).trans h
theorem blk_second {W : World} {o o2 : Obj} : ((W.alloc o).alloc o2).heap[W.heap.size + 1]? = some o2 := by
 have := blk_new (W.alloc o) o2
 simpa using this


end Go.Proofs.Ytnheknlmmmkbpaa.X

namespace Go.Proofs.Ytnheknlmmmkbpaa.X
open Go.RowKit Go.Proofs.YtnheknlmmmkbpaaW.PrintWords Go.Proofs.YtnheknlmmmkbpaaW.PrintLast Go.Proofs.YtnheknlmmmkbpaaW.PrintMore
attribute [local go_sem] max2_int min2_int max_two min_two max_three min_three max_four min_four   -- for this text's walks alone
set_option linter.unusedVariables false
set_option linter.unusedSimpArgs false

/-! ### slices_Clone_int_int: function 51 -/
def slices_Clone_int_int.f (l0 : List Int) : Option (List Int) := if l0.length < 17592186044416 then some l0 else none
set_option maxHeartbeats 2000000 in
set_option maxRecDepth 100000 in
theorem slices_Clone_int_int.calls (A0 : Option Addr) (c0 : Nat) (l0 : List Int) (r : List Int) (w : World) (hr0 : Kd.C (Kd.int .i64) w A0 l0.length l0) (hc0 : l0.length ≤ c0) (h : slices_Clone_int_int.f l0 = some r) :
  Calls Try.prog 51 #[.slice A0 l0.length c0] w fun e w' => ∃ v0_ : Value, e = .returned (v0_) ∧ Kd.R (Kd.int .i64) 3 w' w.heap.size (fun _ => True) v0_ r ∧ Below w.heap.size w w' := by
 unfold slices_Clone_int_int.f at h
 by_cases hl : l0.length < 17592186044416
 case neg => rw [if_neg hl] at h; cases h
 rw [if_pos hl] at h
 obtain rfl := Option.some.inj h
 clear h
 have LM := Aside0.mk hl
 have HR0 := Aside0.mk hr0
 clear hr0 hl
 have heq := fun (w : World) (a : Option Addr) (n c : Nat) => Lib.run_eql_slice_nil (P := Try.prog) w 30 3 a n c 0 0 Try.underlying30
 have HB := Aside0.mk (Below.refl w.heap.size w)
 cases A0 with
 | none =>
  have hnil : l0 = [] := by
   cases l0 with
   | nil => rfl
   | cons x xs =>
    obtain ⟨ad, _, e, _⟩ := Kd.C_get HR0.out x 0 (by omega) (by simp <;> omega)
    cases e
  subst hnil
  go_enter Try.func51, Try.ntmps51
  go_wp2
  go_ret
  exact ⟨_, rfl, Kd.R_nil _ _ _ _ _, HB.out⟩
 | some a0 =>
  go_enter Try.func51, Try.ntmps51
  go_wp2_with (first | ((with_reducible refine gate_dst (N := 5) rfl ?_); refine Kd.R_lit (Kd.int .i64) _ 3 ?hg (N := 5) ?hd (xs := ([] : List Int)) (inner := []) (ok := fun _ => True) (okp := fun _ => True) ?hr ?hp (fun _ hk => hk) trivial (Below.refl _ _) (Nat.le_refl _) (by simp) ?_; (case hd => rfl); (case hg => rfl); (case hr => first | (go_simp; done) | (go_simp; rfl)); (case hp => exact (Reps.none _ _)); intro v1 w3 ho4 hb hg_ hnew_; clear hg_ hnew_; have n0_ := Aside0.mk (Kd.R_lower ho4 (below_size (upH HB))); have n1_ := Aside0.mk (below_step (upH HB) hb); clear HB; have HO1 := n0_; have HB := n1_; clear n0_ n1_; clear hb ho4) | ((with_reducible refine gate_builtin (b := .append) (xs := #[.tmp 5, .tmp 6]) rfl ?_); at_builtin; refine Kd.R_append_rows (Kd.int .i64) (w0 := w) w.heap.size rfl (.tmp 5) (.tmp 6) 30 3 (.int .i64 0) 8 rfl Try.underlying30 info3 rfl (by decide) (by omega) v1 [] l0 _ _ _ (fun _ => True) (fun _ => False) rfl rfl ?aO ?aR (fun _ _ h => h) (fun _ h => h.elim) (fun _ _ => trivial) ?aB ?aS ?aL ?_; (case aR => repeat (first | exact (Kd.C_below HR0.out HB.out) | (with_reducible refine Kd.C_alloc ?_ _) | (with_reducible refine Kd.C_drewN ?_ _) | (with_reducible refine Kd.C_drew ?_))); (case aB => exact (upH HB)); (case aO => exact HO1.out); (case aS => exact (below_size (upH HB))); (case aL => have := LM.out; simp only [List.length_nil]; omega); intro v173 w5 ho hb hg hat; rw [List.nil_append] at ho; have n0_ := Aside0.mk (hb); have n1_ := Aside0.mk (ho); clear HB; clear HO1; have HB := n0_; have HO2 := n1_; clear n0_ n1_; clear ho hb hg hat))
  go_ret
  exact ⟨_, rfl, HO2.out, HB.out⟩


end Go.Proofs.Ytnheknlmmmkbpaa.X

namespace Go.Proofs.Ytnheknlmmmkbpaa.X
open Go.RowKit Go.Proofs.YtnheknlmmmkbpaaW.PrintWords Go.Proofs.YtnheknlmmmkbpaaW.PrintLast Go.Proofs.YtnheknlmmmkbpaaW.PrintMore
attribute [local go_sem] max2_int min2_int max_two min_two max_three min_three max_four min_four   -- for this text's walks alone
set_option linter.unusedVariables false
set_option linter.unusedSimpArgs false

/-! ### slices_Clone_bool_bool: function 52 -/
def slices_Clone_bool_bool.f (l0 : List Bool) : Option (List Bool) := if l0.length < 140737488355328 then some l0 else none
set_option maxHeartbeats 2000000 in
set_option maxRecDepth 100000 in
theorem slices_Clone_bool_bool.calls (A0 : Option Addr) (c0 : Nat) (l0 : List Bool) (r : List Bool) (w : World) (hr0 : Kd.C Kd.bool w A0 l0.length l0) (hc0 : l0.length ≤ c0) (h : slices_Clone_bool_bool.f l0 = some r) :
  Calls Try.prog 52 #[.slice A0 l0.length c0] w fun e w' => ∃ v0_ : Value, e = .returned (v0_) ∧ Kd.R Kd.bool 4 w' w.heap.size (fun _ => True) v0_ r ∧ Below w.heap.size w w' := by
 unfold slices_Clone_bool_bool.f at h
 by_cases hl : l0.length < 140737488355328
 case neg => rw [if_neg hl] at h; cases h
 rw [if_pos hl] at h
 obtain rfl := Option.some.inj h
 clear h
 have LM := Aside0.mk hl
 have HR0 := Aside0.mk hr0
 clear hr0 hl
 have heq := fun (w : World) (a : Option Addr) (n c : Nat) => Lib.run_eql_slice_nil (P := Try.prog) w 31 4 a n c 0 0 Try.underlying31
 have HB := Aside0.mk (Below.refl w.heap.size w)
 cases A0 with
 | none =>
  have hnil : l0 = [] := by
   cases l0 with
   | nil => rfl
   | cons x xs =>
    obtain ⟨ad, _, e, _⟩ := Kd.C_get HR0.out x 0 (by omega) (by simp <;> omega)
    cases e
  subst hnil
  go_enter Try.func52, Try.ntmps52
  go_wp2
  go_ret
  exact ⟨_, rfl, Kd.R_nil _ _ _ _ _, HB.out⟩
 | some a0 =>
  go_enter Try.func52, Try.ntmps52
  go_wp2_with (first | ((with_reducible refine gate_dst (N := 5) rfl ?_); refine Kd.R_lit Kd.bool _ 4 ?hg (N := 5) ?hd (xs := ([] : List Bool)) (inner := []) (ok := fun _ => True) (okp := fun _ => True) ?hr ?hp (fun _ hk => hk) trivial (Below.refl _ _) (Nat.le_refl _) (by simp) ?_; (case hd => rfl); (case hg => rfl); (case hr => first | (go_simp; done) | (go_simp; rfl)); (case hp => exact (Reps.none _ _)); intro v1 w3 ho4 hb hg_ hnew_; clear hg_ hnew_; have n0_ := Aside0.mk (Kd.R_lower ho4 (below_size (upH HB))); have n1_ := Aside0.mk (below_step (upH HB) hb); clear HB; have HO1 := n0_; have HB := n1_; clear n0_ n1_; clear hb ho4) | ((with_reducible refine gate_builtin (b := .append) (xs := #[.tmp 5, .tmp 6]) rfl ?_); at_builtin; refine Kd.R_append_rows Kd.bool (w0 := w) w.heap.size rfl (.tmp 5) (.tmp 6) 31 4 (.bool false) 1 rfl Try.underlying31 info4 rfl (by decide) (by omega) v1 [] l0 _ _ _ (fun _ => True) (fun _ => False) rfl rfl ?aO ?aR (fun _ _ h => h) (fun _ h => h.elim) (fun _ _ => trivial) ?aB ?aS ?aL ?_; (case aR => repeat (first | exact (Kd.C_below HR0.out HB.out) | (with_reducible refine Kd.C_alloc ?_ _) | (with_reducible refine Kd.C_drewN ?_ _) | (with_reducible refine Kd.C_drew ?_))); (case aB => exact (upH HB)); (case aO => exact HO1.out); (case aS => exact (below_size (upH HB))); (case aL => have := LM.out; simp only [List.length_nil]; omega); intro v173 w5 ho hb hg hat; rw [List.nil_append] at ho; have n0_ := Aside0.mk (hb); have n1_ := Aside0.mk (ho); clear HB; clear HO1; have HB := n0_; have HO2 := n1_; clear n0_ n1_; clear ho hb hg hat))
  go_ret
  exact ⟨_, rfl, HO2.out, HB.out⟩


end Go.Proofs.Ytnheknlmmmkbpaa.X

namespace Go.Proofs.Ytnheknlmmmkbpaa.X
open Go.RowKit Go.Proofs.YtnheknlmmmkbpaaW.PrintWords Go.Proofs.YtnheknlmmmkbpaaW.PrintLast Go.Proofs.YtnheknlmmmkbpaaW.PrintMore
attribute [local go_sem] max2_int min2_int max_two min_two max_three min_three max_four min_four   -- for this text's walks alone
set_option linter.unusedVariables false
set_option linter.unusedSimpArgs false

/-! ### lru_opened: function 42 -/
def lru_opened.f (l0_0 : List Int) (l0_1 : List Int) (l0_2 : List Bool) : Option (List Int × List Int × List Bool × Int) := (lru_Check.f l0_0 l0_1 l0_2).bind fun t218 => (if t218 = 0 then ((slices_Clone_int_int.f l0_0).bind fun t219 => ((slices_Clone_int_int.f l0_1).bind fun t222 => ((slices_Clone_bool_bool.f l0_2).bind fun t225 => (some (t219, t222, t225, 0))))) else (some (([] : List Int), ([] : List Int), ([] : List Bool), t218)))
def lru_opened.T4 : Bool × List (List Nat × List Nat) := (true, [([], []), ([0], [0]), ([1], [1]), ([], []), ([3], [3]), ([4, 2], [4]), ([], []), ([6], [6]), ([7, 5], [7]), ([2, 5, 8], [2, 5, 8]), ([9, 8, 0, 1, 2, 3, 4, 5, 6, 7, 8, 9], [9]), ([10, 0, 1, 2, 3, 4, 5, 6, 7, 8, 9, 10], [])])
def lru_opened.B4 : List Nat := [0, 1, 3, 0, 8, 31, 0, 64, 255, 511, 1023, 2047]
theorem lru_opened.tab4 : rtab .any (opsOf Try.f42 4) = lru_opened.T4 := by kernel_rfl
theorem lru_opened.bits4 : waitsOk lru_opened.T4.2 lru_opened.B4 = true := by kernel_rfl
set_option maxHeartbeats 2000000 in
set_option maxRecDepth 100000 in
theorem lru_opened.calls (A0_0 : Option Addr) (c0_0 : Nat) (l0_0 : List Int) (A0_1 : Option Addr) (c0_1 : Nat) (l0_1 : List Int) (A0_2 : Option Addr) (c0_2 : Nat) (l0_2 : List Bool) (r1 : List Int) (r2 : List Int) (r3 : List Bool) (r4 : Int) (w : World) (hr0_0 : Kd.C (Kd.int .i64) w A0_0 l0_0.length l0_0) (hc0_0 : l0_0.length ≤ c0_0) (hr0_1 : Kd.C (Kd.int .i64) w A0_1 l0_1.length l0_1) (hc0_1 : l0_1.length ≤ c0_1) (hr0_2 : Kd.C Kd.bool w A0_2 l0_2.length l0_2) (hc0_2 : l0_2.length ≤ c0_2) (h : lru_opened.f l0_0 l0_1 l0_2 = some (r1, r2, r3, r4)) :
  Calls Try.prog 42 #[.agg #[.slice A0_0 l0_0.length c0_0, .slice A0_1 l0_1.length c0_1, .slice A0_2 l0_2.length c0_2]] w fun e w' => ∃ v0_ v1_ v2_ : Value, e = .returned (.tuple #[.agg #[v0_, v1_, v2_], .int .i64 r4]) ∧ Kd.R (Kd.int .i64) 3 w' w.heap.size (fun k_ => some k_ ≠ (v1_ : Value).ownBlock) v0_ r1 ∧ Kd.R (Kd.int .i64) 3 w' w.heap.size (fun k_ => some k_ ≠ (v0_ : Value).ownBlock) v1_ r2 ∧ Kd.R Kd.bool 4 w' w.heap.size (fun _ => True) v2_ r3 ∧ Below w.heap.size w w' := by
 have hu33 := Try.underlying33
 have HR0_0 := Aside0.mk hr0_0
 have HC0_0 := Aside0.mk hc0_0
 clear hr0_0 hc0_0
 have HR0_1 := Aside0.mk hr0_1
 have HC0_1 := Aside0.mk hc0_1
 clear hr0_1 hc0_1
 have HR0_2 := Aside0.mk hr0_2
 have HC0_2 := Aside0.mk hc0_2
 clear hr0_2 hc0_2
 have HB := Aside0.mk (Below.refl w.heap.size w)
 have H : ((lru_Check.f l0_0 l0_1 l0_2).bind fun t218 => (if t218 = 0 then ((slices_Clone_int_int.f l0_0).bind fun t219 => ((slices_Clone_int_int.f l0_1).bind fun t222 => ((slices_Clone_bool_bool.f l0_2).bind fun t225 => (some (t219, t222, t225, 0))))) else (some (([] : List Int), ([] : List Int), ([] : List Bool), t218)))) = some (r1, r2, r3, r4) := h
 clear h
 replace H := Option.bind_eq_some_iff.mp H
 obtain ⟨t218, A20, H⟩ := H
 replace H : (if t218 = 0 then ((slices_Clone_int_int.f l0_0).bind fun t219 => ((slices_Clone_int_int.f l0_1).bind fun t222 => ((slices_Clone_bool_bool.f l0_2).bind fun t225 => (some (t219, t222, t225, 0))))) else (some (([] : List Int), ([] : List Int), ([] : List Bool), t218))) = some (r1, r2, r3, r4) := H
 have A2 := Aside0.mk A20
 clear A20
 by_cases c3 : t218 = 0
 ·
  rw [if_pos c3] at H
  have c3b0 : (t218 == 0) = true := beq_iff_eq.mpr c3
  have c3b1 : (t218 != 0) = false := bne_eq_false_iff_eq.mpr c3
  clear c3
  replace H := Option.bind_eq_some_iff.mp H
  obtain ⟨t219, A40, H⟩ := H
  replace H : ((slices_Clone_int_int.f l0_1).bind fun t222 => ((slices_Clone_bool_bool.f l0_2).bind fun t225 => (some (t219, t222, t225, 0)))) = some (r1, r2, r3, r4) := H
  have A4 := Aside0.mk A40
  clear A40
  replace H := Option.bind_eq_some_iff.mp H
  obtain ⟨t222, A50, H⟩ := H
  replace H : ((slices_Clone_bool_bool.f l0_2).bind fun t225 => (some (t219, t222, t225, 0))) = some (r1, r2, r3, r4) := H
  have A5 := Aside0.mk A50
  clear A50
  replace H := Option.bind_eq_some_iff.mp H
  obtain ⟨t225, A60, H⟩ := H
  replace H : (some (t219, t222, t225, 0)) = some (r1, r2, r3, r4) := H
  have A6 := Aside0.mk A60
  clear A60
  simp only [Option.some.injEq, Prod.mk.injEq] at H
  obtain ⟨rfl, rfl, rfl, rfl⟩ := H
  go_enter Try.func42, Try.ntmps42
  try go_wp2_with (first | ((with_reducible refine gate_dst (N := 1) rfl ?_); refine box_event ?hg (N := 1) ?hd (cs := #[.slice A0_0 l0_0.length c0_0, .slice A0_1 l0_1.length c0_1, .slice A0_2 l0_2.length c0_2]) (t := 33) ?hr ?_; (case hd => rfl); (case hg => rfl); (case hr => first | (go_simp; done) | (go_simp; rfl)); intro gb216 hg w7 hbox hb; have n0_ := Aside0.mk (below_step (upH HB) hb); have n1_ := Aside0.mk (hbox); have n2_ := Aside0.mk ((by rw [hg]; exact (below_size (upH HB)) : w.heap.size ≤ gb216)); have n3_ := Aside0.mk ((by rw [hg]; exact (below_size (upH HB)) : w.heap.size ≤ gb216)); clear HB; have HB := n0_; have BK216 := n1_; have GW216 := n2_; have GE216 := n3_; clear n0_ n1_ n2_ n3_; clear hb hbox hg) | ((with_reducible refine gate_dst (N := 2) rfl ?_); refine box_event ?hg (N := 2) ?hd (cs := #[.slice none 0 0, .slice none 0 0, .slice none 0 0]) (t := 33) ?hr ?_; (case hd => rfl); (case hg => rfl); (case hr => first | (go_simp; done) | (go_simp; rfl)); intro gb217 hg w8 hbox hb; have n0_ := Aside0.mk (blkB BK216 hb); have n1_ := Aside0.mk (below_step (upH HB) hb); have n2_ := Aside0.mk (hbox); have n3_ := Aside0.mk ((by rw [hg]; exact (below_size (upH HB)) : w.heap.size ≤ gb217)); have n4_ := Aside0.mk ((by rw [hg]; exact (below_size (upH HB)) : w.heap.size ≤ gb217)); have n5_ := Aside0.mk ((by rw [hg]; exact Nat.ne_of_lt (blk_lt (g := gb216) (o := .cells #[.slice A0_0 l0_0.length c0_0, .slice A0_1 l0_1.length c0_1, .slice A0_2 l0_2.length c0_2] 33 (0, 0)) (upB BK216)) : gb216 ≠ gb217)); have n6_ := Aside0.mk ((by rw [hg]; exact Nat.ne_of_gt (blk_lt (g := gb216) (o := .cells #[.slice A0_0 l0_0.length c0_0, .slice A0_1 l0_1.length c0_1, .slice A0_2 l0_2.length c0_2] 33 (0, 0)) (upB BK216)) : gb217 ≠ gb216)); clear BK216; clear HB; have BK216 := n0_; have HB := n1_; have BK217 := n2_; have GW217 := n3_; have GE217 := n4_; have NB216_217 := n5_; have NB217_216 := n6_; clear n0_ n1_ n2_ n3_ n4_ n5_ n6_; clear hb hbox hg; have hnb9 := NB216_217.out; have hnc9 := NB217_216.out; have hcz10_0 := cell0 BK216; have hcz10_1 := cell1 BK216; have hcz10_2 := cell2 BK216; have hfz10_0 := blk_frozen BK216.out 0; have hfz10_1 := blk_frozen BK216.out 1; have hfz10_2 := blk_frozen BK216.out 2) | ((with_reducible refine gate_callee (f := 38) rfl ?_); refine goesL_ (some 6) rfl rfl Try.func38 (by kernel_rfl) rfl #[.agg #[.slice A0_0 l0_0.length c0_0, .slice A0_1 l0_1.length c0_1, .slice A0_2 l0_2.length c0_2]] rfl (args_ (p := _)) ?_; (with_reducible refine (lru_Check.calls _ _ l0_0 _ _ l0_1 _ _ l0_2 t218 _ ?side1 ?side2 ?side3 ?side4 ?side5 ?side6 A2.out).mono ?_); (case side1 => exact upc (Kd.C_below HR0_0.out HB.out)); (case side2 => exact HC0_0.out); (case side3 => exact upc (Kd.C_below HR0_1.out HB.out)); (case side4 => exact HC0_1.out); (case side5 => exact upc (Kd.C_below HR0_2.out HB.out)); (case side6 => exact HC0_2.out); rintro e w11 ⟨rfl, hb⟩; refine ⟨_, rfl, ?_⟩; have n0_ := Aside0.mk (blkB BK216 hb); have n1_ := Aside0.mk (blkB BK217 hb); have n2_ := Aside0.mk (below_step (upH HB) hb); clear BK216; clear BK217; clear HB; have BK216 := n0_; have BK217 := n1_; have HB := n2_; clear n0_ n1_ n2_; (try clear hb); (try clear hb2); (try clear hk); (try clear hi)))
  have n0_ := Aside0.mk (blk_drew BK216.out)
  have n1_ := Aside0.mk (blk_drew BK217.out)
  have n2_ := Aside0.mk (below_drew1 HB.out)
  clear BK216
  clear BK217
  clear HB
  have BK216 := n0_
  have BK217 := n1_
  have HB := n2_
  clear n0_ n1_ n2_
  refine start_ (n := 12) (S := fun w' => w'.cell? ⟨gb216, 0, none⟩ = some (.slice A0_0 l0_0.length c0_0) ∧ w'.cell? ⟨gb216, 1, none⟩ = some (.slice A0_1 l0_1.length c0_1) ∧ w'.cell? ⟨gb216, 2, none⟩ = some (.slice A0_2 l0_2.length c0_2)) (ds := []) #[false, false, false, false, false, false, false, false, false, false, false, false] (by kernel_rfl) rfl rfl ⟨(blk_cell BK216.out 0).trans rfl, (blk_cell BK216.out 1).trans rfl, (blk_cell BK216.out 2).trans rfl⟩ (fun hHeld => ?_); refine with_tabW lru_opened.tab4 lru_opened.bits4 (fun HT_ HW_ => ?_)
  generalize w11.drew = w12 at BK216 BK217 HB hHeld ⊢
  refine pure_ (i := 0) (N := some 11) (v := ?_) (a' := ?_) #[true, false, false, false, false, false, false, false, false, false, false, false] rfl rfl (any_of HT_.out (by kernel_rfl)) (fun _ _ _ h => h) (Or.inl ⟨by rfl, ?_⟩) ?_ ?_
  rotate_left
  ·
   intro w'
   go_simp
   with_reducible rfl
  rotate_left
  ·
   simp only [Act.put, List.setIfInBounds_toArray, List.set_cons_zero, List.set_cons_succ, i64_w, i32_w]
   rfl
  refine pure_ (i := 3) (N := some 14) (v := ?_) (a' := ?_) #[true, false, false, true, false, false, false, false, false, false, false, false] rfl rfl (any_of HT_.out (by kernel_rfl)) (fun _ _ _ h => h) (Or.inl ⟨by rfl, ?_⟩) ?_ ?_
  rotate_left
  ·
   intro w'
   go_simp
   with_reducible rfl
  rotate_left
  ·
   simp only [Act.put, List.setIfInBounds_toArray, List.set_cons_zero, List.set_cons_succ, i64_w, i32_w]
   rfl
  refine pure_ (i := 6) (N := some 17) (v := ?_) (a' := ?_) #[true, false, false, true, false, false, true, false, false, false, false, false] rfl rfl (any_of HT_.out (by kernel_rfl)) (fun _ _ _ h => h) (Or.inl ⟨by rfl, ?_⟩) ?_ ?_
  rotate_left
  ·
   intro w'
   go_simp
   with_reducible rfl
  rotate_left
  ·
   simp only [Act.put, List.setIfInBounds_toArray, List.set_cons_zero, List.set_cons_succ, i64_w, i32_w]
   rfl
  refine take_ (i := 1) (N := some 12) (v := ?_) (a' := ?_) #[true, true, false, true, false, false, true, false, false, false, false, false] rfl rfl (take_ofW HT_.out HW_.out (by kernel_rfl)) (fun _ _ _ h => h) (Or.inl ⟨by rfl, ?_⟩) hHeld ?_ ?_
  rotate_left
  ·
   rintro w' ⟨s0, s1, s2⟩
   go_simp
   with_reducible rfl
  rotate_left
  ·
   simp only [Act.put, List.setIfInBounds_toArray, List.set_cons_zero, List.set_cons_succ, i64_w, i32_w]
   rfl
  refine take_ (i := 4) (N := some 15) (v := ?_) (a' := ?_) #[true, true, false, true, true, false, true, false, false, false, false, false] rfl rfl (take_ofW HT_.out HW_.out (by kernel_rfl)) (fun _ _ _ h => h) (Or.inl ⟨by rfl, ?_⟩) hHeld ?_ ?_
  rotate_left
  ·
   rintro w' ⟨s0, s1, s2⟩
   go_simp
   with_reducible rfl
  rotate_left
  ·
   simp only [Act.put, List.setIfInBounds_toArray, List.set_cons_zero, List.set_cons_succ, i64_w, i32_w]
   rfl
  refine take_ (i := 7) (N := some 18) (v := ?_) (a' := ?_) #[true, true, false, true, true, false, true, true, false, false, false, false] rfl rfl (take_ofW HT_.out HW_.out (by kernel_rfl)) (fun _ _ _ h => h) (Or.inl ⟨by rfl, ?_⟩) hHeld ?_ ?_
  rotate_left
  ·
   rintro w' ⟨s0, s1, s2⟩
   go_simp
   with_reducible rfl
  rotate_left
  ·
   simp only [Act.put, List.setIfInBounds_toArray, List.set_cons_zero, List.set_cons_succ, i64_w, i32_w]
   rfl
  refine one_ (i := 2) (N := some 13) #[true, true, true, true, true, false, true, true, false, false, false, false] rfl rfl (one_of HT_.out (by kernel_rfl)) (by decide) (fun K hK => ?_)
  refine goes_ Try.func51 (by kernel_rfl) rfl #[.slice A0_0 l0_0.length c0_0] (by rfl) rfl rfl (args_ (p := _)) ?_
  with_reducible refine (slices_Clone_int_int.calls _ _ l0_0 t219 _ ?side1 ?side2 A4.out).mono ?_
  (case side1 => exact upc (Kd.C_below HR0_0.out HB.out))
  (case side2 => exact HC0_0.out)
  rintro e w13 ⟨v220, rfl, ho0, hb⟩
  refine ⟨_, rfl, ?_⟩
  have n0_ := Aside0.mk (Kd.R_lower ho0 (below_size (upH HB)))
  have n1_ := Aside0.mk (blkB BK216 hb)
  have n2_ := Aside0.mk (blkB BK217 hb)
  have n3_ := Aside0.mk (below_step (upH HB) hb)
  clear BK216
  clear BK217
  clear HB
  have HO221 := n0_
  have BK216 := n1_
  have BK217 := n2_
  have HB := n3_
  clear n0_ n1_ n2_ n3_
  (try clear hb)
  (try clear hb2)
  (try clear hk)
  (try clear hi)
  (try clear ho0)
  refine hK.out _ _ ⟨(blk_cell BK216.out 0).trans rfl, (blk_cell BK216.out 1).trans rfl, (blk_cell BK216.out 2).trans rfl⟩ (fun hHeld => ?_)
  clear hK K
  refine norm_ (a' := ?_) ?_ ?_
  rotate_left
  ·
   show Act.put _ (some 13) _ = _
   simp only [Act.put, List.setIfInBounds_toArray, List.set_cons_zero, List.set_cons_succ, i64_w, i32_w]
   rfl
  refine one_ (i := 5) (N := some 16) #[true, true, true, true, true, true, true, true, false, false, false, false] rfl rfl (one_of HT_.out (by kernel_rfl)) (by decide) (fun K hK => ?_)
  refine goes_ Try.func51 (by kernel_rfl) rfl #[.slice A0_1 l0_1.length c0_1] (by rfl) rfl rfl (args_ (p := _)) ?_
  with_reducible refine (slices_Clone_int_int.calls _ _ l0_1 t222 _ ?side1 ?side2 A5.out).mono ?_
  (case side1 => exact upc (Kd.C_below HR0_1.out HB.out))
  (case side2 => exact HC0_1.out)
  rintro e w14 ⟨v223, rfl, ho0, hb⟩
  refine ⟨_, rfl, ?_⟩
  have n0_ := Aside0.mk (Kd.R_elder' (upR HO221.out) (Kd.R_base ho0) hb)
  have n1_ := Aside0.mk (Kd.R_lower (Kd.R_new' ho0 (Kd.R_lt (upR HO221.out))) (below_size (upH HB)))
  have n2_ := Aside0.mk (blkB BK216 hb)
  have n3_ := Aside0.mk (blkB BK217 hb)
  have n4_ := Aside0.mk (below_step (upH HB) hb)
  clear HO221
  clear BK216
  clear BK217
  clear HB
  have HO221 := n0_
  have HO224 := n1_
  have BK216 := n2_
  have BK217 := n3_
  have HB := n4_
  clear n0_ n1_ n2_ n3_ n4_
  (try clear hb)
  (try clear hb2)
  (try clear hk)
  (try clear hi)
  (try clear ho0)
  refine hK.out _ _ ⟨(blk_cell BK216.out 0).trans rfl, (blk_cell BK216.out 1).trans rfl, (blk_cell BK216.out 2).trans rfl⟩ (fun hHeld => ?_)
  clear hK K
  refine norm_ (a' := ?_) ?_ ?_
  rotate_left
  ·
   show Act.put _ (some 16) _ = _
   simp only [Act.put, List.setIfInBounds_toArray, List.set_cons_zero, List.set_cons_succ, i64_w, i32_w]
   rfl
  refine one_ (i := 8) (N := some 19) #[true, true, true, true, true, true, true, true, true, false, false, false] rfl rfl (one_of HT_.out (by kernel_rfl)) (by decide) (fun K hK => ?_)
  refine goes_ Try.func52 (by kernel_rfl) rfl #[.slice A0_2 l0_2.length c0_2] (by rfl) rfl rfl (args_ (p := _)) ?_
  with_reducible refine (slices_Clone_bool_bool.calls _ _ l0_2 t225 _ ?side1 ?side2 A6.out).mono ?_
  (case side1 => exact upc (Kd.C_below HR0_2.out HB.out))
  (case side2 => exact HC0_2.out)
  rintro e w15 ⟨v226, rfl, ho0, hb⟩
  refine ⟨_, rfl, ?_⟩
  have n0_ := Aside0.mk (Kd.R_below (upR HO221.out) hb)
  have n1_ := Aside0.mk (Kd.R_below (upR HO224.out) hb)
  have n2_ := Aside0.mk (Kd.R_lower ho0 (below_size (upH HB)))
  have n3_ := Aside0.mk (blkB BK216 hb)
  have n4_ := Aside0.mk (blkB BK217 hb)
  have n5_ := Aside0.mk (below_step (upH HB) hb)
  clear HO221
  clear HO224
  clear BK216
  clear BK217
  clear HB
  have HO221 := n0_
  have HO224 := n1_
  have HO227 := n2_
  have BK216 := n3_
  have BK217 := n4_
  have HB := n5_
  clear n0_ n1_ n2_ n3_ n4_ n5_
  (try clear hb)
  (try clear hb2)
  (try clear hk)
  (try clear hi)
  (try clear ho0)
  obtain ⟨Ao16, co16, eo16⟩ := Kd.R_slice HO227.out
  (first | subst eo16 | (injection eo16 with f1_ f2_ f3_; have f4_ := f1_.symm; have f5_ := f3_.symm; clear f1_ f2_ f3_; subst f4_; subst f5_))
  obtain ⟨Ao17, co17, eo17⟩ := Kd.R_slice HO224.out
  (first | subst eo17 | (injection eo17 with f1_ f2_ f3_; have f4_ := f1_.symm; have f5_ := f3_.symm; clear f1_ f2_ f3_; subst f4_; subst f5_))
  obtain ⟨Ao18, co18, eo18⟩ := Kd.R_slice HO221.out
  (first | subst eo18 | (injection eo18 with f1_ f2_ f3_; have f4_ := f1_.symm; have f5_ := f3_.symm; clear f1_ f2_ f3_; subst f4_; subst f5_))
  refine hK.out _ _ ⟨(blk_cell BK216.out 0).trans rfl, (blk_cell BK216.out 1).trans rfl, (blk_cell BK216.out 2).trans rfl⟩ (fun hHeld => ?_)
  clear hK K
  refine norm_ (a' := ?_) ?_ ?_
  rotate_left
  ·
   show Act.put _ (some 19) _ = _
   simp only [Act.put, List.setIfInBounds_toArray, List.set_cons_zero, List.set_cons_succ, i64_w, i32_w]
   rfl
  refine pure_ (i := 9) (N := some 20) (v := ?_) (a' := ?_) #[true, true, true, true, true, true, true, true, true, true, false, false] rfl rfl (any_of HT_.out (by kernel_rfl)) (fun _ _ _ h => h) (Or.inl ⟨by rfl, ?_⟩) ?_ ?_
  rotate_left
  ·
   intro w'
   go_simp
   with_reducible rfl
  rotate_left
  ·
   simp only [Act.put, List.setIfInBounds_toArray, List.set_cons_zero, List.set_cons_succ, i64_w, i32_w]
   rfl
  refine one_ (i := 10) (N := none) #[true, true, true, true, true, true, true, true, true, true, true, false] rfl rfl (one_of HT_.out (by kernel_rfl)) (by decide) (fun K hK => ?_)
  have hs19 : w15.cell? ⟨gb217, 0, none⟩ = some (.slice none 0 0) := (blk_cell BK217.out 0).trans rfl
  have hfs19 := blk_frozen BK217.out 0
  have hns19_0 := NB216_217.out
  have hms19_0 := NB217_216.out
  have hs20 : w15.cell? ⟨gb217, 1, none⟩ = some (.slice none 0 0) := (blk_cell BK217.out 1).trans rfl
  have hfs20 := blk_frozen BK217.out 1
  have hns20_0 := NB216_217.out
  have hms20_0 := NB217_216.out
  have hs21 : w15.cell? ⟨gb217, 2, none⟩ = some (.slice none 0 0) := (blk_cell BK217.out 2).trans rfl
  have hfs21 := blk_frozen BK217.out 2
  have hns21_0 := NB216_217.out
  have hms21_0 := NB217_216.out
  refine skip_ (w1 := ?_) (by rfl) rfl ?_ ?_
  rotate_left
  ·
   go_simp
   rfl
  refine hK.out _ _ ⟨((cell_far (p := ⟨gb217, _, none⟩) NB216_217.out _).trans (((cell_far (p := ⟨gb217, _, none⟩) NB216_217.out _).trans (((cell_far (p := ⟨gb217, _, none⟩) NB216_217.out _).trans (hHeld.1)))))), ((cell_far (p := ⟨gb217, _, none⟩) NB216_217.out _).trans (((cell_far (p := ⟨gb217, _, none⟩) NB216_217.out _).trans (((cell_far (p := ⟨gb217, _, none⟩) NB216_217.out _).trans (hHeld.2.1)))))), ((cell_far (p := ⟨gb217, _, none⟩) NB216_217.out _).trans (((cell_far (p := ⟨gb217, _, none⟩) NB216_217.out _).trans (((cell_far (p := ⟨gb217, _, none⟩) NB216_217.out _).trans (hHeld.2.2))))))⟩ (fun hHeld => ?_)
  clear hK K
  refine pure_ (i := 11) (N := some 3) (v := ?_) (a' := ?_) #[true, true, true, true, true, true, true, true, true, true, true, true] rfl rfl (any_of HT_.out (by kernel_rfl)) (fun _ _ _ h => h) (Or.inl ⟨by rfl, ?_⟩) ?_ ?_
  rotate_left
  ·
   intro w'
   go_simp
   with_reducible rfl
  rotate_left
  ·
   simp only [Act.put, List.setIfInBounds_toArray, List.set_cons_zero, List.set_cons_succ, i64_w, i32_w]
   rfl
  refine done_ (done_of HT_.out (by kernel_rfl)) ?_
  try go_wp2
  refine bodyPost_ret (results_ct rfl _ _ gb217 33 #[.slice Ao18 t219.length co18, .slice Ao17 t222.length co17, .slice Ao16 t225.length co16] (0, 0) _ rfl (by (with_reducible repeat (first | refine blk_drewN ?_ _ | refine blk_drew ?_ | refine blk_alloc ?_ _)); refine blk_put (cs := #[.slice Ao18 t219.length co18, .slice Ao17 t222.length co17, .slice none 0 0]) ?_ 2 _ rfl; (with_reducible repeat (first | refine blk_drewN ?_ _ | refine blk_drew ?_ | refine blk_alloc ?_ _)); refine blk_put (cs := #[.slice Ao18 t219.length co18, .slice none 0 0, .slice none 0 0]) ?_ 1 _ rfl; (with_reducible repeat (first | refine blk_drewN ?_ _ | refine blk_drew ?_ | refine blk_alloc ?_ _)); refine blk_put (cs := #[.slice none 0 0, .slice none 0 0, .slice none 0 0]) ?_ 0 _ rfl; (with_reducible repeat (first | refine blk_drewN ?_ _ | refine blk_drew ?_ | refine blk_alloc ?_ _)); exact BK217.out) Try.underlying33 rfl (by kernel_rfl)) rfl ?_
  exact ⟨_, _, _, by first | rfl | (simp [errW_none, errW_some] <;> rfl) | (simp [*, errW_none, errW_some] <;> rfl), by (with_reducible repeat (first | apply Kd.R_alloc | apply Kd.R_drewN | apply Kd.R_drew)); exact Kd.R_mono (far3 HO221.out BK217) (fun _ hk => hk.1.2), by (with_reducible repeat (first | apply Kd.R_alloc | apply Kd.R_drewN | apply Kd.R_drew)); exact Kd.R_mono (far3 HO224.out BK217) (fun _ hk => hk.1.2), by (with_reducible repeat (first | apply Kd.R_alloc | apply Kd.R_drewN | apply Kd.R_drew)); exact Kd.R_mono (far3 HO227.out BK217) (fun _ hk => trivial), by repeat (first | (with_reducible first | exact HB.out | apply below_alloc | apply pw_below_drewN | apply below_drew1 | refine below_set ?_ GE216.out | refine below_set ?_ GE217.out) | exact HB.out)⟩
 ·
  rw [if_neg c3] at H
  have c3b0 : (t218 == 0) = false := beq_eq_false_iff_ne.mpr c3
  have c3b1 : (t218 != 0) = true := bne_iff_ne.mpr c3
  simp only [Option.some.injEq, Prod.mk.injEq] at H
  obtain ⟨rfl, rfl, rfl, rfl⟩ := H
  go_enter Try.func42, Try.ntmps42
  go_wp2_with (first | ((with_reducible refine gate_dst (N := 1) rfl ?_); refine box_event ?hg (N := 1) ?hd (cs := #[.slice A0_0 l0_0.length c0_0, .slice A0_1 l0_1.length c0_1, .slice A0_2 l0_2.length c0_2]) (t := 33) ?hr ?_; (case hd => rfl); (case hg => rfl); (case hr => first | (go_simp; done) | (go_simp; rfl)); intro gb216 hg w22 hbox hb; have n0_ := Aside0.mk (below_step (upH HB) hb); have n1_ := Aside0.mk (hbox); have n2_ := Aside0.mk ((by rw [hg]; exact (below_size (upH HB)) : w.heap.size ≤ gb216)); have n3_ := Aside0.mk ((by rw [hg]; exact (below_size (upH HB)) : w.heap.size ≤ gb216)); clear HB; have HB := n0_; have BK216 := n1_; have GW216 := n2_; have GE216 := n3_; clear n0_ n1_ n2_ n3_; clear hb hbox hg) | ((with_reducible refine gate_dst (N := 2) rfl ?_); refine box_event ?hg (N := 2) ?hd (cs := #[.slice none 0 0, .slice none 0 0, .slice none 0 0]) (t := 33) ?hr ?_; (case hd => rfl); (case hg => rfl); (case hr => first | (go_simp; done) | (go_simp; rfl)); intro gb217 hg w23 hbox hb; have n0_ := Aside0.mk (blkB BK216 hb); have n1_ := Aside0.mk (below_step (upH HB) hb); have n2_ := Aside0.mk (hbox); have n3_ := Aside0.mk ((by rw [hg]; exact (below_size (upH HB)) : w.heap.size ≤ gb217)); have n4_ := Aside0.mk ((by rw [hg]; exact (below_size (upH HB)) : w.heap.size ≤ gb217)); have n5_ := Aside0.mk ((by rw [hg]; exact Nat.ne_of_lt (blk_lt (g := gb216) (o := .cells #[.slice A0_0 l0_0.length c0_0, .slice A0_1 l0_1.length c0_1, .slice A0_2 l0_2.length c0_2] 33 (0, 0)) (upB BK216)) : gb216 ≠ gb217)); have n6_ := Aside0.mk ((by rw [hg]; exact Nat.ne_of_gt (blk_lt (g := gb216) (o := .cells #[.slice A0_0 l0_0.length c0_0, .slice A0_1 l0_1.length c0_1, .slice A0_2 l0_2.length c0_2] 33 (0, 0)) (upB BK216)) : gb217 ≠ gb216)); clear BK216; clear HB; have BK216 := n0_; have HB := n1_; have BK217 := n2_; have GW217 := n3_; have GE217 := n4_; have NB216_217 := n5_; have NB217_216 := n6_; clear n0_ n1_ n2_ n3_ n4_ n5_ n6_; clear hb hbox hg; have hnb24 := NB216_217.out; have hnc24 := NB217_216.out; have hcz25_0 := cell0 BK216; have hcz25_1 := cell1 BK216; have hcz25_2 := cell2 BK216; have hfz25_0 := blk_frozen BK216.out 0; have hfz25_1 := blk_frozen BK216.out 1; have hfz25_2 := blk_frozen BK216.out 2) | ((with_reducible refine gate_callee (f := 38) rfl ?_); refine goesL_ (some 6) rfl rfl Try.func38 (by kernel_rfl) rfl #[.agg #[.slice A0_0 l0_0.length c0_0, .slice A0_1 l0_1.length c0_1, .slice A0_2 l0_2.length c0_2]] rfl (args_ (p := _)) ?_; (with_reducible refine (lru_Check.calls _ _ l0_0 _ _ l0_1 _ _ l0_2 t218 _ ?side1 ?side2 ?side3 ?side4 ?side5 ?side6 A2.out).mono ?_); (case side1 => exact upc (Kd.C_below HR0_0.out HB.out)); (case side2 => exact HC0_0.out); (case side3 => exact upc (Kd.C_below HR0_1.out HB.out)); (case side4 => exact HC0_1.out); (case side5 => exact upc (Kd.C_below HR0_2.out HB.out)); (case side6 => exact HC0_2.out); rintro e w26 ⟨rfl, hb⟩; refine ⟨_, rfl, ?_⟩; have n0_ := Aside0.mk (blkB BK216 hb); have n1_ := Aside0.mk (blkB BK217 hb); have n2_ := Aside0.mk (below_step (upH HB) hb); clear BK216; clear BK217; clear HB; have BK216 := n0_; have BK217 := n1_; have HB := n2_; clear n0_ n1_ n2_; (try clear hb); (try clear hb2); (try clear hk); (try clear hi); have hcz27_0 := cell0 BK217; have hcz27_1 := cell1 BK217; have hcz27_2 := cell2 BK217; have hfz27_0 := blk_frozen BK217.out 0; have hfz27_1 := blk_frozen BK217.out 1; have hfz27_2 := blk_frozen BK217.out 2))
  refine bodyPost_ret (results_ct rfl _ _ gb217 33 #[.slice none 0 0, .slice none 0 0, .slice none 0 0] (0, 0) _ rfl (by (with_reducible repeat (first | refine blk_drewN ?_ _ | refine blk_drew ?_ | refine blk_alloc ?_ _)); refine blk_put (cs := #[.slice none 0 0, .slice none 0 0, .slice none 0 0]) ?_ 2 _ rfl; (with_reducible repeat (first | refine blk_drewN ?_ _ | refine blk_drew ?_ | refine blk_alloc ?_ _)); refine blk_put (cs := #[.slice none 0 0, .slice none 0 0, .slice none 0 0]) ?_ 1 _ rfl; (with_reducible repeat (first | refine blk_drewN ?_ _ | refine blk_drew ?_ | refine blk_alloc ?_ _)); refine blk_put (cs := #[.slice none 0 0, .slice none 0 0, .slice none 0 0]) ?_ 0 _ rfl; (with_reducible repeat (first | refine blk_drewN ?_ _ | refine blk_drew ?_ | refine blk_alloc ?_ _)); exact BK217.out) Try.underlying33 rfl (by kernel_rfl)) rfl ?_
  exact ⟨_, _, _, by first | rfl | (simp [errW_none, errW_some] <;> rfl) | (simp [*, errW_none, errW_some] <;> rfl), by first | exact Kd.R_nil _ _ _ _ _ | exact Kd.N_nil _ _ _ _ _ | exact Kd.V_nil _ _ _ _ _ | exact Kd.Q_nil _ _ _ _ _ | exact Kd.S_nil _ _ _ _ _, by first | exact Kd.R_nil _ _ _ _ _ | exact Kd.N_nil _ _ _ _ _ | exact Kd.V_nil _ _ _ _ _ | exact Kd.Q_nil _ _ _ _ _ | exact Kd.S_nil _ _ _ _ _, by first | exact Kd.R_nil _ _ _ _ _ | exact Kd.N_nil _ _ _ _ _ | exact Kd.V_nil _ _ _ _ _ | exact Kd.Q_nil _ _ _ _ _ | exact Kd.S_nil _ _ _ _ _, by repeat (first | (with_reducible first | exact HB.out | apply below_alloc | apply pw_below_drewN | apply below_drew1 | refine below_set ?_ GE216.out | refine below_set ?_ GE217.out) | exact HB.out)⟩

end Go.Proofs.Ytnheknlmmmkbpaa.X

namespace Go.Proofs.Ytnheknlmmmkbpaa.X
open Go.RowKit Go.Proofs.YtnheknlmmmkbpaaW.PrintWords Go.Proofs.YtnheknlmmmkbpaaW.PrintLast Go.Proofs.YtnheknlmmmkbpaaW.PrintMore
attribute [local go_sem] max2_int min2_int max_two min_two max_three min_three max_four min_four   -- for this text's walks alone
set_option linter.unusedVariables false
set_option linter.unusedSimpArgs false

/-! ### lru_list_int_56: function 56 -/
shelf_lay_g SlLaysE.n45 Slgn 45 at Try 56 as Try.delete_
section
open Go.Shelf Go.Lib Go.Sort
theorem delete_zero (w : World) : (zeroValue 3).run Try.prog w = .ok (.int .i64 0) w := by kernel_rfl
theorem delete_intinfo : (Try.prog.info? 3).map (fun i => (i.zero, i.size, i.bytes)) = some (some (.int .i64 0), 1, 8) := by kernel_rfl
set_option maxHeartbeats 2000000 in
set_option maxRecDepth 100000 in
/-- slices.Delete(s, n, n + 1), n + 1 its length, s a row of the caller's own. -/
theorem delete_last (base n : Nat) (v : Value) (xs : List Int) (w : World) (hR : Kd.R (Kd.int .i64) 3 w base (fun _ => True) v xs) (hn : xs.length = n + 1) (hlen : xs.length ≤ 1000000) :
  Calls Try.prog 56 #[v, .int .i64 n, .int .i64 ((n + 1 : Nat) : Int)] w fun e w' => ∃ v', e = .returned v' ∧ Kd.R (Kd.int .i64) 3 w' base (fun _ => True) v' (xs.take n) ∧ w.grownBy w' v.ownBlock ∧ v'.ownBlock = v.ownBlock := by
 obtain ⟨i0, hi0, hzz0, hzz1, hzz2⟩ := info_parts delete_intinfo
 obtain ⟨_, hown⟩ := Kd.own_of_R hR
 rcases hown with ⟨rfl, h0⟩ | ⟨g, cap, cur, rfl, hg, hgb, hcap, hmax, hsz, htake⟩
 ·
  omega
 ·
  have hH : Holds (Value.int .i64) w g 0 xs.toArray := Go.holds_of_blockI hgb (by simpa [encs] using htake)
  have hcon := AnyE.slices_Delete Try.delete_ (Value.int .i64) (fun _ => rfl) 0 delete_zero i0 hi0 hzz1 g 0 cap n (n + 1) xs.toArray w hH (by simpa using hcap) (by unfold maxLen at hmax; omega) (by omega) (by simp; omega)
  refine hcon.mono ?_
  rintro e w' ⟨rfl, q, rfl⟩
  have hh := Go.heap_sortedI (w := w) (n := q) (os := #[]) (xs.take n ++ xs.drop (n + 1) ++ List.replicate (n + 1 - n) 0).toArray hgb
  have hgr := Go.grownBy_sortedI (w := w) (g := g) (n := q) (os := #[]) (xs.take n ++ xs.drop (n + 1) ++ List.replicate (n + 1 - n) 0).toArray
  have htk := Go.take_putCellsI cur (xs.take n ++ xs.drop (n + 1) ++ List.replicate (n + 1 - n) 0) (by simp; omega)
  rw [grow_empty] at hh hgr
  have hl : (xs.take n).length = n := by rw [List.length_take]; omega
  refine ⟨_, rfl, Kd.R_of_own ⟨by simp [encs], .inr ⟨g, cap, _, ?_, hg, hh, by omega, hmax, by simp [putCells]; omega, ?_⟩⟩ (fun _ _ => trivial), hgr, rfl⟩
  ·
   rw [hl]; simp [hn]
  ·
   have := congrArg (List.take n) htk
   rw [List.take_take, Nat.min_eq_left (by simp; omega), List.append_assoc, List.map_append, List.take_append_of_le_length (by simp; omega), show List.take n (List.map (Value.int .i64) (xs.take n)) = List.map (Value.int .i64) (xs.take n) from List.take_of_length_le (by simp; omega)] at this
   rw [hl]
   simpa [encs, List.append_assoc] using this
end


end Go.Proofs.Ytnheknlmmmkbpaa.X

namespace Go.Proofs.Ytnheknlmmmkbpaa.X
open Go.RowKit Go.Proofs.YtnheknlmmmkbpaaW.PrintWords Go.Proofs.YtnheknlmmmkbpaaW.PrintLast Go.Proofs.YtnheknlmmmkbpaaW.PrintMore
attribute [local go_sem] max2_int min2_int max_two min_two max_three min_three max_four min_four   -- for this text's walks alone
set_option linter.unusedVariables false
set_option linter.unusedSimpArgs false

/-! ### lru_list_pop: function 53 -/
set_option maxHeartbeats 2000000 in
set_option maxRecDepth 100000 in
/-- pop on a list that lies in a variable of its own. -/
theorem pop_own (base bp n : Nat) (v : Value) (xs : List Int) (w : World) (hp : w.heap[bp]? = some (.cells #[v] 68 (0, 0))) (hR : Kd.R (Kd.int .i64) 3 w base (fun _ => True) v xs) (hn : xs.length = n + 1) (hlen : xs.length ≤ 1000000) :
  Calls Try.prog 53 #[.pointer (some ⟨bp, 0, none⟩)] w fun e w' => e = .returned (.int .i64 (rd xs n)) ∧ ∃ v', w'.heap[bp]? = some (.cells #[v'] 68 (0, 0)) ∧ Kd.R (Kd.int .i64) 3 w' base (fun _ => True) v' (xs.take n) ∧ (∀ k, k < w.heap.size → k ≠ bp → some k ≠ v.ownBlock → w'.heap[k]? = w.heap[k]?) ∧ w.heap.size ≤ w'.heap.size ∧ v'.ownBlock = v.ownBlock ∧ (∀ B, B ≤ w.heap.size → B ≤ bp → (∀ k, v.ownBlock = some k → B ≤ k) → Below B w w') := by
 obtain ⟨g, d, rfl, gb, gl, cl, hgb⟩ := Kd.R_form hR (by omega)
 have hx0 := (blk_cell hp 0).trans rfl
 have hu72 := Try.underlying68
 obtain ⟨hx, hf⟩ := Kd.R_celln 0 hR (n : Int) (by omega) (by omega)
 simp only [Int.toNat_natCast] at hx hf
 have hw1 : IntKind.i64.wrap (((n + 1 : Nat) : Int) - 1) = (n : Int) := by rw [IntKind.wrap_i64]; omega
 have hw2 : IntKind.i64.wrap ((n : Int) + 1) = ((n + 1 : Nat) : Int) := by rw [IntKind.wrap_i64]; omega
 have p0 : ((0 : Int) ≤ (n : Int)) = True := eq_true (by omega)
 have p1 : ((n : Int) < ((n + 1 : Nat) : Int)) = True := eq_true (by omega)
 have HP := Aside0.mk hp
 have HR := Aside0.mk hR
 rw [hn] at hx0
 clear hp hgb
 go_enter Try.func53, Try.ntmps53
 go_wp2_with fail
 have hd := delete_last base n _ xs w HR.out hn hlen
 rw [hn] at hd
 refine hd.mono ?_
 rintro e w1 ⟨v', rfl, hR', hg, hat⟩
 obtain ⟨B', d', rfl⟩ := Kd.R_slice hR'
 have hl : (xs.take n).length = n := by rw [List.length_take]; omega
 rw [hl] at hR' hat
 have hRn := HR.out
 have hp1 := blk_grown HP.out hg (by have := Kd.R_ne HR.out HP.out (by decide); rw [hn] at this; exact this)
 rw [hn] at hp1
 have hy0 := (blk_cell hp1 0).trans rfl
 have hf0 := blk_frozen hp1 0
 have P1 := Aside0.mk hp1
 have R1 := Aside0.mk hR'
 have G1 := Aside0.mk hg
 have T1 := Aside0.mk hat
 clear hp1 hR' hg hat hx0 hd hRn
 go_wp2
 go_ret
 refine ⟨rfl, _, blk_put P1.out 0 _ rfl, Kd.R_mono (Kd.R_far (p := ⟨bp, 0, none⟩) (Kd.R_types R1.out P1.out (by decide)) (fun _ hk => hk.2) _) (fun _ hk => hk.1), fun k hk hne hnv => ?_, by have := G1.out.size; simpa using this, by rw [hn]; exact T1.out, fun B hB hBp hBv => ((Below.refl B w).grown G1.out hB (by rw [← hn]; exact hBv)).setCell (p := ⟨bp, 0, none⟩) hBp _⟩
 rw [Below.heap_setCell _ ⟨bp, 0, none⟩ _ k hne]
 exact G1.out.block k hk hnv


end Go.Proofs.Ytnheknlmmmkbpaa.X

namespace Go.Proofs.Ytnheknlmmmkbpaa.X
open Go.RowKit Go.Proofs.YtnheknlmmmkbpaaW.PrintWords Go.Proofs.YtnheknlmmmkbpaaW.PrintLast Go.Proofs.YtnheknlmmmkbpaaW.PrintMore
attribute [local go_sem] max2_int min2_int max_two min_two max_three min_three max_four min_four   -- for this text's walks alone
set_option linter.unusedVariables false
set_option linter.unusedSimpArgs false

/-! ### lru_list_int_57: function 57 -/
section
open Go.Lib
attribute [local go_sem] Oper.semAt_some
theorem insL_intinfo : (Try.prog.info? 3).map (fun i => (i.zero, i.size, i.bytes)) = some (some (.int .i64 0), 1, 8) := by kernel_rfl
/-- Behind the two copies the row is x :: xs. -/
theorem insL_row {g c : Nat} {e : TypeId} {cur : Array Value} {W : World} (xs : List Int) (x : Int) (hb : W.heap[g]? = some (.cells cur e (0, 0))) (hs : cur.size = c) (hl : xs.length + 1 ≤ c) :
  ∃ cur', ((W.setCells g 1 (xs.map (Value.int .i64))).setCells g 0 [.int .i64 x]).heap[g]? = some (.cells cur' e (0, 0)) ∧ cur'.size = c ∧ cur'.toList.take (xs.length + 1) = (x :: xs).map (Value.int .i64) := by
 obtain ⟨c1, h1, h2, h3⟩ := setCells_row (xs.map (Value.int .i64)) 1 W cur hb (by simp; omega)
 obtain ⟨c2, h4, h5, h6⟩ := setCells_row [.int .i64 x] 0 (W.setCells g 1 (xs.map (Value.int .i64))) c1 h1 (by simp; omega)
 refine ⟨c2, h4, by omega, ?_⟩
 obtain ⟨y, ys, hy⟩ := List.exists_cons_of_length_pos (l := cur.toList) (by rw [Array.length_toList]; omega)
 rw [h6, h3, hy]
 simp
theorem insL_row2 {g c : Nat} {e : TypeId} {cur : Array Value} {W : World} (xs : List Int) (x : Int) (hb : W.heap[g]? = some (.cells cur e (0, 0))) (hs : cur.size = c) (hl : xs.length + 1 ≤ c) :
  ∃ cur', ((W.setCells g 0 [.int .i64 x]).setCells g 1 (xs.map (Value.int .i64))).heap[g]? = some (.cells cur' e (0, 0)) ∧ cur'.size = c ∧ cur'.toList.take (xs.length + 1) = (x :: xs).map (Value.int .i64) := by
 obtain ⟨c1, h1, h2, h3⟩ := setCells_row [.int .i64 x] 0 W cur hb (by simp; omega)
 obtain ⟨c2, h4, h5, h6⟩ := setCells_row (xs.map (Value.int .i64)) 1 (W.setCells g 0 [.int .i64 x]) c1 h1 (by simp; omega)
 refine ⟨c2, h4, by omega, ?_⟩
 rw [h6, h3]
 simp
set_option maxHeartbeats 4000000 in
set_option maxRecDepth 100000 in
theorem insL_shift (b c vb : Nat) (xs : List Int) (x : Int) (cur : Array Value) (w : World) (hn : 0 < xs.length) (hroom : xs.length + 1 ≤ c) (hc63 : c ≤ maxLen) (hvb : vb ≠ b)
  (hb : w.heap[b]? = some (.cells cur 3 (0, 0))) (hsz0 : cur.size = c) (htake : cur.toList.take xs.length = xs.map (Value.int .i64)) (hv : w.heap[vb]? = some (.cells #[.int .i64 x] 3 (0, 0))) :
  Calls Try.prog 57 #[.slice (some ⟨b, 0, none⟩) xs.length c, .int .i64 0, .slice (some ⟨vb, 0, none⟩) 1 1] w fun e w' =>
   e = .returned (.slice (some ⟨b, 0, none⟩) (xs.length + 1) c) ∧ w' = (w.drew.setCells b 1 (xs.map (Value.int .i64))).setCells b 0 [.int .i64 x] := by
 obtain ⟨i0, hi0, hzz0, hzz1, hzz2⟩ := info_parts insL_intinfo
 have hsz : (Try.prog.info? 3).map (·.size) = some 1 := by rw [hi0]; simp [hzz1]
 have uT := Try.underlying68
 have u22 := Try.underlying30
 generalize hcs : xs.map (Value.int .i64) = cs at htake ⊢
 have hcl : cs.length = xs.length := by rw [← hcs, List.length_map]
 have h1c : ∀ v ∈ cs, v.oneCell' = true := by rw [← hcs]; intro v hv; obtain ⟨y, _, rfl⟩ := List.mem_map.1 hv; rfl
 have hcsc : ∀ j v, cs[j]? = some v → w.cell? ⟨b, j, none⟩ = some v := fun j v hj => by
  have hjl : j < xs.length := by have := (List.getElem?_eq_some_iff.1 hj).1; omega
  rw [← htake, List.getElem?_take_of_lt hjl, Array.getElem?_toList] at hj
  simp [World.cell?, hb, hj]
 have hsp : ∀ j, j < xs.length + 1 → (w.cell? ⟨b, j, none⟩).isSome = true := fun j hj => by
  simp [World.cell?, hb, Array.getElem?_eq_getElem (show j < cur.size by omega)]
 have hfz : ∀ j, w.frozen? ⟨b, j, none⟩ = false := fun j => by simp [World.frozen?, hb]
 have hvc : w.cell? ⟨vb, 0, none⟩ = some (.int .i64 x) := by simp [World.cell?, hv]
 generalize xs.length = n at *
 have hov : ∀ lb cb, (callFunc 61 #[.slice (some ⟨vb, 0, none⟩) 1 1, .slice (some ⟨b, 1, none⟩) lb cb]).run Try.prog w = .ok (.value (.bool false)) w := fun lb cb => by
  rw [run_callFunc_extern Try.func61 (by kernel_rfl) (by kernel_rfl) (by kernel_rfl) (e := Extern.SlicesOverlaps.overlaps #[30, 30] #[4]) (by kernel_rfl),
   Lib.run_overlaps_apart w 30 4 3 Try.underlying30 1 (fun W => by kernel_rfl) ⟨vb, 0, none⟩ ⟨b, 1, none⟩ 1 1 lb cb hvb 3 3 1 c (by simp [World.shape?, hv]) (by simp [World.shape?, hb, hsz0]) (by omega) (by simp [World.frozen?, hv]) (by simp [World.frozen?, hv])]
  rfl
 have hcp1 : ∀ ty dc sc, (Builtin.copy_ #[68, 68] ty #[.slice (some ⟨b, 1, none⟩) n dc, .slice (some ⟨b, 0, none⟩) (n + 1) sc]).run Try.prog w.drew = .ok (goInt cs.length) (w.drew.setCells b 1 cs) := fun ty dc sc =>
  run_copy_cells w.drew _ _ ty 3 b 1 n dc ⟨b, 0, none⟩ (n + 1) sc cs uT hsz (by rw [hcl]; simp only [Nat.min_def]; split <;> omega)
   (fun j v hj => by rw [Addr.add_lit, Nat.zero_add]; exact hcsc j v hj)
   (fun j hj => by rw [Nat.add_comm]; exact hsp _ (by omega)) (fun j hj => hfz _) h1c
 obtain ⟨W1, hW1⟩ : ∃ W1, W1 = w.drew.setCells b 1 cs := ⟨_, rfl⟩
 have hsp1 : ∀ k, k < n + 1 → (W1.cell? ⟨b, k, none⟩).isSome = true := fun k hk => by
  rw [hW1]
  exact isSome_setCells b _ _ _ (fun j hj => by rw [Nat.add_comm]; exact hsp _ (by omega)) _ (hsp k hk)
 have hcp2 : ∀ (W : World), (∀ x, W.cell? x = W1.cell? x) → (∀ x, W.frozen? x = W1.frozen? x) → ∀ ty dc, (Builtin.copy_ #[68, 30] ty #[.slice (some ⟨b, 0, none⟩) (n + 1) dc, .slice (some ⟨vb, 0, none⟩) 1 1]).run Try.prog W = .ok (goInt [Value.int .i64 x].length) (W.setCells b 0 [.int .i64 x]) := fun W hWc hWf ty dc =>
  run_copy_cells W _ _ ty 3 b 0 (n + 1) dc ⟨vb, 0, none⟩ 1 1 [.int .i64 x] uT hsz (by simp [Nat.min_def])
   (fun j v hj => by
    rw [Addr.add_lit, hWc, hW1, World.cell?_setCells_out b _ _ _ _ (fun h _ => absurd h hvb)]
    match j, hj with
    | 0, hj => cases hj; exact hvc)
   (fun j hj => by rw [hWc, Nat.zero_add]; exact hsp1 _ (by simp at hj; omega)) (fun j hj => by rw [hWf, hW1, World.frozen?_setCells]; exact hfz _) (by simp [Value.oneCell'])
 rw [← hW1] at hcp1
 have hw1 : IntKind.i64.wrap ((n : Int) + 1) = (n : Int) + 1 := by rw [IntKind.wrap_i64]; unfold maxLen at hc63; omega
 have mixed : Try.prog.follows .mixedOrders = true := rfl
 have u1 : IntKind.i64.wrap 1 = 1 := by decide
 have u2 : (1 : Int) ≤ (n : Int) + 1 := by omega
 have u3 : (0 : Int) ≤ (n : Int) + 1 := by omega
 have u4 : ¬ (c = 1) := by omega
 have u5 : ¬ (c = 0) := by omega
 have u6 : (1 : Int).toNat = 1 := rfl
 have d1 : decide ((0 : Int) = (n : Int)) = false := decide_eq_false (by omega)
 have d2 : decide ((c : Int) < (n : Int) + 1) = false := decide_eq_false (by omega)
 have d3 : decide ((n : Int) + 1 ≤ (c : Int)) = true := decide_eq_true (by omega)
 go_enter Try.func57, Try.ntmps57
 go_wp2_with (simp only [hov])
 go_region_law_o (refine step_copy_runI rfl _ _ 68 68 rfl _ _ (by simp [Act.eval, Act.put]) (by simp [Act.eval, Act.put]) (hcp1 _ _ _) ?_)
 go_wp2_with (at_builtin; refine wpList_copy_runI _ rfl _ _ 68 30 rfl _ _ rfl rfl (hcp2 _ (fun _ => rfl) (fun _ => rfl) _ _) ?_)
 go_ret
 first | exact ⟨rfl, rfl⟩ | exact ⟨rfl, by rw [hW1]⟩
set_option maxHeartbeats 4000000 in
set_option maxRecDepth 100000 in
theorem insL_grow (b c vb : Nat) (xs : List Int) (x : Int) (cur : Array Value) (w : World) (hn : 0 < xs.length) (hnc : xs.length ≤ c) (hroom : c < xs.length + 1) (hbig : xs.length ≤ 1000000)
  (hb : w.heap[b]? = some (.cells cur 3 (0, 0))) (hsz0 : cur.size = c) (htake : cur.toList.take xs.length = xs.map (Value.int .i64)) (hv : w.heap[vb]? = some (.cells #[.int .i64 x] 3 (0, 0))) :
  Calls Try.prog 57 #[.slice (some ⟨b, 0, none⟩) xs.length c, .int .i64 0, .slice (some ⟨vb, 0, none⟩) 1 1] w fun e w' =>
   ∃ (G : Nat) (ROW : Array Value), xs.length + 1 ≤ G ∧ G ≤ maxLen ∧ ROW.size = G ∧ e = .returned (.slice (some ⟨w.heap.size, 0, none⟩) (xs.length + 1) G) ∧ w' = (((w.alloc (.cells ROW 3)).drew.setCells w.heap.size 0 [.int .i64 x]).drew).setCells w.heap.size 1 (xs.map (Value.int .i64)) := by
 obtain ⟨i0, hi0, hzz0, hzz1, hzz2⟩ := info_parts insL_intinfo
 have hsz : (Try.prog.info? 3).map (·.size) = some 1 := by rw [hi0]; simp [hzz1]
 have uT := Try.underlying68
 have u22 := Try.underlying30
 have hUi := Try.underlying3
 generalize hcs : xs.map (Value.int .i64) = cs at htake ⊢
 have hcl : cs.length = xs.length := by rw [← hcs, List.length_map]
 have h1c : ∀ v ∈ cs, v.oneCell' = true := by rw [← hcs]; intro v hv; obtain ⟨y, _, rfl⟩ := List.mem_map.1 hv; rfl
 have hcsc : ∀ j v, cs[j]? = some v → w.cell? ⟨b, j, none⟩ = some v := fun j v hj => by
  have hjl : j < xs.length := by have := (List.getElem?_eq_some_iff.1 hj).1; omega
  rw [← htake, List.getElem?_take_of_lt hjl, Array.getElem?_toList] at hj
  simp [World.cell?, hb, hj]
 have hvc : w.cell? ⟨vb, 0, none⟩ = some (.int .i64 x) := by simp [World.cell?, hv]
 have hbw : b < w.heap.size := (Array.getElem?_eq_some_iff.1 hb).1
 have hvw : vb < w.heap.size := (Array.getElem?_eq_some_iff.1 hv).1
 generalize xs.length = n at *
 have hold : (Builtin.firstCells i0.size 0 (.slice (some ⟨b, 0, none⟩) 0 c)).run Try.prog w.drew = .ok #[] w.drew := by
  rw [hzz1]
  exact run_firstCells_some w.drew 1 0 ⟨b, 0, none⟩ 0 c [] rfl (fun j v hj => by simp at hj)
 have hrz : ∀ ty, (Builtin.append_ #[68, 3] ty #[.slice (some ⟨b, 0, none⟩) 0 c, .int .i64 ((n : Int) + 1)]).run Try.prog w =
   .ok (.slice (some ⟨w.heap.size, 0, none⟩) (n + 1) (grownCap w (n + 1) c 3)) (w.drew.alloc (.cells (#[] ++ Builtin.zeroCells (Value.int .i64 0).cells (n + 1) ++ Builtin.zeroCells (Value.int .i64 0).cells (grownCap w (n + 1) c 3 - (n + 1))) 3)) := fun ty => by
  have h := Lib.run_append_grow_zeros w 68 3 ty 3 i0 _ .i64 .i64 uT hUi hi0 hzz0 (some ⟨b, 0, none⟩) 0 c [] hold (n + 1) (by omega) (by omega) (by omega) (by omega) (by rw [hzz2]; omega) (by rw [hzz2, Nat.zero_add]; exact growslice_fits hroom (by omega))
  rw [Nat.zero_add] at h
  exact h
 obtain ⟨G, hG⟩ : ∃ G, G = grownCap w (n + 1) c 3 := ⟨_, rfl⟩
 have hGn : n + 1 ≤ G := by rw [hG]; exact grownCap_ge w _ _ _
 have hGm : G ≤ maxLen := by rw [hG]; exact grownCap_le_maxLen w (n + 1) c 3 (by unfold maxLen; omega)
 obtain ⟨ROW, hROW⟩ : ∃ ROW : Array Value, ROW = #[] ++ Builtin.zeroCells (Value.int .i64 0).cells (n + 1) ++ Builtin.zeroCells (Value.int .i64 0).cells (G - (n + 1)) := ⟨_, rfl⟩
 rw [← hG] at hrz
 rw [← hROW] at hrz
 have hRl : ROW.size = G := by
  rw [hROW]
  simp [Builtin.zeroCells, Value.cells]
  omega
 obtain ⟨W1, hW1⟩ : ∃ W1, W1 = w.drew.alloc (.cells ROW 3) := ⟨_, rfl⟩
 rw [← hW1] at hrz
 have hN : ∀ j, j < n + 1 → (W1.cell? ⟨w.heap.size, j, none⟩).isSome = true := fun j hj => by
  rw [hW1, World.cell?_alloc_at (w := w.drew) ROW _ w.heap.size j rfl, Array.getElem?_eq_getElem (by omega)]; rfl
 have hNf : ∀ j, W1.frozen? ⟨w.heap.size, j, none⟩ = false := fun j => by rw [hW1]; exact World.frozen?_alloc_at (w := w.drew) ROW _ w.heap.size j rfl
 have hOb : ∀ j v, w.cell? ⟨b, j, none⟩ = some v → W1.cell? ⟨b, j, none⟩ = some v := fun j v h => by rw [hW1, World.cell?_alloc_past (w := w.drew) _ b j hbw]; exact h
 have hOv : ∀ j v, w.cell? ⟨vb, j, none⟩ = some v → W1.cell? ⟨vb, j, none⟩ = some v := fun j v h => by rw [hW1, World.cell?_alloc_past (w := w.drew) _ vb j hvw]; exact h
 have hcpA : ∀ (W : World), (∀ x, W.cell? x = W1.cell? x) → (∀ x, W.frozen? x = W1.frozen? x) → ∀ ty dc, (Builtin.copy_ #[68, 30] ty #[.slice (some ⟨w.heap.size, 0, none⟩) (n + 1) dc, .slice (some ⟨vb, 0, none⟩) 1 1]).run Try.prog W = .ok (goInt [Value.int .i64 x].length) (W.setCells w.heap.size 0 [.int .i64 x]) := fun W hWc hWf ty dc =>
  run_copy_cells W _ _ ty 3 w.heap.size 0 (n + 1) dc ⟨vb, 0, none⟩ 1 1 [.int .i64 x] uT hsz (by simp [Nat.min_def])
   (fun j v hj => by
    rw [Addr.add_lit, hWc]
    match j, hj with
    | 0, hj => cases hj; exact hOv _ _ hvc)
   (fun j hj => by rw [hWc, Nat.zero_add]; exact hN _ (by simp at hj; omega)) (fun j hj => by rw [hWf]; exact hNf _) (by simp [Value.oneCell'])
 have hG63 : G ≤ 9223372036854775807 := by unfold maxLen at hGm; omega
 have hbN : b ≠ w.heap.size := by omega
 have hcpB : ∀ (W : World), (∀ y, W.cell? y = (W1.setCells w.heap.size 0 [.int .i64 x]).cell? y) → (∀ y, W.frozen? y = (W1.setCells w.heap.size 0 [.int .i64 x]).frozen? y) → ∀ ty dc sc, (Builtin.copy_ #[68, 68] ty #[.slice (some ⟨w.heap.size, 1, none⟩) n dc, .slice (some ⟨b, 0, none⟩) n sc]).run Try.prog W = .ok (goInt cs.length) (W.setCells w.heap.size 1 cs) := fun W hWc hWf ty dc sc =>
  run_copy_cells W _ _ ty 3 w.heap.size 1 n dc ⟨b, 0, none⟩ n sc cs uT hsz (by rw [hcl]; simp [Nat.min_def])
   (fun j v hj => by
    rw [Addr.add_lit, hWc, World.cell?_setCells_out _ _ _ _ _ (fun h _ => absurd h hbN), Nat.zero_add]
    exact hOb _ v (hcsc j v hj))
   (fun j hj => by rw [hWc]; exact isSome_setCells _ _ _ _ (fun t ht => hN _ (by simp at ht; omega)) _ (hN _ (by omega)))
   (fun j hj => by rw [hWf, World.frozen?_setCells]; exact hNf _) h1c
 subst hW1
 have hE1 : ∀ y, ((w.alloc (.cells ROW 3)).drew).cell? y = (w.drew.alloc (.cells ROW 3)).cell? y := fun y => rfl
 have hE2 : ∀ y, ((w.alloc (.cells ROW 3)).drew).frozen? y = (w.drew.alloc (.cells ROW 3)).frozen? y := fun y => rfl
 have hF1 : ∀ y, (((w.alloc (.cells ROW 3)).drew.setCells w.heap.size 0 [.int .i64 x]).drew).cell? y = ((w.drew.alloc (.cells ROW 3)).setCells w.heap.size 0 [.int .i64 x]).cell? y := fun y => rfl
 have hF2 : ∀ y, (((w.alloc (.cells ROW 3)).drew.setCells w.heap.size 0 [.int .i64 x]).drew).frozen? y = ((w.drew.alloc (.cells ROW 3)).setCells w.heap.size 0 [.int .i64 x]).frozen? y := fun y => rfl
 have hw1 : IntKind.i64.wrap ((n : Int) + 1) = (n : Int) + 1 := by rw [IntKind.wrap_i64]; omega
 have mixed : Try.prog.follows .mixedOrders = true := rfl
 have u1 : IntKind.i64.wrap 1 = 1 := by decide
 have u2 : (1 : Int) ≤ (n : Int) + 1 := by omega
 have u3 : (0 : Int) ≤ (n : Int) + 1 := by omega
 have u4 : ¬ (G = 1) := by omega
 have u5 : ¬ (G = 0) := by omega
 have u6 : (1 : Int).toNat = 1 := rfl
 have u7 : (0 : Int) ≤ (n : Int) := by omega
 have u8 : ¬ (c = 0) := by omega
 have d1 : decide ((0 : Int) = (n : Int)) = false := decide_eq_false (by omega)
 have d2 : decide ((c : Int) < (n : Int) + 1) = true := decide_eq_true (by omega)
 have d3 : (c : Int) < (n : Int) + 1 := by omega
 clear hold hROW hG
 go_enter Try.func57, Try.ntmps57
 go_wp2_with (first
  | (at_builtin; refine Lib.wpList_append_run _ rfl _ _ _ _ rfl _ _ rfl rfl _ _ (hrz _) ?_)
  | (at_builtin; refine wpList_copy_runI _ rfl _ _ 68 30 rfl _ _ rfl rfl (hcpA _ hE1 hE2 _ _) ?_)
  | (at_builtin; refine wpList_copy_runI _ rfl _ _ 68 68 rfl _ _ rfl rfl (hcpB _ (fun _ => rfl) (fun _ => rfl) _ _ _) ?_))
 go_region_law_o (refine step_copy_runI rfl _ _ 68 68 rfl (.slice (some ⟨w.heap.size, 1, none⟩) n (G - 1)) (.slice (some ⟨b, 0, none⟩) n c) (by simp [Act.eval, Act.put]) (by simp [Act.eval, Act.put]) (hcpB _ hF1 hF2 3 (G - 1) c) ?_)
 go_wp2
 go_ret
 exact ⟨G, ROW, hGn, hGm, hRl, rfl, rfl⟩
set_option maxHeartbeats 4000000 in
set_option maxRecDepth 100000 in
theorem insL_end_room (b c vb : Nat) (x : Int) (cur : Array Value) (w : World) (hc : 1 ≤ c)
  (hb : w.heap[b]? = some (.cells cur 3 (0, 0))) (hsz0 : cur.size = c) (hv : w.heap[vb]? = some (.cells #[.int .i64 x] 3 (0, 0))) :
  Calls Try.prog 57 #[.slice (some ⟨b, 0, none⟩) 0 c, .int .i64 0, .slice (some ⟨vb, 0, none⟩) 1 1] w fun e w' =>
   e = .returned (.slice (some ⟨b, 0, none⟩) 1 c) ∧ w' = w.setCells b 0 [.int .i64 x] := by
 have uT := Try.underlying68
 have u22 := Try.underlying30
 have hsp : (w.cell? ⟨b, 0, none⟩).isSome = true := by simp [World.cell?, hb, Array.getElem?_eq_getElem (show 0 < cur.size by omega)]
 have hfz : w.frozen? ⟨b, 0, none⟩ = false := by simp [World.frozen?, hb]
 have hvc : w.cell? ⟨vb, 0, none⟩ = some (.int .i64 x) := by simp [World.cell?, hv]
 have hsrc : Src Try.prog 1 30 (.slice (some ⟨vb, 0, none⟩) 1 1) 1 [.int .i64 x] w := Src.ofSlice w u22 ⟨vb, 0, none⟩ 1 1 [.int .i64 x] (by simp) (fun j u hj => by
  match j, hj with
  | 0, hj => cases hj; rw [Addr.add_lit]; exact hvc) (by simp [Value.oneCell'])
 have mixed : Try.prog.follows .mixedOrders = true := rfl
 go_enter Try.func57, Try.ntmps57
 go_wp2_with (at_builtin; refine wpList_append_room1 _ rfl _ _ 68 30 rfl 3 _ _ uT insL_intinfo b 0 0 c rfl _ rfl 1 [.int .i64 x] hsrc (by omega) (fun j hj => by (obtain rfl : j = 0 := by simp at hj; omega); exact hsp) (fun j hj => by (obtain rfl : j = 0 := by simp at hj; omega); exact hfz) ?_)
 go_ret
 exact ⟨rfl, rfl⟩
set_option maxHeartbeats 4000000 in
set_option maxRecDepth 100000 in
theorem insL_end_grow (base : Option Addr) (vb : Nat) (x : Int) (w : World) (hbs : base = none ∨ ∃ b, base = some ⟨b, 0, none⟩) (hv : w.heap[vb]? = some (.cells #[.int .i64 x] 3 (0, 0))) :
  Calls Try.prog 57 #[.slice base 0 0, .int .i64 0, .slice (some ⟨vb, 0, none⟩) 1 1] w fun e w' =>
   ∃ (G : Nat) (ROW : Array Value), 1 ≤ G ∧ G ≤ maxLen ∧ ROW.size = G ∧ ROW.toList.take 1 = [.int .i64 x] ∧ e = .returned (.slice (some ⟨w.heap.size, 0, none⟩) 1 G) ∧ w' = w.drew.alloc (.cells ROW 3) := by
 obtain ⟨i0, hi0, hzz0, hzz1, hzz2⟩ := info_parts insL_intinfo
 have uT := Try.underlying68
 have u22 := Try.underlying30
 have hvc : w.cell? ⟨vb, 0, none⟩ = some (.int .i64 x) := by simp [World.cell?, hv]
 have hsrc : Src Try.prog i0.size 30 (.slice (some ⟨vb, 0, none⟩) 1 1) 1 [.int .i64 x] w := by
  rw [hzz1]
  exact Src.ofSlice w u22 ⟨vb, 0, none⟩ 1 1 [.int .i64 x] (by simp) (fun j u hj => by
   match j, hj with
   | 0, hj => cases hj; rw [Addr.add_lit]; exact hvc) (by simp [Value.oneCell'])
 have hold : (Builtin.firstCells i0.size 0 (.slice base 0 0)).run Try.prog w.drew = .ok #[] w.drew := by
  rw [hzz1]
  rcases hbs with rfl | ⟨b, rfl⟩
  ·
   exact run_firstCells_none w.drew 1 0 0 0
  ·
   exact run_firstCells_some w.drew 1 0 ⟨b, 0, none⟩ 0 0 [] rfl (fun j v hj => by simp at hj)
 have hrun : ∀ ty, (Builtin.append_ #[68, 30] ty #[.slice base 0 0, .slice (some ⟨vb, 0, none⟩) 1 1]).run Try.prog w = _ := fun ty =>
  run_append_grow_src w 68 30 ty 3 i0 _ uT hi0 hzz0 base 0 0 [] hold _ 1 [.int .i64 x] hsrc (by omega) (by omega) (by rw [hzz2]; exact growslice_fits (by omega) (by omega))
 obtain ⟨G, hG⟩ : ∃ G, G = grownCap w (0 + 1) 0 3 := ⟨_, rfl⟩
 have hGn : 1 ≤ G := by rw [hG]; exact grownCap_ge w _ _ _
 have hGm : G ≤ maxLen := by rw [hG]; exact grownCap_le_maxLen w (0 + 1) 0 3 (by unfold maxLen; omega)
 obtain ⟨ROW, hROW⟩ : ∃ ROW : Array Value, ROW = ([] ++ [Value.int .i64 x]).toArray ++ Builtin.zeroCells (Value.int .i64 0).cells (G - (0 + 1)) := ⟨_, rfl⟩
 rw [← hG] at hrun
 rw [← hROW] at hrun
 have hRl : ROW.size = G := by
  rw [hROW]
  simp [Builtin.zeroCells, Value.cells]
  omega
 have hRt : ROW.toList.take 1 = [.int .i64 x] := by
  rw [hROW]
  simp
 have mixed : Try.prog.follows .mixedOrders = true := rfl
 clear hROW hG hold hsrc
 rcases hbs with rfl | ⟨b, rfl⟩
 ·
  go_enter Try.func57, Try.ntmps57
  go_wp2_with (at_builtin; refine Lib.wpList_append_run _ rfl _ _ _ _ rfl _ _ rfl rfl _ _ (hrun _) ?_)
  go_ret
  exact ⟨G, ROW, hGn, hGm, hRl, hRt, rfl, rfl⟩
 ·
  go_enter Try.func57, Try.ntmps57
  go_wp2_with (at_builtin; refine Lib.wpList_append_run _ rfl _ _ _ _ rfl _ _ rfl rfl _ _ (hrun _) ?_)
  go_ret
  exact ⟨G, ROW, hGn, hGm, hRl, hRt, rfl, rfl⟩
/-- slices.Insert(s, 0, x), s a row of the caller's own: it owns x :: xs behind it. -/
theorem insL_front (base vb : Nat) (v : Value) (xs : List Int) (x : Int) (w : World) (hR : Kd.R (Kd.int .i64) 3 w base (fun _ => True) v xs) (hlen : xs.length ≤ 1000000)
  (hv : w.heap[vb]? = some (.cells #[.int .i64 x] 3 (0, 0))) (hne : v.ownBlock ≠ some vb) (hbase : base ≤ w.heap.size) :
  Calls Try.prog 57 #[v, .int .i64 0, .slice (some ⟨vb, 0, none⟩) 1 1] w fun e w' => ∃ v', e = .returned v' ∧ Kd.R (Kd.int .i64) 3 w' base (fun _ => True) v' (x :: xs) ∧ w.grownBy w' v.ownBlock ∧ (v'.ownBlock = v.ownBlock ∨ ∃ b, v'.ownBlock = some b ∧ w.heap.size ≤ b) := by
 obtain ⟨_, hown⟩ := Kd.own_of_R hR
 have fresh : ∀ (W : World) (G : Nat) (cur : Array Value), W.heap[w.heap.size]? = some (.cells cur 3 (0, 0)) → xs.length + 1 ≤ G → G ≤ maxLen → cur.size = G → cur.toList.take (xs.length + 1) = (x :: xs).map (Value.int .i64) →
   Kd.R (Kd.int .i64) 3 W base (fun _ => True) (.slice (some ⟨w.heap.size, 0, none⟩) (xs.length + 1) G) (x :: xs) := fun W G cur h1 h2 h3 h4 h5 =>
  Kd.R_of_own ⟨by simp [encs], .inr ⟨_, G, cur, rfl, hbase, h1, h2, h3, by omega, by simpa [encs] using h5⟩⟩ (fun _ _ => trivial)
 rcases hown with ⟨rfl, h0⟩ | ⟨g, cap, cur, rfl, hg, hgb, hcap, hmax, hsz, htake⟩
 ·
  obtain rfl := List.eq_nil_of_length_eq_zero h0
  refine (insL_end_grow none vb x w (.inl rfl) hv).mono ?_
  rintro e w' ⟨G, ROW, h1, h2, h3, h4, rfl, rfl⟩
  refine ⟨_, rfl, fresh _ G ROW (blk_new w.drew _) h1 h2 h3 h4, ?_, .inr ⟨_, rfl, Nat.le_refl _⟩⟩
  exact World.grownBy.trans (⟨rfl, rfl, rfl, Nat.le_refl _, fun _ _ _ => rfl⟩ : w.grownBy w.drew _) (World.grownBy_alloc w.drew _ _)
 ·
  have hgw : g < w.heap.size := (Array.getElem?_eq_some_iff.1 hgb).1
  have hvg : vb ≠ g := fun e => hne (by rw [e]; rfl)
  have ht2 : cur.toList.take xs.length = xs.map (Value.int .i64) := by simpa [encs] using htake
  have hsz1 : cur.size = cap := by omega
  have grown : ∀ (W : World) (a b : Nat) (us vs : List Value), w.grownBy W (some g) → w.grownBy ((W.setCells g a us).setCells g b vs) (some g) := fun W a b us vs h => by
   obtain ⟨p1, p2, p3, p4⟩ := setCells_same g us a W
   obtain ⟨q1, q2, q3, q4⟩ := setCells_same g vs b (W.setCells g a us)
   exact ⟨by rw [q1, p1, h.os], by rw [q2, p2, h.tape], by rw [q3, p3, h.output], by rw [q4, p4]; exact h.size, fun k hk hkn => by
    have : k ≠ g := fun e => hkn (by rw [e])
    rw [setCells_far vs b k this, setCells_far us a k this]
    exact h.block k hk hkn⟩
  by_cases hn : 0 < xs.length
  ·
   by_cases hroom : xs.length + 1 ≤ cap
   ·
    refine (insL_shift g cap vb xs x cur w hn hroom hmax hvg hgb hsz1 ht2 hv).mono ?_
    rintro e w' ⟨rfl, rfl⟩
    obtain ⟨cur', r1, r2, r3⟩ := insL_row (W := w.drew) xs x hgb hsz1 hroom
    refine ⟨_, rfl, Kd.R_of_own ⟨by simp [encs], .inr ⟨_, cap, cur', rfl, hg, r1, hroom, hmax, by omega, by simpa [encs] using r3⟩⟩ (fun _ _ => trivial), ?_, .inl rfl⟩
    exact grown _ _ _ _ _ ((⟨rfl, rfl, rfl, Nat.le_refl _, fun _ _ _ => rfl⟩ : w.grownBy w.drew _))
   ·
    refine (insL_grow g cap vb xs x cur w hn hcap (by omega) hlen hgb hsz1 ht2 hv).mono ?_
    rintro e w' ⟨G, ROW, h1, h2, h3, rfl, rfl⟩
    rw [drew_setCells]
    obtain ⟨cur', r1, r2, r3⟩ := insL_row2 (W := (w.alloc (.cells ROW 3)).drew.drew) xs x (blk_new w _) h3 h1
    refine ⟨_, rfl, fresh _ G cur' r1 h1 h2 r2 r3, ?_, .inr ⟨_, rfl, Nat.le_refl _⟩⟩
    obtain ⟨p1, p2, p3, p4⟩ := setCells_same w.heap.size [.int .i64 x] 0 (w.alloc (.cells ROW 3)).drew.drew
    obtain ⟨q1, q2, q3, q4⟩ := setCells_same w.heap.size (xs.map (Value.int .i64)) 1 ((w.alloc (.cells ROW 3)).drew.drew.setCells w.heap.size 0 [.int .i64 x])
    have ha := World.grownBy_alloc w (.cells ROW 3) (some g)
    exact ⟨by rw [q1, p1]; exact ha.os, by rw [q2, p2]; exact ha.2, by rw [q3, p3]; exact ha.3, by rw [q4, p4]; exact ha.size, fun k hk hkn => by
     have : k ≠ w.heap.size := by omega
     rw [setCells_far _ _ k this, setCells_far _ _ k this]
     exact ha.block k hk hkn⟩
  ·
   have h0 : xs = [] := List.eq_nil_of_length_eq_zero (by omega)
   subst h0
   by_cases hc : 1 ≤ cap
   ·
    refine (insL_end_room g cap vb x cur w hc hgb hsz1 hv).mono ?_
    rintro e w' ⟨rfl, rfl⟩
    obtain ⟨cur', r1, r2, r3⟩ := setCells_row [.int .i64 x] 0 w cur hgb (by simp; omega)
    refine ⟨_, rfl, Kd.R_of_own ⟨by simp [encs], .inr ⟨_, cap, cur', rfl, hg, r1, hc, hmax, by omega, by rw [r3]; simp [encs]⟩⟩ (fun _ _ => trivial), ?_, .inl rfl⟩
    exact grown w 0 0 [] [.int .i64 x] ⟨rfl, rfl, rfl, Nat.le_refl _, fun _ _ _ => rfl⟩
   ·
    obtain rfl : cap = 0 := by omega
    refine (insL_end_grow (some ⟨g, 0, none⟩) vb x w (.inr ⟨g, rfl⟩) hv).mono ?_
    rintro e w' ⟨G, ROW, h1, h2, h3, h4, rfl, rfl⟩
    refine ⟨_, rfl, fresh _ G ROW (blk_new w.drew _) h1 h2 h3 h4, ?_, .inr ⟨_, rfl, Nat.le_refl _⟩⟩
    exact World.grownBy.trans (⟨rfl, rfl, rfl, Nat.le_refl _, fun _ _ _ => rfl⟩ : w.grownBy w.drew _) (World.grownBy_alloc w.drew _ _)
end


end Go.Proofs.Ytnheknlmmmkbpaa.X

namespace Go.Proofs.Ytnheknlmmmkbpaa.X
open Go.RowKit Go.Proofs.YtnheknlmmmkbpaaW.PrintWords Go.Proofs.YtnheknlmmmkbpaaW.PrintLast Go.Proofs.YtnheknlmmmkbpaaW.PrintMore
attribute [local go_sem] max2_int min2_int max_two min_two max_three min_three max_four min_four   -- for this text's walks alone
set_option linter.unusedVariables false
set_option linter.unusedSimpArgs false

/-! ### lru_list_push: function 54 -/
set_option maxHeartbeats 2000000 in
set_option maxRecDepth 100000 in
/-- push on a list that lies in a variable of its own: it owns x :: xs behind it, and nothing else has turned. -/
theorem push_own (base bp : Nat) (v : Value) (xs : List Int) (x : Int) (w : World) (hp : w.heap[bp]? = some (.cells #[v] 68 (0, 0))) (hR : Kd.R (Kd.int .i64) 3 w base (fun _ => True) v xs) (hlen : xs.length ≤ 1000000) (hbase : base ≤ w.heap.size) :
  Calls Try.prog 54 #[.pointer (some ⟨bp, 0, none⟩), .int .i64 x] w fun e w' => e = .returned (.tuple #[]) ∧ ∃ v', w'.heap[bp]? = some (.cells #[v'] 68 (0, 0)) ∧ Kd.R (Kd.int .i64) 3 w' base (fun _ => True) v' (x :: xs) ∧ (∀ k, k < w.heap.size → k ≠ bp → some k ≠ v.ownBlock → w'.heap[k]? = w.heap[k]?) ∧ w.heap.size ≤ w'.heap.size ∧ (v'.ownBlock = v.ownBlock ∨ ∃ b, v'.ownBlock = some b ∧ w.heap.size ≤ b) ∧ (∀ B, B ≤ w.heap.size → B ≤ bp → (∀ k, v.ownBlock = some k → B ≤ k) → Below B w w') := by
 obtain ⟨B, d, rfl⟩ := Kd.R_slice hR
 have hx0 := (blk_cell hp 0).trans rfl
 have hu72 := Try.underlying68
 have HP := Aside0.mk hp
 have HR := Aside0.mk hR
 clear hp hR
 go_enter Try.func54, Try.ntmps54
 go_wp2_with fail
 have hA := Kd.R_alloc HR.out (.cells #[.int .i64 x] 3)
 refine (insL_front base w.heap.size _ xs x _ hA hlen (blk_new w _) (fun he => by have := own_lt (Kd.own_of_R HR.out) _ he; omega) (by simp; omega)).mono ?_
 rintro e w1 ⟨v', rfl, hR', hg, hat⟩
 obtain ⟨B', d', rfl⟩ := Kd.R_slice hR'
 have hp1 := blk_grown (blk_alloc HP.out (.cells #[.int .i64 x] 3)) hg (Kd.R_ne hA (blk_alloc HP.out _) (by decide))
 have hy0 := (blk_cell hp1 0).trans rfl
 have hf0 := blk_frozen hp1 0
 have P1 := Aside0.mk hp1
 have R1 := Aside0.mk hR'
 have G1 := Aside0.mk hg
 have T1 := Aside0.mk hat
 clear hp1 hR' hg hat hA hx0
 go_wp2
 go_end0
 refine ⟨rfl, _, blk_put P1.out 0 _ rfl, Kd.R_mono (Kd.R_far (p := ⟨bp, 0, none⟩) (Kd.R_types R1.out P1.out (by decide)) (fun _ hk => hk.2) _) (fun _ hk => hk.1), fun k hk hne hnv => ?_, ?_, ?_, fun B hB hBp hBv => ?_⟩
 ·
  rw [Below.heap_setCell _ ⟨bp, 0, none⟩ _ k hne, G1.out.block k (by simp; omega) hnv]
  exact Below.heap_alloc w _ k hk
 ·
  have := G1.out.size
  simp at this ⊢
  omega
 ·
  rcases T1.out with h | ⟨b, h, hb⟩
  ·
   exact .inl h
  ·
   exact .inr ⟨b, h, by simp at hb; omega⟩
 ·
  exact (((Below.refl B w).alloc hB _).grown G1.out (by simp; omega) hBv).setCell (p := ⟨bp, 0, none⟩) hBp _


end Go.Proofs.Ytnheknlmmmkbpaa.X
