/- What Go functions of this seat compute, told as Lean functions, and that each call of the Go code comes to that answer; for a law: its row, for every input. Written by a program of the session. -/
import Derived.Test.YtfnhoncpaheejaaX0
namespace Go.Proofs.Ytfnhoncpaheejaa.X
open Go.RowKit Go.Proofs.YtfnhoncpaheejaaW.PrintWords Go.Proofs.YtfnhoncpaheejaaW.PrintLast Go.Proofs.YtfnhoncpaheejaaW.PrintMore
attribute [local go_sem] max2_int min2_int max_two min_two max_three min_three max_four min_four   -- for this text's walks alone
set_option linter.unusedVariables false
set_option linter.unusedSimpArgs false

/-! ### What came in, told by its kind -/
/-- Whatever is read at the type t is of the kind d, and fits. -/
def Down (P : Program) (t : TypeId) {α : Type} (d : Kd α) (W : α → Prop) : Prop :=
 ∀ {H : Type} (enc : TypeId × Value → H) (w : World) (base : Nat) (sp : Nat → Bool) (held : Bool) (fuel : Nat) (cs : List Value) (x : DataW H × List MemPlace), DataW.trod enc P w base sp held fuel t cs = some x → ∃ a, d.K w a cs ∧ W a
/-- The same of the fields from a place on. -/
def DownF (P : Program) (N : Nat) (fs : List Field) (off : Nat) {α : Type} (d : Kd α) (W : α → Prop) : Prop :=
 ∀ {H : Type} (enc : TypeId × Value → H) (w : World) (base : Nat) (sp : Nat → Bool) (held : Bool) (fuel : Nat) (cs : List Value) (xs : List (DataW H × List MemPlace)), cs.length = N →
  (fs.mapM fun f => DataW.trod enc P w base sp held fuel f.type ((cs.drop f.offset).take (P.cellsOf f.type))) = some xs → ∃ a, d.K w a (cs.drop off) ∧ W a
section
variable {P : Program}
theorem down_int {t : TypeId} {k : IntKind} (ht : P.underlying t = some (.int k)) : Down P t (Kd.int k) (fun n => (Lit.int k n).wf = true) := by
 intro H enc w base sp held fuel cs x h
 cases fuel with
 | zero => simp [DataW.trod] at h
 | succ fuel =>
  unfold DataW.trod at h
  rw [ht] at h
  match cs with
  | [.int k' n] =>
   simp only at h
   by_cases c : k' = k ∧ (Lit.int k n).wf = true
   ·
    obtain ⟨rfl, hw⟩ := c
    exact ⟨n, rfl, hw⟩
   ·
    rw [if_neg c] at h; cases h
  | [] => simp at h
  | [.bool _] | [.float _ _] | [.string _] | [.pointer _] | [.slice _ _ _] | [.map _] | [.chan _] | [.func _ _ _] | [.agg _] | [.tuple _] | [.nilIface] | [.iface _ _] | [.nilFunc] => simp at h
  | _ :: _ :: _ => simp at h
theorem down_bool {t : TypeId} (ht : P.underlying t = some .bool) : Down P t Kd.bool (fun _ => True) := by
 intro H enc w base sp held fuel cs x h
 cases fuel with
 | zero => simp [DataW.trod] at h
 | succ fuel =>
  unfold DataW.trod at h
  rw [ht] at h
  match cs with
  | [.bool b] => exact ⟨b, rfl, trivial⟩
  | [] => simp at h
  | [.int _ _] | [.float _ _] | [.string _] | [.pointer _] | [.slice _ _ _] | [.map _] | [.chan _] | [.func _ _ _] | [.agg _] | [.tuple _] | [.nilIface] | [.iface _ _] | [.nilFunc] => simp at h
  | _ :: _ :: _ => simp at h
theorem down_slice {t e : TypeId} {α : Type} {d : Kd α} {W : α → Prop} (ht : P.underlying t = some (.slice e)) (hc : P.cellsOf e = d.sz) (he : Down P e d W) : Down P t (Kd.slice e d) (fun l => l.length ≤ maxLen ∧ ∀ x ∈ l, W x) := by
 intro H enc w base sp held fuel cs x h
 rcases Go.Deep.open_slice ht h with ⟨rfl, rfl⟩ | ⟨a, len, cap, m, n, D, Pl, rfl, hb, hl, hm, hmm, rfl, hx⟩
 ·
  exact ⟨[], ⟨none, 0, rfl, Nat.le_refl _, Kd.C_nil _ _⟩, by simp [maxLen], fun x hx => by cases hx⟩
 ·
  have hlm : len ≤ m := by rw [hmm]; split <;> omega
  have each : ∀ i : Fin len, ∃ q : α × List Value, d.K w q.1 q.2 ∧ W q.1 ∧ w.cells? base (a.add (i.val * P.cellsOf e)) (P.cellsOf e) = some q.2 := fun i => by
   obtain ⟨cs', h1, h2⟩ := hx i.val (by omega)
   obtain ⟨y, h3, h4⟩ := he enc w base sp held n cs' _ h2
   exact ⟨(y, cs'), h3, h4, h1⟩
  let f : Fin len → α := fun i => (Classical.choose (each i)).1
  have hf := fun i => Classical.choose_spec (each i)
  refine ⟨List.ofFn f, ⟨some a, cap, by simp, by simpa using hl, ?_⟩, by simp; omega, fun x hx => ?_⟩
  ·
   refine ⟨rfl, by simp; unfold maxLen at hm; omega, fun _ => ⟨a, rfl, fun j p hj => ?_⟩⟩
   have hjl : j < len := by have := (List.getElem?_eq_some_iff.1 hj).1; simpa using this
   have hp : f ⟨j, hjl⟩ = p := by
    rw [List.getElem?_ofFn] at hj
    simpa [hjl] using hj
   obtain ⟨h1, h2, h3⟩ := hf ⟨j, hjl⟩
   obtain ⟨_, hlen, hcell⟩ := World.cells?_some h3
   refine ⟨(Classical.choose (each ⟨j, hjl⟩)).2, by rw [hlen, hc], by rw [← hp]; exact h1, fun i u hi => ?_⟩
   have hi2 := (List.getElem?_eq_some_iff.1 hi).1
   have := hcell i (by omega)
   rw [Go.Deep.add_add] at this
   rw [← hc]
   exact this.trans hi
  ·
   obtain ⟨i, rfl⟩ := List.mem_ofFn.1 hx
   exact (hf i).2.1
theorem downF_one {N off : Nat} {f : Field} {α : Type} {d : Kd α} {W : α → Prop} (ho : f.offset = off) (hc : P.cellsOf f.type = d.sz) (hN : off + d.sz = N) (h : Down P f.type d W) : DownF P N [f] off d W := by
 intro H enc w base sp held fuel cs xs hl hx
 rw [List.mapM_cons] at hx
 simp only [Option.bind_eq_bind, Option.bind_eq_some_iff] at hx
 obtain ⟨x, h1, _⟩ := hx
 rw [ho, hc, List.take_of_length_le (by rw [List.length_drop]; omega)] at h1
 exact h enc w base sp held fuel _ _ h1
theorem downF_cons {N off : Nat} {f : Field} {fs : List Field} {α β : Type} {d : Kd α} {W : α → Prop} {d2 : Kd β} {W2 : β → Prop} (ho : f.offset = off) (hc : P.cellsOf f.type = d.sz) (h : Down P f.type d W) (h2 : DownF P N fs (off + d.sz) d2 W2) : DownF P N (f :: fs) off (Kd.pair d d2) (fun x => W x.1 ∧ W2 x.2) := by
 intro H enc w base sp held fuel cs xs hl hx
 rw [List.mapM_cons] at hx
 simp only [Option.bind_eq_bind, Option.bind_eq_some_iff] at hx
 obtain ⟨x, h3, ys, h4, _⟩ := hx
 rw [ho, hc] at h3
 obtain ⟨a, ha, hw⟩ := h enc w base sp held fuel _ _ h3
 obtain ⟨b, hb, hw2⟩ := h2 enc w base sp held fuel cs ys hl h4
 refine ⟨(a, b), ⟨(cs.drop off).take d.sz, cs.drop (off + d.sz), ?_, ha, hb⟩, hw, hw2⟩
 rw [← List.drop_drop, List.take_append_drop]
theorem down_struct {t : TypeId} {fs : Array Field} {α β : Type} {d : Kd α} {W : α → Prop} (ht : P.underlying t = some (.struct fs)) (f : β → α) (g : α → β) (hfg : ∀ a, f (g a) = a) (h : DownF P (P.cellsOf t) fs.toList 0 d W) : Down P t (Kd.iso d f) (fun x => W (f x)) := by
 intro H enc w base sp held fuel cs x hx
 cases fuel with
 | zero => simp [DataW.trod] at hx
 | succ fuel =>
  unfold DataW.trod at hx
  rw [ht] at hx
  simp only at hx
  by_cases c : cs.length = P.cellsOf t
  ·
   rw [if_pos c] at hx
   obtain ⟨xs, h1, _⟩ := Option.map_eq_some_iff.1 hx
   obtain ⟨a, h2, h3⟩ := h enc w base sp held fuel cs xs c h1
   exact ⟨g a, by show d.K w (f (g a)) cs; rw [hfg]; simpa using h2, by show W (f (g a)); rw [hfg]; exact h3⟩
  ·
   rw [if_neg c] at hx; cases hx
/-- A slice that came in. -/
theorem down_arg {t e : TypeId} {α : Type} {d : Kd α} {W : α → Prop} (ht : P.underlying t = some (.slice e)) (hd : Down P t (Kd.slice e d) (fun l => l.length ≤ maxLen ∧ ∀ x ∈ l, W x)) {H : Type} {enc : TypeId × Value → H} {w : World} {base : Nat} {sp : Nat → Bool} {held : Bool} {r : Reach} {b0 : Nat} {v : Value} {x : DataW H} {ps : List MemPlace}
  (hv : Value.okWide P w r b0 t v) (h : DataW.Trod enc P w base sp held t v x ps) : ∃ (A : Option Addr) (c : Nat) (l : List α), v = .slice A l.length c ∧ l.length ≤ c ∧ d.C w A l.length l ∧ l.length ≤ maxLen ∧ ∀ x ∈ l, W x := by
 obtain ⟨A, len, cap, rfl⟩ := Go.WideShapes.okWide_slice ht hv
 obtain ⟨fuel, hf⟩ := h
 obtain ⟨l, ⟨A', c', h1, h2, h3⟩, h4, h5⟩ := hd enc w base sp held fuel _ _ hf
 simp [Value.cells] at h1
 obtain ⟨rfl, rfl, rfl⟩ := h1
 exact ⟨A, cap, l, rfl, h2, h3, h4, h5⟩
/-- A struct that came in. -/
theorem down_agg {t : TypeId} {fs : Array Field} {α : Type} {d : Kd α} {W : α → Prop} (ht : P.underlying t = some (.struct fs)) (hd : Down P t d W) {H : Type} {enc : TypeId × Value → H} {w : World} {base : Nat} {sp : Nat → Bool} {held : Bool} {r : Reach} {b0 : Nat} {v : Value} {x : DataW H} {ps : List MemPlace}
  (hv : Value.okWide P w r b0 t v) (h : DataW.Trod enc P w base sp held t v x ps) : ∃ (cs : List Value) (a : α), v = .agg cs.toArray ∧ d.K w a cs ∧ W a := by
 unfold Value.okWide at hv
 rw [ht] at hv
 obtain ⟨cs, rfl, _, _⟩ := hv
 obtain ⟨fuel, hf⟩ := h
 obtain ⟨a, h1, h2⟩ := hd enc w base sp held fuel _ _ hf
 exact ⟨cs.toList, a, by simp, by simpa [Value.cells] using h1, h2⟩
end


end Go.Proofs.Ytfnhoncpaheejaa.X
