/- What Go functions of this seat compute, told as Lean functions, and that each call of the Go code comes to that answer; for a law: its row, for every input. Written by a program of the session. -/
import Derived.Test.YtaofihdmgdpenaaX0
namespace Go.Proofs.Ytaofihdmgdpenaa.X
open Go.RowKit Go.Proofs.YtaofihdmgdpenaaW.PrintWords Go.Proofs.YtaofihdmgdpenaaW.PrintLast Go.Proofs.YtaofihdmgdpenaaW.PrintMore
attribute [local go_sem] max2_int min2_int max_two min_two max_three min_three max_four min_four   -- for this text's walks alone
set_option linter.unusedVariables false
set_option linter.unusedSimpArgs false

/-! ### Maps that the call makes, as functions on plain keys -/
theorem C_at_ {α : Type} {enc : α → Value} {h1 : ∀ x, (enc x).oneCell' = true} {w : World} {A : Option Addr} {n : Nat} {xs : List α} (h : (Kd.scalar enc h1).C w A n xs) (d : α) (i : Nat) (hi : i < n) : ∃ ad, A = some ad ∧ w.cell? (ad.add i) = some (enc (xs.getD i d)) := by
 obtain ⟨ad, c, e, _, hK, hc⟩ := Kd.C_get h d (i : Int) (by omega) (by omega)
 obtain rfl : c = [enc (xs.getD i d)] := by simpa [Kd.scalar] using hK
 exact ⟨ad, e, by simpa [Kd.scalar] using hc 0 _ rfl⟩
theorem plainElem_bool_inv {H : Type} {P : Program} {e : TypeId} (he : P.underlying e = some .bool) {v : Value} {z : DataW H × List MemPlace} (h : plainElem P e v = some z) : ∃ a, v = .bool a ∧ z = (.lit (.bool a), []) := by
 unfold plainElem at h
 rw [he] at h
 cases v <;> simp at h
 exact ⟨_, rfl, h.symm⟩
/-- How plain keys are written as values of the key's type: each has a reading, and different ones are different. -/
structure KeyBy {κ : Type} (P : Program) (K : TypeId) (enc : κ → Value) (ok : κ → Prop) : Prop where
 keyed : Go.Maps.Keyed P K
 key : ∀ x, ok x → ∃ l, keyOf P K (enc x) = some l
 inj : ∀ x y, enc x = enc y → x = y
def litOf {κ : Type} (P : Program) (K : TypeId) (enc : κ → Value) (x : κ) : Lit := (keyOf P K (enc x)).getD (.bool false)
theorem KeyBy.lit {κ : Type} {P : Program} {K : TypeId} {enc : κ → Value} {ok : κ → Prop} (h : KeyBy P K enc ok) {x : κ} (hx : ok x) : keyOf P K (enc x) = some (litOf P K enc x) := by
 obtain ⟨l, hl⟩ := h.key x hx
 rw [hl, litOf, hl]
 rfl
theorem KeyBy.litInj {κ : Type} {P : Program} {K : TypeId} {enc : κ → Value} {ok : κ → Prop} (h : KeyBy P K enc ok) {x y : κ} (hx : ok x) (hy : ok y) (e : litOf P K enc x = litOf P K enc y) : x = y :=
 h.inj _ _ (h.keyed.inj (h.lit hx) (by rw [e]; exact h.lit hy))
/-- How plain elements are written and read. -/
structure ElemBy {α : Type} (P : Program) (E : TypeId) (encE : α → Value) (datE : α → DataW Unit) (z : α) : Prop where
 zero : ∀ w, (zeroValue E).run P w = .ok (encE z) w
 zok : plainElem P E (encE z) = some (datE z, [])
 inv : ∀ (v : Value) (y : DataW Unit × List MemPlace), plainElem P E v = some y → ∃ a, v = encE a ∧ y.1 = datE a
 dinj : ∀ a b, datE a = datE b → a = b
theorem elem_int (P : Program) (E : TypeId) (q : IntKind) (he : P.underlying E = some (.int q)) (hz : ∀ w, (zeroValue E).run P w = .ok (.int q 0) w) : ElemBy P E (fun a : Int => .int q a) (fun a => .lit (.int q a)) 0 where
 zero := hz
 zok := plainElem_int he (by cases q <;> decide)
 inv v y h := by
  obtain ⟨a, rfl, rfl, _⟩ := plainElem_int_inv he h
  exact ⟨a, rfl, rfl⟩
 dinj a b h := by injection h with h; injection h
theorem elem_bool (P : Program) (E : TypeId) (he : P.underlying E = some .bool) (hz : ∀ w, (zeroValue E).run P w = .ok (.bool false) w) : ElemBy P E (fun a : Bool => .bool a) (fun a => .lit (.bool a)) false where
 zero := hz
 zok := plainElem_bool he false
 inv v y h := by
  obtain ⟨a, rfl, rfl⟩ := plainElem_bool_inv he h
  exact ⟨a, rfl, rfl⟩
 dinj a b h := by injection h with h; injection h
/-- Block b is a map of at most n entries that holds g. -/
def MapOf {κ α : Type} (P : Program) (K E : TypeId) (enc : κ → Value) (ok : κ → Prop) (datE : α → DataW Unit) (z : α) (w : World) (b n : Nat) (g : κ → Option α) : Prop :=
 ∃ D : DataW Unit, w.ownsMap P K (plainElem P E) b n D ∧ Go.Maps.IsMap D ∧ ∀ x, ok x → Go.Maps.has D (litOf P K enc x) = (g x).isSome ∧ D.atKey (litOf P K enc x) (datE z) = datE ((g x).getD z)
section
variable {κ α : Type} {P : Program} {K E : TypeId} {enc : κ → Value} {ok : κ → Prop} {encE : α → Value} {datE : α → DataW Unit} {z : α} {w w' : World} {b n : Nat} {g : κ → Option α}
theorem mapOf_made (w : World) : MapOf P K E enc ok datE z (w.alloc (.map #[] 0)) w.heap.size 0 (fun _ => none) :=
 ⟨.map [], World.ownsMap_made _ _ _ _, Go.Maps.isMap_empty, fun _ _ => ⟨rfl, rfl⟩⟩
theorem MapOf.grown (h : MapOf P K E enc ok datE z w b n g) {row : Option Nat} (hg : w.grownBy w' row) (hne : some b ≠ row) : MapOf P K E enc ok datE z w' b n g := by
 obtain ⟨D, h1, h2, h3⟩ := h
 exact ⟨D, h1.kept hg hne, h2, h3⟩
theorem MapOf.below (h : MapOf P K E enc ok datE z w b n g) (hb : Below w.heap.size w w') : MapOf P K E enc ok datE z w' b n g := h.grown (grown_of_below hb none) (by simp)
theorem MapOf.alloc (h : MapOf P K E enc ok datE z w b n g) (o : Obj) : MapOf P K E enc ok datE z (w.alloc o) b n g := h.below (below_alloc (Below.refl _ _) o)
theorem MapOf.drewN (h : MapOf P K E enc ok datE z w b n g) (m : Nat) : MapOf P K E enc ok datE z (w.drewN m) b n g := h.below (pw_below_drewN (Below.refl _ _) m)
theorem MapOf.drew (h : MapOf P K E enc ok datE z w b n g) : MapOf P K E enc ok datE z w.drew b n g := h.below (below_drew (Below.refl _ _))
theorem MapOf.mono (h : MapOf P K E enc ok datE z w b n g) {n' : Nat} (hn : n ≤ n') : MapOf P K E enc ok datE z w b n' g := by
 obtain ⟨D, h1, h2, h3⟩ := h
 exact ⟨D, h1.mono hn, h2, h3⟩
theorem MapOf.lt (h : MapOf P K E enc ok datE z w b n g) : b < w.heap.size := by
 obtain ⟨D, h1, _⟩ := h
 exact h1.lt
variable {ops : Array Oper} {rest : List Oper} {o : Oper} {a : Act} {Q : Exit → Act → World → Prop}
theorem wpList_look (B : KeyBy P K enc ok) (Z : ElemBy P E encE datE z) (hg : o.guard = none) (m k : Operand) (t : TypeId) (hop : o.op = Op.lookup t m k false) (ht : P.underlying t = some (.map K E))
  (hm : a.eval m = .map (some b)) (h : MapOf P K E enc ok datE z w b n g) (x : κ) (hk : a.eval k = enc x) (hx : ok x) (hK : wpList P ops Q rest (a.put o.dst (encE ((g x).getD z))) w) : wpList P ops Q (o :: rest) a w := by
 obtain ⟨D, h1, h2, h3⟩ := h
 refine wpList_plain hg fun K' hK' => ?_
 obtain ⟨v, ps, hrun, hv⟩ := h1.lookup B.keyed ht (Z.zero w) Z.zok (B.lit hx)
 obtain ⟨c, rfl, hc⟩ := Z.inv _ _ hv
 rw [show c = (g x).getD z from Z.dinj _ _ (hc.symm.trans (h3 x hx).2)] at hrun
 unfold Oper.wp
 simp [execOp, hop, hm, hk, hrun, Result.andThen]
 exact hK' _ _ hK
theorem wpList_look_ok (B : KeyBy P K enc ok) (Z : ElemBy P E encE datE z) (hg : o.guard = none) (m k : Operand) (t : TypeId) (hop : o.op = Op.lookup t m k true) (ht : P.underlying t = some (.map K E))
  (hm : a.eval m = .map (some b)) (h : MapOf P K E enc ok datE z w b n g) (x : κ) (hk : a.eval k = enc x) (hx : ok x) (hK : wpList P ops Q rest (a.put o.dst (.tuple #[encE ((g x).getD z), .bool (g x).isSome])) w) : wpList P ops Q (o :: rest) a w := by
 obtain ⟨D, h1, h2, h3⟩ := h
 refine wpList_plain hg fun K' hK' => ?_
 obtain ⟨v, ps, hrun, hv⟩ := h1.look_ok B.keyed ht (Z.zero w) Z.zok (B.lit hx)
 obtain ⟨c, rfl, hc⟩ := Z.inv _ _ hv
 rw [show c = (g x).getD z from Z.dinj _ _ (hc.symm.trans (h3 x hx).2), (h3 x hx).1] at hrun
 unfold Oper.wp
 simp [execOp, hop, hm, hk, hrun, Result.andThen]
 exact hK' _ _ hK
theorem MapOf.put [DecidableEq κ] (B : KeyBy P K enc ok) {D : DataW Unit} (h2 : Go.Maps.IsMap D) (h3 : ∀ x, ok x → Go.Maps.has D (litOf P K enc x) = (g x).isSome ∧ D.atKey (litOf P K enc x) (datE z) = datE ((g x).getD z)) (x : κ) (hx : ok x) (v : α) :
  ∀ y, ok y → Go.Maps.has (D.put (litOf P K enc x) (datE v)) (litOf P K enc y) = (if y = x then some v else g y).isSome ∧ (D.put (litOf P K enc x) (datE v)).atKey (litOf P K enc y) (datE z) = datE ((if y = x then some v else g y).getD z) := by
 intro y hy
 have hk := B.keyed.key (B.lit hx)
 by_cases e : y = x
 ·
  subst e
  rw [if_pos rfl, Go.Maps.has_put_same h2 hk, Go.Maps.atKey_put_same h2 hk]
  exact ⟨rfl, rfl⟩
 ·
  have hne : litOf P K enc y ≠ litOf P K enc x := fun h => e (B.litInj hy hx h)
  rw [if_neg e, Go.Maps.has_put_other hne, Go.Maps.atKey_put_other hne]
  exact h3 y hy
theorem wpList_put [DecidableEq κ] (B : KeyBy P K enc ok) (hg : o.guard = none) (m k v : Operand) (t : TypeId) (hop : o.op = Op.mapUpdate t m k v) (ht : P.underlying t = some (.map K E))
  (hm : a.eval m = .map (some b)) (h : MapOf P K E enc ok datE z w b n g) (hn : n < 9223372036854775807) (x : κ) (y : α) (hk : a.eval k = enc x) (hx : ok x) (ev : Value) (hv : a.eval v = ev) (hy : plainElem P E ev = some (datE y, []))
  (hK : ∀ w', MapOf P K E enc ok datE z w' b (n + 1) (fun q => if q = x then some y else g q) → w.grownBy w' (some b) → wpList P ops Q rest (a.put o.dst undef) w') : wpList P ops Q (o :: rest) a w := by
 obtain ⟨D, h1, h2, h3⟩ := h
 exact wpList_mapUpdate_own w hg m k v t hop K E B.keyed ht _ b n D hm h1 (by unfold maxLen; omega) _ _ _ hk hv (B.lit hx) (datE y) [] hy fun w' r1 r2 => hK w' ⟨_, r1, h2.put _ _, MapOf.put B h2 h3 x hx y⟩ r2
theorem wpList_del [DecidableEq κ] (B : KeyBy P K enc ok) (hg : o.guard = none) (m k : Operand) (t : TypeId) (hop : o.op = Op.call { callee := Callee.builtin Builtin.delete, args := #[m, k], argTypes := #[t, K] }) (ht : P.underlying t = some (.map K E))
  (hm : a.eval m = .map (some b)) (h : MapOf P K E enc ok datE z w b n g) (x : κ) (hk : a.eval k = enc x) (hx : ok x)
  (hK : ∀ w', MapOf P K E enc ok datE z w' b n (fun q => if q = x then none else g q) → w.grownBy w' (some b) → wpList P ops Q rest (a.put o.dst (.tuple #[])) w') : wpList P ops Q (o :: rest) a w := by
 obtain ⟨D, h1, h2, h3⟩ := h
 refine wpList_delete_own w hg m k t K hop E B.keyed ht _ b n D hm h1 _ _ hk (B.lit hx) fun w' r1 r2 => hK w' ⟨_, r1, ?_, fun y hy => ?_⟩ r2.grown
 ·
  obtain ⟨es, rfl⟩ := h2
  exact ⟨_, rfl⟩
 ·
  by_cases e : y = x
  ·
   subst e
   dsimp only
   rw [if_pos rfl, Go.Maps.has_del_same, Go.Maps.atKey_del_same]
   exact ⟨rfl, rfl⟩
  ·
   have hne : litOf P K enc y ≠ litOf P K enc x := fun h => e (B.litInj hy hx h)
   dsimp only
   rw [if_neg e, Go.Maps.has_del_other hne, Go.Maps.atKey_del_other hne]
   exact h3 y hy
end
theorem key_int (P : Program) (K : TypeId) (q : IntKind) (hk : P.underlying K = some (.int q)) : KeyBy P K (fun a : Int => .int q a) (fun a => (Lit.int q a).wf = true) where
 keyed := Go.Maps.int_keyed hk
 key x hx := ⟨_, Go.Maps.keyOf_int_mk hk hx⟩
 inj x y h := by injection h


end Go.Proofs.Ytaofihdmgdpenaa.X
