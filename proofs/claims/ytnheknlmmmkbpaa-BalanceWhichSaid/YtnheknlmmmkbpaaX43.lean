/- What Go functions of this seat compute, told as Lean functions, and that each call of the Go code comes to that answer; for a law: its row, for every input. Written by a program of the session. -/
import Derived.Test.YtnheknlmmmkbpaaX0
import Derived.Test.YtnheknlmmmkbpaaX26
import Derived.Test.YtnheknlmmmkbpaaX2
namespace Go.Proofs.Ytnheknlmmmkbpaa.X
open Go.RowKit Go.Proofs.YtnheknlmmmkbpaaW.PrintWords Go.Proofs.YtnheknlmmmkbpaaW.PrintLast Go.Proofs.YtnheknlmmmkbpaaW.PrintMore
attribute [local go_sem] max2_int min2_int max_two min_two max_three min_three max_four min_four   -- for this text's walks alone
set_option linter.unusedVariables false
set_option linter.unusedSimpArgs false

/-! ### headgatekit_OwnLists: function 23 -/
/-! ### A region of open order whose operations make memory at most: each operation is shown once, in any world that has grown -/
/-- What is known of a value, and stays known when the world grows. -/
structure PFact where
 p : Value → World → Prop
 stays : ∀ v w w', p v w → Below w.heap.size w w' → p v w'
def litF (x : Value) : PFact := ⟨fun v _ => v = x, fun _ _ _ h _ => h⟩
def IsRow {α : Type} (d : Kd α) (l : List α) (v : Value) (w : World) : Prop := ∃ (A : Option Addr) (c : Nat), v = .slice A l.length c ∧ l.length ≤ c ∧ d.C w A l.length l
theorem IsRow.below {α : Type} {d : Kd α} {l : List α} {v : Value} {w w' : World} (h : IsRow d l v w) (hb : Below w.heap.size w w') : IsRow d l v w' := by
 obtain ⟨A, c, rfl, h1, h2⟩ := h
 exact ⟨A, c, rfl, h1, Kd.C_below h2 hb⟩
theorem IsRow.of {α : Type} {d : Kd α} {l : List α} {v : Value} {w : World} {e base : Nat} {ok : Nat → Prop} (h : d.R e w base ok v l) : IsRow d l v w := by
 obtain ⟨A, c, rfl⟩ := Kd.R_slice h
 exact ⟨A, c, rfl, (Kd.R_reads' h).2.1, (Kd.R_reads' h).2.2⟩
def rowF {α : Type} (d : Kd α) (l : List α) : PFact := ⟨IsRow d l, fun _ _ _ h hb => h.below hb⟩
/-- Cells one after the other, from an address on. -/
def atCells (p : Addr) : Nat → List Value → World → Prop
 | _, [], _ => True
 | 0, c :: cs, w => w.cell? p = some c ∧ atCells p 1 cs w
 | n + 1, c :: cs, w => w.cell? ⟨p.block, p.off + (n + 1), none⟩ = some c ∧ atCells p (n + 2) cs w
theorem atCells_stays {p : Addr} : ∀ {n : Nat} {cs : List Value} {w w' : World}, atCells p n cs w → Below w.heap.size w w' → atCells p n cs w'
 | _, [], _, _, _, _ => trivial
 | 0, _ :: _, _, _, h, hb => ⟨pw_cell_below hb h.1, atCells_stays h.2 hb⟩
 | _ + 1, _ :: _, _, _, h, hb => ⟨pw_cell_below hb h.1, atCells_stays h.2 hb⟩
def elemF (cs : List Value) : PFact := ⟨fun v w => ∃ p, v = .pointer (some p) ∧ atCells p 0 cs w, fun _ _ _ h hb => by obtain ⟨p, e, h⟩ := h; exact ⟨p, e, atCells_stays h hb⟩⟩
def aggP : List PFact → List Value → World → Prop
 | [], vs, _ => vs = []
 | f :: fs, vs, w => ∃ v r, vs = v :: r ∧ f.p v w ∧ aggP fs r w
theorem aggP_stays : ∀ (fs : List PFact) (vs : List Value) (w w' : World), aggP fs vs w → Below w.heap.size w w' → aggP fs vs w'
 | [], _, _, _, h, _ => h
 | f :: fs, _, w, w', ⟨v, r, e, h1, h2⟩, hb => ⟨v, r, e, f.stays v w w' h1 hb, aggP_stays fs r w w' h2 hb⟩
def aggF (fs : List PFact) : PFact := ⟨fun v w => ∃ vs, v = .agg vs.toArray ∧ aggP fs vs w, by rintro v w w' ⟨vs, e, h⟩ hb; exact ⟨vs, e, aggP_stays fs vs _ _ h hb⟩⟩
def tupF (fs : List PFact) : PFact := ⟨fun v w => ∃ vs, v = .tuple vs.toArray ∧ aggP fs vs w, by rintro v w w' ⟨vs, e, h⟩ hb; exact ⟨vs, e, aggP_stays fs vs _ _ h hb⟩⟩
def selOf (ds : List Tmp) (vals : Nat → Value) : List (Nat × Tmp × Value) := ds.zipIdx.map fun e => (e.2, e.1, vals e.2)
theorem selOf_length (ds : List Tmp) (vals : Nat → Value) : (selOf ds vals).length = ds.length := by simp [selOf]
theorem selOf_get (ds : List Tmp) (vals : Nat → Value) (i : Nat) : (selOf ds vals)[i]? = ds[i]?.map fun t => (i, t, vals i) := by
 simp only [selOf, List.getElem?_map, List.getElem?_zipIdx]
 cases ds[i]? <;> simp
theorem selOf_mem {ds : List Tmp} {vals : Nat → Value} {e : Nat × Tmp × Value} (h : e ∈ selOf ds vals) : ds[e.1]? = some e.2.1 := by
 obtain ⟨k, hk⟩ := List.mem_iff_getElem?.1 h
 rw [selOf_get] at hk
 obtain ⟨t, h1, h2⟩ := Option.map_eq_some_iff.1 hk
 subst h2
 exact h1
theorem selOf_set (ds : List Tmp) (vals : Nat → Value) (i : Nat) (t : Tmp) (v : Value) (hi : ds[i]? = some t) : (selOf ds vals).set i (i, t, v) = selOf ds (fun j => if j = i then v else vals j) := by
 apply List.ext_getElem?
 intro j
 by_cases hij : i = j
 ·
  subst hij
  have hl : i < (selOf ds vals).length := by rw [selOf_length]; exact (List.getElem?_eq_some_iff.1 hi).1
  rw [List.getElem?_set_self hl, selOf_get, hi]
  simp
 ·
  rw [List.getElem?_set_ne hij, selOf_get, selOf_get]
  simp [Ne.symm hij]
section
variable {P : Program} {ops : Array Oper} {Q : Exit → Act → World → Prop} {md : Region.Mode} {T : Bool × List (List Nat × List Nat)} {B : List Nat}
/-- What is asked of operation i, in any world that has grown. -/
def OpLaw (P : Program) (ops : Array Oper) (Q : Exit → Act → World → Prop) (B : List Nat) (ds : List Tmp) (F : List PFact) (a0 : Act) (w0 : World) (i : Nat) : Prop :=
 ∀ (a : Act) (w : World), Below w0.heap.size w0 w → (∀ t, ds.contains t = false → a.tmps[t]? = a0.tmps[t]?) →
  (∀ (j : Nat) (t : Tmp) (f : PFact), (B.getD i 0).testBit j = true → ds[j]? = some t → F[j]? = some f → ∃ v, a.tmps[t]? = some v ∧ f.p v w) →
  ∃ oi, ops[i]? = some oi ∧ ∀ K : Act → World → Prop, Shut (∀ (v : Value) (w' : World) (f : PFact), F[i]? = some f → f.p v w' → Below w.heap.size w w' → K (a.put oi.dst v) w') → if Region.wanted oi (yielded ops a.tmps) = true then Oper.wp P oi a w K Q else K (a.put oi.dst undef) w
/-- The numbers and the destinations of a region, looked through. -/
def selOk (ops : Array Oper) (ds : List Tmp) (n : Nat) : Bool := ds.length == n && decide ds.Nodup && (List.range n).all fun i => match ops[i]?, ds[i]? with
 | some o, some t => o.dst == some t
 | _, _ => false
theorem selOk_dst {ds : List Tmp} {n i : Nat} {o : Oper} {t : Tmp} (h : selOk ops ds n = true) (ho : ops[i]? = some o) (ht : ds[i]? = some t) : o.dst = some t := by
 simp only [selOk, Bool.and_eq_true] at h
 have hi : i < n := by
  have := (List.getElem?_eq_some_iff.1 ht).1
  have h2 := beq_iff_eq.1 h.1.1
  omega
 have := List.all_eq_true.1 h.2 i (List.mem_range.2 hi)
 rw [ho, ht] at this
 simpa using this
theorem nodup_get {ds : List Tmp} (h : ds.Nodup) {i j : Nat} {t : Tmp} (hi : ds[i]? = some t) (hj : ds[j]? = some t) : i = j := by
 obtain ⟨h1, e1⟩ := List.getElem?_eq_some_iff.1 hi
 obtain ⟨h2, e2⟩ := List.getElem?_eq_some_iff.1 hj
 exact (List.getElem_inj h).1 (e1.trans e2.symm)
theorem shut_region {l : Array Bool} {fuel : Nat} {a : Act} {w : World} (n : Nat) (ds : List Tmp) (F : List PFact) (hT : rtab md ops = T) (hw : waitsOk T.2 B = true) (hk : baseOk T.2 (List.range n) = true)
  (hl : (lof T.2.length (List.range n) (fun _ => false) == l.toList && (List.range n).length == fuel) = true) (hsel : selOk ops ds n = true) (hF : F.length = n) (hsz : (ds.all fun t => decide (t < a.tmps.size)) = true)
  (hs : ∀ i ∈ List.range n, OpLaw P ops Q B ds F a w i)
  (hend : ∀ (vals : Nat → Value) (w' : World), Below w.heap.size w w' → (∀ (i : Nat) (f : PFact), F[i]? = some f → f.p (vals i) w') → Q .normal (putSel a (fun _ => true) (selOf ds vals)) w') :
  wpAnyLast P md ops Q (fun _ => True) [] fuel l a w := by
 have hlen : ds.length = n := by
  simp only [selOk, Bool.and_eq_true] at hsel
  exact beq_iff_eq.1 hsel.1.1
 have hnd : ds.Nodup := by
  simp only [selOk, Bool.and_eq_true] at hsel
  simpa using hsel.1.2
 refine inv_ (List.range n) (fun b a' w' => Below w.heap.size w w' ∧ ∃ vals : Nat → Value, a' = putSel a b (selOf ds vals) ∧ ∀ (i : Nat) (f : PFact), b i = true → F[i]? = some f → f.p (vals i) w') hT hw hk hl ?_ ?_ ?_
 ·
  refine ⟨Below.refl _ _, fun _ => undef, ?_, fun i f h => by cases h⟩
  have : ∀ L : List (Nat × Tmp × Value), putSel a (fun _ => false) L = a := by
   intro L
   induction L with
   | nil => rfl
   | cons e r ih => unfold putSel; rw [if_neg (by decide)]; exact ih
  exact (this _).symm
 ·
  intro i hi b a' w' ⟨hB, vals, ha, hv⟩ hbi hon hoff
  have hin : i < n := List.mem_range.1 hi
  obtain ⟨ti, hti⟩ : ∃ t, ds[i]? = some t := ⟨ds[i]'(by omega), List.getElem?_eq_getElem (by omega)⟩
  obtain ⟨oi, hoi, hK⟩ := hs i hi a' w' hB (fun t ht => by
   rw [ha]
   refine putSel_off (List.all_eq_true.2 fun e he => ?_)
   have h1 := selOf_mem he
   have h2 : e.2.1 ≠ t := by
    rintro rfl
    have := List.mem_of_getElem? h1
    simp [List.contains_iff_mem, this] at ht
   simpa using h2) (fun j t f hj ht hf => by
   have hjn : j < n := by have := (List.getElem?_eq_some_iff.1 ht).1; omega
   have hbj := hon j (by rw [hj, Bool.and_true, List.contains_iff_mem]; exact List.mem_range.2 hjn)
   refine ⟨vals j, ?_, hv j f hbj hf⟩
   rw [ha]
   have hts : t < a.tmps.size := by simpa using List.all_eq_true.1 hsz t (List.mem_of_getElem? ht)
   refine putSel_on (e := (j, t, vals j)) j (by rw [selOf_get, ht]; rfl) (List.all_eq_true.2 fun e he => ?_) hbj (Nat.ble_eq_true_of_le hts)
   obtain ⟨k, hk⟩ := List.mem_iff_getElem?.1 he
   rw [List.getElem?_drop, selOf_get] at hk
   obtain ⟨t', h1, h2⟩ := Option.map_eq_some_iff.1 hk
   subst h2
   have : t' ≠ t := by
    rintro rfl
    have := nodup_get hnd h1 ht
    omega
   simpa using this)
  refine ⟨oi, hoi, fun K hKK => hK K (show Shut _ from fun v w2 f hf hp hb2 => hKK.out _ _ ⟨below_then hB hB.size hb2, fun j => if j = i then v else vals j, ?_, fun j g hj hg => ?_⟩)⟩
  ·
   rw [selOk_dst hsel hoi hti, ha]
   rw [← selOf_set ds vals i ti v hti]
   refine putSel_upk i hbi (by rw [selOf_get, hti]; rfl) rfl (List.all_eq_true.2 fun e he => ?_)
   have key : ∀ k, k ≠ i → (selOf ds vals)[k]? = some e → (!(e.1 == i) && !(e.2.1 == ti)) = true := by
    intro k hki hk
    rw [selOf_get] at hk
    obtain ⟨t', h1, h2⟩ := Option.map_eq_some_iff.1 hk
    subst h2
    have : t' ≠ ti := by
     rintro rfl
     exact hki (nodup_get hnd h1 hti)
    simp [hki, this]
   rcases List.mem_append.1 he with h | h
   ·
    obtain ⟨k, hk⟩ := List.mem_iff_getElem?.1 h
    rw [List.getElem?_take] at hk
    by_cases hki : k < i
    ·
     rw [if_pos hki] at hk
     exact key k (by omega) hk
    ·
     rw [if_neg hki] at hk
     cases hk
   ·
    obtain ⟨k, hk⟩ := List.mem_iff_getElem?.1 h
    rw [List.getElem?_drop] at hk
    exact key (i + 1 + k) (by omega) hk
  ·
   by_cases hji : j = i
   ·
    subst hji
    dsimp only
    rw [if_pos rfl]
    rw [hf] at hg
    cases hg
    exact hp
   ·
    dsimp only
    rw [if_neg hji]
    rw [up_ne hji] at hj
    exact g.stays _ _ _ (hv j g hj hg) hb2
 ·
  intro b a' w' hall ⟨hB, vals, ha, hv⟩
  have hbt : ∀ j, j < n → b j = true := fun j hj => hall j (by simp [hj])
  have h1 : ∀ L : List (Nat × Tmp × Value), (∀ e ∈ L, b e.1 = true) → ∀ a1, putSel a1 b L = putSel a1 (fun _ => true) L := by
   intro L
   induction L with
   | nil => intro _ a1; rfl
   | cons e r ih =>
    intro hL a1
    unfold putSel
    rw [if_pos (hL e (by simp)), if_pos rfl]
    exact ih (fun e he => hL e (by simp [he])) _
  rw [ha, h1 _ (fun e he => hbt _ (by have := (List.getElem?_eq_some_iff.1 (selOf_mem he)).1; omega))]
  exact hend vals w' hB (fun i f hf => hv i f (hbt i (by have := (List.getElem?_eq_some_iff.1 hf).1; omega)) hf)
theorem opLaws_nil {I : Nat → Prop} : ∀ i ∈ ([] : List Nat), I i := fun _ h => by cases h
end
theorem opLaws_cons {I : Nat → Prop} {i : Nat} {rs : List Nat} (h : I i) (hs : ∀ j ∈ rs, I j) : ∀ j ∈ i :: rs, I j := fun j hj => by
 rcases List.mem_cons.1 hj with rfl | hj
 ·
  exact h
 ·
  exact hs j hj
/-- The whole region, its draw ahead. -/
theorem shut_code {P : Program} {ops : Array Oper} {Q : Exit → Act → World → Prop} {T : Bool × List (List Nat × List Nat)} {B : List Nat} {id : Nat} {a : Act} {w : World} (n : Nat) (ds : List Tmp) (F : List PFact) (hm : P.follows .mixedOrders = true) (hn : ops.size = n)
  (hT : rtab .any ops = T) (hw : waitsOk T.2 B = true) (hk : baseOk T.2 (List.range n) = true) (hl : (lof T.2.length (List.range n) (fun _ => false) == List.replicate n false && (List.range n).length == n) = true) (hsel : selOk ops ds n = true) (hF : F.length = n) (hsz : (ds.all fun t => decide (t < a.tmps.size)) = true)
  (hs : ∀ i ∈ List.range n, OpLaw P ops Q B ds F a w i)
  (hend : ∀ (vals : Nat → Value) (w' : World), Below w.heap.size w w' → (∀ (i : Nat) (f : PFact), F[i]? = some f → f.p (vals i) w') → Q .normal (putSel a (fun _ => true) (selOf ds vals)) w') :
  (Code.region id ops true).wp P Q a w := by
 have hbd : Below w.heap.size w w.drew := below_drew (Below.refl _ _)
 refine start_ (S := fun _ => True) (ds := []) (Array.replicate n false) hm hn rfl trivial (fun _ => ?_)
 refine shut_region n ds F hT hw hk (by rw [Array.toList_replicate]; exact hl) hsel hF hsz (fun i hi a' w' hB => hs i hi a' w' (below_then hbd hbd.size hB)) (fun vals w' hB => hend vals w' (below_then hbd hbd.size hB))
theorem blk_newb (w : World) (o : Obj) (b : Nat) (hb : b = w.heap.size) : (w.alloc o).heap[b]? = some o := by
 subst hb
 exact blk_new w o
theorem drawn_below {w w' : World} (h : Drawn0 w w') : Below w.heap.size w w' := by
 obtain ⟨n, rfl⟩ := h.out
 exact pw_below_drewN (Below.refl _ _) n

/-! ### A region of open order with a forced end: its first operations in any order, each shown once; behind them the others one by one -/
/-- A row of the call's own. -/
def ownF {α : Type} (d : Kd α) (e base : Nat) (l : List α) : PFact := ⟨fun v w => d.R e w base (fun _ => True) v l, fun _ _ _ h hb => Kd.R_below h hb⟩
def atF (p : World → Prop) (hp : ∀ w w', p w → Below w.heap.size w w' → p w') (x : Value) : PFact := ⟨fun v w => v = x ∧ p w, fun _ _ _ h hb => ⟨h.1, hp _ _ h.2 hb⟩⟩
section
variable {P : Program} {ops : Array Oper} {Q : Exit → Act → World → Prop} {md : Region.Mode} {T : Bool × List (List Nat × List Nat)} {B : List Nat}
def tailOk (P : Program) (ops : Array Oper) (Q : Exit → Act → World → Prop) : List Oper → Act → World → Prop
 | [], a, w => Q .normal a w
 | o :: rest, a, w => ∀ K : Act → World → Prop, Shut (∀ a' w', tailOk P ops Q rest a' w' → K a' w') → if Region.wanted o (yielded ops a.tmps) = true then Oper.wp P o a w K Q else K (a.put o.dst undef) w
theorem tail_value {o : Oper} {rest : List Oper} {N : Option Tmp} {a a' : Act} {w w1 : World} {v : Value} (hw : Region.wanted o (yielded ops a.tmps) = true) (hN : o.dst = N) (hrun : (execOp a.eval o).run P w = .ok (.value v) w1) (ha : a.put N v = a') (h : tailOk P ops Q rest a' w1) : tailOk P ops Q (o :: rest) a w := by
 subst ha
 subst hN
 exact fun K hK => value_ hw rfl hrun (hK.out _ _ h)
theorem tail_skip {o : Oper} {rest : List Oper} {a : Act} {w w1 : World} (hw : Region.wanted o (yielded ops a.tmps) = true) (hN : o.dst = none) (hrun : (execOp a.eval o).run P w = .ok .skip w1) (h : tailOk P ops Q rest a w1) : tailOk P ops Q (o :: rest) a w := by
 intro K hK
 rw [hN]
 exact skip_ hw hN hrun (hK.out _ _ h)
theorem tail_nil {a : Act} {w : World} (h : Q .normal a w) : tailOk P ops Q [] a w := h
theorem shut_region_tail {l : Array Bool} {fuel : Nat} {a : Act} {w : World} (n m : Nat) (ds : List Tmp) (F : List PFact) (hmn : m ≤ n) (hn : ops.size = n) (hT : rtab md ops = T) (hw : waitsOk T.2 B = true) (hk : baseOk T.2 (List.range n) = true)
  (hl : (lof T.2.length (List.range n) (fun _ => false) == l.toList && (List.range n).length == fuel) = true) (hsel : selOk ops ds m = true) (hF : F.length = m) (hsz : (ds.all fun t => decide (t < a.tmps.size)) = true)
  (htl : (((List.range n).drop m).all fun i => (List.range i).all fun j => (B.getD i 0).testBit j) = true)
  (hs : ∀ i ∈ List.range m, OpLaw P ops Q B ds F a w i)
  (hend : ∀ (vals : Nat → Value) (w' : World), Below w.heap.size w w' → (∀ (i : Nat) (f : PFact), F[i]? = some f → f.p (vals i) w') → tailOk P ops Q (ops.toList.drop m) (putSel a (fun _ => true) (selOf ds vals)) w') :
  wpAnyLast P md ops Q (fun _ => True) [] fuel l a w := by
 have hlen : ds.length = m := by
  simp only [selOk, Bool.and_eq_true] at hsel
  exact beq_iff_eq.1 hsel.1.1
 have hnd : ds.Nodup := by
  simp only [selOk, Bool.and_eq_true] at hsel
  simpa using hsel.1.2
 have htl' : ∀ i, m ≤ i → i < n → ∀ j, j < i → (B.getD i 0).testBit j = true := by
  intro i h1 h2 j hj
  have h3 := List.all_eq_true.1 htl i (by
   rw [List.mem_drop_iff_getElem]
   exact ⟨i - m, by simp; omega, by simp; omega⟩)
  exact List.all_eq_true.1 h3 j (List.mem_range.2 hj)
 have hall : ∀ (b : Nat → Bool), (∀ j, j < m → b j = true) → ∀ (vals : Nat → Value) (a1 : Act), putSel a1 b (selOf ds vals) = putSel a1 (fun _ => true) (selOf ds vals) := by
  intro b hb vals
  have h1 : ∀ L : List (Nat × Tmp × Value), (∀ e ∈ L, b e.1 = true) → ∀ a1, putSel a1 b L = putSel a1 (fun _ => true) L := by
   intro L
   induction L with
   | nil => intro _ a1; rfl
   | cons e r ih =>
    intro hL a1
    unfold putSel
    rw [if_pos (hL e (by simp)), if_pos rfl]
    exact ih (fun e he => hL e (by simp [he])) _
  exact h1 _ (fun e he => hb _ (by have := (List.getElem?_eq_some_iff.1 (selOf_mem he)).1; omega))
 refine inv_ (List.range n) (fun b a' w' => ((∀ j, m ≤ j → j < n → b j = false) ∧ Below w.heap.size w w' ∧ ∃ vals : Nat → Value, a' = putSel a b (selOf ds vals) ∧ ∀ (i : Nat) (f : PFact), b i = true → F[i]? = some f → f.p (vals i) w') ∨
   ∃ i, m ≤ i ∧ i ≤ n ∧ (∀ j, j < i → b j = true) ∧ (∀ j, i ≤ j → j < n → b j = false) ∧ tailOk P ops Q (ops.toList.drop i) a' w') hT hw hk hl ?_ ?_ ?_
 ·
  refine .inl ⟨fun _ _ _ => rfl, Below.refl _ _, fun _ => undef, ?_, fun i f h => by cases h⟩
  have : ∀ L : List (Nat × Tmp × Value), putSel a (fun _ => false) L = a := by
   intro L
   induction L with
   | nil => rfl
   | cons e r ih => unfold putSel; rw [if_neg (by decide)]; exact ih
  exact (this _).symm
 ·
  intro i hi b a' w' hI hbi hon hoff
  have hin : i < n := List.mem_range.1 hi
  by_cases him : i < m
  ·
   obtain ⟨hbt, hB, vals, ha, hv⟩ : (∀ j, m ≤ j → j < n → b j = false) ∧ Below w.heap.size w w' ∧ ∃ vals : Nat → Value, a' = putSel a b (selOf ds vals) ∧ ∀ (i : Nat) (f : PFact), b i = true → F[i]? = some f → f.p (vals i) w' := by
    rcases hI with h | ⟨q, h1, h2, h3, _⟩
    ·
     exact h
    ·
     rw [h3 i (by omega)] at hbi; cases hbi
   obtain ⟨ti, hti⟩ : ∃ t, ds[i]? = some t := ⟨ds[i]'(by omega), List.getElem?_eq_getElem (by omega)⟩
   obtain ⟨oi, hoi, hK⟩ := hs i (List.mem_range.2 him) a' w' hB (fun t ht => by
    rw [ha]
    refine putSel_off (List.all_eq_true.2 fun e he => ?_)
    have h1 := selOf_mem he
    have h2 : e.2.1 ≠ t := by
     rintro rfl
     have := List.mem_of_getElem? h1
     simp [List.contains_iff_mem, this] at ht
    simpa using h2) (fun j t f hj ht hf => by
    have hjn : j < m := by have := (List.getElem?_eq_some_iff.1 ht).1; omega
    have hbj := hon j (by rw [hj, Bool.and_true, List.contains_iff_mem]; exact List.mem_range.2 (by omega))
    refine ⟨vals j, ?_, hv j f hbj hf⟩
    rw [ha]
    have hts : t < a.tmps.size := by simpa using List.all_eq_true.1 hsz t (List.mem_of_getElem? ht)
    refine putSel_on (e := (j, t, vals j)) j (by rw [selOf_get, ht]; rfl) (List.all_eq_true.2 fun e he => ?_) hbj (Nat.ble_eq_true_of_le hts)
    obtain ⟨k, hk⟩ := List.mem_iff_getElem?.1 he
    rw [List.getElem?_drop, selOf_get] at hk
    obtain ⟨t', h1, h2⟩ := Option.map_eq_some_iff.1 hk
    subst h2
    have : t' ≠ t := by
     rintro rfl
     have := nodup_get hnd h1 ht
     omega
    simpa using this)
   refine ⟨oi, hoi, fun K hKK => hK K (show Shut _ from fun v w2 f hf hp hb2 => hKK.out _ _ (.inl ⟨fun j h1 h2 => ?_, below_then hB hB.size hb2, fun j => if j = i then v else vals j, ?_, fun j g hj hg => ?_⟩))⟩
   ·
    rw [up_ne (by omega)]
    exact hbt j h1 h2
   ·
    rw [selOk_dst hsel hoi hti, ha]
    rw [← selOf_set ds vals i ti v hti]
    refine putSel_upk i hbi (by rw [selOf_get, hti]; rfl) rfl (List.all_eq_true.2 fun e he => ?_)
    have key : ∀ k, k ≠ i → (selOf ds vals)[k]? = some e → (!(e.1 == i) && !(e.2.1 == ti)) = true := by
     intro k hki hk
     rw [selOf_get] at hk
     obtain ⟨t', h1, h2⟩ := Option.map_eq_some_iff.1 hk
     subst h2
     have : t' ≠ ti := by
      rintro rfl
      exact hki (nodup_get hnd h1 hti)
     simp [hki, this]
    rcases List.mem_append.1 he with h | h
    ·
     obtain ⟨k, hk⟩ := List.mem_iff_getElem?.1 h
     rw [List.getElem?_take] at hk
     by_cases hki : k < i
     ·
      rw [if_pos hki] at hk
      exact key k (by omega) hk
     ·
      rw [if_neg hki] at hk
      cases hk
    ·
     obtain ⟨k, hk⟩ := List.mem_iff_getElem?.1 h
     rw [List.getElem?_drop] at hk
     exact key (i + 1 + k) (by omega) hk
   ·
    by_cases hji : j = i
    ·
     subst hji
     dsimp only
     rw [if_pos rfl]
     rw [hf] at hg
     cases hg
     exact hp
    ·
     dsimp only
     rw [if_neg hji]
     rw [up_ne hji] at hj
     exact g.stays _ _ _ (hv j g hj hg) hb2
  ·
   have hbl : ∀ j, j < i → b j = true := fun j hj => hon j (by rw [htl' i (by omega) hin j hj, Bool.and_true, List.contains_iff_mem]; exact List.mem_range.2 (by omega))
   have htk : tailOk P ops Q (ops.toList.drop i) a' w' ∧ ∀ j, i ≤ j → j < n → b j = false := by
    rcases hI with ⟨hbt, hB, vals, ha, hv⟩ | ⟨q, h1, h2, h3, h4, h5⟩
    ·
     have him2 : i = m := by
      by_cases e : i = m
      ·
       exact e
      ·
       have := hbl m (by omega)
       rw [hbt m (by omega) (by omega)] at this
       cases this
     subst him2
     refine ⟨?_, fun j hj hjn => hbt j hj hjn⟩
     rw [ha, hall b hbl]
     exact hend vals w' hB (fun j f hf => hv j f (hbl j (by have := (List.getElem?_eq_some_iff.1 hf).1; omega)) hf)
    ·
     have hq : q = i := by
      rcases Nat.lt_trichotomy q i with h | h | h
      ·
       have := hbl q h
       rw [h4 q (by omega) (by omega)] at this
       cases this
      ·
       exact h
      ·
       rw [h3 i h] at hbi; cases hbi
     subst hq
     exact ⟨h5, h4⟩
   have hio : i < ops.toList.length := by simp; omega
   refine ⟨ops.toList[i], by rw [← Array.getElem?_toList, List.getElem?_eq_getElem hio], fun K hKK => ?_⟩
   have h6 := htk.1
   rw [List.drop_eq_getElem_cons hio] at h6
   exact h6 K (show Shut _ from fun a2 w2 h7 => hKK.out _ _ (.inr ⟨i + 1, by omega, by omega, fun j hj => by
    by_cases e : j = i
    ·
     rw [e, up_self]
    ·
     rw [up_ne e]; exact hbl j (by omega), fun j hj hjn => by
    rw [up_ne (by omega)]
    exact htk.2 j (by omega) hjn, h7⟩))
 ·
  intro b a' w' hall2 hI
  have hbt : ∀ j, j < n → b j = true := fun j hj => hall2 j (by simp [hj])
  rcases hI with ⟨h0, hB, vals, ha, hv⟩ | ⟨q, h1, h2, h3, h4, h5⟩
  ·
   have hmn2 : m = n := by
    by_cases e : m = n
    ·
     exact e
    ·
     have := hbt m (by omega)
     rw [h0 m (by omega) (by omega)] at this
     cases this
   have h7 := hend vals w' hB (fun j f hf => hv j f (hbt j (by have := (List.getElem?_eq_some_iff.1 hf).1; omega)) hf)
   rw [List.drop_eq_nil_of_le (by simp; omega), ← hall b (fun j hj => hbt j (by omega)), ← ha] at h7
   exact h7
  ·
   have hq : q = n := by
    by_cases e : q = n
    ·
     exact e
    ·
     have := hbt q (by omega)
     rw [h4 q (by omega) (by omega)] at this
     cases this
   subst hq
   rw [List.drop_eq_nil_of_le (by simp; omega)] at h5
   exact h5
end
/-- The whole region, its draw ahead. -/
theorem shut_tail {P : Program} {ops : Array Oper} {Q : Exit → Act → World → Prop} {T : Bool × List (List Nat × List Nat)} {B : List Nat} {id : Nat} {a : Act} {w : World} (n m : Nat) (ds : List Tmp) (F : List PFact) (hm : P.follows .mixedOrders = true) (hn : ops.size = n) (hmn : m ≤ n)
  (hT : rtab .any ops = T) (hw : waitsOk T.2 B = true) (hk : baseOk T.2 (List.range n) = true) (hl : (lof T.2.length (List.range n) (fun _ => false) == List.replicate n false && (List.range n).length == n) = true) (hsel : selOk ops ds m = true) (hF : F.length = m) (hsz : (ds.all fun t => decide (t < a.tmps.size)) = true)
  (htl : (((List.range n).drop m).all fun i => (List.range i).all fun j => (B.getD i 0).testBit j) = true)
  (hs : ∀ i ∈ List.range m, OpLaw P ops Q B ds F a w i)
  (hend : ∀ (vals : Nat → Value) (w' : World), Below w.heap.size w w' → (∀ (i : Nat) (f : PFact), F[i]? = some f → f.p (vals i) w') → tailOk P ops Q (ops.toList.drop m) (putSel a (fun _ => true) (selOf ds vals)) w') :
  (Code.region id ops true).wp P Q a w := by
 have hbd : Below w.heap.size w w.drew := below_drew (Below.refl _ _)
 refine start_ (S := fun _ => True) (ds := []) (Array.replicate n false) hm hn rfl trivial (fun _ => ?_)
 refine shut_region_tail n m ds F hmn hn hT hw hk (by rw [Array.toList_replicate]; exact hl) hsel hF hsz htl (fun i hi a' w' hB => hs i hi a' w' (below_then hbd hbd.size hB)) (fun vals w' hB => hend vals w' (below_then hbd hbd.size hB))
/-- A row of the call's own that lies past a variable: a store into the variable leaves it. -/
theorem R_past {α : Type} {d : Kd α} {e g : Nat} {W : World} {v : Value} {xs : List α} (h : d.R e W (g + 1) (fun _ => True) v xs) (i : Nat) (u : Value) : d.R e (W.setCell ⟨g, i, none⟩ u) (g + 1) (fun _ => True) v xs :=
 Kd.R_mono (Kd.R_far (p := ⟨g, i, none⟩) (Kd.R_bound h) (fun k hk => by have := hk.2.1; simp; omega) u) (fun _ _ => trivial)

/-! ### A region of open order with a forced end, where some operations make rows of the call's own: rows of different chains lie in different blocks -/
section
variable {P : Program} {ops : Array Oper} {Q : Exit → Act → World → Prop} {md : Region.Mode} {T : Bool × List (List Nat × List Nat)} {B : List Nat}
/-- The block of a value that operation i has made is new, or that of an elder one of its own chain. -/
def OwnLaw (O : List (Nat × Nat)) (B : List Nat) (ds : List Tmp) (a : Act) (w w' : World) (i : Nat) (v : Value) : Prop :=
 ∀ c, (i, c) ∈ O → ∀ k, v.ownBlock = some k → k < w'.heap.size ∧ (w.heap.size ≤ k ∨ ∃ j t u, (j, c) ∈ O ∧ (B.getD i 0).testBit j = true ∧ ds[j]? = some t ∧ a.tmps[t]? = some u ∧ u.ownBlock = some k)
def OpLawO (P : Program) (ops : Array Oper) (Q : Exit → Act → World → Prop) (B : List Nat) (O : List (Nat × Nat)) (ds : List Tmp) (F : List PFact) (a0 : Act) (w0 : World) (i : Nat) : Prop :=
 ∀ (a : Act) (w : World), Below w0.heap.size w0 w → (∀ t, ds.contains t = false → a.tmps[t]? = a0.tmps[t]?) →
  (∀ (j : Nat) (t : Tmp) (f : PFact), (B.getD i 0).testBit j = true → ds[j]? = some t → F[j]? = some f → ∃ v, a.tmps[t]? = some v ∧ f.p v w) →
  ∃ oi, ops[i]? = some oi ∧ ∀ K : Act → World → Prop, Shut (∀ (v : Value) (w' : World) (f : PFact), F[i]? = some f → f.p v w' → Below w.heap.size w w' → OwnLaw O B ds a w w' i v → K (a.put oi.dst v) w') → if Region.wanted oi (yielded ops a.tmps) = true then Oper.wp P oi a w K Q else K (a.put oi.dst undef) w
theorem ownLaw_no {O : List (Nat × Nat)} {B : List Nat} {ds : List Tmp} {a : Act} {w w' : World} {i : Nat} {v : Value} (h : (O.all fun e => !(e.1 == i)) = true) : OwnLaw O B ds a w w' i v := fun c hc => by
 have := List.all_eq_true.1 h _ hc
 simp at this
theorem ownLaw_new {O : List (Nat × Nat)} {B : List Nat} {ds : List Tmp} {a : Act} {w w' : World} {i : Nat} {v : Value} (h : ∀ k, v.ownBlock = some k → w.heap.size ≤ k ∧ k < w'.heap.size) : OwnLaw O B ds a w w' i v := fun _ _ k hk => ⟨(h k hk).2, .inl (h k hk).1⟩
def Ch (O : List (Nat × Nat)) (i c : Nat) : Prop := (i, c) ∈ O
/-- What is kept: blocks that are there, and different ones for different chains. -/
structure OwnInv (O : List (Nat × Nat)) (b : Nat → Bool) (vals : Nat → Value) (w : World) : Prop where
 lt : ∀ i c k, (i, c) ∈ O → b i = true → (vals i).ownBlock = some k → k < w.heap.size
 ne : ∀ i j c c' k, (i, c) ∈ O → (j, c') ∈ O → c ≠ c' → b i = true → b j = true → (vals i).ownBlock = some k → (vals j).ownBlock ≠ some k
theorem OwnInv.step {O : List (Nat × Nat)} {B : List Nat} {ds : List Tmp} {b : Nat → Bool} {vals : Nat → Value} {a : Act} {w w' : World} {i : Nat} {v : Value} (h : OwnInv O b vals w) (hl : OwnLaw O B ds a w w' i v) (hs : w.heap.size ≤ w'.heap.size) (hO : ((O.map (·.1)).Nodup))
  (hon : ∀ j t u, (B.getD i 0).testBit j = true → ds[j]? = some t → a.tmps[t]? = some u → j ≠ i ∧ b j = true ∧ vals j = u) : OwnInv O (up b i) (fun j => if j = i then v else vals j) w' := by
 have uni : ∀ j c c', (j, c) ∈ O → (j, c') ∈ O → c = c' := by
  intro j c c' h1 h2
  obtain ⟨p, hp⟩ := List.mem_iff_getElem?.1 h1
  obtain ⟨q, hq⟩ := List.mem_iff_getElem?.1 h2
  have e1 : (O.map (·.1))[p]? = some j := by rw [List.getElem?_map, hp]; rfl
  have e2 : (O.map (·.1))[q]? = some j := by rw [List.getElem?_map, hq]; rfl
  have := nodup_get hO e1 e2
  subst this
  rw [hp] at hq
  cases hq
  rfl
 refine ⟨fun j c k hj hb hk => ?_, fun j j' c c' k hj hj' hc hb hb' hk hk' => ?_⟩
 ·
  by_cases e : j = i
  ·
   subst e
   try dsimp only at hk
   rw [if_pos rfl] at hk
   exact (hl c hj k hk).1
  ·
   rw [up_ne e] at hb
   try dsimp only at hk
   rw [if_neg e] at hk
   exact Nat.lt_of_lt_of_le (h.lt j c k hj hb hk) hs
 ·
  by_cases e : j = i
  ·
   subst e
   have e' : j' ≠ j := by
    rintro rfl
    exact hc (uni _ _ _ hj hj')
   rw [up_ne e'] at hb'
   try dsimp only at hk hk'
   rw [if_pos rfl] at hk
   rw [if_neg e'] at hk'
   rcases (hl c hj k hk).2 with h1 | ⟨q, t, u, h1, h2, h3, h4, h5⟩
   ·
    have := h.lt j' c' k hj' hb' hk'
    omega
   ·
    obtain ⟨_, g1, rfl⟩ := hon q t u h2 h3 h4
    exact h.ne q j' c c' k h1 hj' hc g1 hb' h5 hk'
  ·
   rw [up_ne e] at hb
   try dsimp only at hk hk'
   rw [if_neg e] at hk
   by_cases e' : j' = i
   ·
    subst e'
    rw [if_pos rfl] at hk'
    rcases (hl c' hj' k hk').2 with h1 | ⟨q, t, u, h1, h2, h3, h4, h5⟩
    ·
     have := h.lt j c k hj hb hk
     omega
    ·
     obtain ⟨_, g1, rfl⟩ := hon q t u h2 h3 h4
     exact h.ne j q c c' k hj h1 hc hb g1 hk h5
   ·
    rw [up_ne e'] at hb'
    rw [if_neg e'] at hk'
    exact h.ne j j' c c' k hj hj' hc hb hb' hk hk'
theorem shut_region_own {l : Array Bool} {fuel : Nat} {a : Act} {w : World} (n m : Nat) (O : List (Nat × Nat)) (hO : (O.map (·.1)).Nodup) (ds : List Tmp) (F : List PFact) (hmn : m ≤ n) (hn : ops.size = n) (hT : rtab md ops = T) (hw : waitsOk T.2 B = true) (hk : baseOk T.2 (List.range n) = true)
  (hl : (lof T.2.length (List.range n) (fun _ => false) == l.toList && (List.range n).length == fuel) = true) (hOmb : (O.all fun e => decide (e.1 < m)) = true) (hsel : selOk ops ds m = true) (hF : F.length = m) (hsz : (ds.all fun t => decide (t < a.tmps.size)) = true)
  (htl : (((List.range n).drop m).all fun i => (List.range i).all fun j => (B.getD i 0).testBit j) = true)
  (hs : ∀ i ∈ List.range m, OpLawO P ops Q B O ds F a w i)
  (hend : ∀ (vals : Nat → Value) (w' : World), Below w.heap.size w w' → (∀ (i : Nat) (f : PFact), F[i]? = some f → f.p (vals i) w') → OwnInv O (fun _ => true) vals w' → tailOk P ops Q (ops.toList.drop m) (putSel a (fun _ => true) (selOf ds vals)) w') :
  wpAnyLast P md ops Q (fun _ => True) [] fuel l a w := by
 have hOm : ∀ j c, (j, c) ∈ O → j < m := fun j c h => by simpa using List.all_eq_true.1 hOmb _ h
 have hlen : ds.length = m := by
  simp only [selOk, Bool.and_eq_true] at hsel
  exact beq_iff_eq.1 hsel.1.1
 have hnd : ds.Nodup := by
  simp only [selOk, Bool.and_eq_true] at hsel
  simpa using hsel.1.2
 have htl' : ∀ i, m ≤ i → i < n → ∀ j, j < i → (B.getD i 0).testBit j = true := by
  intro i h1 h2 j hj
  have h3 := List.all_eq_true.1 htl i (by
   rw [List.mem_drop_iff_getElem]
   exact ⟨i - m, by simp; omega, by simp; omega⟩)
  exact List.all_eq_true.1 h3 j (List.mem_range.2 hj)
 have hall : ∀ (b : Nat → Bool), (∀ j, j < m → b j = true) → ∀ (vals : Nat → Value) (a1 : Act), putSel a1 b (selOf ds vals) = putSel a1 (fun _ => true) (selOf ds vals) := by
  intro b hb vals
  have h1 : ∀ L : List (Nat × Tmp × Value), (∀ e ∈ L, b e.1 = true) → ∀ a1, putSel a1 b L = putSel a1 (fun _ => true) L := by
   intro L
   induction L with
   | nil => intro _ a1; rfl
   | cons e r ih =>
    intro hL a1
    unfold putSel
    rw [if_pos (hL e (by simp)), if_pos rfl]
    exact ih (fun e he => hL e (by simp [he])) _
  exact h1 _ (fun e he => hb _ (by have := (List.getElem?_eq_some_iff.1 (selOf_mem he)).1; omega))
 refine inv_ (List.range n) (fun b a' w' => ((∀ j, m ≤ j → j < n → b j = false) ∧ Below w.heap.size w w' ∧ ∃ vals : Nat → Value, a' = putSel a b (selOf ds vals) ∧ (∀ (i : Nat) (f : PFact), b i = true → F[i]? = some f → f.p (vals i) w') ∧ OwnInv O b vals w') ∨
   ∃ i, m ≤ i ∧ i ≤ n ∧ (∀ j, j < i → b j = true) ∧ (∀ j, i ≤ j → j < n → b j = false) ∧ tailOk P ops Q (ops.toList.drop i) a' w') hT hw hk hl ?_ ?_ ?_
 ·
  refine .inl ⟨fun _ _ _ => rfl, Below.refl _ _, fun _ => undef, ?_, (fun i f h => by cases h), ⟨fun i c k _ h _ => (by cases h), fun i j c c' k _ _ _ h _ _ => (by cases h)⟩⟩
  have : ∀ L : List (Nat × Tmp × Value), putSel a (fun _ => false) L = a := by
   intro L
   induction L with
   | nil => rfl
   | cons e r ih => unfold putSel; rw [if_neg (by decide)]; exact ih
  exact (this _).symm
 ·
  intro i hi b a' w' hI hbi hon hoff
  have hin : i < n := List.mem_range.1 hi
  by_cases him : i < m
  ·
   obtain ⟨hbt, hB, vals, ha, hv, hw2⟩ : (∀ j, m ≤ j → j < n → b j = false) ∧ Below w.heap.size w w' ∧ ∃ vals : Nat → Value, a' = putSel a b (selOf ds vals) ∧ (∀ (i : Nat) (f : PFact), b i = true → F[i]? = some f → f.p (vals i) w') ∧ OwnInv O b vals w' := by
    rcases hI with h | ⟨q, h1, h2, h3, _⟩
    ·
     exact h
    ·
     rw [h3 i (by omega)] at hbi; cases hbi
   obtain ⟨ti, hti⟩ : ∃ t, ds[i]? = some t := ⟨ds[i]'(by omega), List.getElem?_eq_getElem (by omega)⟩
   obtain ⟨oi, hoi, hK⟩ := hs i (List.mem_range.2 him) a' w' hB (fun t ht => by
    rw [ha]
    refine putSel_off (List.all_eq_true.2 fun e he => ?_)
    have h1 := selOf_mem he
    have h2 : e.2.1 ≠ t := by
     rintro rfl
     have := List.mem_of_getElem? h1
     simp [List.contains_iff_mem, this] at ht
    simpa using h2) (fun j t f hj ht hf => by
    have hjn : j < m := by have := (List.getElem?_eq_some_iff.1 ht).1; omega
    have hbj := hon j (by rw [hj, Bool.and_true, List.contains_iff_mem]; exact List.mem_range.2 (by omega))
    refine ⟨vals j, ?_, hv j f hbj hf⟩
    rw [ha]
    have hts : t < a.tmps.size := by simpa using List.all_eq_true.1 hsz t (List.mem_of_getElem? ht)
    refine putSel_on (e := (j, t, vals j)) j (by rw [selOf_get, ht]; rfl) (List.all_eq_true.2 fun e he => ?_) hbj (Nat.ble_eq_true_of_le hts)
    obtain ⟨k, hk⟩ := List.mem_iff_getElem?.1 he
    rw [List.getElem?_drop, selOf_get] at hk
    obtain ⟨t', h1, h2⟩ := Option.map_eq_some_iff.1 hk
    subst h2
    have : t' ≠ t := by
     rintro rfl
     have := nodup_get hnd h1 ht
     omega
    simpa using this)
   refine ⟨oi, hoi, fun K hKK => hK K (show Shut _ from fun v w2 f hf hp hb2 ho => hKK.out _ _ (.inl ⟨fun j h1 h2 => ?_, below_then hB hB.size hb2, fun j => if j = i then v else vals j, ?_, fun j g hj hg => ?_, ?_⟩))⟩
   ·
    rw [up_ne (by omega)]
    exact hbt j h1 h2
   ·
    rw [selOk_dst hsel hoi hti, ha]
    rw [← selOf_set ds vals i ti v hti]
    refine putSel_upk i hbi (by rw [selOf_get, hti]; rfl) rfl (List.all_eq_true.2 fun e he => ?_)
    have key : ∀ k, k ≠ i → (selOf ds vals)[k]? = some e → (!(e.1 == i) && !(e.2.1 == ti)) = true := by
     intro k hki hk
     rw [selOf_get] at hk
     obtain ⟨t', h1, h2⟩ := Option.map_eq_some_iff.1 hk
     subst h2
     have : t' ≠ ti := by
      rintro rfl
      exact hki (nodup_get hnd h1 hti)
     simp [hki, this]
    rcases List.mem_append.1 he with h | h
    ·
     obtain ⟨k, hk⟩ := List.mem_iff_getElem?.1 h
     rw [List.getElem?_take] at hk
     by_cases hki : k < i
     ·
      rw [if_pos hki] at hk
      exact key k (by omega) hk
     ·
      rw [if_neg hki] at hk
      cases hk
    ·
     obtain ⟨k, hk⟩ := List.mem_iff_getElem?.1 h
     rw [List.getElem?_drop] at hk
     exact key (i + 1 + k) (by omega) hk
   ·
    by_cases hji : j = i
    ·
     subst hji
     dsimp only
     rw [if_pos rfl]
     rw [hf] at hg
     cases hg
     exact hp
    ·
     dsimp only
     rw [if_neg hji]
     rw [up_ne hji] at hj
     exact g.stays _ _ _ (hv j g hj hg) hb2
   ·
    exact OwnInv.step hw2 ho hb2.size hO (fun j t u hj ht hu => by
     have hjm : j < m := by have := (List.getElem?_eq_some_iff.1 ht).1; omega
     have hbj := hon j (by rw [hj, Bool.and_true, List.contains_iff_mem]; exact List.mem_range.2 (by omega))
     have hji : j ≠ i := by
      rintro rfl
      rw [hbi] at hbj
      cases hbj
     refine ⟨hji, hbj, ?_⟩
     have hts : t < a.tmps.size := by simpa using List.all_eq_true.1 hsz t (List.mem_of_getElem? ht)
     have h1 : a'.tmps[t]? = some (vals j) := by
      rw [ha]
      refine putSel_on (e := (j, t, vals j)) j (by rw [selOf_get, ht]; rfl) (List.all_eq_true.2 fun e he => ?_) hbj (Nat.ble_eq_true_of_le hts)
      obtain ⟨k, hk⟩ := List.mem_iff_getElem?.1 he
      rw [List.getElem?_drop, selOf_get] at hk
      obtain ⟨t', h1, h2⟩ := Option.map_eq_some_iff.1 hk
      subst h2
      have : t' ≠ t := by
       rintro rfl
       have := nodup_get hnd h1 ht
       omega
      simpa using this
     rw [hu] at h1
     exact (Option.some.inj h1).symm)
  ·
   have hbl : ∀ j, j < i → b j = true := fun j hj => hon j (by rw [htl' i (by omega) hin j hj, Bool.and_true, List.contains_iff_mem]; exact List.mem_range.2 (by omega))
   have htk : tailOk P ops Q (ops.toList.drop i) a' w' ∧ ∀ j, i ≤ j → j < n → b j = false := by
    rcases hI with ⟨hbt, hB, vals, ha, hv, hw2⟩ | ⟨q, h1, h2, h3, h4, h5⟩
    ·
     have him2 : i = m := by
      by_cases e : i = m
      ·
       exact e
      ·
       have := hbl m (by omega)
       rw [hbt m (by omega) (by omega)] at this
       cases this
     subst him2
     refine ⟨?_, fun j hj hjn => hbt j hj hjn⟩
     rw [ha, hall b hbl]
     refine hend vals w' hB (fun j f hf => hv j f (hbl j (by have := (List.getElem?_eq_some_iff.1 hf).1; omega)) hf) ?_
     refine ⟨fun j c k hj _ hk => hw2.lt j c k hj (hbl j (hOm j c hj)) hk, fun j j' c c' k hj hj' hc _ _ hk => hw2.ne j j' c c' k hj hj' hc (hbl j (hOm j c hj)) (hbl j' (hOm j' c' hj')) hk⟩
    ·
     have hq : q = i := by
      rcases Nat.lt_trichotomy q i with h | h | h
      ·
       have := hbl q h
       rw [h4 q (by omega) (by omega)] at this
       cases this
      ·
       exact h
      ·
       rw [h3 i h] at hbi; cases hbi
     subst hq
     exact ⟨h5, h4⟩
   have hio : i < ops.toList.length := by simp; omega
   refine ⟨ops.toList[i], by rw [← Array.getElem?_toList, List.getElem?_eq_getElem hio], fun K hKK => ?_⟩
   have h6 := htk.1
   rw [List.drop_eq_getElem_cons hio] at h6
   exact h6 K (show Shut _ from fun a2 w2 h7 => hKK.out _ _ (.inr ⟨i + 1, by omega, by omega, fun j hj => by
    by_cases e : j = i
    ·
     rw [e, up_self]
    ·
     rw [up_ne e]; exact hbl j (by omega), fun j hj hjn => by
    rw [up_ne (by omega)]
    exact htk.2 j (by omega) hjn, h7⟩))
 ·
  intro b a' w' hall2 hI
  have hbt : ∀ j, j < n → b j = true := fun j hj => hall2 j (by simp [hj])
  rcases hI with ⟨h0, hB, vals, ha, hv, hw2⟩ | ⟨q, h1, h2, h3, h4, h5⟩
  ·
   have hmn2 : m = n := by
    by_cases e : m = n
    ·
     exact e
    ·
     have := hbt m (by omega)
     rw [h0 m (by omega) (by omega)] at this
     cases this
   have h7 := hend vals w' hB (fun j f hf => hv j f (hbt j (by have := (List.getElem?_eq_some_iff.1 hf).1; omega)) hf) ⟨fun j c k hj _ hk => hw2.lt j c k hj (hbt j (Nat.lt_of_lt_of_le (hOm j c hj) hmn)) hk, fun j j' c c' k hj hj' hc _ _ hk => hw2.ne j j' c c' k hj hj' hc (hbt j (Nat.lt_of_lt_of_le (hOm j c hj) hmn)) (hbt j' (Nat.lt_of_lt_of_le (hOm j' c' hj') hmn)) hk⟩
   rw [List.drop_eq_nil_of_le (by simp; omega), ← hall b (fun j hj => hbt j (by omega)), ← ha] at h7
   exact h7
  ·
   have hq : q = n := by
    by_cases e : q = n
    ·
     exact e
    ·
     have := hbt q (by omega)
     rw [h4 q (by omega) (by omega)] at this
     cases this
   subst hq
   rw [List.drop_eq_nil_of_le (by simp; omega)] at h5
   exact h5
end
/-- The whole region, its draw ahead. -/
theorem shut_own {P : Program} {ops : Array Oper} {Q : Exit → Act → World → Prop} {T : Bool × List (List Nat × List Nat)} {B : List Nat} {id : Nat} {a : Act} {w : World} (n m : Nat) (O : List (Nat × Nat)) (hO : (O.map (·.1)).Nodup) (ds : List Tmp) (F : List PFact) (hm : P.follows .mixedOrders = true) (hn : ops.size = n) (hmn : m ≤ n)
  (hT : rtab .any ops = T) (hw : waitsOk T.2 B = true) (hk : baseOk T.2 (List.range n) = true) (hl : (lof T.2.length (List.range n) (fun _ => false) == List.replicate n false && (List.range n).length == n) = true) (hOmb : (O.all fun e => decide (e.1 < m)) = true) (hsel : selOk ops ds m = true) (hF : F.length = m) (hsz : (ds.all fun t => decide (t < a.tmps.size)) = true)
  (htl : (((List.range n).drop m).all fun i => (List.range i).all fun j => (B.getD i 0).testBit j) = true)
  (hs : ∀ i ∈ List.range m, OpLawO P ops Q B O ds F a w i)
  (hend : ∀ (vals : Nat → Value) (w' : World), Below w.heap.size w w' → (∀ (i : Nat) (f : PFact), F[i]? = some f → f.p (vals i) w') → OwnInv O (fun _ => true) vals w' → tailOk P ops Q (ops.toList.drop m) (putSel a (fun _ => true) (selOf ds vals)) w') :
  (Code.region id ops true).wp P Q a w := by
 have hbd : Below w.heap.size w w.drew := below_drew (Below.refl _ _)
 refine start_ (S := fun _ => True) (ds := []) (Array.replicate n false) hm hn rfl trivial (fun _ => ?_)
 refine shut_region_own n m O hO ds F hmn hn hT hw hk (by rw [Array.toList_replicate]; exact hl) hOmb hsel hF hsz htl (fun i hi a' w' hB => hs i hi a' w' (below_then hbd hbd.size hB)) (fun vals w' hB => hend vals w' (below_then hbd hbd.size hB))

/-- An empty row of the call's own, without room. -/
def emptyF {α : Type} (d : Kd α) (e base : Nat) : PFact := ⟨fun v w => (∃ g : Nat, v = .slice (some ⟨g, 0, none⟩) 0 0) ∧ d.R e w base (fun _ => True) v [], fun _ _ _ h hb => ⟨h.1, Kd.R_below h.2 hb⟩⟩
theorem empty_made {α : Type} (d : Kd α) {e base : Nat} {w : World} (hb : base ≤ w.heap.size) : (emptyF d e base).p (.slice (some ⟨w.heap.size, 0, none⟩) 0 0) (w.alloc (.cells #[] e)) := by
 refine ⟨⟨_, rfl⟩, fun _ _ => trivial, [], ?_, Reps.none _ _⟩
 have h2 := World.ownsRow_lit (base := base) (e := e) (size := d.sz) w #[] 0 hb (by simp [maxLen]) (by simp)
 simpa using h2
/-- append onto an empty row without room: a new row, or the empty one again. -/
theorem append_fresh {α : Type} {enc : α → Value} {h1 : ∀ x, (enc x).oneCell' = true} {P : Program} {W : World} {t ty e base g m c : Nat} {z : Value} {bytes : Nat} {A : Option Addr} {ys : List α} (ht : P.underlying t = some (.slice e)) (hinfo : (P.info? e).map (fun i => (i.zero, i.size, i.bytes)) = some (some z, 1, bytes)) (hz : z.cells.size = 1) (hb0 : 0 < bytes)
  (HO : (Kd.scalar enc h1).R e W base (fun _ => True) (.slice (some ⟨g, 0, none⟩) 0 0) []) (HR : (Kd.scalar enc h1).C W A m ys) (hbase : base ≤ W.heap.size) (hl : m * bytes ≤ 140737488355328) :
  ∃ v1 w1, (Builtin.append_ #[t, t] ty #[.slice (some ⟨g, 0, none⟩) 0 0, .slice A m c]).run P W = .ok v1 w1 ∧ (Kd.scalar enc h1).R e w1 base (fun _ => True) v1 ys ∧ Below W.heap.size W w1 ∧ ∀ k, v1.ownBlock = some k → k < w1.heap.size ∧ (W.heap.size ≤ k ∨ k = g) := by
 obtain ⟨i0, hi, hzz⟩ := Option.map_eq_some_iff.1 hinfo
 simp only [Prod.mk.injEq] at hzz
 obtain ⟨hz0, hz1, hz2⟩ := hzz
 have hlt := Kd.R_lt HO
 have hm : ys.length = m := HR.1
 rcases A with _ | ad
 ·
  have h0 : m = 0 := by
   rcases Nat.eq_zero_or_pos m with h0 | h0
   ·
    exact h0
   ·
    obtain ⟨ad, h, _⟩ := HR.2.2 h0
    cases h
  subst h0
  obtain rfl : ys = [] := List.eq_nil_of_length_eq_zero hm
  exact ⟨_, W, by simp [Builtin.append_, run_underlying ht, sizeOf, typeInfo, hi, Builtin.lenOf, Builtin.firstCells, storeCells], HO, Below.refl _ _, fun k hk => ⟨hlt k hk, .inr (by simpa [Value.ownBlock] using hk.symm)⟩⟩
 ·
  obtain ⟨news, hnr, hnc⟩ := ReadsRow.inner_ HR
  by_cases h0 : m = 0
  ·
   subst h0
   obtain rfl : ys = [] := List.eq_nil_of_length_eq_zero hm
   obtain rfl : news = [] := List.eq_nil_of_length_eq_zero (by have := hnr.1; simpa using this)
   have hrun := run_append_room_cells (P := P) W t ty e i0 ht hi g 0 0 0 ad 0 c [] (by simp) (fun j u h => by cases h) (fun u h => by cases h) (by omega) (fun j h => by cases h) (fun j h => by cases h)
   exact ⟨_, _, hrun, HO, Below.refl _ _, fun k hk => ⟨hlt k hk, .inr (by simpa [Value.ownBlock] using hk.symm)⟩⟩
  ·
   have hle : m ≤ m * bytes := Nat.le_mul_of_pos_right _ hb0
   obtain ⟨v1, w1, hrun, hown, hg⟩ := run_append_arg_grows (P := P) W t ty e i0 z 1 bytes ht hi hz0 hz1 hz2 hz (by omega) ⟨g, 0, none⟩ 0 0 [] (by simp) (fun j u h => by cases h) ad m c news (by have := hnr.1; rw [hm] at this; exact this) hnc (by omega) (by simp only [maxLen]; omega) (by rw [Nat.zero_add]; exact hl)
   rw [Nat.zero_add, List.nil_append] at hown
   have hb := (Below.refl W.heap.size W).grown hg (Nat.le_refl _) (fun k hk => by cases hk)
   refine ⟨v1, w1, hrun, Kd.R_lower (base := W.heap.size) ⟨fun _ _ => trivial, news, ?_, hnr.imp_ (fun p c hp => hp)⟩ hbase, hb, fun k hk => ⟨?_, .inl (own_base hown k hk)⟩⟩
   ·
    rw [hm]; exact hown
   ·
    exact own_lt hown k hk
theorem run_append_op {P : Program} {o : Oper} {a : Act} {s x : Operand} {t : TypeId} {v u v1 : Value} {W w1 : World} (ho : o.op = .call { callee := .builtin .append, args := #[s, x], argTypes := #[t, t] }) (hs : a.eval s = v) (hx : a.eval x = u) (hrun : (Builtin.append_ #[t, t] o.type #[v, u]).run P W = .ok v1 w1) : (execOp a.eval o).run P W = .ok (.value v1) w1 := by
 unfold execOp
 simp only [ho, resolve, invoke, builtin, Sem.run_bind, Sem.run_pure, Result.andThen_ok, List.map_toArray, List.map_cons, List.map_nil, hs, hx, hrun]

def headgatekit_OwnLists.f (l0_0 : List Int) (l0_1 : List Int) (l0_2 : List Bool) : Option (List Int × List Int × List Bool) := if l0_0.length * 8 ≤ 100000000000000 ∧ l0_1.length * 8 ≤ 100000000000000 ∧ l0_2.length * 1 ≤ 100000000000000 then some (l0_0, l0_1, l0_2) else none
def headgatekit_OwnLists.T1 : Bool × List (List Nat × List Nat) := (true, [([], []), ([], []), ([1], [1]), ([0, 2], [0, 2]), ([], []), ([], []), ([5], [5]), ([4, 6, 3], [4, 6]), ([], []), ([], []), ([9], [9]), ([8, 10, 7], [8, 10]), ([3, 7, 11], [3, 7, 11]), ([12, 11, 0, 1, 2, 3, 4, 5, 6, 7, 8, 9, 10, 11, 12], [12])])
def headgatekit_OwnLists.B1 : List Nat := [0, 0, 2, 7, 0, 0, 32, 127, 0, 0, 512, 2047, 4095, 8191]
theorem headgatekit_OwnLists.tab1 : rtab .any (opsOf Try.f23 1) = headgatekit_OwnLists.T1 := by kernel_rfl
theorem headgatekit_OwnLists.bits1 : waitsOk headgatekit_OwnLists.T1.2 headgatekit_OwnLists.B1 = true := by kernel_rfl
set_option maxHeartbeats 4000000 in
set_option maxRecDepth 100000 in
theorem headgatekit_OwnLists.calls (A0_0 : Option Addr) (c0_0 : Nat) (l0_0 : List Int) (A0_1 : Option Addr) (c0_1 : Nat) (l0_1 : List Int) (A0_2 : Option Addr) (c0_2 : Nat) (l0_2 : List Bool) (r1 : List Int) (r2 : List Int) (r3 : List Bool) (w : World) (hr0_0 : Kd.C (Kd.int .i64) w A0_0 l0_0.length l0_0) (hc0_0 : l0_0.length ≤ c0_0) (hr0_1 : Kd.C (Kd.int .i64) w A0_1 l0_1.length l0_1) (hc0_1 : l0_1.length ≤ c0_1) (hr0_2 : Kd.C Kd.bool w A0_2 l0_2.length l0_2) (hc0_2 : l0_2.length ≤ c0_2) (h : headgatekit_OwnLists.f l0_0 l0_1 l0_2 = some (r1, r2, r3)) :
  Calls Try.prog 23 #[.agg #[.slice A0_0 l0_0.length c0_0, .slice A0_1 l0_1.length c0_1, .slice A0_2 l0_2.length c0_2]] w fun e w' => ∃ v0_ v1_ v2_ : Value, e = .returned (.agg #[v0_, v1_, v2_]) ∧ Kd.R (Kd.int .i64) 3 w' w.heap.size (fun k_ => some k_ ≠ (v1_ : Value).ownBlock) v0_ r1 ∧ Kd.R (Kd.int .i64) 3 w' w.heap.size (fun k_ => some k_ ≠ (v0_ : Value).ownBlock) v1_ r2 ∧ Kd.R Kd.bool 4 w' w.heap.size (fun _ => True) v2_ r3 ∧ Below w.heap.size w w' := by
 have hu := Try.underlying33
 unfold headgatekit_OwnLists.f at h
 by_cases hl : l0_0.length * 8 ≤ 100000000000000 ∧ l0_1.length * 8 ≤ 100000000000000 ∧ l0_2.length * 1 ≤ 100000000000000
 case neg => rw [if_neg hl] at h; cases h
 rw [if_pos hl] at h
 simp only [Option.some.injEq, Prod.mk.injEq] at h
 obtain ⟨rfl, rfl, rfl⟩ := h
 have LM := Aside0.mk hl
 have HR0 := Aside0.mk hr0_0
 have HR1 := Aside0.mk hr0_1
 have HR2 := Aside0.mk hr0_2
 clear hl hr0_0 hr0_1 hr0_2
 have mixed : Try.prog.follows .mixedOrders = true := rfl
 have hbox := blk_alloc (blk_new w (.cells #[.slice A0_0 l0_0.length c0_0, .slice A0_1 l0_1.length c0_1, .slice A0_2 l0_2.length c0_2] 33)) (.cells #[.slice none 0 0, .slice none 0 0, .slice none 0 0] 33)
 have hres := blk_newb (w.alloc (.cells #[.slice A0_0 l0_0.length c0_0, .slice A0_1 l0_1.length c0_1, .slice A0_2 l0_2.length c0_2] 33)) (.cells #[.slice none 0 0, .slice none 0 0, .slice none 0 0] 33) (w.heap.size + 1) (by simp)
 have hx0 := (blk_cell hbox 0).trans rfl
 have hx1 := (blk_cell hbox 1).trans rfl
 have hx2 := (blk_cell hbox 2).trans rfl
 have BK := Aside0.mk hres
 clear hbox hres
 go_enter Try.func23, Try.ntmps23
 go_wp2_with fail
 refine shut_own 14 12 [(0, 0), (3, 0), (4, 1), (7, 1), (8, 2), (11, 2)] (by decide) [3, 4, 5, 6, 7, 8, 9, 10, 11, 12, 13, 14] [emptyF (Kd.int .i64) 3 (w.heap.size + 1 + 1), litF (.pointer (some ⟨w.heap.size, 0, none⟩)), litF (.slice A0_0 l0_0.length c0_0), ownF (Kd.int .i64) 3 (w.heap.size + 1 + 1) l0_0, emptyF (Kd.int .i64) 3 (w.heap.size + 1 + 1), litF (.pointer (some ⟨w.heap.size, 1, none⟩)), litF (.slice A0_1 l0_1.length c0_1), ownF (Kd.int .i64) 3 (w.heap.size + 1 + 1) l0_1, emptyF Kd.bool 4 (w.heap.size + 1 + 1), litF (.pointer (some ⟨w.heap.size, 2, none⟩)), litF (.slice A0_2 l0_2.length c0_2), ownF Kd.bool 4 (w.heap.size + 1 + 1) l0_2] (by kernel_rfl) rfl (by omega) headgatekit_OwnLists.tab1 headgatekit_OwnLists.bits1 (by kernel_rfl) (by kernel_rfl) (by decide) (by kernel_rfl) rfl (by kernel_rfl) (by kernel_rfl) ?_ ?_
 ·
  rw [show List.range 12 = [0, 1, 2, 3, 4, 5, 6, 7, 8, 9, 10, 11] from rfl]
  refine opLaws_cons ?_ ?_
  ·
   intro a w' hB hoff hon
   refine ⟨_, rfl, fun K hK => ?_⟩
   refine value_ (w1 := w'.alloc (.cells #[] 3)) (v := .slice (some ⟨w'.heap.size, 0, none⟩) 0 0) (by rfl) rfl ?_ ?_
   ·
    go_simp; try rfl
   exact hK.out _ _ _ rfl (empty_made (Kd.int .i64) (by have := hB.size; simp at this; omega)) (below_alloc (Below.refl _ _) _) (ownLaw_new (fun k hk => by have : w'.heap.size = k := (by simpa [Value.ownBlock] using hk); subst this; simp))
  refine opLaws_cons ?_ ?_
  ·
   intro a w' hB hoff hon
   refine ⟨_, rfl, fun K hK => ?_⟩
   have e1 : a.tmps[1]? = some (.pointer (some ⟨w.heap.size, 0, none⟩)) := (hoff 1 (by kernel_rfl)).trans rfl
   refine value_ (w1 := w') (v := .pointer (some ⟨w.heap.size, 0, none⟩)) (by rfl) rfl ?_ ?_
   ·
    go_simp; try rfl
   exact hK.out _ _ _ rfl rfl (Below.refl _ _) (ownLaw_no (by decide))
  refine opLaws_cons ?_ ?_
  ·
   intro a w' hB hoff hon
   refine ⟨_, rfl, fun K hK => ?_⟩
   obtain ⟨x4, e4, f4⟩ := hon 1 4 _ (by kernel_rfl) rfl rfl
   replace f4 : x4 = .pointer (some ⟨w.heap.size, 0, none⟩) := f4
   subst f4
   have z0 := pw_cell_below hB hx0
   refine value_ (w1 := w') (v := .slice A0_0 l0_0.length c0_0) (by rfl) rfl ?_ ?_
   ·
    go_simp; try rfl
   exact hK.out _ _ _ rfl rfl (Below.refl _ _) (ownLaw_no (by decide))
  refine opLaws_cons ?_ ?_
  ·
   intro a w' hB hoff hon
   refine ⟨_, rfl, fun K hK => ?_⟩
   obtain ⟨x3, e3, f3⟩ := hon 0 3 _ (by kernel_rfl) rfl rfl
   have h3 := f3
   obtain ⟨x5, e5, f5⟩ := hon 2 5 _ (by kernel_rfl) rfl rfl
   replace f5 : x5 = .slice A0_0 l0_0.length c0_0 := f5
   subst f5
   obtain ⟨⟨g, rfl⟩, hE⟩ := h3
   have hBw := below_then (below_alloc (below_alloc (Below.refl w.heap.size w) _) _) (by simp; omega) hB
   obtain ⟨v, w2, hrun, hR, hb, hk⟩ := append_fresh (A := A0_0) (c := c0_0) (P := Try.prog) (t := 30) (ty := 30) (bytes := 8) Try.underlying30 info3 rfl (by omega) hE (Kd.C_below HR0.out hBw) (by have := hB.size; simp at this; omega) (by have := LM.out.1; omega)
   refine value_ (w1 := w2) (v := v) (by rfl) rfl ?_ ?_
   ·
    exact run_append_op (s := .tmp 3) (x := .tmp 5) rfl (by simp only [Act.eval, Array.getD_eq_getD_getElem?, e3, Option.getD_some]) (by simp only [Act.eval, Array.getD_eq_getD_getElem?, e5, Option.getD_some]) hrun
   exact hK.out _ _ _ rfl hR hb (fun c hc k hk' => ⟨(hk k hk').1, (hk k hk').2.imp_right (fun e_ => ⟨0, 3, _, by have : c = 0 := (by simpa using hc); subst this; decide, by kernel_rfl, rfl, e3, by rw [e_]; rfl⟩)⟩)
  refine opLaws_cons ?_ ?_
  ·
   intro a w' hB hoff hon
   refine ⟨_, rfl, fun K hK => ?_⟩
   refine value_ (w1 := w'.alloc (.cells #[] 3)) (v := .slice (some ⟨w'.heap.size, 0, none⟩) 0 0) (by rfl) rfl ?_ ?_
   ·
    go_simp; try rfl
   exact hK.out _ _ _ rfl (empty_made (Kd.int .i64) (by have := hB.size; simp at this; omega)) (below_alloc (Below.refl _ _) _) (ownLaw_new (fun k hk => by have : w'.heap.size = k := (by simpa [Value.ownBlock] using hk); subst this; simp))
  refine opLaws_cons ?_ ?_
  ·
   intro a w' hB hoff hon
   refine ⟨_, rfl, fun K hK => ?_⟩
   have e1 : a.tmps[1]? = some (.pointer (some ⟨w.heap.size, 0, none⟩)) := (hoff 1 (by kernel_rfl)).trans rfl
   refine value_ (w1 := w') (v := .pointer (some ⟨w.heap.size, 1, none⟩)) (by rfl) rfl ?_ ?_
   ·
    go_simp; try rfl
   exact hK.out _ _ _ rfl rfl (Below.refl _ _) (ownLaw_no (by decide))
  refine opLaws_cons ?_ ?_
  ·
   intro a w' hB hoff hon
   refine ⟨_, rfl, fun K hK => ?_⟩
   obtain ⟨x8, e8, f8⟩ := hon 5 8 _ (by kernel_rfl) rfl rfl
   replace f8 : x8 = .pointer (some ⟨w.heap.size, 1, none⟩) := f8
   subst f8
   have z0 := pw_cell_below hB hx1
   refine value_ (w1 := w') (v := .slice A0_1 l0_1.length c0_1) (by rfl) rfl ?_ ?_
   ·
    go_simp; try rfl
   exact hK.out _ _ _ rfl rfl (Below.refl _ _) (ownLaw_no (by decide))
  refine opLaws_cons ?_ ?_
  ·
   intro a w' hB hoff hon
   refine ⟨_, rfl, fun K hK => ?_⟩
   obtain ⟨x7, e7, f7⟩ := hon 4 7 _ (by kernel_rfl) rfl rfl
   have h7 := f7
   obtain ⟨x9, e9, f9⟩ := hon 6 9 _ (by kernel_rfl) rfl rfl
   replace f9 : x9 = .slice A0_1 l0_1.length c0_1 := f9
   subst f9
   obtain ⟨⟨g, rfl⟩, hE⟩ := h7
   have hBw := below_then (below_alloc (below_alloc (Below.refl w.heap.size w) _) _) (by simp; omega) hB
   obtain ⟨v, w2, hrun, hR, hb, hk⟩ := append_fresh (A := A0_1) (c := c0_1) (P := Try.prog) (t := 30) (ty := 30) (bytes := 8) Try.underlying30 info3 rfl (by omega) hE (Kd.C_below HR1.out hBw) (by have := hB.size; simp at this; omega) (by have := LM.out.2.1; omega)
   refine value_ (w1 := w2) (v := v) (by rfl) rfl ?_ ?_
   ·
    exact run_append_op (s := .tmp 7) (x := .tmp 9) rfl (by simp only [Act.eval, Array.getD_eq_getD_getElem?, e7, Option.getD_some]) (by simp only [Act.eval, Array.getD_eq_getD_getElem?, e9, Option.getD_some]) hrun
   exact hK.out _ _ _ rfl hR hb (fun c hc k hk' => ⟨(hk k hk').1, (hk k hk').2.imp_right (fun e_ => ⟨4, 7, _, by have : c = 1 := (by simpa using hc); subst this; decide, by kernel_rfl, rfl, e7, by rw [e_]; rfl⟩)⟩)
  refine opLaws_cons ?_ ?_
  ·
   intro a w' hB hoff hon
   refine ⟨_, rfl, fun K hK => ?_⟩
   refine value_ (w1 := w'.alloc (.cells #[] 4)) (v := .slice (some ⟨w'.heap.size, 0, none⟩) 0 0) (by rfl) rfl ?_ ?_
   ·
    go_simp; try rfl
   exact hK.out _ _ _ rfl (empty_made Kd.bool (by have := hB.size; simp at this; omega)) (below_alloc (Below.refl _ _) _) (ownLaw_new (fun k hk => by have : w'.heap.size = k := (by simpa [Value.ownBlock] using hk); subst this; simp))
  refine opLaws_cons ?_ ?_
  ·
   intro a w' hB hoff hon
   refine ⟨_, rfl, fun K hK => ?_⟩
   have e1 : a.tmps[1]? = some (.pointer (some ⟨w.heap.size, 0, none⟩)) := (hoff 1 (by kernel_rfl)).trans rfl
   refine value_ (w1 := w') (v := .pointer (some ⟨w.heap.size, 2, none⟩)) (by rfl) rfl ?_ ?_
   ·
    go_simp; try rfl
   exact hK.out _ _ _ rfl rfl (Below.refl _ _) (ownLaw_no (by decide))
  refine opLaws_cons ?_ ?_
  ·
   intro a w' hB hoff hon
   refine ⟨_, rfl, fun K hK => ?_⟩
   obtain ⟨x12, e12, f12⟩ := hon 9 12 _ (by kernel_rfl) rfl rfl
   replace f12 : x12 = .pointer (some ⟨w.heap.size, 2, none⟩) := f12
   subst f12
   have z0 := pw_cell_below hB hx2
   refine value_ (w1 := w') (v := .slice A0_2 l0_2.length c0_2) (by rfl) rfl ?_ ?_
   ·
    go_simp; try rfl
   exact hK.out _ _ _ rfl rfl (Below.refl _ _) (ownLaw_no (by decide))
  refine opLaws_cons ?_ ?_
  ·
   intro a w' hB hoff hon
   refine ⟨_, rfl, fun K hK => ?_⟩
   obtain ⟨x11, e11, f11⟩ := hon 8 11 _ (by kernel_rfl) rfl rfl
   have h11 := f11
   obtain ⟨x13, e13, f13⟩ := hon 10 13 _ (by kernel_rfl) rfl rfl
   replace f13 : x13 = .slice A0_2 l0_2.length c0_2 := f13
   subst f13
   obtain ⟨⟨g, rfl⟩, hE⟩ := h11
   have hBw := below_then (below_alloc (below_alloc (Below.refl w.heap.size w) _) _) (by simp; omega) hB
   obtain ⟨v, w2, hrun, hR, hb, hk⟩ := append_fresh (A := A0_2) (c := c0_2) (P := Try.prog) (t := 31) (ty := 31) (bytes := 1) Try.underlying31 info4 rfl (by omega) hE (Kd.C_below HR2.out hBw) (by have := hB.size; simp at this; omega) (by have := LM.out.2.2; omega)
   refine value_ (w1 := w2) (v := v) (by rfl) rfl ?_ ?_
   ·
    exact run_append_op (s := .tmp 11) (x := .tmp 13) rfl (by simp only [Act.eval, Array.getD_eq_getD_getElem?, e11, Option.getD_some]) (by simp only [Act.eval, Array.getD_eq_getD_getElem?, e13, Option.getD_some]) hrun
   exact hK.out _ _ _ rfl hR hb (fun c hc k hk' => ⟨(hk k hk').1, (hk k hk').2.imp_right (fun e_ => ⟨8, 11, _, by have : c = 2 := (by simpa using hc); subst this; decide, by kernel_rfl, rfl, e11, by rw [e_]; rfl⟩)⟩)
  exact opLaws_nil
 intro vals w2 hb hv hO
 have hR0 : Kd.R (Kd.int .i64) 3 w2 (w.heap.size + 1 + 1) (fun _ => True) (vals 3) l0_0 := hv 3 _ rfl
 have hR1 : Kd.R (Kd.int .i64) 3 w2 (w.heap.size + 1 + 1) (fun _ => True) (vals 7) l0_1 := hv 7 _ rfl
 have hR2 : Kd.R Kd.bool 4 w2 (w.heap.size + 1 + 1) (fun _ => True) (vals 11) l0_2 := hv 11 _ rfl
 have hn0_1 : ∀ k, (vals 3).ownBlock = some k → some k ≠ (vals 7).ownBlock := fun k h1 h2 => hO.ne 3 7 0 1 k (by decide) (by decide) (by decide) rfl rfl h1 h2.symm
 have hn1_0 : ∀ k, (vals 7).ownBlock = some k → some k ≠ (vals 3).ownBlock := fun k h1 h2 => hO.ne 7 3 1 0 k (by decide) (by decide) (by decide) rfl rfl h1 h2.symm
 have hbk2 := blk_below BK.out hb
 have hy0 := (blk_cell hbk2 0).trans rfl
 have hz0 := blk_frozen hbk2 0
 have hy1 := (blk_cell hbk2 1).trans rfl
 have hz1 := blk_frozen hbk2 1
 have hy2 := (blk_cell hbk2 2).trans rfl
 have hz2 := blk_frozen hbk2 2
 have HB2 := Aside0.mk (below_then (below_alloc (below_alloc (Below.refl w.heap.size w) _) _) (by simp; omega) hb)
 replace BK := Aside0.mk hbk2
 simp only [selOf, List.zipIdx_cons, List.zipIdx_nil, List.map_cons, List.map_nil, Nat.zero_add, Nat.reduceAdd, putSel, if_true, Act.put, List.setIfInBounds_toArray, List.set_cons_zero, List.set_cons_succ]
 clear hv hO hb hbk2 hx0 hx1 hx2
 generalize vals 3 = x0_ at *
 obtain ⟨B0, d0, rfl⟩ := Kd.R_slice hR0
 generalize vals 7 = x1_ at *
 obtain ⟨B1, d1, rfl⟩ := Kd.R_slice hR1
 generalize vals 11 = x2_ at *
 obtain ⟨B2, d2, rfl⟩ := Kd.R_slice hR2
 have HT0 : Aside0 (Kd.R (Kd.int .i64) 3 w2 (w.heap.size + 1 + 1) (fun k_ => some k_ ≠ (.slice B1 l0_1.length d1 : Value).ownBlock) (.slice B0 l0_0.length d0) l0_0) := ⟨Kd.R_of_own (Kd.own_of_R hR0) (fun k hk => hn0_1 k hk)⟩
 have HT1 : Aside0 (Kd.R (Kd.int .i64) 3 w2 (w.heap.size + 1 + 1) (fun k_ => some k_ ≠ (.slice B0 l0_0.length d0 : Value).ownBlock) (.slice B1 l0_1.length d1) l0_1) := ⟨Kd.R_of_own (Kd.own_of_R hR1) (fun k hk => hn1_0 k hk)⟩
 have HT2 : Aside0 (Kd.R Kd.bool 4 w2 (w.heap.size + 1 + 1) (fun k_ => True) (.slice B2 l0_2.length d2) l0_2) := ⟨Kd.R_of_own (Kd.own_of_R hR2) (fun k hk => trivial)⟩
 clear hR0 hR1 hR2 hn0_1 hn1_0
 show tailOk _ _ _ [_, _] _ _
 refine tail_value rfl rfl (v := .agg #[.slice B0 l0_0.length d0, .slice B1 l0_1.length d1, .slice B2 l0_2.length d2]) (by go_simp; try rfl) rfl ?_
 refine tail_skip rfl rfl (w1 := (((w2.setCell ⟨w.heap.size + 1, 0, none⟩ (.slice B0 l0_0.length d0)).setCell ⟨w.heap.size + 1, 1, none⟩ (.slice B1 l0_1.length d1)).setCell ⟨w.heap.size + 1, 2, none⟩ (.slice B2 l0_2.length d2))) (by go_simp; try rfl) ?_
 refine tail_nil ?_
 simp only [Act.put, List.setIfInBounds_toArray, List.set_cons_zero, List.set_cons_succ]
 go_wp2
 refine bodyPost_ret (results_cell_row (p := 2) rfl _ _ (w.heap.size + 1) 33 #[.slice B0 l0_0.length d0, .slice B1 l0_1.length d1, .slice B2 l0_2.length d2] (0, 0) _ rfl (blk_put (blk_put (blk_put BK.out 0 _ rfl) 1 _ rfl) 2 _ rfl) hu rfl (by kernel_rfl)) rfl ?_
 exact ⟨_, _, _, rfl, Kd.R_lower (R_set (R_set (R_set HT0.out BK.out (by decide)) (blk_set BK.out 0 _) (by decide)) (blk_set (blk_set BK.out 0 _) 1 _) (by decide)) (by omega), Kd.R_lower (R_set (R_set (R_set HT1.out BK.out (by decide)) (blk_set BK.out 0 _) (by decide)) (blk_set (blk_set BK.out 0 _) 1 _) (by decide)) (by omega), Kd.R_lower (R_set (R_set (R_set HT2.out BK.out (by decide)) (blk_set BK.out 0 _) (by decide)) (blk_set (blk_set BK.out 0 _) 1 _) (by decide)) (by omega), (((HB2.out.setCell (p := ⟨_, 0, none⟩) (by simp) _).setCell (p := ⟨_, 1, none⟩) (by simp) _).setCell (p := ⟨_, 2, none⟩) (by simp) _)⟩


end Go.Proofs.Ytnheknlmmmkbpaa.X

namespace Go.Proofs.Ytnheknlmmmkbpaa.X
open Go.RowKit Go.Proofs.YtnheknlmmmkbpaaW.PrintWords Go.Proofs.YtnheknlmmmkbpaaW.PrintLast Go.Proofs.YtnheknlmmmkbpaaW.PrintMore
attribute [local go_sem] max2_int min2_int max_two min_two max_three min_three max_four min_four   -- for this text's walks alone
set_option linter.unusedVariables false
set_option linter.unusedSimpArgs false

/-! ### balance_Lacks: function 25 -/
def balance_Lacks.f (k : Nat) (l0_0 : List Int) (l0_1 : List Int) (l0_2 : List Bool) : Option (Int × Int) := (lru_Check.f l0_0 l0_1 l0_2).bind fun t286 => (if t286 = 0 then ((balance_lacks.f k l0_0 l0_1 l0_2).bind fun t287 => (some (t287, 0))) else (some (0, t286)))
theorem balance_Lacks.mono : ∀ a0 a1 a2 k, LeO (balance_Lacks.f k a0 a1 a2) (balance_Lacks.f (k + 1) a0 a1 a2) := by
 intro a0 a1 a2 k
 unfold balance_Lacks.f
 repeat' first
   | (with_reducible exact balance_lacks.mono _ _ _ _)
   | (with_reducible exact LeO.refl _)
   | (with_reducible exact LeO.none _)
   | (with_reducible refine LeO.ite ?_ ?_)
   | (with_reducible refine LeO.bind ?_ (fun _ => ?_))
   | exact balance_lacks.mono _ _ _ _
   | exact LeO.none _
   | refine LeO.ite ?_ ?_
   | refine LeO.bind ?_ (fun _ => ?_)
set_option maxHeartbeats 2000000 in
set_option maxRecDepth 100000 in
theorem balance_Lacks.calls (k : Nat) (A0_0 : Option Addr) (c0_0 : Nat) (l0_0 : List Int) (A0_1 : Option Addr) (c0_1 : Nat) (l0_1 : List Int) (A0_2 : Option Addr) (c0_2 : Nat) (l0_2 : List Bool) (r1 : Int) (r2 : Int) (w : World) (hr0_0 : Kd.C (Kd.int .i64) w A0_0 l0_0.length l0_0) (hc0_0 : l0_0.length ≤ c0_0) (hr0_1 : Kd.C (Kd.int .i64) w A0_1 l0_1.length l0_1) (hc0_1 : l0_1.length ≤ c0_1) (hr0_2 : Kd.C Kd.bool w A0_2 l0_2.length l0_2) (hc0_2 : l0_2.length ≤ c0_2) (h : balance_Lacks.f k l0_0 l0_1 l0_2 = some (r1, r2)) :
  Calls Try.prog 25 #[.agg #[.slice A0_0 l0_0.length c0_0, .slice A0_1 l0_1.length c0_1, .slice A0_2 l0_2.length c0_2]] w fun e w' => e = .returned (.tuple #[.int .i64 r1, .int .i64 r2]) ∧ Below w.heap.size w w' := by
 have hu33 := Try.underlying33
 have HR0_0 := Aside0.mk hr0_0
 have HC0_0 := Aside0.mk hc0_0
 clear hr0_0 hc0_0
 have HR0_1 := Aside0.mk hr0_1
 have HC0_1 := Aside0.mk hc0_1
 clear hr0_1 hc0_1
 have HR0_2 := Aside0.mk hr0_2
 have HC0_2 := Aside0.mk hc0_2
 clear hr0_2 hc0_2
 have HB := Aside0.mk (Below.refl w.heap.size w)
 have H : ((lru_Check.f l0_0 l0_1 l0_2).bind fun t286 => (if t286 = 0 then ((balance_lacks.f k l0_0 l0_1 l0_2).bind fun t287 => (some (t287, 0))) else (some (0, t286)))) = some (r1, r2) := h
 clear h
 replace H := Option.bind_eq_some_iff.mp H
 obtain ⟨t286, A20, H⟩ := H
 replace H : (if t286 = 0 then ((balance_lacks.f k l0_0 l0_1 l0_2).bind fun t287 => (some (t287, 0))) else (some (0, t286))) = some (r1, r2) := H
 have A2 := Aside0.mk A20
 clear A20
 by_cases c3 : t286 = 0
 ·
  rw [if_pos c3] at H
  have c3b0 : (t286 == 0) = true := beq_iff_eq.mpr c3
  have c3b1 : (t286 != 0) = false := bne_eq_false_iff_eq.mpr c3
  clear c3
  replace H := Option.bind_eq_some_iff.mp H
  obtain ⟨t287, A40, H⟩ := H
  replace H : (some (t287, 0)) = some (r1, r2) := H
  have A4 := Aside0.mk A40
  clear A40
  simp only [Option.some.injEq, Prod.mk.injEq] at H
  obtain ⟨rfl, rfl⟩ := H
  go_enter Try.func25, Try.ntmps25
  go_wp2_with (first | ((with_reducible refine gate_dst (N := 1) rfl ?_); refine box_event ?hg (N := 1) ?hd (cs := #[.slice A0_0 l0_0.length c0_0, .slice A0_1 l0_1.length c0_1, .slice A0_2 l0_2.length c0_2]) (t := 33) ?hr ?_; (case hd => rfl); (case hg => rfl); (case hr => first | (go_simp; done) | (go_simp; rfl)); intro gb285 hg w5 hbox hb; have n0_ := Aside0.mk (below_step (upH HB) hb); have n1_ := Aside0.mk (hbox); have n2_ := Aside0.mk ((by rw [hg]; exact (below_size (upH HB)) : w.heap.size ≤ gb285)); have n3_ := Aside0.mk ((by rw [hg]; exact (below_size (upH HB)) : w.heap.size ≤ gb285)); clear HB; have HB := n0_; have BK285 := n1_; have GW285 := n2_; have GE285 := n3_; clear n0_ n1_ n2_ n3_; clear hb hbox hg; have hcz6_0 := cell0 BK285; have hcz6_1 := cell1 BK285; have hcz6_2 := cell2 BK285; have hfz6_0 := blk_frozen BK285.out 0; have hfz6_1 := blk_frozen BK285.out 1; have hfz6_2 := blk_frozen BK285.out 2) | ((with_reducible refine gate_callee (f := 38) rfl ?_); refine goesL_ (some 6) rfl rfl Try.func38 (by kernel_rfl) rfl #[.agg #[.slice A0_0 l0_0.length c0_0, .slice A0_1 l0_1.length c0_1, .slice A0_2 l0_2.length c0_2]] rfl (args_ (p := _)) ?_; (with_reducible refine (lru_Check.calls _ _ l0_0 _ _ l0_1 _ _ l0_2 t286 _ ?side1 ?side2 ?side3 ?side4 ?side5 ?side6 A2.out).mono ?_); (case side1 => exact upc (Kd.C_below HR0_0.out HB.out)); (case side2 => exact HC0_0.out); (case side3 => exact upc (Kd.C_below HR0_1.out HB.out)); (case side4 => exact HC0_1.out); (case side5 => exact upc (Kd.C_below HR0_2.out HB.out)); (case side6 => exact HC0_2.out); rintro e w7 ⟨rfl, hb⟩; refine ⟨_, rfl, ?_⟩; have n0_ := Aside0.mk (blkB BK285 hb); have n1_ := Aside0.mk (below_step (upH HB) hb); clear BK285; clear HB; have BK285 := n0_; have HB := n1_; clear n0_ n1_; (try clear hb); (try clear hb2); (try clear hk); (try clear hi); have hcz8_0 := cell0 BK285; have hcz8_1 := cell1 BK285; have hcz8_2 := cell2 BK285; have hfz8_0 := blk_frozen BK285.out 0; have hfz8_1 := blk_frozen BK285.out 1; have hfz8_2 := blk_frozen BK285.out 2) | ((with_reducible refine gate_callee (f := 46) rfl ?_); refine goesL_ (some 11) rfl rfl Try.func46 (by kernel_rfl) rfl #[.agg #[.slice A0_0 l0_0.length c0_0, .slice A0_1 l0_1.length c0_1, .slice A0_2 l0_2.length c0_2]] rfl (args_ (p := _)) ?_; (with_reducible refine (balance_lacks.calls k _ _ l0_0 _ _ l0_1 _ _ l0_2 t287 _ ?side1 ?side2 ?side3 ?side4 ?side5 ?side6 A4.out).mono ?_); (case side1 => exact upc (Kd.C_below HR0_0.out HB.out)); (case side2 => exact HC0_0.out); (case side3 => exact upc (Kd.C_below HR0_1.out HB.out)); (case side4 => exact HC0_1.out); (case side5 => exact upc (Kd.C_below HR0_2.out HB.out)); (case side6 => exact HC0_2.out); rintro e w9 ⟨rfl, hb⟩; refine ⟨_, rfl, ?_⟩; have n0_ := Aside0.mk (blkB BK285 hb); have n1_ := Aside0.mk (below_step (upH HB) hb); clear BK285; clear HB; have BK285 := n0_; have HB := n1_; clear n0_ n1_; (try clear hb); (try clear hb2); (try clear hk); (try clear hi)))
  go_ret2
  exact ⟨by first | rfl | (simp [errW_none, errW_some] <;> rfl) | (simp [*, errW_none, errW_some] <;> rfl), by repeat (first | (with_reducible first | exact HB.out | apply below_alloc | apply pw_below_drewN | apply below_drew1 | refine below_set ?_ GE285.out) | exact HB.out)⟩
 ·
  rw [if_neg c3] at H
  have c3b0 : (t286 == 0) = false := beq_eq_false_iff_ne.mpr c3
  have c3b1 : (t286 != 0) = true := bne_iff_ne.mpr c3
  simp only [Option.some.injEq, Prod.mk.injEq] at H
  obtain ⟨rfl, rfl⟩ := H
  go_enter Try.func25, Try.ntmps25
  go_wp2_with (first | ((with_reducible refine gate_dst (N := 1) rfl ?_); refine box_event ?hg (N := 1) ?hd (cs := #[.slice A0_0 l0_0.length c0_0, .slice A0_1 l0_1.length c0_1, .slice A0_2 l0_2.length c0_2]) (t := 33) ?hr ?_; (case hd => rfl); (case hg => rfl); (case hr => first | (go_simp; done) | (go_simp; rfl)); intro gb285 hg w10 hbox hb; have n0_ := Aside0.mk (below_step (upH HB) hb); have n1_ := Aside0.mk (hbox); have n2_ := Aside0.mk ((by rw [hg]; exact (below_size (upH HB)) : w.heap.size ≤ gb285)); have n3_ := Aside0.mk ((by rw [hg]; exact (below_size (upH HB)) : w.heap.size ≤ gb285)); clear HB; have HB := n0_; have BK285 := n1_; have GW285 := n2_; have GE285 := n3_; clear n0_ n1_ n2_ n3_; clear hb hbox hg; have hcz11_0 := cell0 BK285; have hcz11_1 := cell1 BK285; have hcz11_2 := cell2 BK285; have hfz11_0 := blk_frozen BK285.out 0; have hfz11_1 := blk_frozen BK285.out 1; have hfz11_2 := blk_frozen BK285.out 2) | ((with_reducible refine gate_callee (f := 38) rfl ?_); refine goesL_ (some 6) rfl rfl Try.func38 (by kernel_rfl) rfl #[.agg #[.slice A0_0 l0_0.length c0_0, .slice A0_1 l0_1.length c0_1, .slice A0_2 l0_2.length c0_2]] rfl (args_ (p := _)) ?_; (with_reducible refine (lru_Check.calls _ _ l0_0 _ _ l0_1 _ _ l0_2 t286 _ ?side1 ?side2 ?side3 ?side4 ?side5 ?side6 A2.out).mono ?_); (case side1 => exact upc (Kd.C_below HR0_0.out HB.out)); (case side2 => exact HC0_0.out); (case side3 => exact upc (Kd.C_below HR0_1.out HB.out)); (case side4 => exact HC0_1.out); (case side5 => exact upc (Kd.C_below HR0_2.out HB.out)); (case side6 => exact HC0_2.out); rintro e w12 ⟨rfl, hb⟩; refine ⟨_, rfl, ?_⟩; have n0_ := Aside0.mk (blkB BK285 hb); have n1_ := Aside0.mk (below_step (upH HB) hb); clear BK285; clear HB; have BK285 := n0_; have HB := n1_; clear n0_ n1_; (try clear hb); (try clear hb2); (try clear hk); (try clear hi)))
  go_ret2
  exact ⟨by first | rfl | (simp [errW_none, errW_some] <;> rfl) | (simp [*, errW_none, errW_some] <;> rfl), by repeat (first | (with_reducible first | exact HB.out | apply below_alloc | apply pw_below_drewN | apply below_drew1 | refine below_set ?_ GE285.out) | exact HB.out)⟩

end Go.Proofs.Ytnheknlmmmkbpaa.X
