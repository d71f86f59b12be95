/- What Go functions of this seat compute, told as Lean functions, and that each call of the Go code comes to that answer; for a law: its row, for every input. Written by a program of the session. -/
import Derived.Test.YtfnhoncpaheejaaX0
namespace Go.Proofs.Ytfnhoncpaheejaa.X
open Go.RowKit Go.Proofs.YtfnhoncpaheejaaW.PrintWords Go.Proofs.YtfnhoncpaheejaaW.PrintLast Go.Proofs.YtfnhoncpaheejaaW.PrintMore
attribute [local go_sem] max2_int min2_int max_two min_two max_three min_three max_four min_four   -- for this text's walks alone
set_option linter.unusedVariables false
set_option linter.unusedSimpArgs false

/-! ### A region of open order whose operations make memory at most: each operation is shown once, in any world that has grown -/
/-- What is known of a value, and stays known when the world grows. -/
structure PFact where
 p : Value → World → Prop
 stays : ∀ v w w', p v w → Below w.heap.size w w' → p v w'
def litF (x : Value) : PFact := ⟨fun v _ => v = x, fun _ _ _ h _ => h⟩
def IsRow {α : Type} (d : Kd α) (l : List α) (v : Value) (w : World) : Prop := ∃ (A : Option Addr) (c : Nat), v = .slice A l.length c ∧ l.length ≤ c ∧ d.C w A l.length l
theorem IsRow.below {α : Type} {d : Kd α} {l : List α} {v : Value} {w w' : World} (h : IsRow d l v w) (hb : Below w.heap.size w w') : IsRow d l v w' := by
 obtain ⟨A, c, rfl, h1, h2⟩ := h
 exact ⟨A, c, rfl, h1, Kd.C_below h2 hb⟩
theorem IsRow.of {α : Type} {d : Kd α} {l : List α} {v : Value} {w : World} {e base : Nat} {ok : Nat → Prop} (h : d.R e w base ok v l) : IsRow d l v w := by
 obtain ⟨A, c, rfl⟩ := Kd.R_slice h
 exact ⟨A, c, rfl, (Kd.R_reads' h).2.1, (Kd.R_reads' h).2.2⟩
def rowF {α : Type} (d : Kd α) (l : List α) : PFact := ⟨IsRow d l, fun _ _ _ h hb => h.below hb⟩
/-- Cells one after the other, from an address on. -/
def atCells (p : Addr) : Nat → List Value → World → Prop
 | _, [], _ => True
 | 0, c :: cs, w => w.cell? p = some c ∧ atCells p 1 cs w
 | n + 1, c :: cs, w => w.cell? ⟨p.block, p.off + (n + 1), none⟩ = some c ∧ atCells p (n + 2) cs w
theorem atCells_stays {p : Addr} : ∀ {n : Nat} {cs : List Value} {w w' : World}, atCells p n cs w → Below w.heap.size w w' → atCells p n cs w'
 | _, [], _, _, _, _ => trivial
 | 0, _ :: _, _, _, h, hb => ⟨pw_cell_below hb h.1, atCells_stays h.2 hb⟩
 | _ + 1, _ :: _, _, _, h, hb => ⟨pw_cell_below hb h.1, atCells_stays h.2 hb⟩
def elemF (cs : List Value) : PFact := ⟨fun v w => ∃ p, v = .pointer (some p) ∧ atCells p 0 cs w, fun _ _ _ h hb => by obtain ⟨p, e, h⟩ := h; exact ⟨p, e, atCells_stays h hb⟩⟩
def aggP : List PFact → List Value → World → Prop
 | [], vs, _ => vs = []
 | f :: fs, vs, w => ∃ v r, vs = v :: r ∧ f.p v w ∧ aggP fs r w
theorem aggP_stays : ∀ (fs : List PFact) (vs : List Value) (w w' : World), aggP fs vs w → Below w.heap.size w w' → aggP fs vs w'
 | [], _, _, _, h, _ => h
 | f :: fs, _, w, w', ⟨v, r, e, h1, h2⟩, hb => ⟨v, r, e, f.stays v w w' h1 hb, aggP_stays fs r w w' h2 hb⟩
def aggF (fs : List PFact) : PFact := ⟨fun v w => ∃ vs, v = .agg vs.toArray ∧ aggP fs vs w, by rintro v w w' ⟨vs, e, h⟩ hb; exact ⟨vs, e, aggP_stays fs vs _ _ h hb⟩⟩
def tupF (fs : List PFact) : PFact := ⟨fun v w => ∃ vs, v = .tuple vs.toArray ∧ aggP fs vs w, by rintro v w w' ⟨vs, e, h⟩ hb; exact ⟨vs, e, aggP_stays fs vs _ _ h hb⟩⟩
def selOf (ds : List Tmp) (vals : Nat → Value) : List (Nat × Tmp × Value) := ds.zipIdx.map fun e => (e.2, e.1, vals e.2)
theorem selOf_length (ds : List Tmp) (vals : Nat → Value) : (selOf ds vals).length = ds.length := by simp [selOf]
theorem selOf_get (ds : List Tmp) (vals : Nat → Value) (i : Nat) : (selOf ds vals)[i]? = ds[i]?.map fun t => (i, t, vals i) := by
 simp only [selOf, List.getElem?_map, List.getElem?_zipIdx]
 cases ds[i]? <;> simp
theorem selOf_mem {ds : List Tmp} {vals : Nat → Value} {e : Nat × Tmp × Value} (h : e ∈ selOf ds vals) : ds[e.1]? = some e.2.1 := by
 obtain ⟨k, hk⟩ := List.mem_iff_getElem?.1 h
 rw [selOf_get] at hk
 obtain ⟨t, h1, h2⟩ := Option.map_eq_some_iff.1 hk
 subst h2
 exact h1
theorem selOf_set (ds : List Tmp) (vals : Nat → Value) (i : Nat) (t : Tmp) (v : Value) (hi : ds[i]? = some t) : (selOf ds vals).set i (i, t, v) = selOf ds (fun j => if j = i then v else vals j) := by
 apply List.ext_getElem?
 intro j
 by_cases hij : i = j
 ·
  subst hij
  have hl : i < (selOf ds vals).length := by rw [selOf_length]; exact (List.getElem?_eq_some_iff.1 hi).1
  rw [List.getElem?_set_self hl, selOf_get, hi]
  simp
 ·
  rw [List.getElem?_set_ne hij, selOf_get, selOf_get]
  simp [Ne.symm hij]
section
variable {P : Program} {ops : Array Oper} {Q : Exit → Act → World → Prop} {md : Region.Mode} {T : Bool × List (List Nat × List Nat)} {B : List Nat}
/-- What is asked of operation i, in any world that has grown. -/
def OpLaw (P : Program) (ops : Array Oper) (Q : Exit → Act → World → Prop) (B : List Nat) (ds : List Tmp) (F : List PFact) (a0 : Act) (w0 : World) (i : Nat) : Prop :=
 ∀ (a : Act) (w : World), Below w0.heap.size w0 w → (∀ t, ds.contains t = false → a.tmps[t]? = a0.tmps[t]?) →
  (∀ (j : Nat) (t : Tmp) (f : PFact), (B.getD i 0).testBit j = true → ds[j]? = some t → F[j]? = some f → ∃ v, a.tmps[t]? = some v ∧ f.p v w) →
  ∃ oi, ops[i]? = some oi ∧ ∀ K : Act → World → Prop, Shut (∀ (v : Value) (w' : World) (f : PFact), F[i]? = some f → f.p v w' → Below w.heap.size w w' → K (a.put oi.dst v) w') → if Region.wanted oi (yielded ops a.tmps) = true then Oper.wp P oi a w K Q else K (a.put oi.dst undef) w
/-- The numbers and the destinations of a region, looked through. -/
def selOk (ops : Array Oper) (ds : List Tmp) (n : Nat) : Bool := ds.length == n && decide ds.Nodup && (List.range n).all fun i => match ops[i]?, ds[i]? with
 | some o, some t => o.dst == some t
 | _, _ => false
theorem selOk_dst {ds : List Tmp} {n i : Nat} {o : Oper} {t : Tmp} (h : selOk ops ds n = true) (ho : ops[i]? = some o) (ht : ds[i]? = some t) : o.dst = some t := by
 simp only [selOk, Bool.and_eq_true] at h
 have hi : i < n := by
  have := (List.getElem?_eq_some_iff.1 ht).1
  have h2 := beq_iff_eq.1 h.1.1
  omega
 have := List.all_eq_true.1 h.2 i (List.mem_range.2 hi)
 rw [ho, ht] at this
 simpa using this
theorem nodup_get {ds : List Tmp} (h : ds.Nodup) {i j : Nat} {t : Tmp} (hi : ds[i]? = some t) (hj : ds[j]? = some t) : i = j := by
 obtain ⟨h1, e1⟩ := List.getElem?_eq_some_iff.1 hi
 obtain ⟨h2, e2⟩ := List.getElem?_eq_some_iff.1 hj
 exact (List.getElem_inj h).1 (e1.trans e2.symm)
theorem shut_region {l : Array Bool} {fuel : Nat} {a : Act} {w : World} (n : Nat) (ds : List Tmp) (F : List PFact) (hT : rtab md ops = T) (hw : waitsOk T.2 B = true) (hk : baseOk T.2 (List.range n) = true)
  (hl : (lof T.2.length (List.range n) (fun _ => false) == l.toList && (List.range n).length == fuel) = true) (hsel : selOk ops ds n = true) (hF : F.length = n) (hsz : (ds.all fun t => decide (t < a.tmps.size)) = true)
  (hs : ∀ i ∈ List.range n, OpLaw P ops Q B ds F a w i)
  (hend : ∀ (vals : Nat → Value) (w' : World), Below w.heap.size w w' → (∀ (i : Nat) (f : PFact), F[i]? = some f → f.p (vals i) w') → Q .normal (putSel a (fun _ => true) (selOf ds vals)) w') :
  wpAnyLast P md ops Q (fun _ => True) [] fuel l a w := by
 have hlen : ds.length = n := by
  simp only [selOk, Bool.and_eq_true] at hsel
  exact beq_iff_eq.1 hsel.1.1
 have hnd : ds.Nodup := by
  simp only [selOk, Bool.and_eq_true] at hsel
  simpa using hsel.1.2
 refine inv_ (List.range n) (fun b a' w' => Below w.heap.size w w' ∧ ∃ vals : Nat → Value, a' = putSel a b (selOf ds vals) ∧ ∀ (i : Nat) (f : PFact), b i = true → F[i]? = some f → f.p (vals i) w') hT hw hk hl ?_ ?_ ?_
 ·
  refine ⟨Below.refl _ _, fun _ => undef, ?_, fun i f h => by cases h⟩
  have : ∀ L : List (Nat × Tmp × Value), putSel a (fun _ => false) L = a := by
   intro L
   induction L with
   | nil => rfl
   | cons e r ih => unfold putSel; rw [if_neg (by decide)]; exact ih
  exact (this _).symm
 ·
  intro i hi b a' w' ⟨hB, vals, ha, hv⟩ hbi hon hoff
  have hin : i < n := List.mem_range.1 hi
  obtain ⟨ti, hti⟩ : ∃ t, ds[i]? = some t := ⟨ds[i]'(by omega), List.getElem?_eq_getElem (by omega)⟩
  obtain ⟨oi, hoi, hK⟩ := hs i hi a' w' hB (fun t ht => by
   rw [ha]
   refine putSel_off (List.all_eq_true.2 fun e he => ?_)
   have h1 := selOf_mem he
   have h2 : e.2.1 ≠ t := by
    rintro rfl
    have := List.mem_of_getElem? h1
    simp [List.contains_iff_mem, this] at ht
   simpa using h2) (fun j t f hj ht hf => by
   have hjn : j < n := by have := (List.getElem?_eq_some_iff.1 ht).1; omega
   have hbj := hon j (by rw [hj, Bool.and_true, List.contains_iff_mem]; exact List.mem_range.2 hjn)
   refine ⟨vals j, ?_, hv j f hbj hf⟩
   rw [ha]
   have hts : t < a.tmps.size := by simpa using List.all_eq_true.1 hsz t (List.mem_of_getElem? ht)
   refine putSel_on (e := (j, t, vals j)) j (by rw [selOf_get, ht]; rfl) (List.all_eq_true.2 fun e he => ?_) hbj (Nat.ble_eq_true_of_le hts)
   obtain ⟨k, hk⟩ := List.mem_iff_getElem?.1 he
   rw [List.getElem?_drop, selOf_get] at hk
   obtain ⟨t', h1, h2⟩ := Option.map_eq_some_iff.1 hk
   subst h2
   have : t' ≠ t := by
    rintro rfl
    have := nodup_get hnd h1 ht
    omega
   simpa using this)
  refine ⟨oi, hoi, fun K hKK => hK K (show Shut _ from fun v w2 f hf hp hb2 => hKK.out _ _ ⟨below_then hB hB.size hb2, fun j => if j = i then v else vals j, ?_, fun j g hj hg => ?_⟩)⟩
  ·
   rw [selOk_dst hsel hoi hti, ha]
   rw [← selOf_set ds vals i ti v hti]
   refine putSel_upk i hbi (by rw [selOf_get, hti]; rfl) rfl (List.all_eq_true.2 fun e he => ?_)
   have key : ∀ k, k ≠ i → (selOf ds vals)[k]? = some e → (!(e.1 == i) && !(e.2.1 == ti)) = true := by
    intro k hki hk
    rw [selOf_get] at hk
    obtain ⟨t', h1, h2⟩ := Option.map_eq_some_iff.1 hk
    subst h2
    have : t' ≠ ti := by
     rintro rfl
     exact hki (nodup_get hnd h1 hti)
    simp [hki, this]
   rcases List.mem_append.1 he with h | h
   ·
    obtain ⟨k, hk⟩ := List.mem_iff_getElem?.1 h
    rw [List.getElem?_take] at hk
    by_cases hki : k < i
    ·
     rw [if_pos hki] at hk
     exact key k (by omega) hk
    ·
     rw [if_neg hki] at hk
     cases hk
   ·
    obtain ⟨k, hk⟩ := List.mem_iff_getElem?.1 h
    rw [List.getElem?_drop] at hk
    exact key (i + 1 + k) (by omega) hk
  ·
   by_cases hji : j = i
   ·
    subst hji
    dsimp only
    rw [if_pos rfl]
    rw [hf] at hg
    cases hg
    exact hp
   ·
    dsimp only
    rw [if_neg hji]
    rw [up_ne hji] at hj
    exact g.stays _ _ _ (hv j g hj hg) hb2
 ·
  intro b a' w' hall ⟨hB, vals, ha, hv⟩
  have hbt : ∀ j, j < n → b j = true := fun j hj => hall j (by simp [hj])
  have h1 : ∀ L : List (Nat × Tmp × Value), (∀ e ∈ L, b e.1 = true) → ∀ a1, putSel a1 b L = putSel a1 (fun _ => true) L := by
   intro L
   induction L with
   | nil => intro _ a1; rfl
   | cons e r ih =>
    intro hL a1
    unfold putSel
    rw [if_pos (hL e (by simp)), if_pos rfl]
    exact ih (fun e he => hL e (by simp [he])) _
  rw [ha, h1 _ (fun e he => hbt _ (by have := (List.getElem?_eq_some_iff.1 (selOf_mem he)).1; omega))]
  exact hend vals w' hB (fun i f hf => hv i f (hbt i (by have := (List.getElem?_eq_some_iff.1 hf).1; omega)) hf)
theorem opLaws_nil {I : Nat → Prop} : ∀ i ∈ ([] : List Nat), I i := fun _ h => by cases h
end
theorem opLaws_cons {I : Nat → Prop} {i : Nat} {rs : List Nat} (h : I i) (hs : ∀ j ∈ rs, I j) : ∀ j ∈ i :: rs, I j := fun j hj => by
 rcases List.mem_cons.1 hj with rfl | hj
 ·
  exact h
 ·
  exact hs j hj
/-- The whole region, its draw ahead. -/
theorem shut_code {P : Program} {ops : Array Oper} {Q : Exit → Act → World → Prop} {T : Bool × List (List Nat × List Nat)} {B : List Nat} {id : Nat} {a : Act} {w : World} (n : Nat) (ds : List Tmp) (F : List PFact) (hm : P.follows .mixedOrders = true) (hn : ops.size = n)
  (hT : rtab .any ops = T) (hw : waitsOk T.2 B = true) (hk : baseOk T.2 (List.range n) = true) (hl : (lof T.2.length (List.range n) (fun _ => false) == List.replicate n false && (List.range n).length == n) = true) (hsel : selOk ops ds n = true) (hF : F.length = n) (hsz : (ds.all fun t => decide (t < a.tmps.size)) = true)
  (hs : ∀ i ∈ List.range n, OpLaw P ops Q B ds F a w i)
  (hend : ∀ (vals : Nat → Value) (w' : World), Below w.heap.size w w' → (∀ (i : Nat) (f : PFact), F[i]? = some f → f.p (vals i) w') → Q .normal (putSel a (fun _ => true) (selOf ds vals)) w') :
  (Code.region id ops true).wp P Q a w := by
 have hbd : Below w.heap.size w w.drew := below_drew (Below.refl _ _)
 refine start_ (S := fun _ => True) (ds := []) (Array.replicate n false) hm hn rfl trivial (fun _ => ?_)
 refine shut_region n ds F hT hw hk (by rw [Array.toList_replicate]; exact hl) hsel hF hsz (fun i hi a' w' hB => hs i hi a' w' (below_then hbd hbd.size hB)) (fun vals w' hB => hend vals w' (below_then hbd hbd.size hB))
theorem blk_newb (w : World) (o : Obj) (b : Nat) (hb : b = w.heap.size) : (w.alloc o).heap[b]? = some o := by
 subst hb
 exact blk_new w o

/-! ### A region of open order with a forced end: its first operations in any order, each shown once; behind them the others one by one -/
/-- A row of the call's own. -/
def ownF {α : Type} (d : Kd α) (e base : Nat) (l : List α) : PFact := ⟨fun v w => d.R e w base (fun _ => True) v l, fun _ _ _ h hb => Kd.R_below h hb⟩
def atF (p : World → Prop) (hp : ∀ w w', p w → Below w.heap.size w w' → p w') (x : Value) : PFact := ⟨fun v w => v = x ∧ p w, fun _ _ _ h hb => ⟨h.1, hp _ _ h.2 hb⟩⟩
section
variable {P : Program} {ops : Array Oper} {Q : Exit → Act → World → Prop} {md : Region.Mode} {T : Bool × List (List Nat × List Nat)} {B : List Nat}
def tailOk (P : Program) (ops : Array Oper) (Q : Exit → Act → World → Prop) : List Oper → Act → World → Prop
 | [], a, w => Q .normal a w
 | o :: rest, a, w => ∀ K : Act → World → Prop, Shut (∀ a' w', tailOk P ops Q rest a' w' → K a' w') → if Region.wanted o (yielded ops a.tmps) = true then Oper.wp P o a w K Q else K (a.put o.dst undef) w
theorem tail_value {o : Oper} {rest : List Oper} {N : Option Tmp} {a a' : Act} {w w1 : World} {v : Value} (hw : Region.wanted o (yielded ops a.tmps) = true) (hN : o.dst = N) (hrun : (execOp a.eval o).run P w = .ok (.value v) w1) (ha : a.put N v = a') (h : tailOk P ops Q rest a' w1) : tailOk P ops Q (o :: rest) a w := by
 subst ha
 subst hN
 exact fun K hK => value_ hw rfl hrun (hK.out _ _ h)
theorem tail_skip {o : Oper} {rest : List Oper} {a : Act} {w w1 : World} (hw : Region.wanted o (yielded ops a.tmps) = true) (hN : o.dst = none) (hrun : (execOp a.eval o).run P w = .ok .skip w1) (h : tailOk P ops Q rest a w1) : tailOk P ops Q (o :: rest) a w := by
 intro K hK
 rw [hN]
 exact skip_ hw hN hrun (hK.out _ _ h)
theorem tail_nil {a : Act} {w : World} (h : Q .normal a w) : tailOk P ops Q [] a w := h
theorem shut_region_tail {l : Array Bool} {fuel : Nat} {a : Act} {w : World} (n m : Nat) (ds : List Tmp) (F : List PFact) (hmn : m ≤ n) (hn : ops.size = n) (hT : rtab md ops = T) (hw : waitsOk T.2 B = true) (hk : baseOk T.2 (List.range n) = true)
  (hl : (lof T.2.length (List.range n) (fun _ => false) == l.toList && (List.range n).length == fuel) = true) (hsel : selOk ops ds m = true) (hF : F.length = m) (hsz : (ds.all fun t => decide (t < a.tmps.size)) = true)
  (htl : (((List.range n).drop m).all fun i => (List.range i).all fun j => (B.getD i 0).testBit j) = true)
  (hs : ∀ i ∈ List.range m, OpLaw P ops Q B ds F a w i)
  (hend : ∀ (vals : Nat → Value) (w' : World), Below w.heap.size w w' → (∀ (i : Nat) (f : PFact), F[i]? = some f → f.p (vals i) w') → tailOk P ops Q (ops.toList.drop m) (putSel a (fun _ => true) (selOf ds vals)) w') :
  wpAnyLast P md ops Q (fun _ => True) [] fuel l a w := by
 have hlen : ds.length = m := by
  simp only [selOk, Bool.and_eq_true] at hsel
  exact beq_iff_eq.1 hsel.1.1
 have hnd : ds.Nodup := by
  simp only [selOk, Bool.and_eq_true] at hsel
  simpa using hsel.1.2
 have htl' : ∀ i, m ≤ i → i < n → ∀ j, j < i → (B.getD i 0).testBit j = true := by
  intro i h1 h2 j hj
  have h3 := List.all_eq_true.1 htl i (by
   rw [List.mem_drop_iff_getElem]
   exact ⟨i - m, by simp; omega, by simp; omega⟩)
  exact List.all_eq_true.1 h3 j (List.mem_range.2 hj)
 have hall : ∀ (b : Nat → Bool), (∀ j, j < m → b j = true) → ∀ (vals : Nat → Value) (a1 : Act), putSel a1 b (selOf ds vals) = putSel a1 (fun _ => true) (selOf ds vals) := by
  intro b hb vals
  have h1 : ∀ L : List (Nat × Tmp × Value), (∀ e ∈ L, b e.1 = true) → ∀ a1, putSel a1 b L = putSel a1 (fun _ => true) L := by
   intro L
   induction L with
   | nil => intro _ a1; rfl
   | cons e r ih =>
    intro hL a1
    unfold putSel
    rw [if_pos (hL e (by simp)), if_pos rfl]
    exact ih (fun e he => hL e (by simp [he])) _
  exact h1 _ (fun e he => hb _ (by have := (List.getElem?_eq_some_iff.1 (selOf_mem he)).1; omega))
 refine inv_ (List.range n) (fun b a' w' => ((∀ j, m ≤ j → j < n → b j = false) ∧ Below w.heap.size w w' ∧ ∃ vals : Nat → Value, a' = putSel a b (selOf ds vals) ∧ ∀ (i : Nat) (f : PFact), b i = true → F[i]? = some f → f.p (vals i) w') ∨
   ∃ i, m ≤ i ∧ i ≤ n ∧ (∀ j, j < i → b j = true) ∧ (∀ j, i ≤ j → j < n → b j = false) ∧ tailOk P ops Q (ops.toList.drop i) a' w') hT hw hk hl ?_ ?_ ?_
 ·
  refine .inl ⟨fun _ _ _ => rfl, Below.refl _ _, fun _ => undef, ?_, fun i f h => by cases h⟩
  have : ∀ L : List (Nat × Tmp × Value), putSel a (fun _ => false) L = a := by
   intro L
   induction L with
   | nil => rfl
   | cons e r ih => unfold putSel; rw [if_neg (by decide)]; exact ih
  exact (this _).symm
 ·
  intro i hi b a' w' hI hbi hon hoff
  have hin : i < n := List.mem_range.1 hi
  by_cases him : i < m
  ·
   obtain ⟨hbt, hB, vals, ha, hv⟩ : (∀ j, m ≤ j → j < n → b j = false) ∧ Below w.heap.size w w' ∧ ∃ vals : Nat → Value, a' = putSel a b (selOf ds vals) ∧ ∀ (i : Nat) (f : PFact), b i = true → F[i]? = some f → f.p (vals i) w' := by
    rcases hI with h | ⟨q, h1, h2, h3, _⟩
    ·
     exact h
    ·
     rw [h3 i (by omega)] at hbi; cases hbi
   obtain ⟨ti, hti⟩ : ∃ t, ds[i]? = some t := ⟨ds[i]'(by omega), List.getElem?_eq_getElem (by omega)⟩
   obtain ⟨oi, hoi, hK⟩ := hs i (List.mem_range.2 him) a' w' hB (fun t ht => by
    rw [ha]
    refine putSel_off (List.all_eq_true.2 fun e he => ?_)
    have h1 := selOf_mem he
    have h2 : e.2.1 ≠ t := by
     rintro rfl
     have := List.mem_of_getElem? h1
     simp [List.contains_iff_mem, this] at ht
    simpa using h2) (fun j t f hj ht hf => by
    have hjn : j < m := by have := (List.getElem?_eq_some_iff.1 ht).1; omega
    have hbj := hon j (by rw [hj, Bool.and_true, List.contains_iff_mem]; exact List.mem_range.2 (by omega))
    refine ⟨vals j, ?_, hv j f hbj hf⟩
    rw [ha]
    have hts : t < a.tmps.size := by simpa using List.all_eq_true.1 hsz t (List.mem_of_getElem? ht)
    refine putSel_on (e := (j, t, vals j)) j (by rw [selOf_get, ht]; rfl) (List.all_eq_true.2 fun e he => ?_) hbj (Nat.ble_eq_true_of_le hts)
    obtain ⟨k, hk⟩ := List.mem_iff_getElem?.1 he
    rw [List.getElem?_drop, selOf_get] at hk
    obtain ⟨t', h1, h2⟩ := Option.map_eq_some_iff.1 hk
    subst h2
    have : t' ≠ t := by
     rintro rfl
     have := nodup_get hnd h1 ht
     omega
    simpa using this)
   refine ⟨oi, hoi, fun K hKK => hK K (show Shut _ from fun v w2 f hf hp hb2 => hKK.out _ _ (.inl ⟨fun j h1 h2 => ?_, below_then hB hB.size hb2, fun j => if j = i then v else vals j, ?_, fun j g hj hg => ?_⟩))⟩
   ·
    rw [up_ne (by omega)]
    exact hbt j h1 h2
   ·
    rw [selOk_dst hsel hoi hti, ha]
    rw [← selOf_set ds vals i ti v hti]
    refine putSel_upk i hbi (by rw [selOf_get, hti]; rfl) rfl (List.all_eq_true.2 fun e he => ?_)
    have key : ∀ k, k ≠ i → (selOf ds vals)[k]? = some e → (!(e.1 == i) && !(e.2.1 == ti)) = true := by
     intro k hki hk
     rw [selOf_get] at hk
     obtain ⟨t', h1, h2⟩ := Option.map_eq_some_iff.1 hk
     subst h2
     have : t' ≠ ti := by
      rintro rfl
      exact hki (nodup_get hnd h1 hti)
     simp [hki, this]
    rcases List.mem_append.1 he with h | h
    ·
     obtain ⟨k, hk⟩ := List.mem_iff_getElem?.1 h
     rw [List.getElem?_take] at hk
     by_cases hki : k < i
     ·
      rw [if_pos hki] at hk
      exact key k (by omega) hk
     ·
      rw [if_neg hki] at hk
      cases hk
    ·
     obtain ⟨k, hk⟩ := List.mem_iff_getElem?.1 h
     rw [List.getElem?_drop] at hk
     exact key (i + 1 + k) (by omega) hk
   ·
    by_cases hji : j = i
    ·
     subst hji
     dsimp only
     rw [if_pos rfl]
     rw [hf] at hg
     cases hg
     exact hp
    ·
     dsimp only
     rw [if_neg hji]
     rw [up_ne hji] at hj
     exact g.stays _ _ _ (hv j g hj hg) hb2
  ·
   have hbl : ∀ j, j < i → b j = true := fun j hj => hon j (by rw [htl' i (by omega) hin j hj, Bool.and_true, List.contains_iff_mem]; exact List.mem_range.2 (by omega))
   have htk : tailOk P ops Q (ops.toList.drop i) a' w' ∧ ∀ j, i ≤ j → j < n → b j = false := by
    rcases hI with ⟨hbt, hB, vals, ha, hv⟩ | ⟨q, h1, h2, h3, h4, h5⟩
    ·
     have him2 : i = m := by
      by_cases e : i = m
      ·
       exact e
      ·
       have := hbl m (by omega)
       rw [hbt m (by omega) (by omega)] at this
       cases this
     subst him2
     refine ⟨?_, fun j hj hjn => hbt j hj hjn⟩
     rw [ha, hall b hbl]
     exact hend vals w' hB (fun j f hf => hv j f (hbl j (by have := (List.getElem?_eq_some_iff.1 hf).1; omega)) hf)
    ·
     have hq : q = i := by
      rcases Nat.lt_trichotomy q i with h | h | h
      ·
       have := hbl q h
       rw [h4 q (by omega) (by omega)] at this
       cases this
      ·
       exact h
      ·
       rw [h3 i h] at hbi; cases hbi
     subst hq
     exact ⟨h5, h4⟩
   have hio : i < ops.toList.length := by simp; omega
   refine ⟨ops.toList[i], by rw [← Array.getElem?_toList, List.getElem?_eq_getElem hio], fun K hKK => ?_⟩
   have h6 := htk.1
   rw [List.drop_eq_getElem_cons hio] at h6
   exact h6 K (show Shut _ from fun a2 w2 h7 => hKK.out _ _ (.inr ⟨i + 1, by omega, by omega, fun j hj => by
    by_cases e : j = i
    ·
     rw [e, up_self]
    ·
     rw [up_ne e]; exact hbl j (by omega), fun j hj hjn => by
    rw [up_ne (by omega)]
    exact htk.2 j (by omega) hjn, h7⟩))
 ·
  intro b a' w' hall2 hI
  have hbt : ∀ j, j < n → b j = true := fun j hj => hall2 j (by simp [hj])
  rcases hI with ⟨h0, hB, vals, ha, hv⟩ | ⟨q, h1, h2, h3, h4, h5⟩
  ·
   have hmn2 : m = n := by
    by_cases e : m = n
    ·
     exact e
    ·
     have := hbt m (by omega)
     rw [h0 m (by omega) (by omega)] at this
     cases this
   have h7 := hend vals w' hB (fun j f hf => hv j f (hbt j (by have := (List.getElem?_eq_some_iff.1 hf).1; omega)) hf)
   rw [List.drop_eq_nil_of_le (by simp; omega), ← hall b (fun j hj => hbt j (by omega)), ← ha] at h7
   exact h7
  ·
   have hq : q = n := by
    by_cases e : q = n
    ·
     exact e
    ·
     have := hbt q (by omega)
     rw [h4 q (by omega) (by omega)] at this
     cases this
   subst hq
   rw [List.drop_eq_nil_of_le (by simp; omega)] at h5
   exact h5
end
/-- The whole region, its draw ahead. -/
theorem shut_tail {P : Program} {ops : Array Oper} {Q : Exit → Act → World → Prop} {T : Bool × List (List Nat × List Nat)} {B : List Nat} {id : Nat} {a : Act} {w : World} (n m : Nat) (ds : List Tmp) (F : List PFact) (hm : P.follows .mixedOrders = true) (hn : ops.size = n) (hmn : m ≤ n)
  (hT : rtab .any ops = T) (hw : waitsOk T.2 B = true) (hk : baseOk T.2 (List.range n) = true) (hl : (lof T.2.length (List.range n) (fun _ => false) == List.replicate n false && (List.range n).length == n) = true) (hsel : selOk ops ds m = true) (hF : F.length = m) (hsz : (ds.all fun t => decide (t < a.tmps.size)) = true)
  (htl : (((List.range n).drop m).all fun i => (List.range i).all fun j => (B.getD i 0).testBit j) = true)
  (hs : ∀ i ∈ List.range m, OpLaw P ops Q B ds F a w i)
  (hend : ∀ (vals : Nat → Value) (w' : World), Below w.heap.size w w' → (∀ (i : Nat) (f : PFact), F[i]? = some f → f.p (vals i) w') → tailOk P ops Q (ops.toList.drop m) (putSel a (fun _ => true) (selOf ds vals)) w') :
  (Code.region id ops true).wp P Q a w := by
 have hbd : Below w.heap.size w w.drew := below_drew (Below.refl _ _)
 refine start_ (S := fun _ => True) (ds := []) (Array.replicate n false) hm hn rfl trivial (fun _ => ?_)
 refine shut_region_tail n m ds F hmn hn hT hw hk (by rw [Array.toList_replicate]; exact hl) hsel hF hsz htl (fun i hi a' w' hB => hs i hi a' w' (below_then hbd hbd.size hB)) (fun vals w' hB => hend vals w' (below_then hbd hbd.size hB))
/-- A row of the call's own that lies past a variable: a store into the variable leaves it. -/
theorem R_past {α : Type} {d : Kd α} {e g : Nat} {W : World} {v : Value} {xs : List α} (h : d.R e W (g + 1) (fun _ => True) v xs) (i : Nat) (u : Value) : d.R e (W.setCell ⟨g, i, none⟩ u) (g + 1) (fun _ => True) v xs :=
 Kd.R_mono (Kd.R_far (p := ⟨g, i, none⟩) (Kd.R_bound h) (fun k hk => by have := hk.2.1; simp; omega) u) (fun _ _ => trivial)


end Go.Proofs.Ytfnhoncpaheejaa.X
