/- What Go functions of this seat compute, told as Lean functions, and that each call of the Go code comes to that answer; for a law: its row, for every input. Written by a program of the session. -/
import Derived.Test.YtaofihdmgdpenaaX0
namespace Go.Proofs.Ytaofihdmgdpenaa.X
open Go.RowKit Go.Proofs.YtaofihdmgdpenaaW.PrintWords Go.Proofs.YtaofihdmgdpenaaW.PrintLast Go.Proofs.YtaofihdmgdpenaaW.PrintMore
attribute [local go_sem] max2_int min2_int max_two min_two max_three min_three max_four min_four   -- for this text's walks alone
set_option linter.unusedVariables false
set_option linter.unusedSimpArgs false

/-! ### A region of open order whose operations make memory at most: each operation is shown once, in any world that has grown -/
/-- What is known of a value, and stays known when the world grows. -/
structure PFact where
 p : Value → World → Prop
 stays : ∀ v w w', p v w → Below w.heap.size w w' → p v w'
def litF (x : Value) : PFact := ⟨fun v _ => v = x, fun _ _ _ h _ => h⟩
def IsRow {α : Type} (d : Kd α) (l : List α) (v : Value) (w : World) : Prop := ∃ (A : Option Addr) (c : Nat), v = .slice A l.length c ∧ l.length ≤ c ∧ d.C w A l.length l
theorem IsRow.below {α : Type} {d : Kd α} {l : List α} {v : Value} {w w' : World} (h : IsRow d l v w) (hb : Below w.heap.size w w') : IsRow d l v w' := by
 obtain ⟨A, c, rfl, h1, h2⟩ := h
 exact ⟨A, c, rfl, h1, Kd.C_below h2 hb⟩
theorem IsRow.of {α : Type} {d : Kd α} {l : List α} {v : Value} {w : World} {e base : Nat} {ok : Nat → Prop} (h : d.R e w base ok v l) : IsRow d l v w := by
 obtain ⟨A, c, rfl⟩ := Kd.R_slice h
 exact ⟨A, c, rfl, (Kd.R_reads' h).2.1, (Kd.R_reads' h).2.2⟩
def rowF {α : Type} (d : Kd α) (l : List α) : PFact := ⟨IsRow d l, fun _ _ _ h hb => h.below hb⟩
/-- Cells one after the other, from an address on. -/
def atCells (p : Addr) : Nat → List Value → World → Prop
 | _, [], _ => True
 | 0, c :: cs, w => w.cell? p = some c ∧ atCells p 1 cs w
 | n + 1, c :: cs, w => w.cell? ⟨p.block, p.off + (n + 1), none⟩ = some c ∧ atCells p (n + 2) cs w
theorem atCells_stays {p : Addr} : ∀ {n : Nat} {cs : List Value} {w w' : World}, atCells p n cs w → Below w.heap.size w w' → atCells p n cs w'
 | _, [], _, _, _, _ => trivial
 | 0, _ :: _, _, _, h, hb => ⟨pw_cell_below hb h.1, atCells_stays h.2 hb⟩
 | _ + 1, _ :: _, _, _, h, hb => ⟨pw_cell_below hb h.1, atCells_stays h.2 hb⟩
def elemF (cs : List Value) : PFact := ⟨fun v w => ∃ p, v = .pointer (some p) ∧ atCells p 0 cs w, fun _ _ _ h hb => by obtain ⟨p, e, h⟩ := h; exact ⟨p, e, atCells_stays h hb⟩⟩
def aggP : List PFact → List Value → World → Prop
 | [], vs, _ => vs = []
 | f :: fs, vs, w => ∃ v r, vs = v :: r ∧ f.p v w ∧ aggP fs r w
theorem aggP_stays : ∀ (fs : List PFact) (vs : List Value) (w w' : World), aggP fs vs w → Below w.heap.size w w' → aggP fs vs w'
 | [], _, _, _, h, _ => h
 | f :: fs, _, w, w', ⟨v, r, e, h1, h2⟩, hb => ⟨v, r, e, f.stays v w w' h1 hb, aggP_stays fs r w w' h2 hb⟩
def aggF (fs : List PFact) : PFact := ⟨fun v w => ∃ vs, v = .agg vs.toArray ∧ aggP fs vs w, by rintro v w w' ⟨vs, e, h⟩ hb; exact ⟨vs, e, aggP_stays fs vs _ _ h hb⟩⟩
def tupF (fs : List PFact) : PFact := ⟨fun v w => ∃ vs, v = .tuple vs.toArray ∧ aggP fs vs w, by rintro v w w' ⟨vs, e, h⟩ hb; exact ⟨vs, e, aggP_stays fs vs _ _ h hb⟩⟩
def selOf (ds : List Tmp) (vals : Nat → Value) : List (Nat × Tmp × Value) := ds.zipIdx.map fun e => (e.2, e.1, vals e.2)
theorem selOf_length (ds : List Tmp) (vals : Nat → Value) : (selOf ds vals).length = ds.length := by simp [selOf]
theorem selOf_get (ds : List Tmp) (vals : Nat → Value) (i : Nat) : (selOf ds vals)[i]? = ds[i]?.map fun t => (i, t, vals i) := by
 simp only [selOf, List.getElem?_map, List.getElem?_zipIdx]
 cases ds[i]? <;> simp
theorem selOf_mem {ds : List Tmp} {vals : Nat → Value} {e : Nat × Tmp × Value} (h : e ∈ selOf ds vals) : ds[e.1]? = some e.2.1 := by
 obtain ⟨k, hk⟩ := List.mem_iff_getElem?.1 h
 rw [selOf_get] at hk
 obtain ⟨t, h1, h2⟩ := Option.map_eq_some_iff.1 hk
 subst h2
 exact h1
theorem selOf_set (ds : List Tmp) (vals : Nat → Value) (i : Nat) (t : Tmp) (v : Value) (hi : ds[i]? = some t) : (selOf ds vals).set i (i, t, v) = selOf ds (fun j => if j = i then v else vals j) := by
 apply List.ext_getElem?
 intro j
 by_cases hij : i = j
 ·
  subst hij
  have hl : i < (selOf ds vals).length := by rw [selOf_length]; exact (List.getElem?_eq_some_iff.1 hi).1
  rw [List.getElem?_set_self hl, selOf_get, hi]
  simp
 ·
  rw [List.getElem?_set_ne hij, selOf_get, selOf_get]
  simp [Ne.symm hij]
section
variable {P : Program} {ops : Array Oper} {Q : Exit → Act → World → Prop} {md : Region.Mode} {T : Bool × List (List Nat × List Nat)} {B : List Nat}
/-- What is asked of operation i, in any world that has grown. -/
def OpLaw (P : Program) (ops : Array Oper) (Q : Exit → Act → World → Prop) (B : List Nat) (ds : List Tmp) (F : List PFact) (a0 : Act) (w0 : World) (i : Nat) : Prop :=
 ∀ (a : Act) (w : World), Below w0.heap.size w0 w → (∀ t, ds.contains t = false → a.tmps[t]? = a0.tmps[t]?) →
  (∀ (j : Nat) (t : Tmp) (f : PFact), (B.getD i 0).testBit j = true → ds[j]? = some t → F[j]? = some f → ∃ v, a.tmps[t]? = some v ∧ f.p v w) →
  ∃ oi, ops[i]? = some oi ∧ ∀ K : Act → World → Prop, Shut (∀ (v : Value) (w' : World) (f : PFact), F[i]? = some f → f.p v w' → Below w.heap.size w w' → K (a.put oi.dst v) w') → if Region.wanted oi (yielded ops a.tmps) = true then Oper.wp P oi a w K Q else K (a.put oi.dst undef) w
/-- The numbers and the destinations of a region, looked through. -/
def selOk (ops : Array Oper) (ds : List Tmp) (n : Nat) : Bool := ds.length == n && decide ds.Nodup && (List.range n).all fun i => match ops[i]?, ds[i]? with
 | some o, some t => o.dst == some t
 | _, _ => false
theorem selOk_dst {ds : List Tmp} {n i : Nat} {o : Oper} {t : Tmp} (h : selOk ops ds n = true) (ho : ops[i]? = some o) (ht : ds[i]? = some t) : o.dst = some t := by
 simp only [selOk, Bool.and_eq_true] at h
 have hi : i < n := by
  have := (List.getElem?_eq_some_iff.1 ht).1
  have h2 := beq_iff_eq.1 h.1.1
  omega
 have := List.all_eq_true.1 h.2 i (List.mem_range.2 hi)
 rw [ho, ht] at this
 simpa using this
theorem nodup_get {ds : List Tmp} (h : ds.Nodup) {i j : Nat} {t : Tmp} (hi : ds[i]? = some t) (hj : ds[j]? = some t) : i = j := by
 obtain ⟨h1, e1⟩ := List.getElem?_eq_some_iff.1 hi
 obtain ⟨h2, e2⟩ := List.getElem?_eq_some_iff.1 hj
 exact (List.getElem_inj h).1 (e1.trans e2.symm)
theorem shut_region {l : Array Bool} {fuel : Nat} {a : Act} {w : World} (n : Nat) (ds : List Tmp) (F : List PFact) (hT : rtab md ops = T) (hw : waitsOk T.2 B = true) (hk : baseOk T.2 (List.range n) = true)
  (hl : (lof T.2.length (List.range n) (fun _ => false) == l.toList && (List.range n).length == fuel) = true) (hsel : selOk ops ds n = true) (hF : F.length = n) (hsz : (ds.all fun t => decide (t < a.tmps.size)) = true)
  (hs : ∀ i ∈ List.range n, OpLaw P ops Q B ds F a w i)
  (hend : ∀ (vals : Nat → Value) (w' : World), Below w.heap.size w w' → (∀ (i : Nat) (f : PFact), F[i]? = some f → f.p (vals i) w') → Q .normal (putSel a (fun _ => true) (selOf ds vals)) w') :
  wpAnyLast P md ops Q (fun _ => True) [] fuel l a w := by
 have hlen : ds.length = n := by
  simp only [selOk, Bool.and_eq_true] at hsel
  exact beq_iff_eq.1 hsel.1.1
 have hnd : ds.Nodup := by
  simp only [selOk, Bool.and_eq_true] at hsel
  simpa using hsel.1.2
 refine inv_ (List.range n) (fun b a' w' => Below w.heap.size w w' ∧ ∃ vals : Nat → Value, a' = putSel a b (selOf ds vals) ∧ ∀ (i : Nat) (f : PFact), b i = true → F[i]? = some f → f.p (vals i) w') hT hw hk hl ?_ ?_ ?_
 ·
  refine ⟨Below.refl _ _, fun _ => undef, ?_, fun i f h => by cases h⟩
  have : ∀ L : List (Nat × Tmp × Value), putSel a (fun _ => false) L = a := by
   intro L
   induction L with
   | nil => rfl
   | cons e r ih => unfold putSel; rw [if_neg (by decide)]; exact ih
  exact (this _).symm
 ·
  intro i hi b a' w' ⟨hB, vals, ha, hv⟩ hbi hon hoff
  have hin : i < n := List.mem_range.1 hi
  obtain ⟨ti, hti⟩ : ∃ t, ds[i]? = some t := ⟨ds[i]'(by omega), List.getElem?_eq_getElem (by omega)⟩
  obtain ⟨oi, hoi, hK⟩ := hs i hi a' w' hB (fun t ht => by
   rw [ha]
   refine putSel_off (List.all_eq_true.2 fun e he => ?_)
   have h1 := selOf_mem he
   have h2 : e.2.1 ≠ t := by
    rintro rfl
    have := List.mem_of_getElem? h1
    simp [List.contains_iff_mem, this] at ht
   simpa using h2) (fun j t f hj ht hf => by
   have hjn : j < n := by have := (List.getElem?_eq_some_iff.1 ht).1; omega
   have hbj := hon j (by rw [hj, Bool.and_true, List.contains_iff_mem]; exact List.mem_range.2 hjn)
   refine ⟨vals j, ?_, hv j f hbj hf⟩
   rw [ha]
   have hts : t < a.tmps.size := by simpa using List.all_eq_true.1 hsz t (List.mem_of_getElem? ht)
   refine putSel_on (e := (j, t, vals j)) j (by rw [selOf_get, ht]; rfl) (List.all_eq_true.2 fun e he => ?_) hbj (Nat.ble_eq_true_of_le hts)
   obtain ⟨k, hk⟩ := List.mem_iff_getElem?.1 he
   rw [List.getElem?_drop, selOf_get] at hk
   obtain ⟨t', h1, h2⟩ := Option.map_eq_some_iff.1 hk
   subst h2
   have : t' ≠ t := by
    rintro rfl
    have := nodup_get hnd h1 ht
    omega
   simpa using this)
  refine ⟨oi, hoi, fun K hKK => hK K (show Shut _ from fun v w2 f hf hp hb2 => hKK.out _ _ ⟨below_then hB hB.size hb2, fun j => if j = i then v else vals j, ?_, fun j g hj hg => ?_⟩)⟩
  ·
   rw [selOk_dst hsel hoi hti, ha]
   rw [← selOf_set ds vals i ti v hti]
   refine putSel_upk i hbi (by rw [selOf_get, hti]; rfl) rfl (List.all_eq_true.2 fun e he => ?_)
   have key : ∀ k, k ≠ i → (selOf ds vals)[k]? = some e → (!(e.1 == i) && !(e.2.1 == ti)) = true := by
    intro k hki hk
    rw [selOf_get] at hk
    obtain ⟨t', h1, h2⟩ := Option.map_eq_some_iff.1 hk
    subst h2
    have : t' ≠ ti := by
     rintro rfl
     exact hki (nodup_get hnd h1 hti)
    simp [hki, this]
   rcases List.mem_append.1 he with h | h
   ·
    obtain ⟨k, hk⟩ := List.mem_iff_getElem?.1 h
    rw [List.getElem?_take] at hk
    by_cases hki : k < i
    ·
     rw [if_pos hki] at hk
     exact key k (by omega) hk
    ·
     rw [if_neg hki] at hk
     cases hk
   ·
    obtain ⟨k, hk⟩ := List.mem_iff_getElem?.1 h
    rw [List.getElem?_drop] at hk
    exact key (i + 1 + k) (by omega) hk
  ·
   by_cases hji : j = i
   ·
    subst hji
    dsimp only
    rw [if_pos rfl]
    rw [hf] at hg
    cases hg
    exact hp
   ·
    dsimp only
    rw [if_neg hji]
    rw [up_ne hji] at hj
    exact g.stays _ _ _ (hv j g hj hg) hb2
 ·
  intro b a' w' hall ⟨hB, vals, ha, hv⟩
  have hbt : ∀ j, j < n → b j = true := fun j hj => hall j (by simp [hj])
  have h1 : ∀ L : List (Nat × Tmp × Value), (∀ e ∈ L, b e.1 = true) → ∀ a1, putSel a1 b L = putSel a1 (fun _ => true) L := by
   intro L
   induction L with
   | nil => intro _ a1; rfl
   | cons e r ih =>
    intro hL a1
    unfold putSel
    rw [if_pos (hL e (by simp)), if_pos rfl]
    exact ih (fun e he => hL e (by simp [he])) _
  rw [ha, h1 _ (fun e he => hbt _ (by have := (List.getElem?_eq_some_iff.1 (selOf_mem he)).1; omega))]
  exact hend vals w' hB (fun i f hf => hv i f (hbt i (by have := (List.getElem?_eq_some_iff.1 hf).1; omega)) hf)
theorem opLaws_nil {I : Nat → Prop} : ∀ i ∈ ([] : List Nat), I i := fun _ h => by cases h
end
theorem opLaws_cons {I : Nat → Prop} {i : Nat} {rs : List Nat} (h : I i) (hs : ∀ j ∈ rs, I j) : ∀ j ∈ i :: rs, I j := fun j hj => by
 rcases List.mem_cons.1 hj with rfl | hj
 ·
  exact h
 ·
  exact hs j hj
/-- The whole region, its draw ahead. -/
theorem shut_code {P : Program} {ops : Array Oper} {Q : Exit → Act → World → Prop} {T : Bool × List (List Nat × List Nat)} {B : List Nat} {id : Nat} {a : Act} {w : World} (n : Nat) (ds : List Tmp) (F : List PFact) (hm : P.follows .mixedOrders = true) (hn : ops.size = n)
  (hT : rtab .any ops = T) (hw : waitsOk T.2 B = true) (hk : baseOk T.2 (List.range n) = true) (hl : (lof T.2.length (List.range n) (fun _ => false) == List.replicate n false && (List.range n).length == n) = true) (hsel : selOk ops ds n = true) (hF : F.length = n) (hsz : (ds.all fun t => decide (t < a.tmps.size)) = true)
  (hs : ∀ i ∈ List.range n, OpLaw P ops Q B ds F a w i)
  (hend : ∀ (vals : Nat → Value) (w' : World), Below w.heap.size w w' → (∀ (i : Nat) (f : PFact), F[i]? = some f → f.p (vals i) w') → Q .normal (putSel a (fun _ => true) (selOf ds vals)) w') :
  (Code.region id ops true).wp P Q a w := by
 have hbd : Below w.heap.size w w.drew := below_drew (Below.refl _ _)
 refine start_ (S := fun _ => True) (ds := []) (Array.replicate n false) hm hn rfl trivial (fun _ => ?_)
 refine shut_region n ds F hT hw hk (by rw [Array.toList_replicate]; exact hl) hsel hF hsz (fun i hi a' w' hB => hs i hi a' w' (below_then hbd hbd.size hB)) (fun vals w' hB => hend vals w' (below_then hbd hbd.size hB))
theorem blk_newb (w : World) (o : Obj) (b : Nat) (hb : b = w.heap.size) : (w.alloc o).heap[b]? = some o := by
 subst hb
 exact blk_new w o

theorem IsRow.ofV {α : Type} {d : Kd α} {l : List α} {v : Value} {w : World} {e base : Nat} {ok : Nat → Prop} (h : Kd.V d e w base ok v l) : IsRow d l v w := by
 obtain ⟨A, c, rfl⟩ := Kd.V_slice h
 obtain ⟨_, h1, h2⟩ := Kd.V_reads' h
 exact ⟨A, c, rfl, h1, h2⟩


end Go.Proofs.Ytaofihdmgdpenaa.X
