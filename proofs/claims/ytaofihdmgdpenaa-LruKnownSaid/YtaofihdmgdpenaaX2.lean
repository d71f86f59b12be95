/- What Go functions of this seat compute, told as Lean functions, and that each call of the Go code comes to that answer; for a law: its row, for every input. Written by a program of the session. -/
import Derived.Test.YtaofihdmgdpenaaX0
namespace Go.Proofs.Ytaofihdmgdpenaa.X
open Go.RowKit Go.Proofs.YtaofihdmgdpenaaW.PrintWords Go.Proofs.YtaofihdmgdpenaaW.PrintLast Go.Proofs.YtaofihdmgdpenaaW.PrintMore
attribute [local go_sem] max2_int min2_int max_two min_two max_three min_three max_four min_four   -- for this text's walks alone
set_option linter.unusedVariables false
set_option linter.unusedSimpArgs false

/-! ### lru_New: function 13 -/
def lru_New.f (a0 : Int) : Option (List Int × List Int × List Bool × Int) := if a0 < 1 then (some (([] : List Int), ([] : List Int), ([] : List Bool), 2)) else (if a0 > 256 then (some (([] : List Int), ([] : List Int), ([] : List Bool), 2)) else (if 0 ≤ a0 then (if (a0 : Int).toNat ≤ 281474976710656 then (some (([] : List Int), ([] : List Int), (List.replicate (a0 : Int).toNat false), 0)) else (none)) else (none)))
set_option maxHeartbeats 2000000 in
set_option maxRecDepth 100000 in
theorem lru_New.calls (a0 : Int) (r1 : List Int) (r2 : List Int) (r3 : List Bool) (r4 : Int) (w : World) (h : lru_New.f a0 = some (r1, r2, r3, r4)) :
  Calls Try.prog 13 #[.int .i64 a0] w fun e w' => ∃ v0_ v1_ v2_ : Value, e = .returned (.tuple #[.agg #[v0_, v1_, v2_], .int .i64 r4]) ∧ Kd.R (Kd.int .i64) 3 w' w.heap.size (fun k_ => some k_ ≠ (v1_ : Value).ownBlock) v0_ r1 ∧ Kd.R (Kd.int .i64) 3 w' w.heap.size (fun k_ => some k_ ≠ (v0_ : Value).ownBlock) v1_ r2 ∧ Kd.R Kd.bool 4 w' w.heap.size (fun _ => True) v2_ r3 ∧ Below w.heap.size w w' := by
 have hu25 := Try.underlying25
 have HB := Aside0.mk (Below.refl w.heap.size w)
 have H : (if a0 < 1 then (some (([] : List Int), ([] : List Int), ([] : List Bool), 2)) else (if a0 > 256 then (some (([] : List Int), ([] : List Int), ([] : List Bool), 2)) else (if 0 ≤ a0 then (if (a0 : Int).toNat ≤ 281474976710656 then (some (([] : List Int), ([] : List Int), (List.replicate (a0 : Int).toNat false), 0)) else (none)) else (none)))) = some (r1, r2, r3, r4) := h
 clear h
 by_cases c2 : a0 < 1
 ·
  rw [if_pos c2] at H
  have c2b0 : decide (a0 < 1) = true := decide_eq_true c2
  clear c2
  simp only [Option.some.injEq, Prod.mk.injEq] at H
  obtain ⟨rfl, rfl, rfl, rfl⟩ := H
  go_enter Try.func13, Try.ntmps13
  go_wp2_with (first | ((with_reducible refine gate_dst (N := 2) rfl ?_); refine box_event ?hg (N := 2) ?hd (cs := #[.slice none 0 0, .slice none 0 0, .slice none 0 0]) (t := 25) ?hr ?_; (case hd => rfl); (case hg => rfl); (case hr => first | (go_simp; done) | (go_simp; rfl)); intro gb102 hg w3 hbox hb; have n0_ := Aside0.mk (below_step (upH HB) hb); have n1_ := Aside0.mk (hbox); have n2_ := Aside0.mk ((by rw [hg]; exact (below_size (upH HB)) : w.heap.size ≤ gb102)); have n3_ := Aside0.mk ((by rw [hg]; exact (below_size (upH HB)) : w.heap.size ≤ gb102)); clear HB; have HB := n0_; have BK102 := n1_; have GW102 := n2_; have GE102 := n3_; clear n0_ n1_ n2_ n3_; clear hb hbox hg; have hcz4_0 := cell0 BK102; have hcz4_1 := cell1 BK102; have hcz4_2 := cell2 BK102; have hfz4_0 := blk_frozen BK102.out 0; have hfz4_1 := blk_frozen BK102.out 1; have hfz4_2 := blk_frozen BK102.out 2))
  refine bodyPost_ret (results_ct rfl _ _ gb102 25 #[.slice none 0 0, .slice none 0 0, .slice none 0 0] (0, 0) _ rfl (by (with_reducible repeat (first | refine blk_drewN ?_ _ | refine blk_drew ?_ | refine blk_alloc ?_ _)); refine blk_put (cs := #[.slice none 0 0, .slice none 0 0, .slice none 0 0]) ?_ 2 _ rfl; (with_reducible repeat (first | refine blk_drewN ?_ _ | refine blk_drew ?_ | refine blk_alloc ?_ _)); refine blk_put (cs := #[.slice none 0 0, .slice none 0 0, .slice none 0 0]) ?_ 1 _ rfl; (with_reducible repeat (first | refine blk_drewN ?_ _ | refine blk_drew ?_ | refine blk_alloc ?_ _)); refine blk_put (cs := #[.slice none 0 0, .slice none 0 0, .slice none 0 0]) ?_ 0 _ rfl; (with_reducible repeat (first | refine blk_drewN ?_ _ | refine blk_drew ?_ | refine blk_alloc ?_ _)); exact BK102.out) Try.underlying25 rfl (by kernel_rfl)) rfl ?_
  exact ⟨_, _, _, by first | rfl | (simp [errW_none, errW_some] <;> rfl) | (simp [*, errW_none, errW_some] <;> rfl), by first | exact Kd.R_nil _ _ _ _ _ | exact Kd.N_nil _ _ _ _ _ | exact Kd.V_nil _ _ _ _ _ | exact Kd.Q_nil _ _ _ _ _ | exact Kd.S_nil _ _ _ _ _, by first | exact Kd.R_nil _ _ _ _ _ | exact Kd.N_nil _ _ _ _ _ | exact Kd.V_nil _ _ _ _ _ | exact Kd.Q_nil _ _ _ _ _ | exact Kd.S_nil _ _ _ _ _, by first | exact Kd.R_nil _ _ _ _ _ | exact Kd.N_nil _ _ _ _ _ | exact Kd.V_nil _ _ _ _ _ | exact Kd.Q_nil _ _ _ _ _ | exact Kd.S_nil _ _ _ _ _, by repeat (first | (with_reducible first | exact HB.out | apply below_alloc | apply pw_below_drewN | apply below_drew1 | refine below_set ?_ GE102.out) | exact HB.out)⟩
 ·
  rw [if_neg c2] at H
  have c2b0 : decide (a0 < 1) = false := decide_eq_false c2
  clear c2
  by_cases c5 : a0 > 256
  ·
   rw [if_pos c5] at H
   have c5b0 : decide (256 < a0) = true := decide_eq_true c5
   clear c5
   simp only [Option.some.injEq, Prod.mk.injEq] at H
   obtain ⟨rfl, rfl, rfl, rfl⟩ := H
   go_enter Try.func13, Try.ntmps13
   go_wp2_with (first | ((with_reducible refine gate_dst (N := 2) rfl ?_); refine box_event ?hg (N := 2) ?hd (cs := #[.slice none 0 0, .slice none 0 0, .slice none 0 0]) (t := 25) ?hr ?_; (case hd => rfl); (case hg => rfl); (case hr => first | (go_simp; done) | (go_simp; rfl)); intro gb102 hg w6 hbox hb; have n0_ := Aside0.mk (below_step (upH HB) hb); have n1_ := Aside0.mk (hbox); have n2_ := Aside0.mk ((by rw [hg]; exact (below_size (upH HB)) : w.heap.size ≤ gb102)); have n3_ := Aside0.mk ((by rw [hg]; exact (below_size (upH HB)) : w.heap.size ≤ gb102)); clear HB; have HB := n0_; have BK102 := n1_; have GW102 := n2_; have GE102 := n3_; clear n0_ n1_ n2_ n3_; clear hb hbox hg; have hcz7_0 := cell0 BK102; have hcz7_1 := cell1 BK102; have hcz7_2 := cell2 BK102; have hfz7_0 := blk_frozen BK102.out 0; have hfz7_1 := blk_frozen BK102.out 1; have hfz7_2 := blk_frozen BK102.out 2))
   refine bodyPost_ret (results_ct rfl _ _ gb102 25 #[.slice none 0 0, .slice none 0 0, .slice none 0 0] (0, 0) _ rfl (by (with_reducible repeat (first | refine blk_drewN ?_ _ | refine blk_drew ?_ | refine blk_alloc ?_ _)); refine blk_put (cs := #[.slice none 0 0, .slice none 0 0, .slice none 0 0]) ?_ 2 _ rfl; (with_reducible repeat (first | refine blk_drewN ?_ _ | refine blk_drew ?_ | refine blk_alloc ?_ _)); refine blk_put (cs := #[.slice none 0 0, .slice none 0 0, .slice none 0 0]) ?_ 1 _ rfl; (with_reducible repeat (first | refine blk_drewN ?_ _ | refine blk_drew ?_ | refine blk_alloc ?_ _)); refine blk_put (cs := #[.slice none 0 0, .slice none 0 0, .slice none 0 0]) ?_ 0 _ rfl; (with_reducible repeat (first | refine blk_drewN ?_ _ | refine blk_drew ?_ | refine blk_alloc ?_ _)); exact BK102.out) Try.underlying25 rfl (by kernel_rfl)) rfl ?_
   exact ⟨_, _, _, by first | rfl | (simp [errW_none, errW_some] <;> rfl) | (simp [*, errW_none, errW_some] <;> rfl), by first | exact Kd.R_nil _ _ _ _ _ | exact Kd.N_nil _ _ _ _ _ | exact Kd.V_nil _ _ _ _ _ | exact Kd.Q_nil _ _ _ _ _ | exact Kd.S_nil _ _ _ _ _, by first | exact Kd.R_nil _ _ _ _ _ | exact Kd.N_nil _ _ _ _ _ | exact Kd.V_nil _ _ _ _ _ | exact Kd.Q_nil _ _ _ _ _ | exact Kd.S_nil _ _ _ _ _, by first | exact Kd.R_nil _ _ _ _ _ | exact Kd.N_nil _ _ _ _ _ | exact Kd.V_nil _ _ _ _ _ | exact Kd.Q_nil _ _ _ _ _ | exact Kd.S_nil _ _ _ _ _, by repeat (first | (with_reducible first | exact HB.out | apply below_alloc | apply pw_below_drewN | apply below_drew1 | refine below_set ?_ GE102.out) | exact HB.out)⟩
  ·
   rw [if_neg c5] at H
   have c5b0 : decide (256 < a0) = false := decide_eq_false c5
   clear c5
   by_cases c8 : 0 ≤ a0
   ·
    rw [if_pos c8] at H
    have c8b0 := eq_true c8
    have c8b1 : decide (0 ≤ a0) = true := decide_eq_true c8
    clear c8
    by_cases c9 : (a0 : Int).toNat ≤ 281474976710656
    ·
     rw [if_pos c9] at H
     have c9b0 := eq_true c9
     have c9b1 : decide ((a0 : Int).toNat ≤ 281474976710656) = true := decide_eq_true c9
     clear c9
     obtain ⟨y103, hy103⟩ : ∃ y_ : List Bool, y_ = (List.replicate (a0 : Int).toNat false) := ⟨_, rfl⟩
     replace H : (some (([] : List Int), ([] : List Int), y103, 0)) = some (r1, r2, r3, r4) := by first | (rw [hy103]; with_reducible exact H) | (have H2_ := (Option.bind_some _ _).symm.trans H; rw [hy103]; with_reducible exact H2_) | (have H2_ := (Option.bind_some _ _).symm.trans H; with_reducible exact H2_) | with_reducible exact H | (rw [hy103]; exact H) | exact H
     have Ny103 := Aside0.mk hy103
     clear hy103
     simp only [Option.some.injEq, Prod.mk.injEq] at H
     obtain ⟨rfl, rfl, rfl, rfl⟩ := H
     go_enter Try.func13, Try.ntmps13
     go_wp2_with (first | ((with_reducible refine gate_dst (N := 2) rfl ?_); refine box_event ?hg (N := 2) ?hd (cs := #[.slice none 0 0, .slice none 0 0, .slice none 0 0]) (t := 25) ?hr ?_; (case hd => rfl); (case hg => rfl); (case hr => first | (go_simp; done) | (go_simp; rfl)); intro gb102 hg w10 hbox hb; have n0_ := Aside0.mk (below_step (upH HB) hb); have n1_ := Aside0.mk (hbox); have n2_ := Aside0.mk ((by rw [hg]; exact (below_size (upH HB)) : w.heap.size ≤ gb102)); have n3_ := Aside0.mk ((by rw [hg]; exact (below_size (upH HB)) : w.heap.size ≤ gb102)); clear HB; have HB := n0_; have BK102 := n1_; have GW102 := n2_; have GE102 := n3_; clear n0_ n1_ n2_ n3_; clear hb hbox hg) | ((with_reducible refine gate_dst (N := 12) rfl ?_); refine Kd.R_make Kd.bool _ 4 rfl (N := 12) rfl 23 _ _ rfl a0 rfl rfl Try.underlying23 (.bool false) 1 info4 rfl (by decide) (by omega) false (ok := fun _ => True) (okp := fun _ => True) rfl (fun _ hk => hk) trivial (of_decide_eq_true (asm_ (p := _))) (Nat.le_trans (Nat.mul_le_mul_right _ (of_decide_eq_true (asm_ (p := _)) : a0.toNat ≤ 281474976710656)) (by omega)) (Below.refl _ _) (Nat.le_refl _) ?_; intro v104 w11 ho12 hb hg_ hnew_; clear hg_ hnew_; (first | rw [← Ny103.out] at ho12 | (simp only [Int.reduceToNat] at ho12; rw [← Ny103.out] at ho12)); have n0_ := Aside0.mk (Kd.R_lower ho12 (below_size (upH HB))); have n1_ := Aside0.mk (blkB BK102 hb); have n2_ := Aside0.mk (below_step (upH HB) hb); clear BK102; clear HB; have HO105 := n0_; have BK102 := n1_; have HB := n2_; clear n0_ n1_ n2_; clear hb ho12; obtain ⟨Ao13, co13, eo13⟩ := Kd.R_slice HO105.out; subst eo13; have hcz14_0 := cell0 BK102; have hcz14_1 := cell1 BK102; have hcz14_2 := cell2 BK102; have hfz14_0 := blk_frozen BK102.out 0; have hfz14_1 := blk_frozen BK102.out 1; have hfz14_2 := blk_frozen BK102.out 2))
     refine bodyPost_ret (results_ct rfl _ _ gb102 25 #[.slice none 0 0, .slice none 0 0, .slice Ao13 y103.length co13] (0, 0) _ rfl (by (with_reducible repeat (first | refine blk_drewN ?_ _ | refine blk_drew ?_ | refine blk_alloc ?_ _)); refine blk_put (cs := #[.slice none 0 0, .slice none 0 0, .slice none 0 0]) ?_ 2 _ rfl; (with_reducible repeat (first | refine blk_drewN ?_ _ | refine blk_drew ?_ | refine blk_alloc ?_ _)); refine blk_put (cs := #[.slice none 0 0, .slice none 0 0, .slice none 0 0]) ?_ 1 _ rfl; (with_reducible repeat (first | refine blk_drewN ?_ _ | refine blk_drew ?_ | refine blk_alloc ?_ _)); refine blk_put (cs := #[.slice none 0 0, .slice none 0 0, .slice none 0 0]) ?_ 0 _ rfl; (with_reducible repeat (first | refine blk_drewN ?_ _ | refine blk_drew ?_ | refine blk_alloc ?_ _)); exact BK102.out) Try.underlying25 rfl (by kernel_rfl)) rfl ?_
     exact ⟨_, _, _, by first | rfl | (simp [errW_none, errW_some] <;> rfl) | (simp [*, errW_none, errW_some] <;> rfl), by first | exact Kd.R_nil _ _ _ _ _ | exact Kd.N_nil _ _ _ _ _ | exact Kd.V_nil _ _ _ _ _ | exact Kd.Q_nil _ _ _ _ _ | exact Kd.S_nil _ _ _ _ _, by first | exact Kd.R_nil _ _ _ _ _ | exact Kd.N_nil _ _ _ _ _ | exact Kd.V_nil _ _ _ _ _ | exact Kd.Q_nil _ _ _ _ _ | exact Kd.S_nil _ _ _ _ _, by (with_reducible repeat (first | apply Kd.R_alloc | apply Kd.R_drewN | apply Kd.R_drew)); exact Kd.R_mono (far3 HO105.out BK102) (fun _ hk => trivial), by repeat (first | (with_reducible first | exact HB.out | apply below_alloc | apply pw_below_drewN | apply below_drew1 | refine below_set ?_ GE102.out) | exact HB.out)⟩
    ·
     rw [if_neg c9] at H
     exact absurd H (by simp)
   ·
    rw [if_neg c8] at H
    exact absurd H (by simp)

end Go.Proofs.Ytaofihdmgdpenaa.X

namespace Go.Proofs.Ytaofihdmgdpenaa.X
open Go.RowKit Go.Proofs.YtaofihdmgdpenaaW.PrintWords Go.Proofs.YtaofihdmgdpenaaW.PrintLast Go.Proofs.YtaofihdmgdpenaaW.PrintMore
attribute [local go_sem] max2_int min2_int max_two min_two max_three min_three max_four min_four   -- for this text's walks alone
set_option linter.unusedVariables false
set_option linter.unusedSimpArgs false

/-! ### Maps that the call makes, as functions on plain keys -/
theorem C_at_ {α : Type} {enc : α → Value} {h1 : ∀ x, (enc x).oneCell' = true} {w : World} {A : Option Addr} {n : Nat} {xs : List α} (h : (Kd.scalar enc h1).C w A n xs) (d : α) (i : Nat) (hi : i < n) : ∃ ad, A = some ad ∧ w.cell? (ad.add i) = some (enc (xs.getD i d)) := by
 obtain ⟨ad, c, e, _, hK, hc⟩ := Kd.C_get h d (i : Int) (by omega) (by omega)
 obtain rfl : c = [enc (xs.getD i d)] := by simpa [Kd.scalar] using hK
 exact ⟨ad, e, by simpa [Kd.scalar] using hc 0 _ rfl⟩
theorem plainElem_bool_inv {H : Type} {P : Program} {e : TypeId} (he : P.underlying e = some .bool) {v : Value} {z : DataW H × List MemPlace} (h : plainElem P e v = some z) : ∃ a, v = .bool a ∧ z = (.lit (.bool a), []) := by
 unfold plainElem at h
 rw [he] at h
 cases v <;> simp at h
 exact ⟨_, rfl, h.symm⟩
/-- How plain keys are written as values of the key's type: each has a reading, and different ones are different. -/
structure KeyBy {κ : Type} (P : Program) (K : TypeId) (enc : κ → Value) (ok : κ → Prop) : Prop where
 keyed : Go.Maps.Keyed P K
 key : ∀ x, ok x → ∃ l, keyOf P K (enc x) = some l
 inj : ∀ x y, enc x = enc y → x = y
def litOf {κ : Type} (P : Program) (K : TypeId) (enc : κ → Value) (x : κ) : Lit := (keyOf P K (enc x)).getD (.bool false)
theorem KeyBy.lit {κ : Type} {P : Program} {K : TypeId} {enc : κ → Value} {ok : κ → Prop} (h : KeyBy P K enc ok) {x : κ} (hx : ok x) : keyOf P K (enc x) = some (litOf P K enc x) := by
 obtain ⟨l, hl⟩ := h.key x hx
 rw [hl, litOf, hl]
 rfl
theorem KeyBy.litInj {κ : Type} {P : Program} {K : TypeId} {enc : κ → Value} {ok : κ → Prop} (h : KeyBy P K enc ok) {x y : κ} (hx : ok x) (hy : ok y) (e : litOf P K enc x = litOf P K enc y) : x = y :=
 h.inj _ _ (h.keyed.inj (h.lit hx) (by rw [e]; exact h.lit hy))
/-- How plain elements are written and read. -/
structure ElemBy {α : Type} (P : Program) (E : TypeId) (encE : α → Value) (datE : α → DataW Unit) (z : α) : Prop where
 zero : ∀ w, (zeroValue E).run P w = .ok (encE z) w
 zok : plainElem P E (encE z) = some (datE z, [])
 inv : ∀ (v : Value) (y : DataW Unit × List MemPlace), plainElem P E v = some y → ∃ a, v = encE a ∧ y.1 = datE a
 dinj : ∀ a b, datE a = datE b → a = b
theorem elem_int (P : Program) (E : TypeId) (q : IntKind) (he : P.underlying E = some (.int q)) (hz : ∀ w, (zeroValue E).run P w = .ok (.int q 0) w) : ElemBy P E (fun a : Int => .int q a) (fun a => .lit (.int q a)) 0 where
 zero := hz
 zok := plainElem_int he (by cases q <;> decide)
 inv v y h := by
  obtain ⟨a, rfl, rfl, _⟩ := plainElem_int_inv he h
  exact ⟨a, rfl, rfl⟩
 dinj a b h := by injection h with h; injection h
theorem elem_bool (P : Program) (E : TypeId) (he : P.underlying E = some .bool) (hz : ∀ w, (zeroValue E).run P w = .ok (.bool false) w) : ElemBy P E (fun a : Bool => .bool a) (fun a => .lit (.bool a)) false where
 zero := hz
 zok := plainElem_bool he false
 inv v y h := by
  obtain ⟨a, rfl, rfl⟩ := plainElem_bool_inv he h
  exact ⟨a, rfl, rfl⟩
 dinj a b h := by injection h with h; injection h
/-- Block b is a map of at most n entries that holds g. -/
def MapOf {κ α : Type} (P : Program) (K E : TypeId) (enc : κ → Value) (ok : κ → Prop) (datE : α → DataW Unit) (z : α) (w : World) (b n : Nat) (g : κ → Option α) : Prop :=
 ∃ D : DataW Unit, w.ownsMap P K (plainElem P E) b n D ∧ Go.Maps.IsMap D ∧ ∀ x, ok x → Go.Maps.has D (litOf P K enc x) = (g x).isSome ∧ D.atKey (litOf P K enc x) (datE z) = datE ((g x).getD z)
section
variable {κ α : Type} {P : Program} {K E : TypeId} {enc : κ → Value} {ok : κ → Prop} {encE : α → Value} {datE : α → DataW Unit} {z : α} {w w' : World} {b n : Nat} {g : κ → Option α}
theorem mapOf_made (w : World) : MapOf P K E enc ok datE z (w.alloc (.map #[] 0)) w.heap.size 0 (fun _ => none) :=
 ⟨.map [], World.ownsMap_made _ _ _ _, Go.Maps.isMap_empty, fun _ _ => ⟨rfl, rfl⟩⟩
theorem MapOf.grown (h : MapOf P K E enc ok datE z w b n g) {row : Option Nat} (hg : w.grownBy w' row) (hne : some b ≠ row) : MapOf P K E enc ok datE z w' b n g := by
 obtain ⟨D, h1, h2, h3⟩ := h
 exact ⟨D, h1.kept hg hne, h2, h3⟩
theorem MapOf.below (h : MapOf P K E enc ok datE z w b n g) (hb : Below w.heap.size w w') : MapOf P K E enc ok datE z w' b n g := h.grown (grown_of_below hb none) (by simp)
theorem MapOf.alloc (h : MapOf P K E enc ok datE z w b n g) (o : Obj) : MapOf P K E enc ok datE z (w.alloc o) b n g := h.below (below_alloc (Below.refl _ _) o)
theorem MapOf.drewN (h : MapOf P K E enc ok datE z w b n g) (m : Nat) : MapOf P K E enc ok datE z (w.drewN m) b n g := h.below (pw_below_drewN (Below.refl _ _) m)
theorem MapOf.drew (h : MapOf P K E enc ok datE z w b n g) : MapOf P K E enc ok datE z w.drew b n g := h.below (below_drew (Below.refl _ _))
theorem MapOf.mono (h : MapOf P K E enc ok datE z w b n g) {n' : Nat} (hn : n ≤ n') : MapOf P K E enc ok datE z w b n' g := by
 obtain ⟨D, h1, h2, h3⟩ := h
 exact ⟨D, h1.mono hn, h2, h3⟩
theorem MapOf.lt (h : MapOf P K E enc ok datE z w b n g) : b < w.heap.size := by
 obtain ⟨D, h1, _⟩ := h
 exact h1.lt
variable {ops : Array Oper} {rest : List Oper} {o : Oper} {a : Act} {Q : Exit → Act → World → Prop}
theorem wpList_look (B : KeyBy P K enc ok) (Z : ElemBy P E encE datE z) (hg : o.guard = none) (m k : Operand) (t : TypeId) (hop : o.op = Op.lookup t m k false) (ht : P.underlying t = some (.map K E))
  (hm : a.eval m = .map (some b)) (h : MapOf P K E enc ok datE z w b n g) (x : κ) (hk : a.eval k = enc x) (hx : ok x) (hK : wpList P ops Q rest (a.put o.dst (encE ((g x).getD z))) w) : wpList P ops Q (o :: rest) a w := by
 obtain ⟨D, h1, h2, h3⟩ := h
 refine wpList_plain hg fun K' hK' => ?_
 obtain ⟨v, ps, hrun, hv⟩ := h1.lookup B.keyed ht (Z.zero w) Z.zok (B.lit hx)
 obtain ⟨c, rfl, hc⟩ := Z.inv _ _ hv
 rw [show c = (g x).getD z from Z.dinj _ _ (hc.symm.trans (h3 x hx).2)] at hrun
 unfold Oper.wp
 simp [execOp, hop, hm, hk, hrun, Result.andThen]
 exact hK' _ _ hK
theorem wpList_look_ok (B : KeyBy P K enc ok) (Z : ElemBy P E encE datE z) (hg : o.guard = none) (m k : Operand) (t : TypeId) (hop : o.op = Op.lookup t m k true) (ht : P.underlying t = some (.map K E))
  (hm : a.eval m = .map (some b)) (h : MapOf P K E enc ok datE z w b n g) (x : κ) (hk : a.eval k = enc x) (hx : ok x) (hK : wpList P ops Q rest (a.put o.dst (.tuple #[encE ((g x).getD z), .bool (g x).isSome])) w) : wpList P ops Q (o :: rest) a w := by
 obtain ⟨D, h1, h2, h3⟩ := h
 refine wpList_plain hg fun K' hK' => ?_
 obtain ⟨v, ps, hrun, hv⟩ := h1.look_ok B.keyed ht (Z.zero w) Z.zok (B.lit hx)
 obtain ⟨c, rfl, hc⟩ := Z.inv _ _ hv
 rw [show c = (g x).getD z from Z.dinj _ _ (hc.symm.trans (h3 x hx).2), (h3 x hx).1] at hrun
 unfold Oper.wp
 simp [execOp, hop, hm, hk, hrun, Result.andThen]
 exact hK' _ _ hK
theorem MapOf.put [DecidableEq κ] (B : KeyBy P K enc ok) {D : DataW Unit} (h2 : Go.Maps.IsMap D) (h3 : ∀ x, ok x → Go.Maps.has D (litOf P K enc x) = (g x).isSome ∧ D.atKey (litOf P K enc x) (datE z) = datE ((g x).getD z)) (x : κ) (hx : ok x) (v : α) :
  ∀ y, ok y → Go.Maps.has (D.put (litOf P K enc x) (datE v)) (litOf P K enc y) = (if y = x then some v else g y).isSome ∧ (D.put (litOf P K enc x) (datE v)).atKey (litOf P K enc y) (datE z) = datE ((if y = x then some v else g y).getD z) := by
 intro y hy
 have hk := B.keyed.key (B.lit hx)
 by_cases e : y = x
 ·
  subst e
  rw [if_pos rfl, Go.Maps.has_put_same h2 hk, Go.Maps.atKey_put_same h2 hk]
  exact ⟨rfl, rfl⟩
 ·
  have hne : litOf P K enc y ≠ litOf P K enc x := fun h => e (B.litInj hy hx h)
  rw [if_neg e, Go.Maps.has_put_other hne, Go.Maps.atKey_put_other hne]
  exact h3 y hy
theorem wpList_put [DecidableEq κ] (B : KeyBy P K enc ok) (hg : o.guard = none) (m k v : Operand) (t : TypeId) (hop : o.op = Op.mapUpdate t m k v) (ht : P.underlying t = some (.map K E))
  (hm : a.eval m = .map (some b)) (h : MapOf P K E enc ok datE z w b n g) (hn : n < 9223372036854775807) (x : κ) (y : α) (hk : a.eval k = enc x) (hx : ok x) (ev : Value) (hv : a.eval v = ev) (hy : plainElem P E ev = some (datE y, []))
  (hK : ∀ w', MapOf P K E enc ok datE z w' b (n + 1) (fun q => if q = x then some y else g q) → w.grownBy w' (some b) → wpList P ops Q rest (a.put o.dst undef) w') : wpList P ops Q (o :: rest) a w := by
 obtain ⟨D, h1, h2, h3⟩ := h
 exact wpList_mapUpdate_own w hg m k v t hop K E B.keyed ht _ b n D hm h1 (by unfold maxLen; omega) _ _ _ hk hv (B.lit hx) (datE y) [] hy fun w' r1 r2 => hK w' ⟨_, r1, h2.put _ _, MapOf.put B h2 h3 x hx y⟩ r2
theorem wpList_del [DecidableEq κ] (B : KeyBy P K enc ok) (hg : o.guard = none) (m k : Operand) (t : TypeId) (hop : o.op = Op.call { callee := Callee.builtin Builtin.delete, args := #[m, k], argTypes := #[t, K] }) (ht : P.underlying t = some (.map K E))
  (hm : a.eval m = .map (some b)) (h : MapOf P K E enc ok datE z w b n g) (x : κ) (hk : a.eval k = enc x) (hx : ok x)
  (hK : ∀ w', MapOf P K E enc ok datE z w' b n (fun q => if q = x then none else g q) → w.grownBy w' (some b) → wpList P ops Q rest (a.put o.dst (.tuple #[])) w') : wpList P ops Q (o :: rest) a w := by
 obtain ⟨D, h1, h2, h3⟩ := h
 refine wpList_delete_own w hg m k t K hop E B.keyed ht _ b n D hm h1 _ _ hk (B.lit hx) fun w' r1 r2 => hK w' ⟨_, r1, ?_, fun y hy => ?_⟩ r2.grown
 ·
  obtain ⟨es, rfl⟩ := h2
  exact ⟨_, rfl⟩
 ·
  by_cases e : y = x
  ·
   subst e
   dsimp only
   rw [if_pos rfl, Go.Maps.has_del_same, Go.Maps.atKey_del_same]
   exact ⟨rfl, rfl⟩
  ·
   have hne : litOf P K enc y ≠ litOf P K enc x := fun h => e (B.litInj hy hx h)
   dsimp only
   rw [if_neg e, Go.Maps.has_del_other hne, Go.Maps.atKey_del_other hne]
   exact h3 y hy
end
theorem key_int (P : Program) (K : TypeId) (q : IntKind) (hk : P.underlying K = some (.int q)) : KeyBy P K (fun a : Int => .int q a) (fun a => (Lit.int q a).wf = true) where
 keyed := Go.Maps.int_keyed hk
 key x hx := ⟨_, Go.Maps.keyOf_int_mk hk hx⟩
 inj x y h := by injection h


end Go.Proofs.Ytaofihdmgdpenaa.X

namespace Go.Proofs.Ytaofihdmgdpenaa.X
open Go.RowKit Go.Proofs.YtaofihdmgdpenaaW.PrintWords Go.Proofs.YtaofihdmgdpenaaW.PrintLast Go.Proofs.YtaofihdmgdpenaaW.PrintMore
attribute [local go_sem] max2_int min2_int max_two min_two max_three min_three max_four min_four   -- for this text's walks alone
set_option linter.unusedVariables false
set_option linter.unusedSimpArgs false

/-! ### lru_Check: function 16 -/
/-- One list of frames, behind those that were seen. -/
def lruIn (N : Nat) (k : List Int → Int) : List Int → List Int → Int
 | [], seen => k seen
 | x :: xs, seen => if x < 0 then 2 else if (N : Int) ≤ x then 2 else if seen.contains x = true then 7 else lruIn N k xs (x :: seen)
/-- The marks from number f on. -/
def lruFrom (seen : List Int) : List Bool → Nat → Int
 | [], _ => 0
 | b :: bs, f => if b = true then (if seen.contains (f : Int) = true then lruFrom seen bs (f + 1) else 9) else lruFrom seen bs (f + 1)
/-- From the list with number i on. -/
def lruOut (a b : List Int) (ref : List Bool) : Nat → List Int → Int
 | 0, seen => lruIn ref.length (fun s => lruIn ref.length (fun s => lruFrom s ref 0) b s) a seen
 | 1, seen => lruIn ref.length (fun s => lruFrom s ref 0) b seen
 | _, seen => lruFrom seen ref 0
def lruCheck (a b : List Int) (ref : List Bool) : Int :=
 if ref.length < 1 then 2 else if 256 < ref.length then 2 else lruOut a b ref 0 []
def lru_Check.f (l0_0 : List Int) (l0_1 : List Int) (l0_2 : List Bool) : Option Int := if l0_0.length + l0_1.length ≤ 1000000 then some (lruCheck l0_0 l0_1 l0_2) else none
/-- How many have been looked at ahead of list n. -/
def lenTo (a b : List Int) : Nat → Nat
 | 0 => 0
 | 1 => a.length
 | _ => a.length + b.length
/-- The map holds just what was seen. -/
def SeenMap (D : DataW Unit) (seen : List Int) : Prop := ∀ n : Int, D.atKey (.int .i64 n) (.lit (.bool false)) = .lit (.bool (seen.contains n))
theorem seenMap_nil : SeenMap (.map []) [] := fun n => by simp [DataW.atKey]
theorem seenMap_put {D : DataW Unit} {seen : List Int} (hD : Go.Maps.IsMap D) (h : SeenMap D seen) (x : Int) : SeenMap (D.put (.int .i64 x) (.lit (.bool true))) (x :: seen) := fun n => by
 by_cases e : n = x
 ·
  subst e
  rw [Go.Maps.atKey_put_same hD (by trivial)]
  simp
 ·
  rw [Go.Maps.atKey_put_other (by simpa using e), h n]
  simp [e]
theorem wpList_lookup_own_bool {H : Type} {P : Program} (w : World) {ops : Array Oper} {rest : List Oper} {o : Oper} {a : Act} {Q : Exit → Act → World → Prop}
  (hg : o.guard = none) (m x : Operand) (t : TypeId) (hop : o.op = Op.lookup t m x false)
  (k e : TypeId) (K : Go.Maps.Keyed P k) (ht : P.underlying t = some (.map k e)) (he : P.underlying e = some .bool) (hz : (zeroValue e).run P w = .ok (.bool false) w) (b n : Nat) (D : DataW H)
  (hm : a.eval m = .map (some b)) (hown : w.ownsMap P k (plainElem P e) b n D) (key : Value) (kl : Lit) (hx : a.eval x = key) (hkey : keyOf P k key = some kl)
  (hK : ∀ c : Bool, D.atKey kl (.lit (.bool false)) = .lit (.bool c) → wpList P ops Q rest (a.put o.dst (.bool c)) w) :
  wpList P ops Q (o :: rest) a w := by
 refine wpList_plain hg fun K' hK' => ?_
 obtain ⟨v, ps, hrun, hv⟩ := hown.lookup K ht hz (plainElem_bool he false) hkey
 obtain ⟨c, rfl, hc⟩ := plainElem_bool_inv he hv
 simp only [Prod.mk.injEq] at hc
 unfold Oper.wp
 simp [execOp, hop, hm, hx, hrun, Result.andThen]
 exact hK' _ _ (hK c hc.1)
theorem lruIn_step {N : Nat} {k : List Int → Int} {xs seen : List Int} {j : Nat} {r : Int} (hj : j < xs.length) (h : lruIn N k (xs.drop j) seen = r) :
  (if xs.getD j 0 < 0 then 2 else if (N : Int) ≤ xs.getD j 0 then 2 else if seen.contains (xs.getD j 0) = true then 7 else lruIn N k (xs.drop (j + 1)) (xs.getD j 0 :: seen)) = r := by
 rw [List.drop_eq_getElem_cons hj] at h
 have e : xs[j] = xs.getD j 0 := by simp [List.getD_eq_getElem?_getD, List.getElem?_eq_getElem hj]
 rw [e] at h
 exact h
theorem lruFrom_step {seen : List Int} {bs : List Bool} {j : Nat} {r : Int} (hj : j < bs.length) (h : lruFrom seen (bs.drop j) j = r) :
  (if bs.getD j false = true then (if seen.contains (j : Int) = true then lruFrom seen (bs.drop (j + 1)) (j + 1) else 9) else lruFrom seen (bs.drop (j + 1)) (j + 1)) = r := by
 rw [List.drop_eq_getElem_cons hj] at h
 have e : bs[j] = bs.getD j false := by simp [List.getD_eq_getElem?_getD, List.getElem?_eq_getElem hj]
 rw [e] at h
 exact h
set_option maxHeartbeats 2000000 in
set_option maxRecDepth 100000 in
theorem lru_Check.calls (A0_0 : Option Addr) (c0_0 : Nat) (l0_0 : List Int) (A0_1 : Option Addr) (c0_1 : Nat) (l0_1 : List Int) (A0_2 : Option Addr) (c0_2 : Nat) (l0_2 : List Bool) (r : Int) (w : World) (hr0_0 : Kd.C (Kd.int .i64) w A0_0 l0_0.length l0_0) (hc0_0 : l0_0.length ≤ c0_0) (hr0_1 : Kd.C (Kd.int .i64) w A0_1 l0_1.length l0_1) (hc0_1 : l0_1.length ≤ c0_1) (hr0_2 : Kd.C Kd.bool w A0_2 l0_2.length l0_2) (hc0_2 : l0_2.length ≤ c0_2) (h : lru_Check.f l0_0 l0_1 l0_2 = some r) :
  Calls Try.prog 16 #[.agg #[.slice A0_0 l0_0.length c0_0, .slice A0_1 l0_1.length c0_1, .slice A0_2 l0_2.length c0_2]] w fun e w' => e = .returned (.int .i64 r) ∧ Below w.heap.size w w' := by
 have hu33 := Try.underlying25
 have hmm := @run_makeMap Try.prog
 unfold lru_Check.f at h
 by_cases c0 : l0_0.length + l0_1.length ≤ 1000000
 case neg => rw [if_neg c0] at h; cases h
 rw [if_pos c0] at h
 have H := Option.some.inj h
 clear h
 unfold lruCheck at H
 by_cases c1 : l0_2.length < 1
 ·
  rw [if_pos c1] at H
  subst H
  have e1 : decide (l0_2.length < 1) = true := decide_eq_true c1
  have e1' : decide ((l0_2.length : Int) < 1) = true := decide_eq_true (by omega)
  go_enter Try.func16, Try.ntmps16
  go_wp2
  go_ret
  exact ⟨rfl, below_alloc (Below.refl _ _) _⟩
 ·
  by_cases c2 : 256 < l0_2.length
  ·
   rw [if_neg c1, if_pos c2] at H
   subst H
   have e1 : decide (l0_2.length < 1) = false := decide_eq_false c1
   have e2 : decide (256 < l0_2.length) = true := decide_eq_true c2
   have e1' : decide ((l0_2.length : Int) < 1) = false := decide_eq_false (by omega)
   have e2' : decide ((256 : Int) < l0_2.length) = true := decide_eq_true (by omega)
   go_enter Try.func16, Try.ntmps16
   go_wp2
   go_ret
   exact ⟨rfl, below_alloc (Below.refl _ _) _⟩
  ·
   rw [if_neg c1, if_neg c2] at H
   have e1 : decide (l0_2.length < 1) = false := decide_eq_false c1
   have e2 : decide (256 < l0_2.length) = false := decide_eq_false c2
   have e1' : decide ((l0_2.length : Int) < 1) = false := decide_eq_false (by omega)
   have e2' : decide ((256 : Int) < l0_2.length) = false := decide_eq_false (by omega)
   have HH := Aside0.mk H
   clear H
   go_enter Try.func16, Try.ntmps16
   go_wp2
   go_loopg [27] 2 (fun g i wr => ∃ (n : Nat) (seen : List Int), n + g = 2 ∧ i = .int .i64 n ∧ Aside0 (lruOut l0_0 l0_1 l0_2 n seen = r) ∧ Aside0 (seen.length ≤ lenTo l0_0 l0_1 n) ∧ Aside0 (wr.heap[w.heap.size]? = some (.cells #[.slice A0_0 l0_0.length c0_0, .slice A0_1 l0_1.length c0_1, .slice A0_2 l0_2.length c0_2] 25 (0, 0))) ∧ Aside0 (wr.heap[w.heap.size + 1 + 1]? = some (.cells #[.slice A0_0 l0_0.length c0_0, .slice A0_1 l0_1.length c0_1] 22 (0, 0))) ∧ Aside0 (∃ D : DataW Unit, wr.ownsMap Try.prog 3 (plainElem Try.prog 4) (w.heap.size + 1) seen.length D ∧ Go.Maps.IsMap D ∧ SeenMap D seen) ∧ Aside0 (Below w.heap.size w wr))
   case atStart =>
    exact ⟨0, [], by omega, rfl, HH, ⟨by simp⟩, ⟨blk_alloc (blk_alloc (blk_new _ _) _) _⟩, ⟨by have := blk_new ((w.alloc (.cells #[.slice A0_0 l0_0.length c0_0, .slice A0_1 l0_1.length c0_1, .slice A0_2 l0_2.length c0_2] 25)).alloc (.map #[] 0)) (.cells #[.slice A0_0 l0_0.length c0_0, .slice A0_1 l0_1.length c0_1] 22); simpa using this⟩, ⟨.map [], by have := (World.ownsMap_made (H := Unit) (w.alloc (.cells #[.slice A0_0 l0_0.length c0_0, .slice A0_1 l0_1.length c0_1, .slice A0_2 l0_2.length c0_2] 25)) Try.prog 3 (plainElem Try.prog 4)).alloc (.cells #[.slice A0_0 l0_0.length c0_0, .slice A0_1 l0_1.length c0_1] 22); simpa using this, Go.Maps.isMap_empty, seenMap_nil⟩, ⟨below_alloc (below_alloc (below_alloc (Below.refl _ _) _) _) _⟩⟩
   case round =>
    obtain ⟨n, seen, hng, rfl, HA, HL, B1, B2, HM, HB⟩ := hrel
    obtain ⟨ga, rfl⟩ : ∃ ga, ga = gk := ⟨_, rfl⟩
    clear HH
    have hc0 := (blk_cell B1.out 0).trans rfl
    have hc1 := (blk_cell B1.out 1).trans rfl
    have hc2 := (blk_cell B1.out 2).trans rfl
    by_cases hn : n < 2
    ·
     obtain ⟨A, c, p, hcell, hr, hlt, H⟩ : ∃ (A : Option Addr) (c : Nat) (p : List Int), wr.cell? ⟨w.heap.size + 1 + 1, n, none⟩ = some (.slice A p.length c) ∧ Aside0 (Kd.C (Kd.int .i64) w A p.length p) ∧ Aside0 (lenTo l0_0 l0_1 (n + 1) = lenTo l0_0 l0_1 n + p.length ∧ lenTo l0_0 l0_1 (n + 1) ≤ 1000000) ∧ Aside0 (lruIn l0_2.length (lruOut l0_0 l0_1 l0_2 (n + 1)) (p.drop 0) seen = r) := by
      have hn2 : n = 0 ∨ n = 1 := by omega
      rcases hn2 with rfl | rfl
      ·
       exact ⟨A0_0, c0_0, l0_0, (blk_cell B2.out 0).trans rfl, ⟨hr0_0⟩, ⟨⟨(Nat.zero_add _).symm, Nat.le_trans (Nat.le_add_right _ _) c0⟩⟩, ⟨HA.out⟩⟩
      ·
       exact ⟨A0_1, c0_1, l0_1, (blk_cell B2.out 1).trans rfl, ⟨hr0_1⟩, ⟨⟨rfl, c0⟩⟩, ⟨HA.out⟩⟩
     clear HA
     have hnl : decide ((n : Int) < 2) = true := decide_eq_true (by omega)
     go_wp2
     obtain ⟨wo, hwo⟩ : ∃ wo, wo = wr := ⟨_, rfl⟩
     subst hwo
     go_loopg [33] p.length (fun g v wr => ∃ (j : Nat) (seen : List Int), j + g = p.length ∧ v = .int .i64 j ∧ Aside0 (lruIn l0_2.length (lruOut l0_0 l0_1 l0_2 (n + 1)) (p.drop j) seen = r) ∧ Aside0 (seen.length ≤ lenTo l0_0 l0_1 n + j) ∧ Aside0 (wr.heap[w.heap.size]? = some (.cells #[.slice A0_0 l0_0.length c0_0, .slice A0_1 l0_1.length c0_1, .slice A0_2 l0_2.length c0_2] 25 (0, 0))) ∧ Aside0 (wr.heap[w.heap.size + 1 + 1]? = some (.cells #[.slice A0_0 l0_0.length c0_0, .slice A0_1 l0_1.length c0_1] 22 (0, 0))) ∧ Aside0 (∃ D : DataW Unit, wr.ownsMap Try.prog 3 (plainElem Try.prog 4) (w.heap.size + 1) seen.length D ∧ Go.Maps.IsMap D ∧ SeenMap D seen) ∧ Aside0 (Below w.heap.size w wr))
     case atStart => exact ⟨0, seen, by omega, rfl, H, ⟨HL.out⟩, B1, B2, HM, HB⟩
     case round =>
      clear H HM hc0 hc1 hc2 B1 B2 HB HL hcell
      obtain ⟨j, seen, hjg, rfl, HA, HL, B1, B2, HM, HB⟩ := hrel
      have hc2 := (blk_cell B1.out 2).trans rfl
      by_cases hj : j < p.length
      ·
       have H := lruIn_step hj HA.out
       obtain ⟨ad, rfl, hcx⟩ := C_at_ hr.out 0 j hj
       have hcx' := (HB.out.cell (World.block_lt_of_cell? w _ hcx)).trans hcx
       clear HA hcx
       have hjl : decide ((j : Int) < (p.length : Int)) = true := decide_eq_true (by omega)
       have hjl' : decide (j < p.length) = true := decide_eq_true hj
       generalize p.getD j 0 = x at H hcx'
       by_cases x1 : x < 0
       ·
        rw [if_pos x1] at H
        have x1b := decide_eq_true x1
        subst H
        go_wp2
        go_ret
        exact ⟨rfl, HB.out⟩
       ·
        rw [if_neg x1] at H
        have x1b : decide (x < 0) = false := decide_eq_false x1
        by_cases x2 : (l0_2.length : Int) ≤ x
        ·
         rw [if_pos x2] at H
         have x2b := decide_eq_true x2
         subst H
         go_wp2
         go_ret
         exact ⟨rfl, HB.out⟩
        ·
         rw [if_neg x2] at H
         have x2b : decide ((l0_2.length : Int) ≤ x) = false := decide_eq_false x2
         obtain ⟨D, hown, hD, hS⟩ := HM.out
         have hkey : keyOf Try.prog 3 (.int .i64 x) = some (.int .i64 x) := Go.Maps.keyOf_int_mk Try.underlying3 (WalkArith.wf_i64 (by omega))
         have HS := Aside0.mk hS
         have HD := Aside0.mk hD
         have HO := Aside0.mk hown
         have HLt := hlt.out
         have HLs := HL.out
         clear hS hD hown HM
         by_cases x3 : seen.contains x = true
         ·
          rw [if_pos x3] at H
          subst H
          go_wp2_with (first | (at_lookup; (try (refine gate_guard (by rfl) ?_; dsimp only)); refine wpList_lookup_own_bool _ rfl _ _ _ rfl 3 4 (Go.Maps.int_keyed Try.underlying3) Try.underlying54 Try.underlying4 (by kernel_rfl) (w.heap.size + 1) seen.length _ rfl HO.out _ _ rfl hkey ?_; intro cc hcc; rw [HS.out x, x3] at hcc; obtain rfl : cc = true := by simpa using hcc.symm))
          go_ret
          exact ⟨rfl, HB.out⟩
         ·
          rw [if_neg x3] at H
          have x3f : seen.contains x = false := by simpa using x3
          have HH := Aside0.mk H
          clear H x3
          go_wp2_with (first | (at_lookup; (try (refine gate_guard (by rfl) ?_; dsimp only)); refine wpList_lookup_own_bool _ rfl _ _ _ rfl 3 4 (Go.Maps.int_keyed Try.underlying3) Try.underlying54 Try.underlying4 (by kernel_rfl) (w.heap.size + 1) seen.length _ rfl HO.out _ _ rfl hkey ?_; intro cc hcc; rw [HS.out x, x3f] at hcc; obtain rfl : cc = false := by simpa using hcc.symm) | (at_mapUpdate; refine wpList_mapUpdate_own _ rfl _ _ _ _ rfl 3 4 (Go.Maps.int_keyed Try.underlying3) Try.underlying54 _ (w.heap.size + 1) seen.length _ rfl HO.out (by unfold maxLen; omega) _ _ _ rfl rfl hkey _ [] (plainElem_bool Try.underlying4 true) ?_; intro w1 hown1 hgrow1))
          go_roundg (gk - 1)
          case measure => omega
          case rel => exact ⟨j + 1, x :: seen, by omega, by go_num, HH, ⟨by simp; omega⟩, ⟨blk_grown B1.out hgrow1 (by simp)⟩, ⟨blk_grown B2.out hgrow1 (by simp)⟩, ⟨_, hown1, Go.Maps.IsMap.put HD.out _ _, seenMap_put HD.out HS.out x⟩, ⟨HB.out.grown hgrow1 HB.out.size (by intro z hz; cases hz; omega)⟩⟩
      ·
       have hjl : decide ((j : Int) < (p.length : Int)) = false := decide_eq_false (by omega)
       have hjl' : decide (j < p.length) = false := decide_eq_false hj
       have HA2 := Aside0.mk (show lruOut l0_0 l0_1 l0_2 (n + 1) seen = r by have := HA.out; rw [List.drop_eq_nil_of_le (by omega)] at this; exact this)
       have HLt := hlt.out
       have HLs := HL.out
       go_wp2
       go_roundg (ga - 1)
       case measure => omega
       case rel => exact ⟨n + 1, seen, by omega, by go_num, HA2, ⟨by omega⟩, B1, B2, HM, HB⟩
    ·
     obtain rfl : n = 2 := by omega
     have H := Aside0.mk (show lruFrom seen (l0_2.drop 0) 0 = r from HA.out)
     clear HA
     go_wp2
     go_loopg [58] l0_2.length (fun g v wr => ∃ (j : Nat), j + g = l0_2.length ∧ v = .int .i64 j ∧ Aside0 (lruFrom seen (l0_2.drop j) j = r) ∧ Aside0 (wr.heap[w.heap.size]? = some (.cells #[.slice A0_0 l0_0.length c0_0, .slice A0_1 l0_1.length c0_1, .slice A0_2 l0_2.length c0_2] 25 (0, 0))) ∧ Aside0 (∃ D : DataW Unit, wr.ownsMap Try.prog 3 (plainElem Try.prog 4) (w.heap.size + 1) seen.length D ∧ Go.Maps.IsMap D ∧ SeenMap D seen) ∧ Aside0 (Below w.heap.size w wr))
     case atStart => exact ⟨0, by omega, rfl, H, B1, HM, HB⟩
     case round =>
      clear H HM hc0 hc1 hc2 B1 B2 HB HL
      obtain ⟨j, hjg, rfl, HA, B1, HM, HB⟩ := hrel
      by_cases hj : j < l0_2.length
      ·
       have H := lruFrom_step hj HA.out
       obtain ⟨ad, rfl, hcx⟩ := C_at_ hr0_2 false j hj
       have hcx' := (HB.out.cell (World.block_lt_of_cell? w _ hcx)).trans hcx
       clear HA hcx
       have hjl : decide ((j : Int) < (l0_2.length : Int)) = true := decide_eq_true (by omega)
       have hjl' : decide (j < l0_2.length) = true := decide_eq_true hj
       obtain ⟨D, hown, hD, hS⟩ := HM.out
       have hkey : keyOf Try.prog 3 (.int .i64 (j : Int)) = some (.int .i64 j) := Go.Maps.keyOf_int_mk Try.underlying3 (WalkArith.wf_i64 (by omega))
       have HS := Aside0.mk hS
       have HO := Aside0.mk hown
       clear hS hown hD
       generalize l0_2.getD j false = b at H hcx'
       cases b with
       | true =>
        rw [if_pos rfl] at H
        by_cases x3 : seen.contains (j : Int) = true
        ·
         rw [if_pos x3] at H
         have HH := Aside0.mk H
         clear H
         go_wp2_with (first | (at_lookup; (try (refine gate_guard (by rfl) ?_; dsimp only)); refine wpList_lookup_own_bool _ rfl _ _ _ rfl 3 4 (Go.Maps.int_keyed Try.underlying3) Try.underlying54 Try.underlying4 (by kernel_rfl) (w.heap.size + 1) seen.length _ rfl HO.out _ _ rfl hkey ?_; intro cc hcc; rw [HS.out j, x3] at hcc; obtain rfl : cc = true := by simpa using hcc.symm))
         go_roundg (gk - 1)
         case measure => omega
         case rel => exact ⟨j + 1, by omega, by go_num, HH, B1, HM, HB⟩
        ·
         rw [if_neg x3] at H
         have x3f : seen.contains (j : Int) = false := by simpa using x3
         clear x3
         subst H
         go_wp2_with (first | (at_lookup; (try (refine gate_guard (by rfl) ?_; dsimp only)); refine wpList_lookup_own_bool _ rfl _ _ _ rfl 3 4 (Go.Maps.int_keyed Try.underlying3) Try.underlying54 Try.underlying4 (by kernel_rfl) (w.heap.size + 1) seen.length _ rfl HO.out _ _ rfl hkey ?_; intro cc hcc; rw [HS.out j, x3f] at hcc; obtain rfl : cc = false := by simpa using hcc.symm))
         go_ret
         exact ⟨rfl, HB.out⟩
       | false =>
        rw [if_neg (by decide)] at H
        have HH := Aside0.mk H
        clear H
        go_wp2
        go_roundg (gk - 1)
        case measure => omega
        case rel => exact ⟨j + 1, by omega, by go_num, HH, B1, HM, HB⟩
      ·
       have hjl : decide ((j : Int) < (l0_2.length : Int)) = false := decide_eq_false (by omega)
       have hjl' : decide (j < l0_2.length) = false := decide_eq_false hj
       have hr : (0 : Int) = r := by have := HA.out; rw [List.drop_eq_nil_of_le (by omega)] at this; exact this
       subst hr
       go_wp2
       go_ret
       exact ⟨rfl, HB.out⟩


end Go.Proofs.Ytaofihdmgdpenaa.X

namespace Go.Proofs.Ytaofihdmgdpenaa.X
open Go.RowKit Go.Proofs.YtaofihdmgdpenaaW.PrintWords Go.Proofs.YtaofihdmgdpenaaW.PrintLast Go.Proofs.YtaofihdmgdpenaaW.PrintMore
attribute [local go_sem] max2_int min2_int max_two min_two max_three min_three max_four min_four   -- for this text's walks alone
set_option linter.unusedVariables false
set_option linter.unusedSimpArgs false

/-! ### slices_Clone_int_int: function 61 -/
def slices_Clone_int_int.f (l0 : List Int) : Option (List Int) := if l0.length < 17592186044416 then some l0 else none
set_option maxHeartbeats 2000000 in
set_option maxRecDepth 100000 in
theorem slices_Clone_int_int.calls (A0 : Option Addr) (c0 : Nat) (l0 : List Int) (r : List Int) (w : World) (hr0 : Kd.C (Kd.int .i64) w A0 l0.length l0) (hc0 : l0.length ≤ c0) (h : slices_Clone_int_int.f l0 = some r) :
  Calls Try.prog 61 #[.slice A0 l0.length c0] w fun e w' => ∃ v0_ : Value, e = .returned (v0_) ∧ Kd.R (Kd.int .i64) 3 w' w.heap.size (fun _ => True) v0_ r ∧ Below w.heap.size w w' := by
 unfold slices_Clone_int_int.f at h
 by_cases hl : l0.length < 17592186044416
 case neg => rw [if_neg hl] at h; cases h
 rw [if_pos hl] at h
 obtain rfl := Option.some.inj h
 clear h
 have LM := Aside0.mk hl
 have HR0 := Aside0.mk hr0
 clear hr0 hl
 have heq := fun (w : World) (a : Option Addr) (n c : Nat) => Lib.run_eql_slice_nil (P := Try.prog) w 22 3 a n c 0 0 Try.underlying22
 have HB := Aside0.mk (Below.refl w.heap.size w)
 cases A0 with
 | none =>
  have hnil : l0 = [] := by
   cases l0 with
   | nil => rfl
   | cons x xs =>
    obtain ⟨ad, _, e, _⟩ := Kd.C_get HR0.out x 0 (by omega) (by simp <;> omega)
    cases e
  subst hnil
  go_enter Try.func61, Try.ntmps61
  go_wp2
  go_ret
  exact ⟨_, rfl, Kd.R_nil _ _ _ _ _, HB.out⟩
 | some a0 =>
  go_enter Try.func61, Try.ntmps61
  go_wp2_with (first | ((with_reducible refine gate_dst (N := 5) rfl ?_); refine Kd.R_lit (Kd.int .i64) _ 3 ?hg (N := 5) ?hd (xs := ([] : List Int)) (inner := []) (ok := fun _ => True) (okp := fun _ => True) ?hr ?hp (fun _ hk => hk) trivial (Below.refl _ _) (Nat.le_refl _) (by simp) ?_; (case hd => rfl); (case hg => rfl); (case hr => first | (go_simp; done) | (go_simp; rfl)); (case hp => exact (Reps.none _ _)); intro v1 w3 ho4 hb hg_ hnew_; clear hg_ hnew_; have n0_ := Aside0.mk (Kd.R_lower ho4 (below_size (upH HB))); have n1_ := Aside0.mk (below_step (upH HB) hb); clear HB; have HO1 := n0_; have HB := n1_; clear n0_ n1_; clear hb ho4) | ((with_reducible refine gate_builtin (b := .append) (xs := #[.tmp 5, .tmp 6]) rfl ?_); at_builtin; refine Kd.R_append_rows (Kd.int .i64) (w0 := w) w.heap.size rfl (.tmp 5) (.tmp 6) 22 3 (.int .i64 0) 8 rfl Try.underlying22 info3 rfl (by decide) (by omega) v1 [] l0 _ _ _ (fun _ => True) (fun _ => False) rfl rfl ?aO ?aR (fun _ _ h => h) (fun _ h => h.elim) (fun _ _ => trivial) ?aB ?aS ?aL ?_; (case aR => repeat (first | exact (Kd.C_below HR0.out HB.out) | (with_reducible refine Kd.C_alloc ?_ _) | (with_reducible refine Kd.C_drewN ?_ _) | (with_reducible refine Kd.C_drew ?_))); (case aB => exact (upH HB)); (case aO => exact HO1.out); (case aS => exact (below_size (upH HB))); (case aL => have := LM.out; simp only [List.length_nil]; omega); intro v173 w5 ho hb hg hat; rw [List.nil_append] at ho; have n0_ := Aside0.mk (hb); have n1_ := Aside0.mk (ho); clear HB; clear HO1; have HB := n0_; have HO2 := n1_; clear n0_ n1_; clear ho hb hg hat))
  go_ret
  exact ⟨_, rfl, HO2.out, HB.out⟩


end Go.Proofs.Ytaofihdmgdpenaa.X

namespace Go.Proofs.Ytaofihdmgdpenaa.X
open Go.RowKit Go.Proofs.YtaofihdmgdpenaaW.PrintWords Go.Proofs.YtaofihdmgdpenaaW.PrintLast Go.Proofs.YtaofihdmgdpenaaW.PrintMore
attribute [local go_sem] max2_int min2_int max_two min_two max_three min_three max_four min_four   -- for this text's walks alone
set_option linter.unusedVariables false
set_option linter.unusedSimpArgs false

/-! ### slices_Clone_bool_bool: function 62 -/
def slices_Clone_bool_bool.f (l0 : List Bool) : Option (List Bool) := if l0.length < 140737488355328 then some l0 else none
set_option maxHeartbeats 2000000 in
set_option maxRecDepth 100000 in
theorem slices_Clone_bool_bool.calls (A0 : Option Addr) (c0 : Nat) (l0 : List Bool) (r : List Bool) (w : World) (hr0 : Kd.C Kd.bool w A0 l0.length l0) (hc0 : l0.length ≤ c0) (h : slices_Clone_bool_bool.f l0 = some r) :
  Calls Try.prog 62 #[.slice A0 l0.length c0] w fun e w' => ∃ v0_ : Value, e = .returned (v0_) ∧ Kd.R Kd.bool 4 w' w.heap.size (fun _ => True) v0_ r ∧ Below w.heap.size w w' := by
 unfold slices_Clone_bool_bool.f at h
 by_cases hl : l0.length < 140737488355328
 case neg => rw [if_neg hl] at h; cases h
 rw [if_pos hl] at h
 obtain rfl := Option.some.inj h
 clear h
 have LM := Aside0.mk hl
 have HR0 := Aside0.mk hr0
 clear hr0 hl
 have heq := fun (w : World) (a : Option Addr) (n c : Nat) => Lib.run_eql_slice_nil (P := Try.prog) w 23 4 a n c 0 0 Try.underlying23
 have HB := Aside0.mk (Below.refl w.heap.size w)
 cases A0 with
 | none =>
  have hnil : l0 = [] := by
   cases l0 with
   | nil => rfl
   | cons x xs =>
    obtain ⟨ad, _, e, _⟩ := Kd.C_get HR0.out x 0 (by omega) (by simp <;> omega)
    cases e
  subst hnil
  go_enter Try.func62, Try.ntmps62
  go_wp2
  go_ret
  exact ⟨_, rfl, Kd.R_nil _ _ _ _ _, HB.out⟩
 | some a0 =>
  go_enter Try.func62, Try.ntmps62
  go_wp2_with (first | ((with_reducible refine gate_dst (N := 5) rfl ?_); refine Kd.R_lit Kd.bool _ 4 ?hg (N := 5) ?hd (xs := ([] : List Bool)) (inner := []) (ok := fun _ => True) (okp := fun _ => True) ?hr ?hp (fun _ hk => hk) trivial (Below.refl _ _) (Nat.le_refl _) (by simp) ?_; (case hd => rfl); (case hg => rfl); (case hr => first | (go_simp; done) | (go_simp; rfl)); (case hp => exact (Reps.none _ _)); intro v1 w3 ho4 hb hg_ hnew_; clear hg_ hnew_; have n0_ := Aside0.mk (Kd.R_lower ho4 (below_size (upH HB))); have n1_ := Aside0.mk (below_step (upH HB) hb); clear HB; have HO1 := n0_; have HB := n1_; clear n0_ n1_; clear hb ho4) | ((with_reducible refine gate_builtin (b := .append) (xs := #[.tmp 5, .tmp 6]) rfl ?_); at_builtin; refine Kd.R_append_rows Kd.bool (w0 := w) w.heap.size rfl (.tmp 5) (.tmp 6) 23 4 (.bool false) 1 rfl Try.underlying23 info4 rfl (by decide) (by omega) v1 [] l0 _ _ _ (fun _ => True) (fun _ => False) rfl rfl ?aO ?aR (fun _ _ h => h) (fun _ h => h.elim) (fun _ _ => trivial) ?aB ?aS ?aL ?_; (case aR => repeat (first | exact (Kd.C_below HR0.out HB.out) | (with_reducible refine Kd.C_alloc ?_ _) | (with_reducible refine Kd.C_drewN ?_ _) | (with_reducible refine Kd.C_drew ?_))); (case aB => exact (upH HB)); (case aO => exact HO1.out); (case aS => exact (below_size (upH HB))); (case aL => have := LM.out; simp only [List.length_nil]; omega); intro v173 w5 ho hb hg hat; rw [List.nil_append] at ho; have n0_ := Aside0.mk (hb); have n1_ := Aside0.mk (ho); clear HB; clear HO1; have HB := n0_; have HO2 := n1_; clear n0_ n1_; clear ho hb hg hat))
  go_ret
  exact ⟨_, rfl, HO2.out, HB.out⟩


end Go.Proofs.Ytaofihdmgdpenaa.X

namespace Go.Proofs.Ytaofihdmgdpenaa.X
open Go.RowKit Go.Proofs.YtaofihdmgdpenaaW.PrintWords Go.Proofs.YtaofihdmgdpenaaW.PrintLast Go.Proofs.YtaofihdmgdpenaaW.PrintMore
attribute [local go_sem] max2_int min2_int max_two min_two max_three min_three max_four min_four   -- for this text's walks alone
set_option linter.unusedVariables false
set_option linter.unusedSimpArgs false

/-! ### lru_opened: function 53 -/
def lru_opened.f (l0_0 : List Int) (l0_1 : List Int) (l0_2 : List Bool) : Option (List Int × List Int × List Bool × Int) := (lru_Check.f l0_0 l0_1 l0_2).bind fun t108 => (if t108 = 0 then ((slices_Clone_int_int.f l0_0).bind fun t109 => ((slices_Clone_int_int.f l0_1).bind fun t112 => ((slices_Clone_bool_bool.f l0_2).bind fun t115 => (some (t109, t112, t115, 0))))) else (some (([] : List Int), ([] : List Int), ([] : List Bool), t108)))
def lru_opened.T4 : Bool × List (List Nat × List Nat) := (true, [([], []), ([0], [0]), ([1], [1]), ([], []), ([3], [3]), ([4, 2], [4]), ([], []), ([6], [6]), ([7, 5], [7]), ([2, 5, 8], [2, 5, 8]), ([9, 8, 0, 1, 2, 3, 4, 5, 6, 7, 8, 9], [9]), ([10, 0, 1, 2, 3, 4, 5, 6, 7, 8, 9, 10], [])])
def lru_opened.B4 : List Nat := [0, 1, 3, 0, 8, 31, 0, 64, 255, 511, 1023, 2047]
theorem lru_opened.tab4 : rtab .any (opsOf Try.f53 4) = lru_opened.T4 := by kernel_rfl
theorem lru_opened.bits4 : waitsOk lru_opened.T4.2 lru_opened.B4 = true := by kernel_rfl
set_option maxHeartbeats 2000000 in
set_option maxRecDepth 100000 in
theorem lru_opened.calls (A0_0 : Option Addr) (c0_0 : Nat) (l0_0 : List Int) (A0_1 : Option Addr) (c0_1 : Nat) (l0_1 : List Int) (A0_2 : Option Addr) (c0_2 : Nat) (l0_2 : List Bool) (r1 : List Int) (r2 : List Int) (r3 : List Bool) (r4 : Int) (w : World) (hr0_0 : Kd.C (Kd.int .i64) w A0_0 l0_0.length l0_0) (hc0_0 : l0_0.length ≤ c0_0) (hr0_1 : Kd.C (Kd.int .i64) w A0_1 l0_1.length l0_1) (hc0_1 : l0_1.length ≤ c0_1) (hr0_2 : Kd.C Kd.bool w A0_2 l0_2.length l0_2) (hc0_2 : l0_2.length ≤ c0_2) (h : lru_opened.f l0_0 l0_1 l0_2 = some (r1, r2, r3, r4)) :
  Calls Try.prog 53 #[.agg #[.slice A0_0 l0_0.length c0_0, .slice A0_1 l0_1.length c0_1, .slice A0_2 l0_2.length c0_2]] w fun e w' => ∃ v0_ v1_ v2_ : Value, e = .returned (.tuple #[.agg #[v0_, v1_, v2_], .int .i64 r4]) ∧ Kd.R (Kd.int .i64) 3 w' w.heap.size (fun k_ => some k_ ≠ (v1_ : Value).ownBlock) v0_ r1 ∧ Kd.R (Kd.int .i64) 3 w' w.heap.size (fun k_ => some k_ ≠ (v0_ : Value).ownBlock) v1_ r2 ∧ Kd.R Kd.bool 4 w' w.heap.size (fun _ => True) v2_ r3 ∧ Below w.heap.size w w' := by
 have hu25 := Try.underlying25
 have HR0_0 := Aside0.mk hr0_0
 have HC0_0 := Aside0.mk hc0_0
 clear hr0_0 hc0_0
 have HR0_1 := Aside0.mk hr0_1
 have HC0_1 := Aside0.mk hc0_1
 clear hr0_1 hc0_1
 have HR0_2 := Aside0.mk hr0_2
 have HC0_2 := Aside0.mk hc0_2
 clear hr0_2 hc0_2
 have HB := Aside0.mk (Below.refl w.heap.size w)
 have H : ((lru_Check.f l0_0 l0_1 l0_2).bind fun t108 => (if t108 = 0 then ((slices_Clone_int_int.f l0_0).bind fun t109 => ((slices_Clone_int_int.f l0_1).bind fun t112 => ((slices_Clone_bool_bool.f l0_2).bind fun t115 => (some (t109, t112, t115, 0))))) else (some (([] : List Int), ([] : List Int), ([] : List Bool), t108)))) = some (r1, r2, r3, r4) := h
 clear h
 replace H := Option.bind_eq_some_iff.mp H
 obtain ⟨t108, A20, H⟩ := H
 replace H : (if t108 = 0 then ((slices_Clone_int_int.f l0_0).bind fun t109 => ((slices_Clone_int_int.f l0_1).bind fun t112 => ((slices_Clone_bool_bool.f l0_2).bind fun t115 => (some (t109, t112, t115, 0))))) else (some (([] : List Int), ([] : List Int), ([] : List Bool), t108))) = some (r1, r2, r3, r4) := H
 have A2 := Aside0.mk A20
 clear A20
 by_cases c3 : t108 = 0
 ·
  rw [if_pos c3] at H
  have c3b0 : (t108 == 0) = true := beq_iff_eq.mpr c3
  have c3b1 : (t108 != 0) = false := bne_eq_false_iff_eq.mpr c3
  clear c3
  replace H := Option.bind_eq_some_iff.mp H
  obtain ⟨t109, A40, H⟩ := H
  replace H : ((slices_Clone_int_int.f l0_1).bind fun t112 => ((slices_Clone_bool_bool.f l0_2).bind fun t115 => (some (t109, t112, t115, 0)))) = some (r1, r2, r3, r4) := H
  have A4 := Aside0.mk A40
  clear A40
  replace H := Option.bind_eq_some_iff.mp H
  obtain ⟨t112, A50, H⟩ := H
  replace H : ((slices_Clone_bool_bool.f l0_2).bind fun t115 => (some (t109, t112, t115, 0))) = some (r1, r2, r3, r4) := H
  have A5 := Aside0.mk A50
  clear A50
  replace H := Option.bind_eq_some_iff.mp H
  obtain ⟨t115, A60, H⟩ := H
  replace H : (some (t109, t112, t115, 0)) = some (r1, r2, r3, r4) := H
  have A6 := Aside0.mk A60
  clear A60
  simp only [Option.some.injEq, Prod.mk.injEq] at H
  obtain ⟨rfl, rfl, rfl, rfl⟩ := H
  go_enter Try.func53, Try.ntmps53
  try go_wp2_with (first | ((with_reducible refine gate_dst (N := 1) rfl ?_); refine box_event ?hg (N := 1) ?hd (cs := #[.slice A0_0 l0_0.length c0_0, .slice A0_1 l0_1.length c0_1, .slice A0_2 l0_2.length c0_2]) (t := 25) ?hr ?_; (case hd => rfl); (case hg => rfl); (case hr => first | (go_simp; done) | (go_simp; rfl)); intro gb106 hg w7 hbox hb; have n0_ := Aside0.mk (below_step (upH HB) hb); have n1_ := Aside0.mk (hbox); have n2_ := Aside0.mk ((by rw [hg]; exact (below_size (upH HB)) : w.heap.size ≤ gb106)); have n3_ := Aside0.mk ((by rw [hg]; exact (below_size (upH HB)) : w.heap.size ≤ gb106)); clear HB; have HB := n0_; have BK106 := n1_; have GW106 := n2_; have GE106 := n3_; clear n0_ n1_ n2_ n3_; clear hb hbox hg) | ((with_reducible refine gate_dst (N := 2) rfl ?_); refine box_event ?hg (N := 2) ?hd (cs := #[.slice none 0 0, .slice none 0 0, .slice none 0 0]) (t := 25) ?hr ?_; (case hd => rfl); (case hg => rfl); (case hr => first | (go_simp; done) | (go_simp; rfl)); intro gb107 hg w8 hbox hb; have n0_ := Aside0.mk (blkB BK106 hb); have n1_ := Aside0.mk (below_step (upH HB) hb); have n2_ := Aside0.mk (hbox); have n3_ := Aside0.mk ((by rw [hg]; exact (below_size (upH HB)) : w.heap.size ≤ gb107)); have n4_ := Aside0.mk ((by rw [hg]; exact (below_size (upH HB)) : w.heap.size ≤ gb107)); have n5_ := Aside0.mk ((by rw [hg]; exact Nat.ne_of_lt (blk_lt (g := gb106) (o := .cells #[.slice A0_0 l0_0.length c0_0, .slice A0_1 l0_1.length c0_1, .slice A0_2 l0_2.length c0_2] 25 (0, 0)) (upB BK106)) : gb106 ≠ gb107)); have n6_ := Aside0.mk ((by rw [hg]; exact Nat.ne_of_gt (blk_lt (g := gb106) (o := .cells #[.slice A0_0 l0_0.length c0_0, .slice A0_1 l0_1.length c0_1, .slice A0_2 l0_2.length c0_2] 25 (0, 0)) (upB BK106)) : gb107 ≠ gb106)); clear BK106; clear HB; have BK106 := n0_; have HB := n1_; have BK107 := n2_; have GW107 := n3_; have GE107 := n4_; have NB106_107 := n5_; have NB107_106 := n6_; clear n0_ n1_ n2_ n3_ n4_ n5_ n6_; clear hb hbox hg; have hnb9 := NB106_107.out; have hnc9 := NB107_106.out; have hcz10_0 := cell0 BK106; have hcz10_1 := cell1 BK106; have hcz10_2 := cell2 BK106; have hfz10_0 := blk_frozen BK106.out 0; have hfz10_1 := blk_frozen BK106.out 1; have hfz10_2 := blk_frozen BK106.out 2) | ((with_reducible refine gate_callee (f := 16) rfl ?_); refine goesL_ (some 6) rfl rfl Try.func16 (by kernel_rfl) rfl #[.agg #[.slice A0_0 l0_0.length c0_0, .slice A0_1 l0_1.length c0_1, .slice A0_2 l0_2.length c0_2]] rfl (args_ (p := _)) ?_; (with_reducible refine (lru_Check.calls _ _ l0_0 _ _ l0_1 _ _ l0_2 t108 _ ?side1 ?side2 ?side3 ?side4 ?side5 ?side6 A2.out).mono ?_); (case side1 => exact upc (Kd.C_below HR0_0.out HB.out)); (case side2 => exact HC0_0.out); (case side3 => exact upc (Kd.C_below HR0_1.out HB.out)); (case side4 => exact HC0_1.out); (case side5 => exact upc (Kd.C_below HR0_2.out HB.out)); (case side6 => exact HC0_2.out); rintro e w11 ⟨rfl, hb⟩; refine ⟨_, rfl, ?_⟩; have n0_ := Aside0.mk (blkB BK106 hb); have n1_ := Aside0.mk (blkB BK107 hb); have n2_ := Aside0.mk (below_step (upH HB) hb); clear BK106; clear BK107; clear HB; have BK106 := n0_; have BK107 := n1_; have HB := n2_; clear n0_ n1_ n2_; (try clear hb); (try clear hb2); (try clear hk); (try clear hi)))
  have n0_ := Aside0.mk (blk_drew BK106.out)
  have n1_ := Aside0.mk (blk_drew BK107.out)
  have n2_ := Aside0.mk (below_drew1 HB.out)
  clear BK106
  clear BK107
  clear HB
  have BK106 := n0_
  have BK107 := n1_
  have HB := n2_
  clear n0_ n1_ n2_
  refine start_ (n := 12) (S := fun w' => w'.cell? ⟨gb106, 0, none⟩ = some (.slice A0_0 l0_0.length c0_0) ∧ w'.cell? ⟨gb106, 1, none⟩ = some (.slice A0_1 l0_1.length c0_1) ∧ w'.cell? ⟨gb106, 2, none⟩ = some (.slice A0_2 l0_2.length c0_2)) (ds := []) #[false, false, false, false, false, false, false, false, false, false, false, false] (by kernel_rfl) rfl rfl ⟨(blk_cell BK106.out 0).trans rfl, (blk_cell BK106.out 1).trans rfl, (blk_cell BK106.out 2).trans rfl⟩ (fun hHeld => ?_); refine with_tabW lru_opened.tab4 lru_opened.bits4 (fun HT_ HW_ => ?_)
  generalize w11.drew = w12 at BK106 BK107 HB hHeld ⊢
  refine pure_ (i := 0) (N := some 11) (v := ?_) (a' := ?_) #[true, false, false, false, false, false, false, false, false, false, false, false] rfl rfl (any_of HT_.out (by kernel_rfl)) (fun _ _ _ h => h) (Or.inl ⟨by rfl, ?_⟩) ?_ ?_
  rotate_left
  ·
   intro w'
   go_simp
   with_reducible rfl
  rotate_left
  ·
   simp only [Act.put, List.setIfInBounds_toArray, List.set_cons_zero, List.set_cons_succ, i64_w, i32_w]
   rfl
  refine pure_ (i := 3) (N := some 14) (v := ?_) (a' := ?_) #[true, false, false, true, false, false, false, false, false, false, false, false] rfl rfl (any_of HT_.out (by kernel_rfl)) (fun _ _ _ h => h) (Or.inl ⟨by rfl, ?_⟩) ?_ ?_
  rotate_left
  ·
   intro w'
   go_simp
   with_reducible rfl
  rotate_left
  ·
   simp only [Act.put, List.setIfInBounds_toArray, List.set_cons_zero, List.set_cons_succ, i64_w, i32_w]
   rfl
  refine pure_ (i := 6) (N := some 17) (v := ?_) (a' := ?_) #[true, false, false, true, false, false, true, false, false, false, false, false] rfl rfl (any_of HT_.out (by kernel_rfl)) (fun _ _ _ h => h) (Or.inl ⟨by rfl, ?_⟩) ?_ ?_
  rotate_left
  ·
   intro w'
   go_simp
   with_reducible rfl
  rotate_left
  ·
   simp only [Act.put, List.setIfInBounds_toArray, List.set_cons_zero, List.set_cons_succ, i64_w, i32_w]
   rfl
  refine take_ (i := 1) (N := some 12) (v := ?_) (a' := ?_) #[true, true, false, true, false, false, true, false, false, false, false, false] rfl rfl (take_ofW HT_.out HW_.out (by kernel_rfl)) (fun _ _ _ h => h) (Or.inl ⟨by rfl, ?_⟩) hHeld ?_ ?_
  rotate_left
  ·
   rintro w' ⟨s0, s1, s2⟩
   go_simp
   with_reducible rfl
  rotate_left
  ·
   simp only [Act.put, List.setIfInBounds_toArray, List.set_cons_zero, List.set_cons_succ, i64_w, i32_w]
   rfl
  refine take_ (i := 4) (N := some 15) (v := ?_) (a' := ?_) #[true, true, false, true, true, false, true, false, false, false, false, false] rfl rfl (take_ofW HT_.out HW_.out (by kernel_rfl)) (fun _ _ _ h => h) (Or.inl ⟨by rfl, ?_⟩) hHeld ?_ ?_
  rotate_left
  ·
   rintro w' ⟨s0, s1, s2⟩
   go_simp
   with_reducible rfl
  rotate_left
  ·
   simp only [Act.put, List.setIfInBounds_toArray, List.set_cons_zero, List.set_cons_succ, i64_w, i32_w]
   rfl
  refine take_ (i := 7) (N := some 18) (v := ?_) (a' := ?_) #[true, true, false, true, true, false, true, true, false, false, false, false] rfl rfl (take_ofW HT_.out HW_.out (by kernel_rfl)) (fun _ _ _ h => h) (Or.inl ⟨by rfl, ?_⟩) hHeld ?_ ?_
  rotate_left
  ·
   rintro w' ⟨s0, s1, s2⟩
   go_simp
   with_reducible rfl
  rotate_left
  ·
   simp only [Act.put, List.setIfInBounds_toArray, List.set_cons_zero, List.set_cons_succ, i64_w, i32_w]
   rfl
  refine one_ (i := 2) (N := some 13) #[true, true, true, true, true, false, true, true, false, false, false, false] rfl rfl (one_of HT_.out (by kernel_rfl)) (by decide) (fun K hK => ?_)
  refine goes_ Try.func61 (by kernel_rfl) rfl #[.slice A0_0 l0_0.length c0_0] (by rfl) rfl rfl (args_ (p := _)) ?_
  with_reducible refine (slices_Clone_int_int.calls _ _ l0_0 t109 _ ?side1 ?side2 A4.out).mono ?_
  (case side1 => exact upc (Kd.C_below HR0_0.out HB.out))
  (case side2 => exact HC0_0.out)
  rintro e w13 ⟨v110, rfl, ho0, hb⟩
  refine ⟨_, rfl, ?_⟩
  have n0_ := Aside0.mk (Kd.R_lower ho0 (below_size (upH HB)))
  have n1_ := Aside0.mk (blkB BK106 hb)
  have n2_ := Aside0.mk (blkB BK107 hb)
  have n3_ := Aside0.mk (below_step (upH HB) hb)
  clear BK106
  clear BK107
  clear HB
  have HO111 := n0_
  have BK106 := n1_
  have BK107 := n2_
  have HB := n3_
  clear n0_ n1_ n2_ n3_
  (try clear hb)
  (try clear hb2)
  (try clear hk)
  (try clear hi)
  (try clear ho0)
  refine hK.out _ _ ⟨(blk_cell BK106.out 0).trans rfl, (blk_cell BK106.out 1).trans rfl, (blk_cell BK106.out 2).trans rfl⟩ (fun hHeld => ?_)
  clear hK K
  refine norm_ (a' := ?_) ?_ ?_
  rotate_left
  ·
   show Act.put _ (some 13) _ = _
   simp only [Act.put, List.setIfInBounds_toArray, List.set_cons_zero, List.set_cons_succ, i64_w, i32_w]
   rfl
  refine one_ (i := 5) (N := some 16) #[true, true, true, true, true, true, true, true, false, false, false, false] rfl rfl (one_of HT_.out (by kernel_rfl)) (by decide) (fun K hK => ?_)
  refine goes_ Try.func61 (by kernel_rfl) rfl #[.slice A0_1 l0_1.length c0_1] (by rfl) rfl rfl (args_ (p := _)) ?_
  with_reducible refine (slices_Clone_int_int.calls _ _ l0_1 t112 _ ?side1 ?side2 A5.out).mono ?_
  (case side1 => exact upc (Kd.C_below HR0_1.out HB.out))
  (case side2 => exact HC0_1.out)
  rintro e w14 ⟨v113, rfl, ho0, hb⟩
  refine ⟨_, rfl, ?_⟩
  have n0_ := Aside0.mk (Kd.R_elder' (upR HO111.out) (Kd.R_base ho0) hb)
  have n1_ := Aside0.mk (Kd.R_lower (Kd.R_new' ho0 (Kd.R_lt (upR HO111.out))) (below_size (upH HB)))
  have n2_ := Aside0.mk (blkB BK106 hb)
  have n3_ := Aside0.mk (blkB BK107 hb)
  have n4_ := Aside0.mk (below_step (upH HB) hb)
  clear HO111
  clear BK106
  clear BK107
  clear HB
  have HO111 := n0_
  have HO114 := n1_
  have BK106 := n2_
  have BK107 := n3_
  have HB := n4_
  clear n0_ n1_ n2_ n3_ n4_
  (try clear hb)
  (try clear hb2)
  (try clear hk)
  (try clear hi)
  (try clear ho0)
  refine hK.out _ _ ⟨(blk_cell BK106.out 0).trans rfl, (blk_cell BK106.out 1).trans rfl, (blk_cell BK106.out 2).trans rfl⟩ (fun hHeld => ?_)
  clear hK K
  refine norm_ (a' := ?_) ?_ ?_
  rotate_left
  ·
   show Act.put _ (some 16) _ = _
   simp only [Act.put, List.setIfInBounds_toArray, List.set_cons_zero, List.set_cons_succ, i64_w, i32_w]
   rfl
  refine one_ (i := 8) (N := some 19) #[true, true, true, true, true, true, true, true, true, false, false, false] rfl rfl (one_of HT_.out (by kernel_rfl)) (by decide) (fun K hK => ?_)
  refine goes_ Try.func62 (by kernel_rfl) rfl #[.slice A0_2 l0_2.length c0_2] (by rfl) rfl rfl (args_ (p := _)) ?_
  with_reducible refine (slices_Clone_bool_bool.calls _ _ l0_2 t115 _ ?side1 ?side2 A6.out).mono ?_
  (case side1 => exact upc (Kd.C_below HR0_2.out HB.out))
  (case side2 => exact HC0_2.out)
  rintro e w15 ⟨v116, rfl, ho0, hb⟩
  refine ⟨_, rfl, ?_⟩
  have n0_ := Aside0.mk (Kd.R_below (upR HO111.out) hb)
  have n1_ := Aside0.mk (Kd.R_below (upR HO114.out) hb)
  have n2_ := Aside0.mk (Kd.R_lower ho0 (below_size (upH HB)))
  have n3_ := Aside0.mk (blkB BK106 hb)
  have n4_ := Aside0.mk (blkB BK107 hb)
  have n5_ := Aside0.mk (below_step (upH HB) hb)
  clear HO111
  clear HO114
  clear BK106
  clear BK107
  clear HB
  have HO111 := n0_
  have HO114 := n1_
  have HO117 := n2_
  have BK106 := n3_
  have BK107 := n4_
  have HB := n5_
  clear n0_ n1_ n2_ n3_ n4_ n5_
  (try clear hb)
  (try clear hb2)
  (try clear hk)
  (try clear hi)
  (try clear ho0)
  obtain ⟨Ao16, co16, eo16⟩ := Kd.R_slice HO117.out
  (first | subst eo16 | (injection eo16 with f1_ f2_ f3_; have f4_ := f1_.symm; have f5_ := f3_.symm; clear f1_ f2_ f3_; subst f4_; subst f5_))
  obtain ⟨Ao17, co17, eo17⟩ := Kd.R_slice HO114.out
  (first | subst eo17 | (injection eo17 with f1_ f2_ f3_; have f4_ := f1_.symm; have f5_ := f3_.symm; clear f1_ f2_ f3_; subst f4_; subst f5_))
  obtain ⟨Ao18, co18, eo18⟩ := Kd.R_slice HO111.out
  (first | subst eo18 | (injection eo18 with f1_ f2_ f3_; have f4_ := f1_.symm; have f5_ := f3_.symm; clear f1_ f2_ f3_; subst f4_; subst f5_))
  refine hK.out _ _ ⟨(blk_cell BK106.out 0).trans rfl, (blk_cell BK106.out 1).trans rfl, (blk_cell BK106.out 2).trans rfl⟩ (fun hHeld => ?_)
  clear hK K
  refine norm_ (a' := ?_) ?_ ?_
  rotate_left
  ·
   show Act.put _ (some 19) _ = _
   simp only [Act.put, List.setIfInBounds_toArray, List.set_cons_zero, List.set_cons_succ, i64_w, i32_w]
   rfl
  refine pure_ (i := 9) (N := some 20) (v := ?_) (a' := ?_) #[true, true, true, true, true, true, true, true, true, true, false, false] rfl rfl (any_of HT_.out (by kernel_rfl)) (fun _ _ _ h => h) (Or.inl ⟨by rfl, ?_⟩) ?_ ?_
  rotate_left
  ·
   intro w'
   go_simp
   with_reducible rfl
  rotate_left
  ·
   simp only [Act.put, List.setIfInBounds_toArray, List.set_cons_zero, List.set_cons_succ, i64_w, i32_w]
   rfl
  refine one_ (i := 10) (N := none) #[true, true, true, true, true, true, true, true, true, true, true, false] rfl rfl (one_of HT_.out (by kernel_rfl)) (by decide) (fun K hK => ?_)
  have hs19 : w15.cell? ⟨gb107, 0, none⟩ = some (.slice none 0 0) := (blk_cell BK107.out 0).trans rfl
  have hfs19 := blk_frozen BK107.out 0
  have hns19_0 := NB106_107.out
  have hms19_0 := NB107_106.out
  have hs20 : w15.cell? ⟨gb107, 1, none⟩ = some (.slice none 0 0) := (blk_cell BK107.out 1).trans rfl
  have hfs20 := blk_frozen BK107.out 1
  have hns20_0 := NB106_107.out
  have hms20_0 := NB107_106.out
  have hs21 : w15.cell? ⟨gb107, 2, none⟩ = some (.slice none 0 0) := (blk_cell BK107.out 2).trans rfl
  have hfs21 := blk_frozen BK107.out 2
  have hns21_0 := NB106_107.out
  have hms21_0 := NB107_106.out
  refine skip_ (w1 := ?_) (by rfl) rfl ?_ ?_
  rotate_left
  ·
   go_simp
   rfl
  refine hK.out _ _ ⟨((cell_far (p := ⟨gb107, _, none⟩) NB106_107.out _).trans (((cell_far (p := ⟨gb107, _, none⟩) NB106_107.out _).trans (((cell_far (p := ⟨gb107, _, none⟩) NB106_107.out _).trans (hHeld.1)))))), ((cell_far (p := ⟨gb107, _, none⟩) NB106_107.out _).trans (((cell_far (p := ⟨gb107, _, none⟩) NB106_107.out _).trans (((cell_far (p := ⟨gb107, _, none⟩) NB106_107.out _).trans (hHeld.2.1)))))), ((cell_far (p := ⟨gb107, _, none⟩) NB106_107.out _).trans (((cell_far (p := ⟨gb107, _, none⟩) NB106_107.out _).trans (((cell_far (p := ⟨gb107, _, none⟩) NB106_107.out _).trans (hHeld.2.2))))))⟩ (fun hHeld => ?_)
  clear hK K
  refine pure_ (i := 11) (N := some 3) (v := ?_) (a' := ?_) #[true, true, true, true, true, true, true, true, true, true, true, true] rfl rfl (any_of HT_.out (by kernel_rfl)) (fun _ _ _ h => h) (Or.inl ⟨by rfl, ?_⟩) ?_ ?_
  rotate_left
  ·
   intro w'
   go_simp
   with_reducible rfl
  rotate_left
  ·
   simp only [Act.put, List.setIfInBounds_toArray, List.set_cons_zero, List.set_cons_succ, i64_w, i32_w]
   rfl
  refine done_ (done_of HT_.out (by kernel_rfl)) ?_
  try go_wp2
  refine bodyPost_ret (results_ct rfl _ _ gb107 25 #[.slice Ao18 t109.length co18, .slice Ao17 t112.length co17, .slice Ao16 t115.length co16] (0, 0) _ rfl (by (with_reducible repeat (first | refine blk_drewN ?_ _ | refine blk_drew ?_ | refine blk_alloc ?_ _)); refine blk_put (cs := #[.slice Ao18 t109.length co18, .slice Ao17 t112.length co17, .slice none 0 0]) ?_ 2 _ rfl; (with_reducible repeat (first | refine blk_drewN ?_ _ | refine blk_drew ?_ | refine blk_alloc ?_ _)); refine blk_put (cs := #[.slice Ao18 t109.length co18, .slice none 0 0, .slice none 0 0]) ?_ 1 _ rfl; (with_reducible repeat (first | refine blk_drewN ?_ _ | refine blk_drew ?_ | refine blk_alloc ?_ _)); refine blk_put (cs := #[.slice none 0 0, .slice none 0 0, .slice none 0 0]) ?_ 0 _ rfl; (with_reducible repeat (first | refine blk_drewN ?_ _ | refine blk_drew ?_ | refine blk_alloc ?_ _)); exact BK107.out) Try.underlying25 rfl (by kernel_rfl)) rfl ?_
  exact ⟨_, _, _, by first | rfl | (simp [errW_none, errW_some] <;> rfl) | (simp [*, errW_none, errW_some] <;> rfl), by (with_reducible repeat (first | apply Kd.R_alloc | apply Kd.R_drewN | apply Kd.R_drew)); exact Kd.R_mono (far3 HO111.out BK107) (fun _ hk => hk.1.2), by (with_reducible repeat (first | apply Kd.R_alloc | apply Kd.R_drewN | apply Kd.R_drew)); exact Kd.R_mono (far3 HO114.out BK107) (fun _ hk => hk.1.2), by (with_reducible repeat (first | apply Kd.R_alloc | apply Kd.R_drewN | apply Kd.R_drew)); exact Kd.R_mono (far3 HO117.out BK107) (fun _ hk => trivial), by repeat (first | (with_reducible first | exact HB.out | apply below_alloc | apply pw_below_drewN | apply below_drew1 | refine below_set ?_ GE106.out | refine below_set ?_ GE107.out) | exact HB.out)⟩
 ·
  rw [if_neg c3] at H
  have c3b0 : (t108 == 0) = false := beq_eq_false_iff_ne.mpr c3
  have c3b1 : (t108 != 0) = true := bne_iff_ne.mpr c3
  simp only [Option.some.injEq, Prod.mk.injEq] at H
  obtain ⟨rfl, rfl, rfl, rfl⟩ := H
  go_enter Try.func53, Try.ntmps53
  go_wp2_with (first | ((with_reducible refine gate_dst (N := 1) rfl ?_); refine box_event ?hg (N := 1) ?hd (cs := #[.slice A0_0 l0_0.length c0_0, .slice A0_1 l0_1.length c0_1, .slice A0_2 l0_2.length c0_2]) (t := 25) ?hr ?_; (case hd => rfl); (case hg => rfl); (case hr => first | (go_simp; done) | (go_simp; rfl)); intro gb106 hg w22 hbox hb; have n0_ := Aside0.mk (below_step (upH HB) hb); have n1_ := Aside0.mk (hbox); have n2_ := Aside0.mk ((by rw [hg]; exact (below_size (upH HB)) : w.heap.size ≤ gb106)); have n3_ := Aside0.mk ((by rw [hg]; exact (below_size (upH HB)) : w.heap.size ≤ gb106)); clear HB; have HB := n0_; have BK106 := n1_; have GW106 := n2_; have GE106 := n3_; clear n0_ n1_ n2_ n3_; clear hb hbox hg) | ((with_reducible refine gate_dst (N := 2) rfl ?_); refine box_event ?hg (N := 2) ?hd (cs := #[.slice none 0 0, .slice none 0 0, .slice none 0 0]) (t := 25) ?hr ?_; (case hd => rfl); (case hg => rfl); (case hr => first | (go_simp; done) | (go_simp; rfl)); intro gb107 hg w23 hbox hb; have n0_ := Aside0.mk (blkB BK106 hb); have n1_ := Aside0.mk (below_step (upH HB) hb); have n2_ := Aside0.mk (hbox); have n3_ := Aside0.mk ((by rw [hg]; exact (below_size (upH HB)) : w.heap.size ≤ gb107)); have n4_ := Aside0.mk ((by rw [hg]; exact (below_size (upH HB)) : w.heap.size ≤ gb107)); have n5_ := Aside0.mk ((by rw [hg]; exact Nat.ne_of_lt (blk_lt (g := gb106) (o := .cells #[.slice A0_0 l0_0.length c0_0, .slice A0_1 l0_1.length c0_1, .slice A0_2 l0_2.length c0_2] 25 (0, 0)) (upB BK106)) : gb106 ≠ gb107)); have n6_ := Aside0.mk ((by rw [hg]; exact Nat.ne_of_gt (blk_lt (g := gb106) (o := .cells #[.slice A0_0 l0_0.length c0_0, .slice A0_1 l0_1.length c0_1, .slice A0_2 l0_2.length c0_2] 25 (0, 0)) (upB BK106)) : gb107 ≠ gb106)); clear BK106; clear HB; have BK106 := n0_; have HB := n1_; have BK107 := n2_; have GW107 := n3_; have GE107 := n4_; have NB106_107 := n5_; have NB107_106 := n6_; clear n0_ n1_ n2_ n3_ n4_ n5_ n6_; clear hb hbox hg; have hnb24 := NB106_107.out; have hnc24 := NB107_106.out; have hcz25_0 := cell0 BK106; have hcz25_1 := cell1 BK106; have hcz25_2 := cell2 BK106; have hfz25_0 := blk_frozen BK106.out 0; have hfz25_1 := blk_frozen BK106.out 1; have hfz25_2 := blk_frozen BK106.out 2) | ((with_reducible refine gate_callee (f := 16) rfl ?_); refine goesL_ (some 6) rfl rfl Try.func16 (by kernel_rfl) rfl #[.agg #[.slice A0_0 l0_0.length c0_0, .slice A0_1 l0_1.length c0_1, .slice A0_2 l0_2.length c0_2]] rfl (args_ (p := _)) ?_; (with_reducible refine (lru_Check.calls _ _ l0_0 _ _ l0_1 _ _ l0_2 t108 _ ?side1 ?side2 ?side3 ?side4 ?side5 ?side6 A2.out).mono ?_); (case side1 => exact upc (Kd.C_below HR0_0.out HB.out)); (case side2 => exact HC0_0.out); (case side3 => exact upc (Kd.C_below HR0_1.out HB.out)); (case side4 => exact HC0_1.out); (case side5 => exact upc (Kd.C_below HR0_2.out HB.out)); (case side6 => exact HC0_2.out); rintro e w26 ⟨rfl, hb⟩; refine ⟨_, rfl, ?_⟩; have n0_ := Aside0.mk (blkB BK106 hb); have n1_ := Aside0.mk (blkB BK107 hb); have n2_ := Aside0.mk (below_step (upH HB) hb); clear BK106; clear BK107; clear HB; have BK106 := n0_; have BK107 := n1_; have HB := n2_; clear n0_ n1_ n2_; (try clear hb); (try clear hb2); (try clear hk); (try clear hi); have hcz27_0 := cell0 BK107; have hcz27_1 := cell1 BK107; have hcz27_2 := cell2 BK107; have hfz27_0 := blk_frozen BK107.out 0; have hfz27_1 := blk_frozen BK107.out 1; have hfz27_2 := blk_frozen BK107.out 2))
  refine bodyPost_ret (results_ct rfl _ _ gb107 25 #[.slice none 0 0, .slice none 0 0, .slice none 0 0] (0, 0) _ rfl (by (with_reducible repeat (first | refine blk_drewN ?_ _ | refine blk_drew ?_ | refine blk_alloc ?_ _)); refine blk_put (cs := #[.slice none 0 0, .slice none 0 0, .slice none 0 0]) ?_ 2 _ rfl; (with_reducible repeat (first | refine blk_drewN ?_ _ | refine blk_drew ?_ | refine blk_alloc ?_ _)); refine blk_put (cs := #[.slice none 0 0, .slice none 0 0, .slice none 0 0]) ?_ 1 _ rfl; (with_reducible repeat (first | refine blk_drewN ?_ _ | refine blk_drew ?_ | refine blk_alloc ?_ _)); refine blk_put (cs := #[.slice none 0 0, .slice none 0 0, .slice none 0 0]) ?_ 0 _ rfl; (with_reducible repeat (first | refine blk_drewN ?_ _ | refine blk_drew ?_ | refine blk_alloc ?_ _)); exact BK107.out) Try.underlying25 rfl (by kernel_rfl)) rfl ?_
  exact ⟨_, _, _, by first | rfl | (simp [errW_none, errW_some] <;> rfl) | (simp [*, errW_none, errW_some] <;> rfl), by first | exact Kd.R_nil _ _ _ _ _ | exact Kd.N_nil _ _ _ _ _ | exact Kd.V_nil _ _ _ _ _ | exact Kd.Q_nil _ _ _ _ _ | exact Kd.S_nil _ _ _ _ _, by first | exact Kd.R_nil _ _ _ _ _ | exact Kd.N_nil _ _ _ _ _ | exact Kd.V_nil _ _ _ _ _ | exact Kd.Q_nil _ _ _ _ _ | exact Kd.S_nil _ _ _ _ _, by first | exact Kd.R_nil _ _ _ _ _ | exact Kd.N_nil _ _ _ _ _ | exact Kd.V_nil _ _ _ _ _ | exact Kd.Q_nil _ _ _ _ _ | exact Kd.S_nil _ _ _ _ _, by repeat (first | (with_reducible first | exact HB.out | apply below_alloc | apply pw_below_drewN | apply below_drew1 | refine below_set ?_ GE106.out | refine below_set ?_ GE107.out) | exact HB.out)⟩

end Go.Proofs.Ytaofihdmgdpenaa.X

namespace Go.Proofs.Ytaofihdmgdpenaa.X
open Go.RowKit Go.Proofs.YtaofihdmgdpenaaW.PrintWords Go.Proofs.YtaofihdmgdpenaaW.PrintLast Go.Proofs.YtaofihdmgdpenaaW.PrintMore
attribute [local go_sem] max2_int min2_int max_two min_two max_three min_three max_four min_four   -- for this text's walks alone
set_option linter.unusedVariables false
set_option linter.unusedSimpArgs false

/-! ### slices_Index_int_int: function 66 -/
def slices_Index_int_int.l0 : Nat → List Int → Int → Int → Int → Option (Int)
 | 0, _, _, _, _ => none
 | k + 1, x0, x1, x7, x8 => if x8 < x7 then (if 0 ≤ x8 then (if x8 < (x0.length : Int) then (if x1 = (rd x0 x8) then (some x8) else (slices_Index_int_int.l0 k x0 x1 x7 (wrap64 (x8 + 1)))) else (none)) else (none)) else (some (-1))
def slices_Index_int_int.f (k : Nat) (l0 : List Int) (a1 : Int) : Option (Int) := slices_Index_int_int.l0 k l0 a1 (l0.length : Int) 0
theorem slices_Index_int_int.mono_l : ∀ k, (∀ y0 y1 y2 y3, LeO (slices_Index_int_int.l0 k y0 y1 y2 y3) (slices_Index_int_int.l0 (k + 1) y0 y1 y2 y3))
 | 0 => fun _ _ _ _ r h => by simp [slices_Index_int_int.l0] at h
 | k + 1 => by
  have ih0 := slices_Index_int_int.mono_l k
  ·
   intro y0 y1 y2 y3
   unfold slices_Index_int_int.l0
   repeat' first
   | (with_reducible exact ih0 _ _ _ _)
   | (with_reducible exact LeO.refl _)
   | (with_reducible exact LeO.none _)
   | (with_reducible refine LeO.ite ?_ ?_)
   | (with_reducible refine LeO.bind ?_ (fun _ => ?_))
   | exact ih0 _ _ _ _
   | exact LeO.none _
   | refine LeO.ite ?_ ?_
   | refine LeO.bind ?_ (fun _ => ?_)
theorem slices_Index_int_int.mono : ∀ a0 a1 k, LeO (slices_Index_int_int.f k a0 a1) (slices_Index_int_int.f (k + 1) a0 a1) := by
 intro a0 a1 k
 have ih0 := slices_Index_int_int.mono_l k
 unfold slices_Index_int_int.f
 repeat' first
   | (with_reducible exact ih0 _ _ _ _)
   | (with_reducible exact LeO.refl _)
   | (with_reducible exact LeO.none _)
   | (with_reducible refine LeO.ite ?_ ?_)
   | (with_reducible refine LeO.bind ?_ (fun _ => ?_))
   | exact ih0 _ _ _ _
   | exact LeO.none _
   | refine LeO.ite ?_ ?_
   | refine LeO.bind ?_ (fun _ => ?_)
set_option maxHeartbeats 2000000 in
set_option maxRecDepth 100000 in
theorem slices_Index_int_int.calls (k : Nat) (A0 : Option Addr) (c0 : Nat) (l0 : List Int) (a1 : Int) (r : Int) (w : World) (hr0 : Kd.C (Kd.int .i64) w A0 l0.length l0) (hc0 : l0.length ≤ c0) (h : slices_Index_int_int.f k l0 a1 = some r) :
  Calls Try.prog 66 #[.slice A0 l0.length c0, .int .i64 a1] w fun e w' => e = .returned (.int .i64 r) ∧ Drawn0 w w' := by
 have HR0 := Aside0.mk hr0
 have HC0 := Aside0.mk hc0
 clear hr0 hc0
 have H : (slices_Index_int_int.l0 k l0 a1 (l0.length : Int) 0) = some r := h
 clear h
 have H' := Aside0.mk H
 clear H
 go_enter Try.func66, Try.ntmps66
 go_wp2
 go_loopg [8] k (fun kq v8 w' => ∃ (x8_1 : Int), v8 = .int .i64 x8_1 ∧ Aside0 (slices_Index_int_int.l0 kq l0 a1 (l0.length : Int) x8_1 = some r) ∧ Aside0 (kq ≤ k) ∧ Drawn0 w w')
 case atStart => exact ⟨(0), (by first | rfl | (simp; done) | (simp [*]; done)), H', ⟨Nat.le_refl _⟩, by repeat (first | exact Drawn0.refl _ | apply Drawn0.step)⟩
 case round =>
  clear H'
  try clear p2
  obtain ⟨x8_1, rfl, HA, HK1, ⟨m1, rfl⟩⟩ := hrel
  cases gk with
  | zero => exact absurd HA.out (by simp [slices_Index_int_int.l0])
  | succ k1 =>
   have H := HA.out
   clear HA
   simp only [slices_Index_int_int.l0] at H
   by_cases c3 : x8_1 < (l0.length : Int)
   ·
    rw [if_pos c3] at H
    have c3b0 : decide (x8_1 < (l0.length : Int)) = true := decide_eq_true c3
    clear c3
    by_cases c4 : 0 ≤ x8_1
    ·
     rw [if_pos c4] at H
     have c4b0 : decide (0 ≤ x8_1) = true := decide_eq_true c4
     clear c4
     by_cases c5 : x8_1 < (l0.length : Int)
     ·
      rw [if_pos c5] at H
      have c5b0 : decide (x8_1 < (l0.length : Int)) = true := decide_eq_true c5
      clear c5
      by_cases c6 : a1 = (rd l0 x8_1)
      ·
       rw [if_pos c6] at H
       have c6b0 : (a1 == (rd l0 x8_1)) = true := beq_iff_eq.mpr c6
       have c6b1 : (a1 != (rd l0 x8_1)) = false := bne_eq_false_iff_eq.mpr c6
       clear c6
       obtain rfl := Option.some.inj H
       have p118 : 0 ≤ (x8_1 : Int) := of_decide_eq_true (asm_ (p := _))
       have q118 : x8_1 < (l0.length : Int) := of_decide_eq_true (asm_ (p := _))
       obtain ⟨ad118, e118, hx118_0⟩ := Kd.at_int HR0.out x8_1 p118 q118
       cases e118
       replace p118 := eq_true p118
       replace q118 := eq_true q118
       go_wp2
       go_ret
       exact ⟨by first | rfl | (simp; done) | (simp [*]; done), by repeat (first | exact Drawn0.refl _ | apply Drawn0.step)⟩
      ·
       rw [if_neg c6] at H
       have c6b0 : (a1 == (rd l0 x8_1)) = false := beq_eq_false_iff_ne.mpr c6
       have c6b1 : (a1 != (rd l0 x8_1)) = true := bne_iff_ne.mpr c6
       have H' := Aside0.mk H
       clear H
       have p118 : 0 ≤ (x8_1 : Int) := of_decide_eq_true (asm_ (p := _))
       have q118 : x8_1 < (l0.length : Int) := of_decide_eq_true (asm_ (p := _))
       obtain ⟨ad118, e118, hx118_0⟩ := Kd.at_int HR0.out x8_1 p118 q118
       cases e118
       replace p118 := eq_true p118
       replace q118 := eq_true q118
       go_wp2
       go_roundg k1
       case measure => have := HK1.out; omega
       case rel => exact ⟨(wrap64 (x8_1 + 1)), (by first | rfl | (simp; done) | (simp [*]; done)), H', ⟨by have := HK1.out; omega⟩, by repeat (first | exact Drawn0.refl _ | apply Drawn0.step)⟩
     ·
      rw [if_neg c5] at H
      exact absurd H (by simp)
    ·
     rw [if_neg c4] at H
     exact absurd H (by simp)
   ·
    rw [if_neg c3] at H
    have c3b0 : decide (x8_1 < (l0.length : Int)) = false := decide_eq_false c3
    clear c3
    obtain rfl := Option.some.inj H
    go_wp2
    go_ret
    exact ⟨by first | rfl | (simp; done) | (simp [*]; done), by repeat (first | exact Drawn0.refl _ | apply Drawn0.step)⟩

end Go.Proofs.Ytaofihdmgdpenaa.X

namespace Go.Proofs.Ytaofihdmgdpenaa.X
open Go.RowKit Go.Proofs.YtaofihdmgdpenaaW.PrintWords Go.Proofs.YtaofihdmgdpenaaW.PrintLast Go.Proofs.YtaofihdmgdpenaaW.PrintMore
attribute [local go_sem] max2_int min2_int max_two min_two max_three min_three max_four min_four   -- for this text's walks alone
set_option linter.unusedVariables false
set_option linter.unusedSimpArgs false

/-! ### slices_Contains_int_int: function 57 -/
def slices_Contains_int_int.f (k : Nat) (l0 : List Int) (a1 : Int) : Option (Bool) := (slices_Index_int_int.f k l0 a1).bind fun t119 => (some (decide (t119 ≥ 0)))
theorem slices_Contains_int_int.mono : ∀ a0 a1 k, LeO (slices_Contains_int_int.f k a0 a1) (slices_Contains_int_int.f (k + 1) a0 a1) := by
 intro a0 a1 k
 unfold slices_Contains_int_int.f
 repeat' first
   | (with_reducible exact slices_Index_int_int.mono _ _ _)
   | (with_reducible exact LeO.refl _)
   | (with_reducible exact LeO.none _)
   | (with_reducible refine LeO.ite ?_ ?_)
   | (with_reducible refine LeO.bind ?_ (fun _ => ?_))
   | exact slices_Index_int_int.mono _ _ _
   | exact LeO.none _
   | refine LeO.ite ?_ ?_
   | refine LeO.bind ?_ (fun _ => ?_)
set_option maxHeartbeats 2000000 in
set_option maxRecDepth 100000 in
theorem slices_Contains_int_int.calls (k : Nat) (A0 : Option Addr) (c0 : Nat) (l0 : List Int) (a1 : Int) (r : Bool) (w : World) (hr0 : Kd.C (Kd.int .i64) w A0 l0.length l0) (hc0 : l0.length ≤ c0) (h : slices_Contains_int_int.f k l0 a1 = some r) :
  Calls Try.prog 57 #[.slice A0 l0.length c0, .int .i64 a1] w fun e w' => e = .returned (.bool r) ∧ Drawn0 w w' := by
 have HR0 := Aside0.mk hr0
 have HC0 := Aside0.mk hc0
 clear hr0 hc0
 have H : ((slices_Index_int_int.f k l0 a1).bind fun t119 => (some (decide (t119 ≥ 0)))) = some r := h
 clear h
 replace H := Option.bind_eq_some_iff.mp H
 obtain ⟨t119, A30, H⟩ := H
 replace H : (some (decide (t119 ≥ 0))) = some r := H
 have A3 := Aside0.mk A30
 clear A30
 obtain rfl := Option.some.inj H
 go_enter Try.func57, Try.ntmps57
 go_wp2_with (first | ((with_reducible refine gate_callee (f := 66) rfl ?_); refine goesL_ (some 7) rfl rfl Try.func66 (by kernel_rfl) rfl #[.slice A0 l0.length c0, .int .i64 a1] rfl (args_ (p := _)) ?_; (with_reducible refine (slices_Index_int_int.calls k _ _ l0 a1 t119 _ ?side1 ?side2 A3.out).mono ?_); (case side1 => exact upc HR0.out); (case side2 => exact HC0.out); rintro e w' ⟨rfl, ⟨nd, rfl⟩⟩; refine ⟨_, rfl, ?_⟩))
 go_ret
 exact ⟨by first | rfl | (simp; done) | (simp [*]; done), by repeat (first | exact Drawn0.refl _ | apply Drawn0.step)⟩

end Go.Proofs.Ytaofihdmgdpenaa.X
