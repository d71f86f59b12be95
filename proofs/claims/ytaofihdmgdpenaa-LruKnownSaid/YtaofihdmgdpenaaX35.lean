/- What Go functions of this seat compute, told as Lean functions, and that each call of the Go code comes to that answer; for a law: its row, for every input. Written by a program of the session. -/
import Derived.Shelf.SlicesE.DeleteFunc
import Derived.Ground.SlgfProg
import Derived.Lib.SliceRun
import Derived.Sort.OwnSortedInts
import Derived.Test.YtaofihdmgdpenaaX0
import Derived.Test.YtaofihdmgdpenaaX10
namespace Go.Proofs.Ytaofihdmgdpenaa.X
open Go.RowKit Go.Proofs.YtaofihdmgdpenaaW.PrintWords Go.Proofs.YtaofihdmgdpenaaW.PrintLast Go.Proofs.YtaofihdmgdpenaaW.PrintMore
attribute [local go_sem] max2_int min2_int max_two min_two max_three min_three max_four min_four   -- for this text's walks alone
set_option linter.unusedVariables false
set_option linter.unusedSimpArgs false

/-! ### slices_DeleteFunc_int_int: function 48 -/
shelf_lay_g SlLaysH.n10 Slgf 10 at Try 48 as Try.delfunc_
section
open Go.Shelf Go.Lib Go.Sort
/-- The closure of Remove, in whatever world holds the frame in the cell ⟨B, 0⟩. -/
theorem is_gives (y x : Int) (B : Nat) (W : World) (hc : W.cell? ⟨B, 0, none⟩ = some (.int .i64 y)) :
  FnGives Try.prog 47 #[.pointer (some ⟨B, 0, none⟩)] #[.int .i64 x] (.bool (x == y)) W := by
 show Calls Try.prog 47 #[.int .i64 x, .pointer (some ⟨B, 0, none⟩)] W _
 go_enter Try.func47, Try.ntmps47
 go_wp2
 all_goals (go_ret; exact ⟨by simp_all, 0, rfl⟩)
theorem is_pred (y : Int) (B : Nat) (w : World) (hB : B < w.heap.size) (hcell : w.cell? ⟨B, 0, none⟩ = some (.int .i64 y)) :
  PredAt Try.prog 47 #[.pointer (some ⟨B, 0, none⟩)] (Value.int .i64) (fun x => x == y) w :=
 fun W x hb => is_gives y x B W ((hb.cell (p := ⟨B, 0, none⟩) hB).trans hcell)
theorem is_over (y : Int) (B blk off size : Nat) (w : World) (hB : B < w.heap.size) (hne : B ≠ blk) (hcell : w.cell? ⟨B, 0, none⟩ = some (.int .i64 y)) :
  PredOver Try.prog 47 #[.pointer (some ⟨B, 0, none⟩)] (Value.int .i64) (fun x => x == y) blk off size w :=
 fun n os dk x _ => is_gives y x B _ (by
  unfold sortWorld
  rw [cell?_grow _ _ _ (by show B < (putRow _ _ _ _ _).heap.size; rw [size_putRow]; exact hB), cell?_putRow_other _ _ blk off _ _ (Or.inl hne)]
  exact hcell)
theorem delfunc_zero (w : World) : (zeroValue 3).run Try.prog w = .ok (.int .i64 0) w := by kernel_rfl
set_option maxHeartbeats 2000000 in
set_option maxRecDepth 100000 in
/-- slices.DeleteFunc(s, is), s a row of the caller's own: it owns the rest behind it. -/
theorem delfunc_own (base B : Nat) (v : Value) (xs : List Int) (y : Int) (w : World) (hR : Kd.R (Kd.int .i64) 3 w base (fun _ => True) v xs) (hlen : xs.length ≤ 1000000) (hB : B < w.heap.size) (hcell : w.cell? ⟨B, 0, none⟩ = some (.int .i64 y)) (hne : v.ownBlock ≠ some B) :
  Calls Try.prog 48 #[v, .func (.func 47) #[] #[.pointer (some ⟨B, 0, none⟩)]] w fun e w' => ∃ v', e = .returned v' ∧ Kd.R (Kd.int .i64) 3 w' base (fun _ => True) v' (xs.filter fun x => !(x == y)) ∧ w.grownBy w' v.ownBlock ∧ v'.ownBlock = v.ownBlock := by
 have eg : ∀ args w, (callFunc 47 args).run Try.prog w = .ok (.enter 47 args) w := enters_of Try.func47 (by kernel_rfl) rfl
 obtain ⟨_, hown⟩ := Kd.own_of_R hR
 rcases hown with ⟨rfl, h0⟩ | ⟨g, cap, cur, rfl, hg, hgb, hcap, hmax, hsz, htake⟩
 ·
  obtain rfl := List.eq_nil_of_length_eq_zero h0
  have hcon := AnyE.slices_IndexFunc_empty { Try.delfunc_ with } none 0 (.func (.func 47) #[] #[.pointer (some ⟨B, 0, none⟩)]) w
  change Calls Try.prog 60 _ _ _ at hcon
  go_enter Try.func48, Try.ntmps48
  go_wp2_with (go_at_call 60; refine hcon.mono ?_; rintro e w' ⟨rfl, rfl⟩)
  go_ret
  exact ⟨_, rfl, Kd.R_nil _ _ _ _ _, ⟨rfl, rfl, rfl, Nat.le_refl _, fun _ _ _ => rfl⟩, rfl⟩
 ·
  have hgw : g < w.heap.size := (Array.getElem?_eq_some_iff.1 hgb).1
  have hH : Holds (Value.int .i64) w g 0 xs.toArray := Go.holds_of_blockI hgb (by simpa [encs] using htake)
  have hBg : B ≠ g := fun e => hne (by rw [e]; rfl)
  have hcon := AnyE.slices_DeleteFunc Try.delfunc_ (Value.int .i64) (fun _ => rfl) (fun x => x == y) 47 #[.pointer (some ⟨B, 0, none⟩)] eg 0 delfunc_zero g 0 cap xs.toArray w (is_pred y B w hB hcell) (is_over y B g 0 xs.toArray.size w hB hBg hcell) hH (by simp; omega) (by simpa using hcap)
  refine hcon.mono ?_
  rintro e w' ⟨rfl, q, rfl⟩
  have hm : (xs.filter fun x => !(x == y)).length ≤ xs.length := List.length_filter_le _ _
  have hh := Go.heap_sortedI (w := w) (n := q) (os := #[]) ((xs.filter fun x => !(x == y)) ++ List.replicate (xs.length - (xs.filter fun x => !(x == y)).length) 0).toArray hgb
  have hgr := Go.grownBy_sortedI (w := w) (g := g) (n := q) (os := #[]) ((xs.filter fun x => !(x == y)) ++ List.replicate (xs.length - (xs.filter fun x => !(x == y)).length) 0).toArray
  have htk := Go.take_putCellsI cur ((xs.filter fun x => !(x == y)) ++ List.replicate (xs.length - (xs.filter fun x => !(x == y)).length) 0) (by simp; omega)
  rw [grow_empty] at hh hgr
  simp only [List.size_toArray]
  generalize hz : (xs.filter fun x => !(x == y)) = zs at *
  refine ⟨_, rfl, Kd.R_of_own ⟨by simp [encs], .inr ⟨g, cap, _, rfl, hg, hh, by omega, hmax, by simp [putCells]; omega, ?_⟩⟩ (fun _ _ => trivial), hgr, rfl⟩
  have := congrArg (List.take zs.length) htk
  rw [List.take_take, Nat.min_eq_left (by simp), List.map_append, List.take_append_of_le_length (by simp), show List.take zs.length (List.map (Value.int .i64) zs) = List.map (Value.int .i64) zs from List.take_of_length_le (by simp)] at this
  simpa [encs] using this
end


end Go.Proofs.Ytaofihdmgdpenaa.X

namespace Go.Proofs.Ytaofihdmgdpenaa.X
open Go.RowKit Go.Proofs.YtaofihdmgdpenaaW.PrintWords Go.Proofs.YtaofihdmgdpenaaW.PrintLast Go.Proofs.YtaofihdmgdpenaaW.PrintMore
attribute [local go_sem] max2_int min2_int max_two min_two max_three min_three max_four min_four   -- for this text's walks alone
set_option linter.unusedVariables false
set_option linter.unusedSimpArgs false

/-! ### lru_Remove: function 20 -/
/-- What holds between the two calls of DeleteFunc: the two rows, the marks, the three variables. -/
structure RmSt (w W : World) (b6 : Nat) (a1 : Int) (c6 : Array Value) (u0 u1 v2 : Value) (x0 x1 : List Int) (t3 : List Bool) : Prop where
 r0 : Kd.R (Kd.int .i64) 3 W w.heap.size (fun k_ => some k_ ≠ u1.ownBlock) u0 x0
 r1 : Kd.R (Kd.int .i64) 3 W w.heap.size (fun k_ => some k_ ≠ u0.ownBlock) u1 x1
 r2 : Kd.R Kd.bool 4 W w.heap.size (fun _ => True) v2 t3
 h3 : W.heap[w.heap.size + 1]? = some (.cells #[.int .i64 a1] 3 (0, 0))
 h4 : W.heap[w.heap.size + 2]? = some (.cells #[.slice none 0 0, .slice none 0 0, .slice none 0 0] 25 (0, 0))
 h6 : W.heap[b6]? = some (.cells c6 25 (0, 0))
 n0 : u0.ownBlock ≠ some (w.heap.size + 1)
 n1 : u1.ownBlock ≠ some (w.heap.size + 1)
 below : Below w.heap.size w W
 size : w.heap.size ≤ W.heap.size
theorem RmSt.delA {w W : World} {b6 : Nat} {a1 : Int} {c6 : Array Value} {u0 u1 v2 : Value} {x0 x1 : List Int} {t3 : List Bool} (h : RmSt w W b6 a1 c6 u0 u1 v2 x0 x1 t3) (hl : x0.length ≤ 1000000) :
  Calls Try.prog 48 #[u0, .func (.func 47) #[] #[.pointer (some ⟨w.heap.size + 1, 0, none⟩)]] W fun e W' => ∃ u, e = .returned u ∧ RmSt w W' b6 a1 c6 u u1 v2 (x0.filter fun x => !(x == a1)) x1 t3 := by
 refine (delfunc_own w.heap.size (w.heap.size + 1) u0 x0 a1 W (Kd.R_mono h.r0 fun _ _ => trivial) hl (blk_lt h.h3) ((blk_cell h.h3 0).trans rfl) h.n0).mono ?_
 rintro e W' ⟨u, rfl, hR, hg, hat⟩
 have hge := own_base (Kd.own_of_R h.r0)
 refine ⟨u, rfl, Kd.R_of_own (Kd.own_of_R hR) (fun k hk => h.r0.1 k (hat ▸ hk)), ?_, Kd.R_over' h.r2 (Kd.R_typed h.r0) (by decide) hg, ?_, ?_, ?_, by rw [hat]; exact h.n0, h.n1, h.below.grown hg h.size hge, Nat.le_trans h.size hg.size⟩
 ·
  rw [hat]
  exact Kd.R_step h.r1 (fun k hk hlt => hg.block k hlt hk)
 ·
  exact blk_grown h.h3 hg (fun e => h.n0 e.symm)
 ·
  exact blk_grown h.h4 hg (Kd.R_ne h.r0 h.h4 (by decide))
 ·
  exact blk_grown h.h6 hg (Kd.R_ne h.r0 h.h6 (by decide))
theorem RmSt.delB {w W : World} {b6 : Nat} {a1 : Int} {c6 : Array Value} {u0 u1 v2 : Value} {x0 x1 : List Int} {t3 : List Bool} (h : RmSt w W b6 a1 c6 u0 u1 v2 x0 x1 t3) (hl : x1.length ≤ 1000000) :
  Calls Try.prog 48 #[u1, .func (.func 47) #[] #[.pointer (some ⟨w.heap.size + 1, 0, none⟩)]] W fun e W' => ∃ u, e = .returned u ∧ RmSt w W' b6 a1 c6 u0 u v2 x0 (x1.filter fun x => !(x == a1)) t3 := by
 refine (delfunc_own w.heap.size (w.heap.size + 1) u1 x1 a1 W (Kd.R_mono h.r1 fun _ _ => trivial) hl (blk_lt h.h3) ((blk_cell h.h3 0).trans rfl) h.n1).mono ?_
 rintro e W' ⟨u, rfl, hR, hg, hat⟩
 have hge := own_base (Kd.own_of_R h.r1)
 refine ⟨u, rfl, ?_, Kd.R_of_own (Kd.own_of_R hR) (fun k hk => h.r1.1 k (hat ▸ hk)), Kd.R_over' h.r2 (Kd.R_typed h.r1) (by decide) hg, ?_, ?_, ?_, h.n0, by rw [hat]; exact h.n1, h.below.grown hg h.size hge, Nat.le_trans h.size hg.size⟩
 ·
  rw [hat]
  exact Kd.R_step h.r0 (fun k hk hlt => hg.block k hlt hk)
 ·
  exact blk_grown h.h3 hg (fun e => h.n1 e.symm)
 ·
  exact blk_grown h.h4 hg (Kd.R_ne h.r1 h.h4 (by decide))
 ·
  exact blk_grown h.h6 hg (Kd.R_ne h.r1 h.h6 (by decide))
def lru_Remove.f (k : Nat) (l0_0 : List Int) (l0_1 : List Int) (l0_2 : List Bool) (a1 : Int) : Option (List Int × List Int × List Bool × Int) := (lru_about.f k l0_0 l0_1 l0_2 a1).bind fun t => if t.2.2.2.2 = 0 then (if t.2.2.2.1 = 0 then some ([], [], [], 6) else if t.1.length ≤ 1000000 ∧ t.2.1.length ≤ 1000000 ∧ 0 ≤ a1 ∧ a1 < (t.2.2.1.length : Int) then some (t.1.filter (fun x => !(x == a1)), t.2.1.filter (fun x => !(x == a1)), t.2.2.1.set a1.toNat false, 0) else none) else some ([], [], [], t.2.2.2.2)
theorem lru_Remove.mono : ∀ a0 a1 a2 a3 k, LeO (lru_Remove.f k a0 a1 a2 a3) (lru_Remove.f (k + 1) a0 a1 a2 a3) := by
 intro a0 a1 a2 a3 k
 unfold lru_Remove.f
 exact LeO.bind (lru_about.mono _ _ _ _ _) (fun _ => LeO.refl _)
set_option maxHeartbeats 4000000 in
set_option maxRecDepth 100000 in
theorem lru_Remove.calls (k : Nat) (A0_0 : Option Addr) (c0_0 : Nat) (l0_0 : List Int) (A0_1 : Option Addr) (c0_1 : Nat) (l0_1 : List Int) (A0_2 : Option Addr) (c0_2 : Nat) (l0_2 : List Bool) (a1 : Int) (r1 : List Int) (r2 : List Int) (r3 : List Bool) (r4 : Int) (w : World) (hr0_0 : Kd.C (Kd.int .i64) w A0_0 l0_0.length l0_0) (hc0_0 : l0_0.length ≤ c0_0) (hr0_1 : Kd.C (Kd.int .i64) w A0_1 l0_1.length l0_1) (hc0_1 : l0_1.length ≤ c0_1) (hr0_2 : Kd.C Kd.bool w A0_2 l0_2.length l0_2) (hc0_2 : l0_2.length ≤ c0_2) (h : lru_Remove.f k l0_0 l0_1 l0_2 a1 = some (r1, r2, r3, r4)) :
  Calls Try.prog 20 #[.agg #[.slice A0_0 l0_0.length c0_0, .slice A0_1 l0_1.length c0_1, .slice A0_2 l0_2.length c0_2], .int .i64 a1] w fun e w' => ∃ v0_ v1_ v2_ : Value, e = .returned (.tuple #[.agg #[v0_, v1_, v2_], .int .i64 r4]) ∧ Kd.R (Kd.int .i64) 3 w' w.heap.size (fun k_ => some k_ ≠ (v1_ : Value).ownBlock) v0_ r1 ∧ Kd.R (Kd.int .i64) 3 w' w.heap.size (fun k_ => some k_ ≠ (v0_ : Value).ownBlock) v1_ r2 ∧ Kd.R Kd.bool 4 w' w.heap.size (fun _ => True) v2_ r3 ∧ Below w.heap.size w w' := by
 have hu25 := Try.underlying25
 unfold lru_Remove.f at h
 obtain ⟨⟨t1, t2, t3, wh, er⟩, hab, H⟩ := Option.bind_eq_some_iff.mp h
 simp only at H
 clear h
 have HAB := Aside0.mk hab
 have HR0 := Aside0.mk hr0_0
 have HR1 := Aside0.mk hr0_1
 have HR2 := Aside0.mk hr0_2
 clear hab hr0_0 hr0_1 hr0_2
 go_enter Try.func20, Try.ntmps20
 go_wp2_with fail
 refine (lru_about.calls k _ _ l0_0 _ _ l0_1 _ _ l0_2 a1 t1 t2 t3 wh er _ (Kd.C_alloc (Kd.C_alloc (Kd.C_alloc HR0.out _) _) _) hc0_0 (Kd.C_alloc (Kd.C_alloc (Kd.C_alloc HR1.out _) _) _) hc0_1 (Kd.C_alloc (Kd.C_alloc (Kd.C_alloc HR2.out _) _) _) hc0_2 HAB.out).mono ?_
 rintro e w1 ⟨v0, v1, v2, rfl, ho0, ho1, ho2, hb1⟩
 obtain ⟨B0, d0, rfl⟩ := Kd.R_slice ho0
 obtain ⟨B1, d1, rfl⟩ := Kd.R_slice ho1
 obtain ⟨B2, d2, rfl⟩ := Kd.R_slice ho2
 have hsz := hb1.size
 simp only [World.size_alloc] at hsz
 have HB1 := Aside0.mk (below_then (below_alloc (below_alloc (below_alloc (Below.refl w.heap.size w) _) _) _) (by simp; omega) hb1)
 have hbk3 := blk_below (blk_alloc (blk_second) _) hb1
 have hbk4 := blk_below (g := w.heap.size + 2) (by have := blk_new ((w.alloc (.cells #[.slice A0_0 l0_0.length c0_0, .slice A0_1 l0_1.length c0_1, .slice A0_2 l0_2.length c0_2] 25)).alloc (.cells #[.int .i64 a1] 3)) (.cells #[.slice none 0 0, .slice none 0 0, .slice none 0 0] 25); simpa using this) hb1
 have BK3 := Aside0.mk hbk3
 have BK4 := Aside0.mk hbk4
 have hn0 : ∀ q, (Value.slice B0 t1.length d0).ownBlock = some q → w.heap.size + 3 ≤ q := fun q hq => by have := own_base (Kd.own_of_R ho0) q hq; simp at this; omega
 have hn1 : ∀ q, (Value.slice B1 t2.length d1).ownBlock = some q → w.heap.size + 3 ≤ q := fun q hq => by have := own_base (Kd.own_of_R ho1) q hq; simp at this; omega
 have HN := Aside0.mk (And.intro hn0 hn1)
 have HO0 := Aside0.mk (Kd.R_lower ho0 (show w.heap.size ≤ _ by simp; omega))
 have HO1 := Aside0.mk (Kd.R_lower ho1 (show w.heap.size ≤ _ by simp; omega))
 have HO2 := Aside0.mk (Kd.R_lower ho2 (show w.heap.size ≤ _ by simp; omega))
 clear ho0 ho1 ho2 hb1 HR0 HR1 HR2 HAB hbk3 hbk4 hn0 hn1
 by_cases c : er = 0
 case neg =>
  rw [if_neg c] at H
  simp only [Option.some.injEq, Prod.mk.injEq] at H
  obtain ⟨rfl, rfl, rfl, rfl⟩ := H
  have e1 : (er == 0) = false := beq_eq_false_iff_ne.mpr c
  have e2 : (er != 0) = true := bne_iff_ne.mpr c
  have hbk := blk_alloc BK4.out (.cells #[.slice B0 t1.length d0, .slice B1 t2.length d1, .slice B2 t3.length d2] 25)
  have hx0 := (blk_cell hbk 0).trans rfl
  have hx1 := (blk_cell hbk 1).trans rfl
  have hx2 := (blk_cell hbk 2).trans rfl
  have hf0 := blk_frozen hbk 0
  have hf1 := blk_frozen hbk 1
  have hf2 := blk_frozen hbk 2
  have BK := Aside0.mk hbk
  clear hbk c
  go_wp2
  refine bodyPost_ret (results_ct rfl _ _ (w.heap.size + 2) 25 #[.slice none 0 0, .slice none 0 0, .slice none 0 0] (0, 0) _ rfl (blk_put (blk_put (blk_put BK.out 0 _ rfl) 1 _ rfl) 2 _ rfl) hu25 rfl (by kernel_rfl)) rfl ?_
  exact ⟨_, _, _, rfl, Kd.R_nil _ _ _ _ _, Kd.R_nil _ _ _ _ _, Kd.R_nil _ _ _ _ _, (((below_alloc HB1.out _).setCell (p := ⟨_, 0, none⟩) (by show w.heap.size ≤ w.heap.size + 2; omega) _).setCell (p := ⟨_, 1, none⟩) (by show w.heap.size ≤ w.heap.size + 2; omega) _).setCell (p := ⟨_, 2, none⟩) (by show w.heap.size ≤ w.heap.size + 2; omega) _⟩
 rw [if_pos c] at H
 subst c
 by_cases c : wh = 0
 case pos =>
  rw [if_pos c] at H
  simp only [Option.some.injEq, Prod.mk.injEq] at H
  obtain ⟨rfl, rfl, rfl, rfl⟩ := H
  have e1 : (wh == 0) = true := beq_iff_eq.mpr c
  have hbk := blk_alloc BK4.out (.cells #[.slice B0 t1.length d0, .slice B1 t2.length d1, .slice B2 t3.length d2] 25)
  have hx0 := (blk_cell hbk 0).trans rfl
  have hx1 := (blk_cell hbk 1).trans rfl
  have hx2 := (blk_cell hbk 2).trans rfl
  have hf0 := blk_frozen hbk 0
  have hf1 := blk_frozen hbk 1
  have hf2 := blk_frozen hbk 2
  have BK := Aside0.mk hbk
  clear hbk c
  go_wp2
  refine bodyPost_ret (results_ct rfl _ _ (w.heap.size + 2) 25 #[.slice none 0 0, .slice none 0 0, .slice none 0 0] (0, 0) _ rfl (blk_put (blk_put (blk_put BK.out 0 _ rfl) 1 _ rfl) 2 _ rfl) hu25 rfl (by kernel_rfl)) rfl ?_
  exact ⟨_, _, _, rfl, Kd.R_nil _ _ _ _ _, Kd.R_nil _ _ _ _ _, Kd.R_nil _ _ _ _ _, (((below_alloc HB1.out _).setCell (p := ⟨_, 0, none⟩) (by show w.heap.size ≤ w.heap.size + 2; omega) _).setCell (p := ⟨_, 1, none⟩) (by show w.heap.size ≤ w.heap.size + 2; omega) _).setCell (p := ⟨_, 2, none⟩) (by show w.heap.size ≤ w.heap.size + 2; omega) _⟩
 rw [if_neg c] at H
 by_cases hlen : t1.length ≤ 1000000 ∧ t2.length ≤ 1000000 ∧ 0 ≤ a1 ∧ a1 < (t3.length : Int)
 case neg =>
  rw [if_neg hlen] at H
  cases H
 rw [if_pos hlen] at H
 obtain ⟨len0, len1, a0, a2⟩ := hlen
 simp only [Option.some.injEq, Prod.mk.injEq] at H
 obtain ⟨rfl, rfl, rfl, rfl⟩ := H
 have e1 : (wh == 0) = false := beq_eq_false_iff_ne.mpr c
 clear c
 have hb6 := blk_new w1 (.cells #[.slice B0 t1.length d0, .slice B1 t2.length d1, .slice B2 t3.length d2] 25)
 have hy0 := (blk_cell hb6 0).trans rfl
 have hy1 := (blk_cell hb6 1).trans rfl
 have hy2 := (blk_cell hb6 2).trans rfl
 go_wp2_with fail
 have mixed : Try.prog.follows .mixedOrders = true := rfl
 have hS0 : RmSt w ((w1.alloc (.cells #[.slice B0 t1.length d0, .slice B1 t2.length d1, .slice B2 t3.length d2] 25)).drew) w1.heap.size a1 #[.slice B0 t1.length d0, .slice B1 t2.length d1, .slice B2 t3.length d2] (.slice B0 t1.length d0) (.slice B1 t2.length d1) (.slice B2 t3.length d2) t1 t2 t3 :=
  ⟨Kd.R_drew (Kd.R_alloc HO0.out _), Kd.R_drew (Kd.R_alloc HO1.out _), Kd.R_drew (Kd.R_alloc HO2.out _), blk_alloc BK3.out _, blk_alloc BK4.out _, hb6, fun e => by have := HN.out.1 _ e; omega, fun e => by have := HN.out.2 _ e; omega, below_drew (below_alloc HB1.out _), by simp; omega⟩
 have S0 := Aside0.mk hS0
 clear hS0 hb6
 go_region_with (first
  | (go_at_call 48; refine (RmSt.delA (w := w) (by first | exact SB.out | exact S0.out) len0).mono ?_; rintro e W' ⟨u, rfl, hS⟩; (obtain ⟨Bu, du, rfl⟩ := Kd.R_slice hS.r0); have hq0 := (blk_cell hS.h6 0).trans rfl; have hq1 := (blk_cell hS.h6 1).trans rfl; have hq2 := (blk_cell hS.h6 2).trans rfl; have hqf0 := blk_frozen hS.h6 0; have hqf1 := blk_frozen hS.h6 1; have SA := Aside0.mk hS; clear hS)
  | (go_at_call 48; refine (RmSt.delB (w := w) (by first | exact SA.out | exact S0.out) len1).mono ?_; rintro e W' ⟨u, rfl, hS⟩; (obtain ⟨Bv, dv, rfl⟩ := Kd.R_slice hS.r1); have hq0 := (blk_cell hS.h6 0).trans rfl; have hq1 := (blk_cell hS.h6 1).trans rfl; have hq2 := (blk_cell hS.h6 2).trans rfl; have hqf0 := blk_frozen hS.h6 0; have hqf1 := blk_frozen hS.h6 1; have SB := Aside0.mk hS; clear hS))
 all_goals
  have hF : RmSt w W' w1.heap.size a1 #[.slice B0 t1.length d0, .slice B1 t2.length d1, .slice B2 t3.length d2] (.slice Bu (t1.filter fun x => !(x == a1)).length du) (.slice Bv (t2.filter fun x => !(x == a1)).length dv) (.slice B2 t3.length d2) (t1.filter fun x => !(x == a1)) (t2.filter fun x => !(x == a1)) t3 := by first | exact SB.out | exact SA.out
  clear SA SB hq0 hq1 hq2 hqf0 hqf1
  obtain ⟨W5, hW5⟩ : ∃ W5, W5 = (W'.setCell ⟨w1.heap.size, 0, none⟩ (.slice Bu (t1.filter fun x => !(x == a1)).length du)).setCell ⟨w1.heap.size, 1, none⟩ (.slice Bv (t2.filter fun x => !(x == a1)).length dv) := ⟨_, rfl⟩
  have hne4 : w.heap.size + 2 ≠ w1.heap.size := by omega
  have hne3 : w.heap.size + 1 ≠ w1.heap.size := by omega
  have R0 : Kd.R (Kd.int .i64) 3 W5 w.heap.size (fun k_ => some k_ ≠ ((.slice Bv (t2.filter fun x => !(x == a1)).length dv) : Value).ownBlock) (.slice Bu (t1.filter fun x => !(x == a1)).length du) (t1.filter fun x => !(x == a1)) := by rw [hW5]; exact R_set (R_set hF.r0 hF.h6 (by decide)) (blk_set hF.h6 0 _) (by decide)
  have R1 : Kd.R (Kd.int .i64) 3 W5 w.heap.size (fun k_ => some k_ ≠ ((.slice Bu (t1.filter fun x => !(x == a1)).length du) : Value).ownBlock) (.slice Bv (t2.filter fun x => !(x == a1)).length dv) (t2.filter fun x => !(x == a1)) := by rw [hW5]; exact R_set (R_set hF.r1 hF.h6 (by decide)) (blk_set hF.h6 0 _) (by decide)
  have R2 : Kd.R Kd.bool 4 W5 w.heap.size (fun _ => True) (.slice B2 t3.length d2) t3 := by rw [hW5]; exact R_set (R_set hF.r2 hF.h6 (by decide)) (blk_set hF.h6 0 _) (by decide)
  have h3 : W5.heap[w.heap.size + 1]? = some (.cells #[.int .i64 a1] 3 (0, 0)) := by rw [hW5]; exact blk_past (blk_past hF.h3 hne3) hne3
  have h4 : W5.heap[w.heap.size + 2]? = some (.cells #[.slice none 0 0, .slice none 0 0, .slice none 0 0] 25 (0, 0)) := by rw [hW5]; exact blk_past (blk_past hF.h4 hne4) hne4
  have h6 : W5.heap[w1.heap.size]? = some (.cells #[(.slice Bu (t1.filter fun x => !(x == a1)).length du), (.slice Bv (t2.filter fun x => !(x == a1)).length dv), (.slice B2 t3.length d2)] 25 (0, 0)) := by rw [hW5]; exact blk_put (blk_put hF.h6 0 _ rfl) 1 _ rfl
  have hB5 : Below w.heap.size w W5 := by rw [hW5]; exact (hF.below.setCell (p := ⟨_, 0, none⟩) (by show w.heap.size ≤ w1.heap.size; omega) _).setCell (p := ⟨_, 1, none⟩) (by show w.heap.size ≤ w1.heap.size; omega) _
  rw [← hW5]
  clear hW5 hF
  obtain ⟨go, co, eo, gb, gl, cl, hgb⟩ := Kd.R_form R2 (by omega)
  cases eo
  obtain ⟨hx0, hf0⟩ := Kd.R_celln false R2 a1 a0 a2
  have HP := Kd.R_putg R2 a1 false
  have g3 : go ≠ w.heap.size + 1 := fun e => by rw [e, h3] at hgb; injection hgb with hgb; injection hgb with _ hgb; cases hgb
  have g4 : go ≠ w.heap.size + 2 := fun e => by rw [e, h4] at hgb; injection hgb with hgb; injection hgb with _ hgb; cases hgb
  have g6 : go ≠ w1.heap.size := fun e => by rw [e, h6] at hgb; injection hgb with hgb; injection hgb with _ hgb; cases hgb
  have p0 := eq_true a0
  have p2 := eq_true a2
  have hz3 := (blk_cell h3 0).trans rfl
  have hy0 := (blk_cell h6 0).trans rfl
  have hy1 := (blk_cell h6 1).trans rfl
  have hy2 := (blk_cell h6 2).trans rfl
  have hw0 := (blk_cell h4 0).trans rfl
  have hw1 := (blk_cell h4 1).trans rfl
  have hw2 := (blk_cell h4 2).trans rfl
  have hv0 := blk_frozen h4 0
  have hv1 := blk_frozen h4 1
  have hv2 := blk_frozen h4 2
  have g3' := Ne.symm g3
  have g4' := Ne.symm g4
  have g6' := Ne.symm g6
  have q4 := blk_past (i := a1.toNat) (u := .bool false) h4 g4'
  have Q0 := R_set (i := a1.toNat) (u := .bool false) R0 hgb (by decide)
  have Q1 := R_set (i := a1.toNat) (u := .bool false) R1 hgb (by decide)
  have T0 := Aside0.mk (R_set (i := 2) (u := .slice (some ⟨go, 0, none⟩) t3.length d2) (R_set (i := 1) (u := (.slice Bv (t2.filter fun x => !(x == a1)).length dv)) (R_set (i := 0) (u := (.slice Bu (t1.filter fun x => !(x == a1)).length du)) Q0 q4 (by decide)) (blk_set q4 0 _) (by decide)) (blk_set (blk_set q4 0 _) 1 _) (by decide))
  have T1_ := Aside0.mk (R_set (i := 2) (u := .slice (some ⟨go, 0, none⟩) t3.length d2) (R_set (i := 1) (u := (.slice Bv (t2.filter fun x => !(x == a1)).length dv)) (R_set (i := 0) (u := (.slice Bu (t1.filter fun x => !(x == a1)).length du)) Q1 q4 (by decide)) (blk_set q4 0 _) (by decide)) (blk_set (blk_set q4 0 _) 1 _) (by decide))
  have T2_ := Aside0.mk (R_set (i := 2) (u := .slice (some ⟨go, 0, none⟩) t3.length d2) (R_set (i := 1) (u := (.slice Bv (t2.filter fun x => !(x == a1)).length dv)) (R_set (i := 0) (u := (.slice Bu (t1.filter fun x => !(x == a1)).length du)) HP.1 q4 (by decide)) (blk_set q4 0 _) (by decide)) (blk_set (blk_set q4 0 _) 1 _) (by decide))
  have Q4 := Aside0.mk q4
  have B5 := Aside0.mk hB5
  clear R0 R1 R2 h3 h4 h6 hB5 hgb HP Q0 Q1 q4
  have GB := Aside0.mk gb
  clear gb
  go_wp2
  refine bodyPost_ret (results_ct rfl _ _ (w.heap.size + 2) 25 #[(.slice Bu (t1.filter fun x => !(x == a1)).length du), (.slice Bv (t2.filter fun x => !(x == a1)).length dv), .slice (some ⟨go, 0, none⟩) t3.length d2] (0, 0) _ rfl (blk_put (blk_put (blk_put Q4.out 0 _ rfl) 1 _ rfl) 2 _ rfl) hu25 rfl (by kernel_rfl)) rfl ?_
  exact ⟨_, _, _, rfl, T0.out, T1_.out, T2_.out, ((((B5.out.setCell (p := ⟨go, a1.toNat, none⟩) GB.out _).setCell (p := ⟨_, 0, none⟩) (by show w.heap.size ≤ w.heap.size + 2; omega) _).setCell (p := ⟨_, 1, none⟩) (by show w.heap.size ≤ w.heap.size + 2; omega) _).setCell (p := ⟨_, 2, none⟩) (by show w.heap.size ≤ w.heap.size + 2; omega) _)⟩


end Go.Proofs.Ytaofihdmgdpenaa.X
