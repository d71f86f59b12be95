/- What Go functions of this seat compute, told as Lean functions, and that each call of the Go code comes to that answer; for a law: its row, for every input. Written by a program of the session. -/
import Derived.Shelf.Spec.SlicesInsertGrow
import Derived.Test.YtaofihdmgdpenaaX0
import Derived.Test.YtaofihdmgdpenaaX10
import Derived.Test.YtaofihdmgdpenaaX15
namespace Go.Proofs.Ytaofihdmgdpenaa.X
open Go.RowKit Go.Proofs.YtaofihdmgdpenaaW.PrintWords Go.Proofs.YtaofihdmgdpenaaW.PrintLast Go.Proofs.YtaofihdmgdpenaaW.PrintMore
attribute [local go_sem] max2_int min2_int max_two min_two max_three min_three max_four min_four   -- for this text's walks alone
set_option linter.unusedVariables false
set_option linter.unusedSimpArgs false

/-! ### lru_Add: function 18 -/
theorem R_set {α : Type} {d : Kd α} {e base g i t : Nat} {ok : Nat → Prop} {W : World} {v u : Value} {xs : List α} {cs : Array Value} {fr : Nat × Nat} (h : d.R e W base ok v xs) (hb : W.heap[g]? = some (.cells cs t fr)) (ht : ∀ q, q ∈ e :: d.E → q ≠ t) : d.R e (W.setCell ⟨g, i, none⟩ u) base ok v xs := by
 refine Kd.R_mono (Kd.R_far (p := ⟨g, i, none⟩) (ok := fun k => ok k ∧ k ≠ g) (Kd.R_mono (Kd.R_bound h) fun k hk => ⟨hk.1, fun he => ?_⟩) (fun _ hk => hk.2) u) (fun _ hk => hk.1)
 obtain ⟨q, hq, cells, hc⟩ := hk.2.2.2
 rw [he, hb] at hc
 injection hc with hc
 injection hc with _ hc2 _
 exact ht q hq hc2.symm
theorem blk_past {W : World} {g k i : Nat} {u : Value} {o : Obj} (h : W.heap[k]? = some o) (hne : k ≠ g) : (W.setCell ⟨g, i, none⟩ u).heap[k]? = some o := (Below.heap_setCell W ⟨g, i, none⟩ u k hne).trans h
theorem blk_second {W : World} {o o2 : Obj} : ((W.alloc o).alloc o2).heap[W.heap.size + 1]? = some o2 := by
 have := blk_new (W.alloc o) o2
 simpa using this
def lru_Add.f (k : Nat) (l0_0 : List Int) (l0_1 : List Int) (l0_2 : List Bool) (a1 : Int) : Option (List Int × List Int × List Bool × Int) := (lru_about.f k l0_0 l0_1 l0_2 a1).bind fun t => if t.2.2.2.2 = 0 then (if t.2.2.2.1 > 0 then some ([], [], [], 7) else if t.1.length ≤ 1000000 then some (a1 :: t.1, t.2.1, t.2.2.1, 0) else none) else some ([], [], [], t.2.2.2.2)
theorem lru_Add.mono : ∀ a0 a1 a2 a3 k, LeO (lru_Add.f k a0 a1 a2 a3) (lru_Add.f (k + 1) a0 a1 a2 a3) := by
 intro a0 a1 a2 a3 k
 unfold lru_Add.f
 exact LeO.bind (lru_about.mono _ _ _ _ _) (fun _ => LeO.refl _)
set_option maxHeartbeats 4000000 in
set_option maxRecDepth 100000 in
theorem lru_Add.calls (k : Nat) (A0_0 : Option Addr) (c0_0 : Nat) (l0_0 : List Int) (A0_1 : Option Addr) (c0_1 : Nat) (l0_1 : List Int) (A0_2 : Option Addr) (c0_2 : Nat) (l0_2 : List Bool) (a1 : Int) (r1 : List Int) (r2 : List Int) (r3 : List Bool) (r4 : Int) (w : World) (hr0_0 : Kd.C (Kd.int .i64) w A0_0 l0_0.length l0_0) (hc0_0 : l0_0.length ≤ c0_0) (hr0_1 : Kd.C (Kd.int .i64) w A0_1 l0_1.length l0_1) (hc0_1 : l0_1.length ≤ c0_1) (hr0_2 : Kd.C Kd.bool w A0_2 l0_2.length l0_2) (hc0_2 : l0_2.length ≤ c0_2) (h : lru_Add.f k l0_0 l0_1 l0_2 a1 = some (r1, r2, r3, r4)) :
  Calls Try.prog 18 #[.agg #[.slice A0_0 l0_0.length c0_0, .slice A0_1 l0_1.length c0_1, .slice A0_2 l0_2.length c0_2], .int .i64 a1] w fun e w' => ∃ v0_ v1_ v2_ : Value, e = .returned (.tuple #[.agg #[v0_, v1_, v2_], .int .i64 r4]) ∧ Kd.R (Kd.int .i64) 3 w' w.heap.size (fun k_ => some k_ ≠ (v1_ : Value).ownBlock) v0_ r1 ∧ Kd.R (Kd.int .i64) 3 w' w.heap.size (fun k_ => some k_ ≠ (v0_ : Value).ownBlock) v1_ r2 ∧ Kd.R Kd.bool 4 w' w.heap.size (fun _ => True) v2_ r3 ∧ Below w.heap.size w w' := by
 have hu25 := Try.underlying25
 unfold lru_Add.f at h
 obtain ⟨⟨t1, t2, t3, wh, er⟩, hab, H⟩ := Option.bind_eq_some_iff.mp h
 simp only at H
 clear h
 have HAB := Aside0.mk hab
 have HR0 := Aside0.mk hr0_0
 have HR1 := Aside0.mk hr0_1
 have HR2 := Aside0.mk hr0_2
 clear hab hr0_0 hr0_1 hr0_2
 go_enter Try.func18, Try.ntmps18
 go_wp2_with fail
 refine (lru_about.calls k _ _ l0_0 _ _ l0_1 _ _ l0_2 a1 t1 t2 t3 wh er _ (Kd.C_alloc (Kd.C_alloc HR0.out _) _) hc0_0 (Kd.C_alloc (Kd.C_alloc HR1.out _) _) hc0_1 (Kd.C_alloc (Kd.C_alloc HR2.out _) _) hc0_2 HAB.out).mono ?_
 rintro e w1 ⟨v0, v1, v2, rfl, ho0, ho1, ho2, hb1⟩
 obtain ⟨B0, d0, rfl⟩ := Kd.R_slice ho0
 obtain ⟨B1, d1, rfl⟩ := Kd.R_slice ho1
 obtain ⟨B2, d2, rfl⟩ := Kd.R_slice ho2
 have hsz := hb1.size
 simp only [World.size_alloc] at hsz
 have HB1 := Aside0.mk (below_then (below_alloc (below_alloc (Below.refl w.heap.size w) _) _) (by simp; omega) hb1)
 have hbk4 := blk_below blk_second hb1
 have BK4 := Aside0.mk hbk4
 have HO0 := Aside0.mk (Kd.R_lower ho0 (show w.heap.size ≤ _ by simp; omega))
 have HO1 := Aside0.mk (Kd.R_lower ho1 (show w.heap.size ≤ _ by simp; omega))
 have HO2 := Aside0.mk (Kd.R_lower ho2 (show w.heap.size ≤ _ by simp; omega))
 clear ho0 ho1 ho2 hb1 HR0 HR1 HR2 HAB hbk4
 by_cases c : er = 0
 case neg =>
  rw [if_neg c] at H
  simp only [Option.some.injEq, Prod.mk.injEq] at H
  obtain ⟨rfl, rfl, rfl, rfl⟩ := H
  have e1 : (er == 0) = false := beq_eq_false_iff_ne.mpr c
  have e2 : (er != 0) = true := bne_iff_ne.mpr c
  have hbk := blk_alloc BK4.out (.cells #[.slice B0 t1.length d0, .slice B1 t2.length d1, .slice B2 t3.length d2] 25)
  have hx0 := (blk_cell hbk 0).trans rfl
  have hx1 := (blk_cell hbk 1).trans rfl
  have hx2 := (blk_cell hbk 2).trans rfl
  have hf0 := blk_frozen hbk 0
  have hf1 := blk_frozen hbk 1
  have hf2 := blk_frozen hbk 2
  have BK := Aside0.mk hbk
  clear hbk c
  go_wp2
  refine bodyPost_ret (results_ct rfl _ _ (w.heap.size + 1) 25 #[.slice none 0 0, .slice none 0 0, .slice none 0 0] (0, 0) _ rfl (blk_put (blk_put (blk_put BK.out 0 _ rfl) 1 _ rfl) 2 _ rfl) hu25 rfl (by kernel_rfl)) rfl ?_
  exact ⟨_, _, _, rfl, Kd.R_nil _ _ _ _ _, Kd.R_nil _ _ _ _ _, Kd.R_nil _ _ _ _ _, (((below_alloc HB1.out _).setCell (p := ⟨_, 0, none⟩) (by simp) _).setCell (p := ⟨_, 1, none⟩) (by simp) _).setCell (p := ⟨_, 2, none⟩) (by simp) _⟩
 rw [if_pos c] at H
 subst c
 by_cases c : wh > 0
 case pos =>
  rw [if_pos c] at H
  simp only [Option.some.injEq, Prod.mk.injEq] at H
  obtain ⟨rfl, rfl, rfl, rfl⟩ := H
  have e1 : decide (0 < wh) = true := decide_eq_true c
  have e2 : decide (wh > 0) = true := decide_eq_true c
  have hbk := blk_alloc BK4.out (.cells #[.slice B0 t1.length d0, .slice B1 t2.length d1, .slice B2 t3.length d2] 25)
  have hx0 := (blk_cell hbk 0).trans rfl
  have hx1 := (blk_cell hbk 1).trans rfl
  have hx2 := (blk_cell hbk 2).trans rfl
  have hf0 := blk_frozen hbk 0
  have hf1 := blk_frozen hbk 1
  have hf2 := blk_frozen hbk 2
  have BK := Aside0.mk hbk
  clear hbk c
  go_wp2
  refine bodyPost_ret (results_ct rfl _ _ (w.heap.size + 1) 25 #[.slice none 0 0, .slice none 0 0, .slice none 0 0] (0, 0) _ rfl (blk_put (blk_put (blk_put BK.out 0 _ rfl) 1 _ rfl) 2 _ rfl) hu25 rfl (by kernel_rfl)) rfl ?_
  exact ⟨_, _, _, rfl, Kd.R_nil _ _ _ _ _, Kd.R_nil _ _ _ _ _, Kd.R_nil _ _ _ _ _, (((below_alloc HB1.out _).setCell (p := ⟨_, 0, none⟩) (by simp) _).setCell (p := ⟨_, 1, none⟩) (by simp) _).setCell (p := ⟨_, 2, none⟩) (by simp) _⟩
 rw [if_neg c] at H
 by_cases hlen : t1.length ≤ 1000000
 case neg =>
  rw [if_neg hlen] at H
  cases H
 rw [if_pos hlen] at H
 simp only [Option.some.injEq, Prod.mk.injEq] at H
 obtain ⟨rfl, rfl, rfl, rfl⟩ := H
 have e1 : decide (0 < wh) = false := decide_eq_false (by omega)
 have e2 : decide (wh > 0) = false := decide_eq_false (by omega)
 clear c
 go_wp2_with fail
 have hA0 := Kd.R_alloc (Kd.R_alloc HO0.out (.cells #[.slice B0 t1.length d0, .slice B1 t2.length d1, .slice B2 t3.length d2] 25)) (.cells #[.int .i64 a1] 3)
 have hA1 := Kd.R_alloc (Kd.R_alloc HO1.out (.cells #[.slice B0 t1.length d0, .slice B1 t2.length d1, .slice B2 t3.length d2] 25)) (.cells #[.int .i64 a1] 3)
 have hA2 := Kd.R_alloc (Kd.R_alloc HO2.out (.cells #[.slice B0 t1.length d0, .slice B1 t2.length d1, .slice B2 t3.length d2] 25)) (.cells #[.int .i64 a1] 3)
 have hb4 := blk_alloc (blk_alloc BK4.out (.cells #[.slice B0 t1.length d0, .slice B1 t2.length d1, .slice B2 t3.length d2] 25)) (.cells #[.int .i64 a1] 3)
 have hb6 := blk_alloc (blk_new w1 (.cells #[.slice B0 t1.length d0, .slice B1 t2.length d1, .slice B2 t3.length d2] 25)) (.cells #[.int .i64 a1] 3)
 have hlt0 : ∀ k, (Value.slice B0 t1.length d0).ownBlock = some k → k < w1.heap.size := fun k hk => own_lt (Kd.own_of_R HO0.out) k hk
 have hlt1 : ∀ k, (Value.slice B1 t2.length d1).ownBlock = some k → k < w1.heap.size := fun k hk => own_lt (Kd.own_of_R HO1.out) k hk
 have hBw := below_alloc (below_alloc HB1.out (.cells #[.slice B0 t1.length d0, .slice B1 t2.length d1, .slice B2 t3.length d2] 25)) (.cells #[.int .i64 a1] 3)
 have hge0 := own_base (Kd.own_of_R HO0.out)
 refine (insI_front w.heap.size (w1.heap.size + 1) _ t1 a1 _ (Kd.R_mono hA0 (fun _ _ => trivial)) hlen (blk_second) (fun he => by have := hlt0 _ he; omega) (by simp; omega)).mono ?_
 rintro e w3 ⟨v', rfl, hR', hg, hat⟩
 obtain ⟨B3, d3, rfl⟩ := Kd.R_slice hR'
 have hc4 := blk_grown hb4 hg (Kd.R_ne hA0 hb4 (by decide))
 have hc6 := blk_grown hb6 hg (Kd.R_ne hA0 hb6 (by decide))
 have hS1 := Kd.R_step hA1 (fun k hk hlt => hg.block k hlt hk)
 have hS2 := Kd.R_over' hA2 (Kd.R_typed hA0) (by decide) hg
 have hB3 : Below w.heap.size w w3 := hBw.grown hg (by simp; omega) (fun k hk => hge0 k hk)
 have hap : ∀ k, (Value.slice B3 (a1 :: t1).length d3).ownBlock = some k → some k ≠ (Value.slice B1 t2.length d1).ownBlock := fun k hk => by
  rcases hat with h | ⟨b, h, hb⟩
  ·
   exact HO0.out.1 k (h.symm.trans hk)
  ·
   intro he
   have := hlt1 k he.symm
   rw [hk] at h
   cases h
   simp at hb
   omega
 have hap2 : ∀ k, (Value.slice B1 t2.length d1).ownBlock = some k → some k ≠ (Value.slice B3 (a1 :: t1).length d3).ownBlock := fun k hk he => hap k he.symm (by rw [hk])
 have hT0 : Kd.R (Kd.int .i64) 3 w3 w.heap.size (fun k_ => some k_ ≠ (Value.slice B1 t2.length d1).ownBlock) _ (a1 :: t1) := Kd.R_of_own (Kd.own_of_R hR') hap
 have hT1 : Kd.R (Kd.int .i64) 3 w3 w.heap.size (fun k_ => some k_ ≠ (Value.slice B3 (a1 :: t1).length d3).ownBlock) _ t2 := Kd.R_of_own (Kd.own_of_R hS1) hap2
 have hne : w.heap.size + 1 ≠ w1.heap.size := by omega
 have hne2 : w1.heap.size ≠ w.heap.size + 1 := by omega
 have hx0 := (blk_cell hc4 0).trans rfl
 have hx1 := (blk_cell hc4 1).trans rfl
 have hx2 := (blk_cell hc4 2).trans rfl
 have hf0 := blk_frozen hc4 0
 have hf1 := blk_frozen hc4 1
 have hf2 := blk_frozen hc4 2
 have hy0 := (blk_cell hc6 0).trans rfl
 have hy1 := (blk_cell hc6 1).trans rfl
 have hy2 := (blk_cell hc6 2).trans rfl
 have hz0 := blk_frozen hc6 0
 have T0 := Aside0.mk hT0
 have T1 := Aside0.mk hT1
 have T2 := Aside0.mk hS2
 have C4 := Aside0.mk hc4
 have C6 := Aside0.mk hc6
 have B3w := Aside0.mk hB3
 clear hA0 hA1 hA2 hb4 hb6 hlt0 hlt1 hBw hge0 hR' hg hat hc4 hc6 hS1 hS2 hB3 hap hap2 hT0 hT1
 go_wp2
 have q4 := blk_past (i := 0) (u := .slice B3 (a1 :: t1).length d3) C4.out hne
 refine bodyPost_ret (results_ct rfl _ _ (w.heap.size + 1) 25 #[.slice B3 (a1 :: t1).length d3, .slice B1 t2.length d1, .slice B2 t3.length d2] (0, 0) _ rfl (blk_put (blk_put (blk_put q4 0 _ rfl) 1 _ rfl) 2 _ rfl) hu25 rfl (by kernel_rfl)) rfl ?_
 refine ⟨_, _, _, rfl, ?_, ?_, ?_, ((((B3w.out.setCell (p := ⟨_, 0, none⟩) (by simp; omega) _).setCell (p := ⟨_, 0, none⟩) (by simp) _).setCell (p := ⟨_, 1, none⟩) (by simp) _).setCell (p := ⟨_, 2, none⟩) (by simp) _)⟩
 ·
  exact R_set (R_set (R_set (R_set T0.out C6.out (by decide)) q4 (by decide)) (blk_set q4 0 _) (by decide)) (blk_set (blk_set q4 0 _) 1 _) (by decide)
 ·
  exact R_set (R_set (R_set (R_set T1.out C6.out (by decide)) q4 (by decide)) (blk_set q4 0 _) (by decide)) (blk_set (blk_set q4 0 _) 1 _) (by decide)
 ·
  exact R_set (R_set (R_set (R_set T2.out C6.out (by decide)) q4 (by decide)) (blk_set q4 0 _) (by decide)) (blk_set (blk_set q4 0 _) 1 _) (by decide)


end Go.Proofs.Ytaofihdmgdpenaa.X
