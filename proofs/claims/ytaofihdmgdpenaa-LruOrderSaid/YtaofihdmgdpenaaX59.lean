/- What Go functions of this seat compute, told as Lean functions, and that each call of the Go code comes to that answer; for a law: its row, for every input. Written by a program of the session. -/
import Derived.Test.YtaofihdmgdpenaaX0
import Derived.Test.YtaofihdmgdpenaaX7
import Derived.Test.YtaofihdmgdpenaaX12
import Derived.Test.YtaofihdmgdpenaaX57
import Derived.Test.YtaofihdmgdpenaaX58
namespace Go.Proofs.Ytaofihdmgdpenaa.X
open Go.RowKit Go.Proofs.YtaofihdmgdpenaaW.PrintWords Go.Proofs.YtaofihdmgdpenaaW.PrintLast Go.Proofs.YtaofihdmgdpenaaW.PrintMore
attribute [local go_sem] max2_int min2_int max_two min_two max_three min_three max_four min_four   -- for this text's walks alone
set_option linter.unusedVariables false
set_option linter.unusedSimpArgs false

/-! ### lru_Order: function 34 -/
def lru_Order.f (k : Nat) (l0_0 : List Int) (l0_1 : List Int) (l0_2 : List Bool) : Option (List Int × Int) := (lru_opened.f l0_0 l0_1 l0_2).bind fun t => if t.2.2.2 = 0 then ((slices_Reverse_int_int.f k t.2.1).bind fun x => (slices_Reverse_int_int.f k t.1).bind fun y => (slices_Concat_int_int.f [x, y]).bind fun z => some (z, 0)) else some ([], t.2.2.2)
theorem lru_Order.mono : ∀ a0 a1 a2 k, LeO (lru_Order.f k a0 a1 a2) (lru_Order.f (k + 1) a0 a1 a2) := by
 intro a0 a1 a2 k
 unfold lru_Order.f
 refine LeO.bind (LeO.refl _) (fun _ => LeO.ite ?_ (LeO.refl _))
 refine LeO.bind (slices_Reverse_int_int.mono _ _) (fun _ => LeO.bind (slices_Reverse_int_int.mono _ _) (fun _ => LeO.refl _))
set_option maxHeartbeats 4000000 in
set_option maxRecDepth 100000 in
theorem lru_Order.calls (k : Nat) (A0_0 : Option Addr) (c0_0 : Nat) (l0_0 : List Int) (A0_1 : Option Addr) (c0_1 : Nat) (l0_1 : List Int) (A0_2 : Option Addr) (c0_2 : Nat) (l0_2 : List Bool) (r1 : List Int) (r2 : Int) (w : World) (hr0_0 : Kd.C (Kd.int .i64) w A0_0 l0_0.length l0_0) (hc0_0 : l0_0.length ≤ c0_0) (hr0_1 : Kd.C (Kd.int .i64) w A0_1 l0_1.length l0_1) (hc0_1 : l0_1.length ≤ c0_1) (hr0_2 : Kd.C Kd.bool w A0_2 l0_2.length l0_2) (hc0_2 : l0_2.length ≤ c0_2) (h : lru_Order.f k l0_0 l0_1 l0_2 = some (r1, r2)) :
  Calls Try.prog 34 #[.agg #[.slice A0_0 l0_0.length c0_0, .slice A0_1 l0_1.length c0_1, .slice A0_2 l0_2.length c0_2]] w fun e w' => ∃ v0_ : Value, e = .returned (.tuple #[v0_, .int .i64 r2]) ∧ Kd.R (Kd.int .i64) 3 w' w.heap.size (fun _ => True) v0_ r1 ∧ Below w.heap.size w w' := by
 have hu25 := Try.underlying25
 unfold lru_Order.f at h
 obtain ⟨⟨t1, t2, t3, er⟩, hab, H⟩ := Option.bind_eq_some_iff.mp h
 simp only at H
 clear h
 have HAB := Aside0.mk hab
 have HR0 := Aside0.mk hr0_0
 have HR1 := Aside0.mk hr0_1
 have HR2 := Aside0.mk hr0_2
 clear hab hr0_0 hr0_1 hr0_2
 go_enter Try.func34, Try.ntmps34
 go_wp2_with fail
 refine (lru_opened.calls _ _ l0_0 _ _ l0_1 _ _ l0_2 t1 t2 t3 er _ (Kd.C_alloc HR0.out _) hc0_0 (Kd.C_alloc HR1.out _) hc0_1 (Kd.C_alloc HR2.out _) hc0_2 HAB.out).mono ?_
 rintro e w1 ⟨v0, v1, v2, rfl, ho0, ho1, ho2, hb1⟩
 obtain ⟨B0, d0, rfl⟩ := Kd.R_slice ho0
 obtain ⟨B1, d1, rfl⟩ := Kd.R_slice ho1
 obtain ⟨B2, d2, rfl⟩ := Kd.R_slice ho2
 have HB1 := Aside0.mk (below_then (below_alloc (Below.refl w.heap.size w) _) (by simp) hb1)
 have HO0 := Aside0.mk (Kd.R_lower ho0 (show w.heap.size ≤ _ by simp))
 have HO1 := Aside0.mk (Kd.R_lower ho1 (show w.heap.size ≤ _ by simp))
 clear ho0 ho1 ho2 hb1 HR0 HR1 HR2 HAB
 by_cases c : er = 0
 case neg =>
  rw [if_neg c] at H
  simp only [Option.some.injEq, Prod.mk.injEq] at H
  obtain ⟨rfl, rfl⟩ := H
  have e1 : (er != 0) = true := bne_iff_ne.mpr c
  clear c
  go_wp2
  go_ret2
  exact ⟨_, rfl, Kd.R_nil _ _ _ _ _, below_alloc HB1.out _⟩
 rw [if_pos c] at H
 subst c
 obtain ⟨x1, hx1, H⟩ := Option.bind_eq_some_iff.mp H
 obtain ⟨x0, hx0, H⟩ := Option.bind_eq_some_iff.mp H
 obtain ⟨z, hz, H⟩ := Option.bind_eq_some_iff.mp H
 simp only [Option.some.injEq, Prod.mk.injEq] at H
 obtain ⟨rfl, rfl⟩ := H
 have X1 := Aside0.mk hx1
 have X0 := Aside0.mk hx0
 have Z := Aside0.mk hz
 clear hx1 hx0 hz
 go_wp2_with fail
 have hA0 := Kd.R_alloc HO0.out (.cells #[.slice B0 t1.length d0, .slice B1 t2.length d1, .slice B2 t3.length d2] 25)
 have hA1 := Kd.R_alloc HO1.out (.cells #[.slice B0 t1.length d0, .slice B1 t2.length d1, .slice B2 t3.length d2] 25)
 have hb4 := blk_new w1 (.cells #[.slice B0 t1.length d0, .slice B1 t2.length d1, .slice B2 t3.length d2] 25)
 refine (slices_Reverse_int_int.calls k (fun k_ => some k_ = (Value.slice B1 t2.length d1).ownBlock) _ t2 x1 w _ (below_alloc HB1.out _) (Kd.R_of_own (Kd.own_of_R hA1) (fun _ hk => hk.symm)) X1.out).mono ?_
 rintro e w2 ⟨rfl, hR1, hB2, hK2⟩
 have hS0 := Kd.R_step hA0 (fun k_ hk hlt => hK2.2 k_ hlt hk)
 have hb42 := (hK2.2 _ (by simp) (Kd.R_ne hA1 hb4 (by decide))).trans hb4
 have hS1 := Kd.R_of_own (ok := fun k_ => some k_ ≠ (Value.slice B0 t1.length d0).ownBlock) (h1 := fun _ => rfl) (Kd.own_of_R hR1) (fun k_ hk => HO1.out.1 k_ hk)
 have hy0 := (blk_cell hb42 0).trans rfl
 have hy1 := (blk_cell hb42 1).trans rfl
 have hy2 := (blk_cell hb42 2).trans rfl
 have S0 := Aside0.mk hS0
 have S1 := Aside0.mk hS1
 have HB2 := Aside0.mk hB2
 have BK := Aside0.mk hb42
 clear hA0 hA1 hb4 hR1 hB2 hK2 hS0 hS1 hb42
 go_wp2_with fail
 refine (slices_Reverse_int_int.calls k (fun k_ => some k_ = (Value.slice B0 t1.length d0).ownBlock) _ t1 x0 w _ HB2.out (Kd.R_of_own (Kd.own_of_R S0.out) (fun _ hk => hk.symm)) X0.out).mono ?_
 rintro e w3 ⟨rfl, hR0, hB3, hK3⟩
 have hT1 := Kd.R_step S1.out (fun k_ hk hlt => hK3.2 k_ hlt hk)
 have hb43 := (hK3.2 _ (blk_lt BK.out) (Kd.R_ne S0.out BK.out (by decide))).trans BK.out
 obtain ⟨q1, q2, q3⟩ := Kd.R_reads' hT1
 obtain ⟨p1, p2, p3⟩ := Kd.R_reads' hR0
 clear hy0 hy1 hy2
 have hy0 := (blk_cell hb43 0).trans rfl
 have hy1 := (blk_cell hb43 1).trans rfl
 have hy2 := (blk_cell hb43 2).trans rfl
 have HB3 := Aside0.mk hB3
 have HC0 := Aside0.mk p3
 have HC1 := Aside0.mk q3
 have HL := Aside0.mk (And.intro (And.intro q1 q2) (And.intro p1 p2))
 clear hR0 hB3 hK3 hT1 hb43 q1 q2 q3 p1 p2 p3
 go_wp2_with fail
 have hl := HL.out
 have hc : Kd.C (Kd.slice 3 (Kd.int .i64)) (w3.alloc (.cells #[.slice B1 t2.length d1, .slice B0 t1.length d0] 22)) (some ⟨w3.heap.size, 0, none⟩) [x1, x0].length [x1, x0] := rows_mk (blk_new _ _) rfl (by simp) (fun i hi => by
  rcases i with _ | _ | i
  ·
   exact ⟨B1, d1, by simp [hl.1.1], by simp; omega, Kd.C_alloc HC1.out _⟩
  ·
   exact ⟨B0, d0, by simp [hl.2.1], by simp; omega, Kd.C_alloc HC0.out _⟩
  ·
   simp at hi; omega) rfl
 refine (slices_Concat_int_int.calls _ 2 [x1, x0] z _ hc (by simp) Z.out).mono ?_
 rintro e w4 ⟨v', rfl, hR', hb'⟩
 have hbz := below_then (below_alloc HB3.out _) (by have := HB3.out.size; simp; omega) hb'
 have hRz := Kd.R_lower hR' (show w.heap.size ≤ _ by have := HB3.out.size; simp; omega)
 obtain ⟨B3, d3, rfl⟩ := Kd.R_slice hRz
 have RZ := Aside0.mk hRz
 have BZ := Aside0.mk hbz
 clear hR' hb' hbz hRz hc hl
 go_wp2
 go_ret2
 exact ⟨_, rfl, RZ.out, BZ.out⟩


end Go.Proofs.Ytaofihdmgdpenaa.X
