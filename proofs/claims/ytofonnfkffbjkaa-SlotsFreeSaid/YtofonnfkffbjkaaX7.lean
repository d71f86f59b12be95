/- What Go functions of this seat compute, told as Lean functions, and that each call of the Go code comes to that answer; for a law: its row, for every input. Written by a program of the session. -/
import Derived.Test.YtofonnfkffbjkaaX0
import Derived.Test.YtofonnfkffbjkaaX1
import Derived.Test.YtofonnfkffbjkaaX3
import Derived.Test.YtofonnfkffbjkaaX6
namespace Go.Proofs.Ytofonnfkffbjkaa.X
open Go.RowKit Go.Proofs.YtofonnfkffbjkaaW.PrintWords Go.Proofs.YtofonnfkffbjkaaW.PrintLast Go.Proofs.YtofonnfkffbjkaaW.PrintMore
attribute [local go_sem] max2_int min2_int max_two min_two max_three min_three max_four min_four   -- for this text's walks alone
set_option linter.unusedVariables false
set_option linter.unusedSimpArgs false

/-! ### slots_Alloc: function 22 -/
def slots_Alloc.f (k : Nat) (l0_0 : List Int) (l0_1 : List Bool) (a1 : Int) : Option (List Int × List Bool × Int × Int) := (slots_Check.f k l0_0 l0_1).bind fun t => if t.1 = 0 then (if a1 < 1 ∨ 512 < a1 then some ([], [], 0, 15) else (slots_first.f k l0_0 l0_1).bind fun i => if i < 0 then some ([], [], 0, 5) else (slots_copied.f l0_0 l0_1).bind fun c => if i < c.1.length ∧ i < c.2.length then some (c.1.set i.toNat a1, c.2.set i.toNat true, i, 0) else none) else some ([], [], 0, t.1)
theorem slots_Alloc.mono : ∀ a0 a1 a2 k, LeO (slots_Alloc.f k a0 a1 a2) (slots_Alloc.f (k + 1) a0 a1 a2) := by
 intro a0 a1 a2 k
 unfold slots_Alloc.f
 repeat' first
   | (with_reducible exact slots_Check.mono _ _ _)
   | (with_reducible exact slots_first.mono _ _ _)
   | (with_reducible exact LeO.refl _)
   | (with_reducible refine LeO.bind ?_ (fun _ => ?_))
   | (with_reducible refine LeO.ite (fun _ => ?_) (fun _ => ?_))
   | split
set_option maxHeartbeats 4000000 in
set_option maxRecDepth 100000 in
theorem slots_Alloc.calls (k : Nat) (A0_0 : Option Addr) (c0_0 : Nat) (l0_0 : List Int) (A0_1 : Option Addr) (c0_1 : Nat) (l0_1 : List Bool) (a1 : Int) (r1 : List Int) (r2 : List Bool) (r3 : Int) (r4 : Int) (w : World) (hr0_0 : Kd.C (Kd.int .i64) w A0_0 l0_0.length l0_0) (hc0_0 : l0_0.length ≤ c0_0) (hr0_1 : Kd.C Kd.bool w A0_1 l0_1.length l0_1) (hc0_1 : l0_1.length ≤ c0_1) (h : slots_Alloc.f k l0_0 l0_1 a1 = some (r1, r2, r3, r4)) :
  Calls Try.prog 22 #[.agg #[.slice A0_0 l0_0.length c0_0, .slice A0_1 l0_1.length c0_1], .int .i64 a1] w fun e w' => ∃ v0_ v1_ : Value, e = .returned (.tuple #[.agg #[v0_, v1_], .int .i64 r3, .int .i64 r4]) ∧ Kd.R (Kd.int .i64) 3 w' w.heap.size (fun _ => True) v0_ r1 ∧ Kd.R Kd.bool 4 w' w.heap.size (fun _ => True) v1_ r2 ∧ Below w.heap.size w w' := by
 have huS := Try.underlying43
 have HR0 := Aside0.mk hr0_0
 have HR1 := Aside0.mk hr0_1
 clear hr0_0 hr0_1
 unfold slots_Alloc.f at h
 obtain ⟨⟨t1, t2⟩, hc, H⟩ := Option.bind_eq_some_iff.mp h
 clear h
 have HC := Aside0.mk hc
 clear hc
 go_enter Try.func22, Try.ntmps22
 go_wp2_with fail
 refine (slots_Check.calls k _ _ l0_0 _ _ l0_1 t1 t2 _ (Kd.C_alloc (Kd.C_alloc HR0.out _) _) hc0_0 (Kd.C_alloc (Kd.C_alloc HR1.out _) _) hc0_1 HC.out).mono ?_
 rintro e w1 ⟨rfl, hb1⟩
 have BK := Aside0.mk (blk_below (blk_alloc (blk_new w (.cells #[.slice A0_0 l0_0.length c0_0, .slice A0_1 l0_1.length c0_1] 43)) (.cells #[.slice none 0 0, .slice none 0 0] 43)) hb1)
 have hbr := blk_below (blk_new (w.alloc (.cells #[.slice A0_0 l0_0.length c0_0, .slice A0_1 l0_1.length c0_1] 43)) (.cells #[.slice none 0 0, .slice none 0 0] 43)) hb1
 rw [show (w.alloc (.cells #[.slice A0_0 l0_0.length c0_0, .slice A0_1 l0_1.length c0_1] 43)).heap.size = w.heap.size + 1 by simp] at hbr
 have BR := Aside0.mk hbr
 have HB1 := Aside0.mk (below_then (below_alloc (below_alloc (Below.refl w.heap.size w) _) _) (by simp; omega) hb1)
 clear hb1 hbr
 by_cases c4 : t1 = 0
 case neg =>
  rw [if_neg c4] at H
  simp only [Option.some.injEq, Prod.mk.injEq] at H
  obtain ⟨rfl, rfl, rfl, rfl⟩ := H
  have c4b : (t1 != 0) = true := bne_iff_ne.mpr c4
  clear c4
  have hz0 : w1.cell? ⟨w.heap.size + 1, 0, none⟩ = some (.slice none 0 0) := (blk_cell BR.out 0).trans rfl
  have hz1 : w1.cell? ⟨w.heap.size + 1, 1, none⟩ = some (.slice none 0 0) := (blk_cell BR.out 1).trans rfl
  have hz2 := blk_frozen BR.out 0
  have hz3 := blk_frozen BR.out 1
  go_wp2
  change bodyPost _ _ _ _ _ _
  refine bodyPost_ret (results_ctt rfl _ _ (w.heap.size + 1) 43 #[.slice none 0 0, .slice none 0 0] (0, 0) _ rfl ?_ huS (by rfl) (by kernel_rfl)) rfl ?_
  ·
   exact blk_put (cs := #[.slice none 0 0, .slice none 0 0]) (blk_put (cs := #[.slice none 0 0, .slice none 0 0]) BR.out 0 _ rfl) 1 _ rfl
  ·
   exact ⟨_, _, rfl, Kd.R_nil _ _ _ _ _, Kd.R_nil _ _ _ _ _, below_set (below_set HB1.out (Nat.le_succ _)) (Nat.le_succ _)⟩
 subst c4
 rw [if_pos rfl] at H
 by_cases c5 : a1 < 1 ∨ 512 < a1
 case pos =>
  rw [if_pos c5] at H
  simp only [Option.some.injEq, Prod.mk.injEq] at H
  obtain ⟨rfl, rfl, rfl, rfl⟩ := H
  by_cases c6 : a1 < 1
  ·
   have c6b : decide (a1 < 1) = true := decide_eq_true c6
   clear c5 c6
   have hz0 : w1.cell? ⟨w.heap.size + 1, 0, none⟩ = some (.slice none 0 0) := (blk_cell BR.out 0).trans rfl
   have hz1 : w1.cell? ⟨w.heap.size + 1, 1, none⟩ = some (.slice none 0 0) := (blk_cell BR.out 1).trans rfl
   have hz2 := blk_frozen BR.out 0
   have hz3 := blk_frozen BR.out 1
   go_wp2
   change bodyPost _ _ _ _ _ _
   refine bodyPost_ret (results_ctt rfl _ _ (w.heap.size + 1) 43 #[.slice none 0 0, .slice none 0 0] (0, 0) _ rfl ?_ huS (by rfl) (by kernel_rfl)) rfl ?_
   ·
    exact blk_put (cs := #[.slice none 0 0, .slice none 0 0]) (blk_put (cs := #[.slice none 0 0, .slice none 0 0]) BR.out 0 _ rfl) 1 _ rfl
   ·
    exact ⟨_, _, rfl, Kd.R_nil _ _ _ _ _, Kd.R_nil _ _ _ _ _, below_set (below_set HB1.out (Nat.le_succ _)) (Nat.le_succ _)⟩
  ·
   have c6b : decide (a1 < 1) = false := decide_eq_false c6
   have c7b : decide (512 < a1) = true := decide_eq_true (by omega)
   clear c5 c6
   have hz0 : w1.cell? ⟨w.heap.size + 1, 0, none⟩ = some (.slice none 0 0) := (blk_cell BR.out 0).trans rfl
   have hz1 : w1.cell? ⟨w.heap.size + 1, 1, none⟩ = some (.slice none 0 0) := (blk_cell BR.out 1).trans rfl
   have hz2 := blk_frozen BR.out 0
   have hz3 := blk_frozen BR.out 1
   go_wp2
   change bodyPost _ _ _ _ _ _
   refine bodyPost_ret (results_ctt rfl _ _ (w.heap.size + 1) 43 #[.slice none 0 0, .slice none 0 0] (0, 0) _ rfl ?_ huS (by rfl) (by kernel_rfl)) rfl ?_
   ·
    exact blk_put (cs := #[.slice none 0 0, .slice none 0 0]) (blk_put (cs := #[.slice none 0 0, .slice none 0 0]) BR.out 0 _ rfl) 1 _ rfl
   ·
    exact ⟨_, _, rfl, Kd.R_nil _ _ _ _ _, Kd.R_nil _ _ _ _ _, below_set (below_set HB1.out (Nat.le_succ _)) (Nat.le_succ _)⟩
 rw [if_neg c5] at H
 have c6b : decide (a1 < 1) = false := decide_eq_false (by omega)
 have c7b : decide (512 < a1) = false := decide_eq_false (by omega)
 clear c5
 obtain ⟨i, hf, H⟩ := Option.bind_eq_some_iff.mp H
 have HF := Aside0.mk hf
 clear hf HC
 have hc0 : w1.cell? ⟨w.heap.size, 0, none⟩ = some (.slice A0_0 l0_0.length c0_0) := (blk_cell BK.out 0).trans rfl
 have hc1 : w1.cell? ⟨w.heap.size, 1, none⟩ = some (.slice A0_1 l0_1.length c0_1) := (blk_cell BK.out 1).trans rfl
 go_wp2_with fail
 refine (slots_first.calls k _ _ l0_0 _ _ l0_1 i _ (Kd.C_below HR0.out HB1.out) hc0_0 (Kd.C_below HR1.out HB1.out) hc0_1 HF.out).mono ?_
 rintro e w2 ⟨rfl, hb2⟩
 have BK2 := Aside0.mk (blk_below BK.out hb2)
 have BR2 := Aside0.mk (blk_below BR.out hb2)
 have HB2 := Aside0.mk (below_then HB1.out (by have := HB1.out.size; omega) hb2)
 clear hb2 hc0 hc1 BK BR HB1
 by_cases c8 : i < 0
 case pos =>
  rw [if_pos c8] at H
  simp only [Option.some.injEq, Prod.mk.injEq] at H
  obtain ⟨rfl, rfl, rfl, rfl⟩ := H
  have c8b : decide (i < 0) = true := decide_eq_true c8
  clear c8
  have hz0 : w2.cell? ⟨w.heap.size + 1, 0, none⟩ = some (.slice none 0 0) := (blk_cell BR2.out 0).trans rfl
  have hz1 : w2.cell? ⟨w.heap.size + 1, 1, none⟩ = some (.slice none 0 0) := (blk_cell BR2.out 1).trans rfl
  have hz2 := blk_frozen BR2.out 0
  have hz3 := blk_frozen BR2.out 1
  go_wp2
  change bodyPost _ _ _ _ _ _
  refine bodyPost_ret (results_ctt rfl _ _ (w.heap.size + 1) 43 #[.slice none 0 0, .slice none 0 0] (0, 0) _ rfl ?_ huS (by rfl) (by kernel_rfl)) rfl ?_
  ·
   exact blk_put (cs := #[.slice none 0 0, .slice none 0 0]) (blk_put (cs := #[.slice none 0 0, .slice none 0 0]) BR2.out 0 _ rfl) 1 _ rfl
  ·
   exact ⟨_, _, rfl, Kd.R_nil _ _ _ _ _, Kd.R_nil _ _ _ _ _, below_set (below_set HB2.out (Nat.le_succ _)) (Nat.le_succ _)⟩
 rw [if_neg c8] at H
 have c8b : decide (i < 0) = false := decide_eq_false c8
 obtain ⟨⟨m0, m1⟩, hcp, H⟩ := Option.bind_eq_some_iff.mp H
 have HCP := Aside0.mk hcp
 clear hcp
 by_cases c9 : i < (m0.length : Int) ∧ i < (m1.length : Int)
 case neg => rw [if_neg c9] at H; cases H
 rw [if_pos c9] at H
 simp only [Option.some.injEq, Prod.mk.injEq] at H
 obtain ⟨rfl, rfl, rfl, rfl⟩ := H
 have hc0 : w2.cell? ⟨w.heap.size, 0, none⟩ = some (.slice A0_0 l0_0.length c0_0) := (blk_cell BK2.out 0).trans rfl
 have hc1 : w2.cell? ⟨w.heap.size, 1, none⟩ = some (.slice A0_1 l0_1.length c0_1) := (blk_cell BK2.out 1).trans rfl
 go_wp2_with fail
 refine (slots_copied.calls _ _ l0_0 _ _ l0_1 m0 m1 _ (Kd.C_below HR0.out HB2.out) hc0_0 (Kd.C_below HR1.out HB2.out) hc0_1 HCP.out).mono ?_
 rintro e w3 ⟨v0, v1, rfl, ho0, ho1, hb3⟩
 have BR3 := Aside0.mk (blk_below BR2.out hb3)
 have HB3 := Aside0.mk (below_then HB2.out (by have := HB2.out.size; omega) hb3)
 have HO0 := Aside0.mk (Kd.R_lower ho0 (by have := HB2.out.size; omega : w.heap.size ≤ w2.heap.size))
 have HO1 := Aside0.mk (Kd.R_lower ho1 (by have := HB2.out.size; omega : w.heap.size ≤ w2.heap.size))
 clear hb3 ho0 ho1 hc0 hc1 BK2 BR2 HB2
 obtain ⟨g0, k0, rfl, hg0, hl0, hcl0⟩ := Kd.R_form HO0.out (by omega)
 obtain ⟨g1, k1, rfl, hg1, hl1, hcl1⟩ := Kd.R_form HO1.out (by omega)
 go_wp2_with fail
 have hne : g0 ≠ g1 := by
  rintro rfl
  obtain ⟨x, hx⟩ := hcl0
  obtain ⟨y, hy⟩ := hcl1
  rw [hx] at hy
  cases hy
 have hne' := hne.symm
 have e0 := Kd.R_celln 0 (Kd.R_alloc HO0.out (.cells #[.slice (some ⟨g0, 0, none⟩) m0.length k0, .slice (some ⟨g1, 0, none⟩) m1.length k1] 43)) i (by omega) c9.1
 have e1 := Kd.R_celln false (Kd.R_alloc HO1.out (.cells #[.slice (some ⟨g0, 0, none⟩) m0.length k0, .slice (some ⟨g1, 0, none⟩) m1.length k1] 43)) i (by omega) c9.2
 obtain ⟨e00, e01⟩ := e0
 obtain ⟨e02, e03⟩ := Kd.R_celln 0 HO0.out i (by omega) c9.1
 obtain ⟨e12, e13⟩ := Kd.R_celln false HO1.out i (by omega) c9.2
 obtain ⟨e10, e11⟩ := e1
 have n0 : g0 ≠ w3.heap.size := by omega
 have n1 : g1 ≠ w3.heap.size := by omega
 have n0' : w3.heap.size ≠ g0 := by omega
 have n1' : w3.heap.size ≠ g1 := by omega
 have c9a : decide (i < (m0.length : Int)) = true := decide_eq_true c9.1
 have c9b : decide (i < (m1.length : Int)) = true := decide_eq_true c9.2
 have c9c : 0 ≤ i := by omega
 have c9d := c9.1
 have c9e := c9.2
 go_region
 have HX := c9
 clear e00 e01 e10 e11 e02 e03 e12 e13
 obtain ⟨w4, hw4⟩ : ∃ w4, w4 = (((w3.setCell ⟨g0, i.toNat, none⟩ (.int .i64 a1)).setCell ⟨g1, i.toNat, none⟩ (.bool true)).alloc (.cells #[.slice (some ⟨g0, 0, none⟩) m0.length k0, .slice (some ⟨g1, 0, none⟩) m1.length k1] 43)).drew := ⟨_, rfl⟩
 have hrg0 : w.heap.size + 1 ≠ g0 := by
  rintro rfl
  obtain ⟨x, hx⟩ := hcl0
  rw [BR3.out] at hx
  cases hx
 have hrg1 : w.heap.size + 1 ≠ g1 := by
  rintro rfl
  obtain ⟨x, hx⟩ := hcl1
  rw [BR3.out] at hx
  cases hx
 have BR4 : Aside0 (w4.heap[w.heap.size + 1]? = some (.cells #[.slice none 0 0, .slice none 0 0] 43 (0, 0))) := ⟨by rw [hw4]; exact blk_drew (blk_alloc (blk_far (blk_far BR3.out hrg0 _) hrg1 _) _)⟩
 have BX4 : Aside0 (w4.heap[w3.heap.size]? = some (.cells #[.slice (some ⟨g0, 0, none⟩) m0.length k0, .slice (some ⟨g1, 0, none⟩) m1.length k1] 43 (0, 0))) := ⟨by rw [hw4]; have := blk_drew (blk_new ((w3.setCell ⟨g0, i.toNat, none⟩ (.int .i64 a1)).setCell ⟨g1, i.toNat, none⟩ (.bool true)) (.cells #[.slice (some ⟨g0, 0, none⟩) m0.length k0, .slice (some ⟨g1, 0, none⟩) m1.length k1] 43)); simpa using this⟩
 have HB4 : Aside0 (Below w.heap.size w w4) := ⟨by rw [hw4]; exact below_drew (below_alloc (below_set (below_set HB3.out hg0) hg1) _)⟩
 have HO4 : Aside0 (Kd.R (Kd.int .i64) 3 w4 w.heap.size (fun _ => True) (.slice (some ⟨g0, 0, none⟩) m0.length k0) (m0.set i.toNat a1)) := ⟨by
  rw [hw4]
  obtain ⟨y, hy⟩ := hcl1
  exact Kd.R_drew (Kd.R_alloc (Kd.R_mono (Kd.R_far (p := ⟨g1, i.toNat, none⟩) (Kd.R_types (Kd.R_putg HO0.out i a1).1 (blk_far hy hne' _) (by decide)) (fun _ hk => hk.2) _) (fun _ _ => trivial)) _)⟩
 have HP4 : Aside0 (Kd.R Kd.bool 4 w4 w.heap.size (fun _ => True) (.slice (some ⟨g1, 0, none⟩) m1.length k1) (m1.set i.toNat true)) := ⟨by
  rw [hw4]
  obtain ⟨x, hx⟩ := hcl0
  exact Kd.R_drew (Kd.R_alloc (Kd.R_putg (Kd.R_mono (Kd.R_far (p := ⟨g0, i.toNat, none⟩) (Kd.R_types HO1.out hx (by decide)) (fun _ hk => hk.2) _) (fun _ _ => trivial)) i true).1 _)⟩
 rw [← hw4]
 clear hw4 HO0 HO1 BR3 HB3 hcl0 hcl1
 have hz0 : w4.cell? ⟨w.heap.size + 1, 0, none⟩ = some (.slice none 0 0) := (blk_cell BR4.out 0).trans rfl
 have hz1 : w4.cell? ⟨w.heap.size + 1, 1, none⟩ = some (.slice none 0 0) := (blk_cell BR4.out 1).trans rfl
 have hz2 := blk_frozen BR4.out 0
 have hz3 := blk_frozen BR4.out 1
 have hd0 : w4.cell? ⟨w3.heap.size, 0, none⟩ = some (.slice (some ⟨g0, 0, none⟩) m0.length k0) := (blk_cell BX4.out 0).trans rfl
 have hd1 : w4.cell? ⟨w3.heap.size, 1, none⟩ = some (.slice (some ⟨g1, 0, none⟩) m1.length k1) := (blk_cell BX4.out 1).trans rfl
 go_wp2
 change bodyPost _ _ _ _ _ _
 refine bodyPost_ret (results_ctt rfl _ _ (w.heap.size + 1) 43 #[.slice (some ⟨g0, 0, none⟩) m0.length k0, .slice (some ⟨g1, 0, none⟩) m1.length k1] (0, 0) _ rfl ?_ huS (by rfl) (by kernel_rfl)) rfl ?_
 ·
  exact blk_put (cs := #[.slice (some ⟨g0, 0, none⟩) m0.length k0, .slice none 0 0]) (blk_put (cs := #[.slice none 0 0, .slice none 0 0]) BR4.out 0 _ rfl) 1 _ rfl
 ·
  exact ⟨_, _, rfl, Kd.R_mono (Kd.R_far (p := ⟨w.heap.size + 1, 1, none⟩) (Kd.R_far (p := ⟨w.heap.size + 1, 0, none⟩) (Kd.R_types HO4.out BR4.out (by decide)) (fun _ hk => hk.2) _) (fun _ hk => hk.2) _) (fun _ _ => trivial), Kd.R_mono (Kd.R_far (p := ⟨w.heap.size + 1, 1, none⟩) (Kd.R_far (p := ⟨w.heap.size + 1, 0, none⟩) (Kd.R_types HP4.out BR4.out (by decide)) (fun _ hk => hk.2) _) (fun _ hk => hk.2) _) (fun _ _ => trivial), below_set (below_set HB4.out (Nat.le_succ _)) (Nat.le_succ _)⟩


end Go.Proofs.Ytofonnfkffbjkaa.X
