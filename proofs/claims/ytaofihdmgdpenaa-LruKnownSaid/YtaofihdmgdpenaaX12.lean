/- What Go functions of this seat compute, told as Lean functions, and that each call of the Go code comes to that answer; for a law: its row, for every input. Written by a program of the session. -/
import Derived.Test.YtaofihdmgdpenaaX0
import Derived.Test.YtaofihdmgdpenaaX2
namespace Go.Proofs.Ytaofihdmgdpenaa.X
open Go.RowKit Go.Proofs.YtaofihdmgdpenaaW.PrintWords Go.Proofs.YtaofihdmgdpenaaW.PrintLast Go.Proofs.YtaofihdmgdpenaaW.PrintMore
attribute [local go_sem] max2_int min2_int max_two min_two max_three min_three max_four min_four   -- for this text's walks alone
set_option linter.unusedVariables false
set_option linter.unusedSimpArgs false

/-! ### slices_Reverse_int_int: function 55 -/
def slices_Reverse_int_int.l0 : Nat → List Int → Int → Int → Option (List Int)
 | 0, _, _, _ => none
 | k + 1, x0, x2, x3 => if x2 < x3 then (if 0 ≤ x3 then (if x3 < (x0.length : Int) then (if 0 ≤ x2 then (if x2 < (x0.length : Int) then (slices_Reverse_int_int.l0 k ((x0.set (x2 : Int).toNat (rd x0 x3)).set (x3 : Int).toNat (rd x0 x2)) (wrap64 (x2 + 1)) (wrap64 (x3 - 1))) else (none)) else (none)) else (none)) else (none)) else (some x0)
def slices_Reverse_int_int.f (k : Nat) (l0 : List Int) : Option (List Int) := slices_Reverse_int_int.l0 k l0 0 (wrap64 ((l0.length : Int) - 1))
theorem slices_Reverse_int_int.mono_l : ∀ k, (∀ y0 y1 y2, LeO (slices_Reverse_int_int.l0 k y0 y1 y2) (slices_Reverse_int_int.l0 (k + 1) y0 y1 y2))
 | 0 => fun _ _ _ r h => by simp [slices_Reverse_int_int.l0] at h
 | k + 1 => by
  have ih0 := slices_Reverse_int_int.mono_l k
  ·
   intro y0 y1 y2
   unfold slices_Reverse_int_int.l0
   repeat' first
   | (with_reducible exact ih0 _ _ _)
   | (with_reducible exact LeO.refl _)
   | (with_reducible exact LeO.none _)
   | (with_reducible refine LeO.ite ?_ ?_)
   | (with_reducible refine LeO.bind ?_ (fun _ => ?_))
   | exact ih0 _ _ _
   | exact LeO.none _
   | refine LeO.ite ?_ ?_
   | refine LeO.bind ?_ (fun _ => ?_)
theorem slices_Reverse_int_int.mono : ∀ a0 k, LeO (slices_Reverse_int_int.f k a0) (slices_Reverse_int_int.f (k + 1) a0) := by
 intro a0 k
 have ih0 := slices_Reverse_int_int.mono_l k
 unfold slices_Reverse_int_int.f
 repeat' first
   | (with_reducible exact ih0 _ _ _)
   | (with_reducible exact LeO.refl _)
   | (with_reducible exact LeO.none _)
   | (with_reducible refine LeO.ite ?_ ?_)
   | (with_reducible refine LeO.bind ?_ (fun _ => ?_))
   | exact ih0 _ _ _
   | exact LeO.none _
   | refine LeO.ite ?_ ?_
   | refine LeO.bind ?_ (fun _ => ?_)
def slices_Reverse_int_int.T3 : Bool × List (List Nat × List Nat) := (true, [([], []), ([], []), ([], []), ([], []), ([], []), ([], []), ([4, 5], [4, 5]), ([6], [6]), ([], []), ([], []), ([8, 9], [8, 9]), ([10], [10]), ([0, 1, 0, 1, 4, 5, 6, 7, 11], [0, 1]), ([12, 7, 0, 1, 4, 5, 6, 7, 11], [7, 12]), ([2, 3, 0, 1, 2, 3, 4, 5, 6, 7, 8, 9, 10, 11, 12, 13], [2, 3]), ([14, 11, 13, 0, 1, 2, 3, 4, 5, 6, 7, 8, 9, 10, 11, 12, 13], [11, 14])])
def slices_Reverse_int_int.B3 : List Nat := [0, 0, 0, 0, 0, 0, 48, 112, 0, 0, 768, 1792, 4083, 8179, 16383, 32767]
theorem slices_Reverse_int_int.tab3 : rtab .any (opsOf Try.f55 3) = slices_Reverse_int_int.T3 := by kernel_rfl
theorem slices_Reverse_int_int.bits3 : waitsOk slices_Reverse_int_int.T3.2 slices_Reverse_int_int.B3 = true := by kernel_rfl
set_option maxHeartbeats 2000000 in
set_option maxRecDepth 100000 in
theorem slices_Reverse_int_int.calls (k : Nat) (P0_ : Nat → Prop) (u9000_ : Value) (l0 : List Int) (r : List Int) (w0 w : World) (hB : Below w0.heap.size w0 w) (ho0 : Kd.R (Kd.int .i64) 3 w w0.heap.size P0_ u9000_ l0) (h : slices_Reverse_int_int.f k l0 = some r) :
  Calls Try.prog 55 #[u9000_] w fun e w' => e = .returned (.tuple #[]) ∧ Kd.R (Kd.int .i64) 3 w' w0.heap.size (fun k_ => (P0_ k_ ∨ w.heap.size ≤ k_)) u9000_ r ∧ Below w0.heap.size w0 w' ∧ Kept w w' (fun k_ => P0_ k_) := by
 have HO0 := Aside0.mk (show Kd.R (Kd.int .i64) 3 w w0.heap.size (fun k_ => (P0_ k_ ∨ w.heap.size ≤ k_)) u9000_ l0 from Kd.R_mono ho0 (fun k_ hk => (.inl hk)))
 have HK := Aside0.mk (Kept.refl w (fun k_ => P0_ k_))
 have HW0 := Aside0.mk hB.size
 have HB := Aside0.mk hB
 clear hB
 have H : (slices_Reverse_int_int.l0 k l0 0 (wrap64 ((l0.length : Int) - 1))) = some r := h
 clear h
 have H' := Aside0.mk H
 clear H
 obtain ⟨Ao2, co2, eo2⟩ := Kd.R_slice HO0.out
 subst eo2
 go_enter Try.func55, Try.ntmps55
 go_wp2
 go_loopg [2, 3] k (fun kq v2 v3 w' => ∃ (x0_1 : List Int) (x2_1 : Int) (x3_1 : Int), v2 = .int .i64 x2_1 ∧ v3 = .int .i64 x3_1 ∧ Aside0 (slices_Reverse_int_int.l0 kq x0_1 x2_1 x3_1 = some r) ∧ Aside0 (kq ≤ k) ∧ Aside0 (Kd.R (Kd.int .i64) 3 w' w0.heap.size (fun k_ => (P0_ k_ ∨ w.heap.size ≤ k_)) (.slice Ao2 l0.length co2) x0_1) ∧ Aside0 (Kept w w' (fun k_ => P0_ k_)) ∧ Aside0 (Below w0.heap.size w0 w'))
 case atStart => exact ⟨(l0), (0), (wrap64 ((l0.length : Int) - 1)), (by first | rfl | (simp; done) | (simp [*]; done)), (by first | rfl | (simp; done) | (simp [*]; done)), H', ⟨Nat.le_refl _⟩, ⟨upR HO0.out⟩, ⟨by repeat (first | (with_reducible first | exact HK.out | apply Kept.alloc | apply Kept.drewN | apply Kept.drew) | exact HK.out)⟩, ⟨upH HB⟩⟩
 case round =>
  clear H'
  try clear p2
  obtain ⟨x0_1, x2_1, x3_1, rfl, rfl, HA, HK1, HO_0, HK, HB⟩ := hrel
  have hl0_1 := (Kd.R_reads' HO_0.out).1
  rw [hl0_1] at HO_0
  (try simp only [hl0_1])
  cases gk with
  | zero => exact absurd HA.out (by simp [slices_Reverse_int_int.l0])
  | succ k1 =>
   have H := HA.out
   clear HA
   simp only [slices_Reverse_int_int.l0] at H
   by_cases c3 : x2_1 < x3_1
   ·
    rw [if_pos c3] at H
    have c3b0 : decide (x2_1 < x3_1) = true := decide_eq_true c3
    clear c3
    by_cases c4 : 0 ≤ x3_1
    ·
     rw [if_pos c4] at H
     have c4b0 : decide (0 ≤ x3_1) = true := decide_eq_true c4
     clear c4
     by_cases c5 : x3_1 < (x0_1.length : Int)
     ·
      rw [if_pos c5] at H
      have c5b0 : decide (x3_1 < (x0_1.length : Int)) = true := decide_eq_true c5
      clear c5
      by_cases c6 : 0 ≤ x2_1
      ·
       rw [if_pos c6] at H
       have c6b0 : decide (0 ≤ x2_1) = true := decide_eq_true c6
       clear c6
       by_cases c7 : x2_1 < (x0_1.length : Int)
       ·
        rw [if_pos c7] at H
        have c7b0 : decide (x2_1 < (x0_1.length : Int)) = true := decide_eq_true c7
        clear c7
        obtain ⟨y137, hy137⟩ : ∃ y_ : List Int, y_ = (x0_1.set (x2_1 : Int).toNat (rd x0_1 x3_1)) := ⟨_, rfl⟩
        replace H : (slices_Reverse_int_int.l0 k1 (y137.set (x3_1 : Int).toNat (rd x0_1 x2_1)) (wrap64 (x2_1 + 1)) (wrap64 (x3_1 - 1))) = some r := by first | (rw [hy137]; with_reducible exact H) | (have H2_ := (Option.bind_some _ _).symm.trans H; rw [hy137]; with_reducible exact H2_) | (have H2_ := (Option.bind_some _ _).symm.trans H; with_reducible exact H2_) | with_reducible exact H | (rw [hy137]; exact H) | exact H
        have Ny137 := Aside0.mk hy137
        clear hy137
        obtain ⟨y138, hy138⟩ : ∃ y_ : List Int, y_ = (y137.set (x3_1 : Int).toNat (rd x0_1 x2_1)) := ⟨_, rfl⟩
        replace H : (slices_Reverse_int_int.l0 k1 y138 (wrap64 (x2_1 + 1)) (wrap64 (x3_1 - 1))) = some r := by first | (rw [hy138]; with_reducible exact H) | (have H2_ := (Option.bind_some _ _).symm.trans H; rw [hy138]; with_reducible exact H2_) | (have H2_ := (Option.bind_some _ _).symm.trans H; with_reducible exact H2_) | with_reducible exact H | (rw [hy138]; exact H) | exact H
        have Ny138 := Aside0.mk hy138
        clear hy138
        have H' := Aside0.mk H
        clear H
        try go_wp2
        have n0_ := Aside0.mk (Kd.R_drew HO_0.out)
        have n1_ := Aside0.mk (Kept.drew HK.out)
        have n2_ := Aside0.mk (below_drew1 HB.out)
        clear HO_0
        clear HK
        clear HB
        have HO_0 := n0_
        have HK := n1_
        have HB := n2_
        clear n0_ n1_ n2_
        have p135 : 0 ≤ (x3_1 : Int) := of_decide_eq_true (asm_ (p := _))
        have q135 : x3_1 < (x0_1.length : Int) := of_decide_eq_true (asm_ (p := _))
        obtain ⟨ad135, e135, hx135_0⟩ := Kd.at_int (Kd.R_reads' HO_0.out).2.2 x3_1 p135 q135
        cases e135
        replace p135 := eq_true p135
        replace q135 := eq_true q135
        have p136 : 0 ≤ (x2_1 : Int) := of_decide_eq_true (asm_ (p := _))
        have q136 : x2_1 < (x0_1.length : Int) := of_decide_eq_true (asm_ (p := _))
        obtain ⟨ad136, e136, hx136_0⟩ := Kd.at_int (Kd.R_reads' HO_0.out).2.2 x2_1 p136 q136
        obtain rfl : ad135 = ad136 := (by injection e136)
        replace p136 := eq_true p136
        replace q136 := eq_true q136
        have p8 : 0 ≤ (x2_1 : Int) := of_decide_eq_true (asm_ (p := _))
        have q8 : (x2_1 : Int) < ((x0_1.length : Int) : Int) := of_decide_eq_true (asm_ (p := _))
        obtain ⟨go8, co8, eo8, gb8, gl8, cl8, HG8⟩ := Kd.R_form HO_0.out (by omega)
        (first | cases eo8 | (injection eo8 with ea_ en_ ec_; (first | subst ea_ | (injection ea_ with ea_; subst ea_)); subst ec_; clear en_))
        have GB8 := Aside0.mk gb8
        have GG8 := Aside0.mk HG8
        clear gb8 gl8 HG8
        have HMgo8 := Aside0.mk (show (P0_ go8 ∨ w.heap.size ≤ go8) from (HO_0.out.1 _ rfl))
        (first | simp only [add_plain] at hx135_0 | skip)
        (first | simp only [add_plain] at hx136_0 | skip)
        obtain ⟨hx8_0, hf8_0⟩ := Kd.R_celln 0 HO_0.out (x2_1 : Int) p8 q8
        replace p8 := eq_true p8
        replace q8 := eq_true q8
        have HP11 := Kd.R_putn HO_0.out (x2_1 : Int) (rd x0_1 x3_1)
        rw [← Ny137.out] at HP11
        have HQ11 := Aside0.mk HP11
        clear HP11
        have p9 : 0 ≤ (x3_1 : Int) := of_decide_eq_true (asm_ (p := _))
        have q9 : (x3_1 : Int) < ((x0_1.length : Int) : Int) := of_decide_eq_true (asm_ (p := _))
        obtain ⟨hx9_0, hf9_0⟩ := Kd.R_celln 0 HQ11.out (x3_1 : Int) p9 q9
        replace p9 := eq_true p9
        replace q9 := eq_true q9
        have HP12 := Kd.R_putn HQ11.out (x3_1 : Int) (rd x0_1 x2_1)
        rw [← Ny138.out] at HP12
        have HQ12 := Aside0.mk HP12
        clear HP12
        refine start_ (n := 16) (S := fun w' => w'.cell? ⟨go8, (x3_1).toNat, none⟩ = some (.int .i64 (rd x0_1 x3_1)) ∧ w'.cell? ⟨go8, (x2_1).toNat, none⟩ = some (.int .i64 (rd x0_1 x2_1))) (ds := [13, 15]) #[false, false, false, false, false, false, false, false, false, false, false, false, false, false, false, false] (by kernel_rfl) rfl rfl ⟨hx135_0, hx136_0⟩ (fun hHeld => ?_); refine with_tabW slices_Reverse_int_int.tab3 slices_Reverse_int_int.bits3 (fun HT_ HW_ => ?_)
        generalize wr.drew = w10 at HO_0 HK HB GG8 HQ11 HQ12 hf8_0 hf9_0 hx135_0 hx136_0 hx8_0 hx9_0 hHeld ⊢
        refine pure_ (i := 0) (N := some 14) (v := ?_) (a' := ?_) #[true, false, false, false, false, false, false, false, false, false, false, false, false, false, false, false] rfl rfl (any_of HT_.out (by kernel_rfl)) (fun _ _ _ h => h) (Or.inl ⟨by rfl, ?_⟩) ?_ ?_
        rotate_left
        ·
         intro w'
         go_simp
         with_reducible rfl
        rotate_left
        ·
         simp only [Act.put, List.setIfInBounds_toArray, List.set_cons_zero, List.set_cons_succ, i64_w, i32_w]
         rfl
        refine pure_ (i := 1) (N := some 15) (v := ?_) (a' := ?_) #[true, true, false, false, false, false, false, false, false, false, false, false, false, false, false, false] rfl rfl (any_of HT_.out (by kernel_rfl)) (fun _ _ _ h => h) (Or.inl ⟨by rfl, ?_⟩) ?_ ?_
        rotate_left
        ·
         intro w'
         go_simp
         with_reducible rfl
        rotate_left
        ·
         simp only [Act.put, List.setIfInBounds_toArray, List.set_cons_zero, List.set_cons_succ, i64_w, i32_w]
         rfl
        refine pure_ (i := 2) (N := some 16) (v := ?_) (a' := ?_) #[true, true, true, false, false, false, false, false, false, false, false, false, false, false, false, false] rfl rfl (any_of HT_.out (by kernel_rfl)) (fun _ _ _ h => h) (Or.inl ⟨by rfl, ?_⟩) ?_ ?_
        rotate_left
        ·
         intro w'
         go_simp
         with_reducible rfl
        rotate_left
        ·
         simp only [Act.put, List.setIfInBounds_toArray, List.set_cons_zero, List.set_cons_succ, i64_w, i32_w]
         rfl
        refine pure_ (i := 3) (N := some 17) (v := ?_) (a' := ?_) #[true, true, true, true, false, false, false, false, false, false, false, false, false, false, false, false] rfl rfl (any_of HT_.out (by kernel_rfl)) (fun _ _ _ h => h) (Or.inl ⟨by rfl, ?_⟩) ?_ ?_
        rotate_left
        ·
         intro w'
         go_simp
         with_reducible rfl
        rotate_left
        ·
         simp only [Act.put, List.setIfInBounds_toArray, List.set_cons_zero, List.set_cons_succ, i64_w, i32_w]
         rfl
        refine pure_ (i := 4) (N := some 18) (v := ?_) (a' := ?_) #[true, true, true, true, true, false, false, false, false, false, false, false, false, false, false, false] rfl rfl (any_of HT_.out (by kernel_rfl)) (fun _ _ _ h => h) (Or.inl ⟨by rfl, ?_⟩) ?_ ?_
        rotate_left
        ·
         intro w'
         go_simp
         with_reducible rfl
        rotate_left
        ·
         simp only [Act.put, List.setIfInBounds_toArray, List.set_cons_zero, List.set_cons_succ, i64_w, i32_w]
         rfl
        refine pure_ (i := 5) (N := some 19) (v := ?_) (a' := ?_) #[true, true, true, true, true, true, false, false, false, false, false, false, false, false, false, false] rfl rfl (any_of HT_.out (by kernel_rfl)) (fun _ _ _ h => h) (Or.inl ⟨by rfl, ?_⟩) ?_ ?_
        rotate_left
        ·
         intro w'
         go_simp
         with_reducible rfl
        rotate_left
        ·
         simp only [Act.put, List.setIfInBounds_toArray, List.set_cons_zero, List.set_cons_succ, i64_w, i32_w]
         rfl
        refine pure_ (i := 6) (N := some 20) (v := ?_) (a' := ?_) #[true, true, true, true, true, true, true, false, false, false, false, false, false, false, false, false] rfl rfl (any_of HT_.out (by kernel_rfl)) (fun _ _ _ h => h) (Or.inl ⟨by rfl, ?_⟩) ?_ ?_
        rotate_left
        ·
         intro w'
         go_simp
         with_reducible rfl
        rotate_left
        ·
         simp only [Act.put, List.setIfInBounds_toArray, List.set_cons_zero, List.set_cons_succ, i64_w, i32_w]
         rfl
        refine pure_ (i := 8) (N := some 22) (v := ?_) (a' := ?_) #[true, true, true, true, true, true, true, false, true, false, false, false, false, false, false, false] rfl rfl (any_of HT_.out (by kernel_rfl)) (fun _ _ _ h => h) (Or.inl ⟨by rfl, ?_⟩) ?_ ?_
        rotate_left
        ·
         intro w'
         go_simp
         with_reducible rfl
        rotate_left
        ·
         simp only [Act.put, List.setIfInBounds_toArray, List.set_cons_zero, List.set_cons_succ, i64_w, i32_w]
         rfl
        refine pure_ (i := 9) (N := some 23) (v := ?_) (a' := ?_) #[true, true, true, true, true, true, true, false, true, true, false, false, false, false, false, false] rfl rfl (any_of HT_.out (by kernel_rfl)) (fun _ _ _ h => h) (Or.inl ⟨by rfl, ?_⟩) ?_ ?_
        rotate_left
        ·
         intro w'
         go_simp
         with_reducible rfl
        rotate_left
        ·
         simp only [Act.put, List.setIfInBounds_toArray, List.set_cons_zero, List.set_cons_succ, i64_w, i32_w]
         rfl
        refine pure_ (i := 10) (N := some 24) (v := ?_) (a' := ?_) #[true, true, true, true, true, true, true, false, true, true, true, false, false, false, false, false] rfl rfl (any_of HT_.out (by kernel_rfl)) (fun _ _ _ h => h) (Or.inl ⟨by rfl, ?_⟩) ?_ ?_
        rotate_left
        ·
         intro w'
         go_simp
         with_reducible rfl
        rotate_left
        ·
         simp only [Act.put, List.setIfInBounds_toArray, List.set_cons_zero, List.set_cons_succ, i64_w, i32_w]
         rfl
        refine take_ (i := 7) (N := some 21) (v := ?_) (a' := ?_) #[true, true, true, true, true, true, true, true, true, true, true, false, false, false, false, false] rfl rfl (take_ofW HT_.out HW_.out (by kernel_rfl)) (fun _ _ _ h => h) (Or.inl ⟨by rfl, ?_⟩) hHeld ?_ ?_
        rotate_left
        ·
         rintro w' ⟨s0, s1⟩
         go_simp
         with_reducible rfl
        rotate_left
        ·
         simp only [Act.put, List.setIfInBounds_toArray, List.set_cons_zero, List.set_cons_succ, i64_w, i32_w]
         rfl
        refine take_ (i := 11) (N := some 25) (v := ?_) (a' := ?_) #[true, true, true, true, true, true, true, true, true, true, true, true, false, false, false, false] rfl rfl (take_ofW HT_.out HW_.out (by kernel_rfl)) (fun _ _ _ h => h) (Or.inl ⟨by rfl, ?_⟩) hHeld ?_ ?_
        rotate_left
        ·
         rintro w' ⟨s0, s1⟩
         go_simp
         with_reducible rfl
        rotate_left
        ·
         simp only [Act.put, List.setIfInBounds_toArray, List.set_cons_zero, List.set_cons_succ, i64_w, i32_w]
         rfl
        refine pure_ (i := 12) (N := some 26) (v := ?_) (a' := ?_) #[true, true, true, true, true, true, true, true, true, true, true, true, true, false, false, false] rfl rfl (any_of HT_.out (by kernel_rfl)) (fun _ _ _ h => h) (Or.inl ⟨by rfl, ?_⟩) ?_ ?_
        rotate_left
        ·
         intro w'
         go_simp
         with_reducible rfl
        rotate_left
        ·
         simp only [Act.put, List.setIfInBounds_toArray, List.set_cons_zero, List.set_cons_succ, i64_w, i32_w]
         rfl
        refine last_ (i := 13) (N := none) #[true, true, true, true, true, true, true, true, true, true, true, true, true, true, false, false] rfl rfl (one_of HT_.out (by kernel_rfl)) (by decide) (fun K hK => ?_)
        refine skip_ (w1 := ?_) (by rfl) rfl ?_ ?_
        rotate_left
        ·
         go_simp
         rfl
        refine hK.out _ _ ?_
        clear hK K
        refine pure_ (i := 14) (N := some 27) (v := ?_) (a' := ?_) #[true, true, true, true, true, true, true, true, true, true, true, true, true, true, true, false] rfl rfl (any_of HT_.out (by kernel_rfl)) (fun _ _ _ h => h) (Or.inl ⟨by rfl, ?_⟩) ?_ ?_
        rotate_left
        ·
         intro w'
         go_simp
         with_reducible rfl
        rotate_left
        ·
         simp only [Act.put, List.setIfInBounds_toArray, List.set_cons_zero, List.set_cons_succ, i64_w, i32_w]
         rfl
        refine last_ (i := 15) (N := none) #[true, true, true, true, true, true, true, true, true, true, true, true, true, true, true, true] rfl rfl (one_of HT_.out (by kernel_rfl)) (by decide) (fun K hK => ?_)
        refine skip_ (w1 := ?_) (by rfl) rfl ?_ ?_
        rotate_left
        ·
         go_simp
         rfl
        refine hK.out _ _ ?_
        clear hK K
        refine done_ (done_of HT_.out (by kernel_rfl)) ?_
        try go_wp2
        (try simp only [← hl0_1])
        go_roundg k1
        case measure => have := HK1.out; omega
        case rel => exact ⟨(y138), (wrap64 (x2_1 + 1)), (wrap64 (x3_1 - 1)), (by first | rfl | (simp; done) | (simp [*]; done)), (by first | rfl | (simp; done) | (simp [*]; done)), H', ⟨by have := HK1.out; omega⟩, ⟨by (try simp only [hl0_1]); (with_reducible repeat (first | apply Kd.R_alloc | apply Kd.R_drewN | apply Kd.R_drew)); exact HQ12.out⟩, ⟨by repeat (first | (with_reducible first | exact HK.out | apply Kept.alloc | apply Kept.drewN | apply Kept.drew | refine Kept.setCell ?_ HMgo8.out _ | refine Kept.setCell ?_ HMgo8.out _) | exact HK.out)⟩, ⟨upH HB⟩⟩
       ·
        rw [if_neg c7] at H
        exact absurd H (by simp)
      ·
       rw [if_neg c6] at H
       exact absurd H (by simp)
     ·
      rw [if_neg c5] at H
      exact absurd H (by simp)
    ·
     rw [if_neg c4] at H
     exact absurd H (by simp)
   ·
    rw [if_neg c3] at H
    have c3b0 : decide (x2_1 < x3_1) = false := decide_eq_false c3
    clear c3
    obtain rfl := Option.some.inj H
    go_wp2
    first | go_end0 | ((try simp only [Exit.inBlock, Exit.then]); refine bodyPost_ret (results_none rfl _ _ _) rfl ?_)
    exact ⟨by first | rfl | (simp [errW_none, errW_some] <;> rfl) | (simp [*, errW_none, errW_some] <;> rfl), (by first | exact (upR HO_0.out) | (simp only [hl0_1]; exact (upR HO_0.out))), by repeat (first | (with_reducible first | exact HB.out | apply below_alloc | apply pw_below_drewN | apply below_drew1) | exact HB.out), by repeat (first | (with_reducible first | exact HK.out | apply Kept.alloc | apply Kept.drewN | apply Kept.drew) | exact HK.out)⟩

end Go.Proofs.Ytaofihdmgdpenaa.X

namespace Go.Proofs.Ytaofihdmgdpenaa.X
open Go.RowKit Go.Proofs.YtaofihdmgdpenaaW.PrintWords Go.Proofs.YtaofihdmgdpenaaW.PrintLast Go.Proofs.YtaofihdmgdpenaaW.PrintMore
attribute [local go_sem] max2_int min2_int max_two min_two max_three min_three max_four min_four   -- for this text's walks alone
set_option linter.unusedVariables false
set_option linter.unusedSimpArgs false

/-! ### slices_Grow_int_int: function 65 -/
set_option maxHeartbeats 2000000 in
set_option maxRecDepth 100000 in
theorem slices_Grow_int_int.atNil (m : Nat) (w : World) (hm : m < 17592186044416) :
  Calls Try.prog 65 #[.slice none 0 0, .int .i64 m] w fun e w' => ∃ v0_ : Value, e = .returned (v0_) ∧ Kd.R (Kd.int .i64) 3 w' w.heap.size (fun _ => True) v0_ ([] : List Int) ∧ Below w.heap.size w w' := by
 have LM := Aside0.mk hm
 have c0 : decide ((m : Int) < 0) = false := decide_eq_false (by omega)
 by_cases c1 : 0 < m
 ·
  have c1b : decide (0 < (m : Int)) = true := decide_eq_true (by omega)
  have c1c : decide (0 < m) = true := decide_eq_true c1
  have HP := Aside0.mk c1
  clear c1
  go_enter Try.func65, Try.ntmps65
  go_wp2_with ((with_reducible refine gate_builtin (b := .append) (xs := #[.tmp 20, .tmp 21]) rfl ?_); at_builtin; refine Kd.R_append_zeros (Kd.int .i64) (w0 := w) w.heap.size rfl (.tmp 20) (.tmp 21) 22 3 3 (.int .i64 0) 8 rfl Try.underlying22 Try.underlying3 info3 rfl (by decide) (by omega) (.slice none 0 0) [] 0 (m : Int) (fun _ => True) rfl rfl rfl (fun _ _ => trivial) ?aO ?a0 ?aB ?aS ?aL ?_; (case aO => exact Kd.R_nil _ _ _ _ _); (case a0 => omega); (case aB => exact Below.refl _ _); (case aS => exact Nat.le_refl _); (case aL => have := LM.out; simp only [List.length_nil, Int.toNat_natCast]; omega); intro v1 w1 ho hb _ _; obtain ⟨g, cap, rfl, _⟩ := Kd.R_form ho (by have := HP.out; simp; omega); have HO := Aside0.mk ho; have HB := Aside0.mk hb; clear ho hb)
  go_ret
  exact ⟨_, rfl, by have := Kd.R_take HO.out (m := 0) (by omega); simpa using this, HB.out⟩
 ·
  have c1b : decide (0 < (m : Int)) = false := decide_eq_false (by omega)
  have c1c : decide (0 < m) = false := decide_eq_false c1
  clear c1
  go_enter Try.func65, Try.ntmps65
  go_wp2
  go_ret
  exact ⟨_, rfl, Kd.R_nil _ _ _ _ _, Below.refl _ _⟩


end Go.Proofs.Ytaofihdmgdpenaa.X

namespace Go.Proofs.Ytaofihdmgdpenaa.X
open Go.RowKit Go.Proofs.YtaofihdmgdpenaaW.PrintWords Go.Proofs.YtaofihdmgdpenaaW.PrintLast Go.Proofs.YtaofihdmgdpenaaW.PrintMore
attribute [local go_sem] max2_int min2_int max_two min_two max_three min_three max_four min_four   -- for this text's walks alone
set_option linter.unusedVariables false
set_option linter.unusedSimpArgs false

/-! ### Rows one behind the other -/
def catLen {α : Type} : List (List α) → Nat
 | [] => 0
 | x :: xs => x.length + catLen xs
theorem catLen_take {α : Type} : ∀ (l : List (List α)) (i : Nat), i < l.length → catLen (l.take (i + 1)) = catLen (l.take i) + (l.getD i []).length
 | [], i, h => by simp at h
 | x :: xs, 0, _ => by simp [catLen]
 | x :: xs, i + 1, h => by
  have := catLen_take xs i (by simpa using h)
  simp only [List.take_succ_cons, catLen, this, List.getD_cons_succ]
  omega
theorem catLen_le {α : Type} : ∀ (l : List (List α)) (i : Nat), catLen (l.take i) ≤ catLen l
 | [], i => by simp
 | x :: xs, 0 => by simp [catLen]
 | x :: xs, i + 1 => by
  have := catLen_le xs i
  simp only [List.take_succ_cons, catLen]
  omega
theorem catLen_flatten {α : Type} : ∀ l : List (List α), l.flatten.length = catLen l
 | [] => rfl
 | x :: xs => by simp [catLen, catLen_flatten xs]
theorem flatten_take {α : Type} : ∀ (l : List (List α)) (i : Nat), i < l.length → (l.take (i + 1)).flatten = (l.take i).flatten ++ l.getD i []
 | [], i, h => by simp at h
 | x :: xs, 0, _ => by simp
 | x :: xs, i + 1, h => by
  have := flatten_take xs i (by simpa using h)
  simp only [List.take_succ_cons, List.flatten_cons, this, List.getD_cons_succ, List.append_assoc]
/-- An element of a row of rows that came in. -/
theorem rows_at {α : Type} {e : Nat} {d : Kd α} {w : World} {A : Option Addr} {n : Nat} {xs : List (List α)} (h : (Kd.slice e d).C w A n xs) (i : Nat) (hi : i < n) : ∃ ad Ai ci, A = some ad ∧ w.cell? (ad.add i) = some (.slice Ai (xs.getD i []).length ci) ∧ (xs.getD i []).length ≤ ci ∧ d.C w Ai (xs.getD i []).length (xs.getD i []) := by
 obtain ⟨ad, c, hA, _, hK, hc⟩ := Kd.C_get h [] (i : Int) (by omega) (by omega)
 obtain ⟨Ai, ci, rfl, h1, h2⟩ := hK
 refine ⟨ad, Ai, ci, hA, ?_, by simpa using h1, by simpa using h2⟩
 have := hc 0 _ rfl
 simpa [Kd.slice] using this
/-- A row of rows, cell by cell. -/
theorem rows_mk {α : Type} {e : Nat} {d : Kd α} {w : World} {b t : Nat} {l : List (List α)} {cs : Array Value} {fr : Nat × Nat} (hb : w.heap[b]? = some (.cells cs t fr)) (hn : cs.size = l.length) (hm : l.length ≤ 9223372036854775807)
  (h : ∀ i, i < l.length → ∃ A c, cs[i]? = some (.slice A (l.getD i []).length c) ∧ (l.getD i []).length ≤ c ∧ d.C w A (l.getD i []).length (l.getD i [])) (hf : fr = (0, 0)) : (Kd.slice e d).C w (some ⟨b, 0, none⟩) l.length l := by
 subst hf
 refine ⟨rfl, hm, fun _ => ⟨_, rfl, fun j p hj => ?_⟩⟩
 have hjl : j < l.length := (List.getElem?_eq_some_iff.1 hj).1
 obtain ⟨A, c, h1, h2, h3⟩ := h j hjl
 have hp : l.getD j [] = p := by rw [List.getD_eq_getElem?_getD, hj]; rfl
 rw [hp] at h1 h2 h3
 refine ⟨[.slice A p.length c], rfl, ⟨A, c, rfl, h2, h3⟩, fun i u hi => ?_⟩
 have hi0 : i = 0 := by have := (List.getElem?_eq_some_iff.1 hi).1; simp at this; omega
 subst hi0
 simp only [List.getElem?_cons_zero, Option.some.injEq] at hi
 subst hi
 have := blk_cell hb j
 rw [h1] at this
 rw [show ((⟨b, 0, none⟩ : Addr).add (j * (Kd.slice e d).sz + 0)) = ⟨b, j, none⟩ by rw [show j * (Kd.slice e d).sz + 0 = j by simp [Kd.slice], Go.WideShapes.add_plain, Nat.zero_add]]
 exact this
/-- s[:n:n], and s[n:]. -/
theorem cutn_at {P : Program} {t e : TypeId} (ht : P.underlying t = some (.slice e)) {s : Nat} (hs : ∀ W, (sizeOf e).run P W = .ok s W) (A : Option Addr) (len cap n : Nat) (h : n ≤ cap) (W : World) :
  (Instr.slice t (.slice A len cap) none (some (.int .i64 (n : Int))) (some (.int .i64 (n : Int)))).run P W = .ok (.slice A n n) W := by
 have hel : P.elem t = e := by simp [Program.elem, ht]
 have hu : P.underlying t = some (.slice (P.elem t)) := by rw [hel]; exact ht
 have ha : (A.map fun x => x.add 0) = A := by cases A <;> simp [Addr.add]
 rw [run_slice_any W t A len cap hu, hel]
 simp [Instr.sliceBounds, run_sliceBound, hs, sliced, h, Result.andThen]
 intro _
 exact ha
theorem cutn_from {P : Program} {t e : TypeId} (ht : P.underlying t = some (.slice e)) {s : Nat} (hs : ∀ W, (sizeOf e).run P W = .ok s W) (A : Option Addr) (len cap n : Nat) (h : n ≤ len) (W : World) :
  (Instr.slice t (.slice A len cap) (some (.int .i64 (n : Int))) none none).run P W = .ok (.slice (if cap = n then A else A.map (·.add (n * s))) (len - n) (cap - n)) W := by
 have hel : P.elem t = e := by simp [Program.elem, ht]
 have hu : P.underlying t = some (.slice (P.elem t)) := by rw [hel]; exact ht
 rw [run_slice_any W t A len cap hu, hel]
 simp [Instr.sliceBounds, run_sliceBound, hs, sliced, h, Result.andThen]


end Go.Proofs.Ytaofihdmgdpenaa.X

namespace Go.Proofs.Ytaofihdmgdpenaa.X
open Go.RowKit Go.Proofs.YtaofihdmgdpenaaW.PrintWords Go.Proofs.YtaofihdmgdpenaaW.PrintLast Go.Proofs.YtaofihdmgdpenaaW.PrintMore
attribute [local go_sem] max2_int min2_int max_two min_two max_three min_three max_four min_four   -- for this text's walks alone
set_option linter.unusedVariables false
set_option linter.unusedSimpArgs false

/-! ### slices_Concat_int_int: function 56 -/
def slices_Concat_int_int.f (l0 : List (List Int)) : Option (List Int) := if catLen l0 < 17592186044416 then some l0.flatten else none
set_option maxHeartbeats 2000000 in
set_option maxRecDepth 100000 in
theorem slices_Concat_int_int.calls (A0 : Option Addr) (c0 : Nat) (l0 : List (List Int)) (r : List Int) (w : World) (hr0 : Kd.C (Kd.slice 3 (Kd.int .i64)) w A0 l0.length l0) (hc0 : l0.length ≤ c0) (h : slices_Concat_int_int.f l0 = some r) :
  Calls Try.prog 56 #[.slice A0 l0.length c0] w fun e w' => ∃ v0_ : Value, e = .returned (v0_) ∧ Kd.R (Kd.int .i64) 3 w' w.heap.size (fun _ => True) v0_ r ∧ Below w.heap.size w w' := by
 unfold slices_Concat_int_int.f at h
 by_cases hl : catLen l0 < 17592186044416
 case neg => rw [if_neg hl] at h; cases h
 rw [if_pos hl] at h
 obtain rfl := Option.some.inj h
 clear h
 have hml := Kd.C_max hr0
 have LM := Aside0.mk hl
 have HR0 := Aside0.mk hr0
 clear hr0 hl
 go_enter Try.func56, Try.ntmps56
 go_wp2
 go_loopg [3, 11] l0.length (fun gg v3 v11 wr => ∃ i : Nat, i + gg = l0.length ∧ v3 = .int .i64 (catLen (l0.take i) : Int) ∧ v11 = .int .i64 i ∧ Aside0 (wr = w))
 case atStart => exact ⟨0, by omega, by simp [catLen], rfl, ⟨rfl⟩⟩
 case round =>
  obtain ⟨i, hi, rfl, rfl, HW⟩ := hrel
  obtain rfl := HW.out.symm
  clear HW
  by_cases hil : i < l0.length
  ·
   obtain ⟨ad, Ai, ci, hA, hx, hci, _⟩ := rows_at HR0.out i hil
   subst hA
   have hs := catLen_take l0 i hil
   have hb1 := catLen_le l0 (i + 1)
   have hb2 := LM.out
   have HS := Aside0.mk hs
   obtain ⟨s, hse⟩ : ∃ s, s = catLen (l0.take i) := ⟨_, rfl⟩
   obtain ⟨q, hqe⟩ : ∃ q, q = (l0.getD i []).length := ⟨_, rfl⟩
   have HE := Aside0.mk hse
   have HQ := Aside0.mk hqe
   rw [← hse, ← hqe] at hs
   rw [← hqe] at hx
   rw [← hse]
   have hsb : s + q < 17592186044416 := by omega
   clear hs hb1 hb2 hse hqe hci
   have d1 : decide ((i : Int) < (l0.length : Int)) = true := decide_eq_true (by omega)
   have d2 : decide (i < l0.length) = true := decide_eq_true hil
   have d3 : decide ((s : Int) + (q : Int) < 0) = false := decide_eq_false (by omega)
   have u1 : IntKind.i64.wrap ((s : Int) + (q : Int)) = (s : Int) + (q : Int) := IntWalk.i64_in _ (by omega)
   have u2 : IntKind.i64.wrap ((i : Int) + 1) = (i : Int) + 1 := IntWalk.i64_in _ (by omega)
   go_wp2
   go_roundg (gk - 1)
   case measure => omega
   case rel => exact ⟨i + 1, by omega, by rw [HS.out, ← HE.out, ← HQ.out]; first | rfl | simp, by go_num, ⟨rfl⟩⟩
  ·
   have d1 : decide ((i : Int) < (l0.length : Int)) = false := decide_eq_false (by omega)
   have d2 : decide (i < l0.length) = false := decide_eq_false hil
   have hti : l0.take i = l0 := List.take_of_length_le (by omega)
   rw [hti]
   clear hti
   obtain ⟨s, hse⟩ : ∃ s, s = catLen l0 := ⟨_, rfl⟩
   have HE := Aside0.mk hse
   rw [← hse]
   clear hse
   go_wp2_with fail
   refine (slices_Grow_int_int.atNil s _ (by have := LM.out; have := HE.out; omega)).mono ?_
   rintro e w1 ⟨v1, rfl, ho, hb⟩
   have HO := Aside0.mk ho
   have HB := Aside0.mk hb
   clear ho hb
   go_wp2
   go_loopg [6, 27] l0.length (fun gg v6 v27 wr => ∃ i : Nat, i + gg = l0.length ∧ v27 = .int .i64 i ∧ Aside0 (Kd.R (Kd.int .i64) 3 wr w.heap.size (fun _ => True) v6 (l0.take i).flatten) ∧ Aside0 (Below w.heap.size w wr))
   case atStart => exact ⟨0, by omega, rfl, ⟨by simpa using HO.out⟩, HB⟩
   case round =>
    clear HO HB
    obtain ⟨i, hi, rfl, HO, HB⟩ := hrel
    by_cases hil : i < l0.length
    ·
     obtain ⟨ad, Ai, ci, hA, hx, hci, hCi⟩ := rows_at HR0.out i hil
     subst hA
     have HF := Aside0.mk (flatten_take l0 i hil)
     have HLe := Aside0.mk (show ((l0.take i).flatten.length + (l0.getD i []).length) * 8 ≤ 140737488355328 by rw [catLen_flatten, ← catLen_take l0 i hil]; have := catLen_le l0 (i + 1); have := LM.out; omega)
     replace hx := pw_cell_below HB.out hx
     have HC := Aside0.mk (Kd.C_below hCi HB.out)
     obtain ⟨y, hy⟩ : ∃ y, y = l0.getD i [] := ⟨_, rfl⟩
     have HY := Aside0.mk hy
     rw [← hy] at hx HC HLe HF
     obtain ⟨xs, hxs⟩ : ∃ xs, xs = (l0.take i).flatten := ⟨_, rfl⟩
     have HX := Aside0.mk hxs
     rw [← hxs] at HO HLe HF
     clear hCi hci hy hxs
     have d1 : decide ((i : Int) < (l0.length : Int)) = true := decide_eq_true (by omega)
     have d2 : decide (i < l0.length) = true := decide_eq_true hil
     have u2 : IntKind.i64.wrap ((i : Int) + 1) = (i : Int) + 1 := IntWalk.i64_in _ (by omega)
     go_wp2_with ((with_reducible refine gate_builtin (b := .append) (xs := #[.tmp 31, .tmp 32]) rfl ?_); at_builtin; refine Kd.R_append_rows (Kd.int .i64) (w0 := w) w.heap.size rfl (.tmp 31) (.tmp 32) 22 3 (.int .i64 0) 8 rfl Try.underlying22 info3 rfl (by decide) (by omega) _ xs y _ _ _ (fun _ => True) (fun _ => False) rfl rfl ?aO ?aR (fun _ _ h => h) (fun _ h => h.elim) (fun _ _ => trivial) ?aB ?aS ?aL ?_; (case aO => exact HO.out); (case aR => exact HC.out); (case aB => exact HB.out); (case aS => exact HB.out.size); (case aL => exact HLe.out); intro v2 w2 ho hb _ _; have n0_ := Aside0.mk ho; have n1_ := Aside0.mk hb; clear HO HB; have HO := n0_; have HB := n1_; clear n0_ n1_ ho hb)
     go_roundg (gk - 1)
     case measure => omega
     case rel => exact ⟨i + 1, by omega, by go_num, ⟨by rw [HF.out]; exact HO.out⟩, HB⟩
    ·
     have d1 : decide ((i : Int) < (l0.length : Int)) = false := decide_eq_false (by omega)
     have d2 : decide (i < l0.length) = false := decide_eq_false hil
     have hti : l0.take i = l0 := List.take_of_length_le (by omega)
     rw [hti] at HO
     clear hti
     go_wp2
     go_ret
     exact ⟨_, rfl, HO.out, HB.out⟩


end Go.Proofs.Ytaofihdmgdpenaa.X

namespace Go.Proofs.Ytaofihdmgdpenaa.X
open Go.RowKit Go.Proofs.YtaofihdmgdpenaaW.PrintWords Go.Proofs.YtaofihdmgdpenaaW.PrintLast Go.Proofs.YtaofihdmgdpenaaW.PrintMore
attribute [local go_sem] max2_int min2_int max_two min_two max_three min_three max_four min_four   -- for this text's walks alone
set_option linter.unusedVariables false
set_option linter.unusedSimpArgs false

/-! ### lru_Order: function 34 -/
def lru_Order.f (k : Nat) (l0_0 : List Int) (l0_1 : List Int) (l0_2 : List Bool) : Option (List Int × Int) := (lru_opened.f l0_0 l0_1 l0_2).bind fun t => if t.2.2.2 = 0 then ((slices_Reverse_int_int.f k t.2.1).bind fun x => (slices_Reverse_int_int.f k t.1).bind fun y => (slices_Concat_int_int.f [x, y]).bind fun z => some (z, 0)) else some ([], t.2.2.2)
theorem lru_Order.mono : ∀ a0 a1 a2 k, LeO (lru_Order.f k a0 a1 a2) (lru_Order.f (k + 1) a0 a1 a2) := by
 intro a0 a1 a2 k
 unfold lru_Order.f
 refine LeO.bind (LeO.refl _) (fun _ => LeO.ite ?_ (LeO.refl _))
 refine LeO.bind (slices_Reverse_int_int.mono _ _) (fun _ => LeO.bind (slices_Reverse_int_int.mono _ _) (fun _ => LeO.refl _))
set_option maxHeartbeats 4000000 in
set_option maxRecDepth 100000 in
theorem lru_Order.calls (k : Nat) (A0_0 : Option Addr) (c0_0 : Nat) (l0_0 : List Int) (A0_1 : Option Addr) (c0_1 : Nat) (l0_1 : List Int) (A0_2 : Option Addr) (c0_2 : Nat) (l0_2 : List Bool) (r1 : List Int) (r2 : Int) (w : World) (hr0_0 : Kd.C (Kd.int .i64) w A0_0 l0_0.length l0_0) (hc0_0 : l0_0.length ≤ c0_0) (hr0_1 : Kd.C (Kd.int .i64) w A0_1 l0_1.length l0_1) (hc0_1 : l0_1.length ≤ c0_1) (hr0_2 : Kd.C Kd.bool w A0_2 l0_2.length l0_2) (hc0_2 : l0_2.length ≤ c0_2) (h : lru_Order.f k l0_0 l0_1 l0_2 = some (r1, r2)) :
  Calls Try.prog 34 #[.agg #[.slice A0_0 l0_0.length c0_0, .slice A0_1 l0_1.length c0_1, .slice A0_2 l0_2.length c0_2]] w fun e w' => ∃ v0_ : Value, e = .returned (.tuple #[v0_, .int .i64 r2]) ∧ Kd.R (Kd.int .i64) 3 w' w.heap.size (fun _ => True) v0_ r1 ∧ Below w.heap.size w w' := by
 have hu25 := Try.underlying25
 unfold lru_Order.f at h
 obtain ⟨⟨t1, t2, t3, er⟩, hab, H⟩ := Option.bind_eq_some_iff.mp h
 simp only at H
 clear h
 have HAB := Aside0.mk hab
 have HR0 := Aside0.mk hr0_0
 have HR1 := Aside0.mk hr0_1
 have HR2 := Aside0.mk hr0_2
 clear hab hr0_0 hr0_1 hr0_2
 go_enter Try.func34, Try.ntmps34
 go_wp2_with fail
 refine (lru_opened.calls _ _ l0_0 _ _ l0_1 _ _ l0_2 t1 t2 t3 er _ (Kd.C_alloc HR0.out _) hc0_0 (Kd.C_alloc HR1.out _) hc0_1 (Kd.C_alloc HR2.out _) hc0_2 HAB.out).mono ?_
 rintro e w1 ⟨v0, v1, v2, rfl, ho0, ho1, ho2, hb1⟩
 obtain ⟨B0, d0, rfl⟩ := Kd.R_slice ho0
 obtain ⟨B1, d1, rfl⟩ := Kd.R_slice ho1
 obtain ⟨B2, d2, rfl⟩ := Kd.R_slice ho2
 have HB1 := Aside0.mk (below_then (below_alloc (Below.refl w.heap.size w) _) (by simp) hb1)
 have HO0 := Aside0.mk (Kd.R_lower ho0 (show w.heap.size ≤ _ by simp))
 have HO1 := Aside0.mk (Kd.R_lower ho1 (show w.heap.size ≤ _ by simp))
 clear ho0 ho1 ho2 hb1 HR0 HR1 HR2 HAB
 by_cases c : er = 0
 case neg =>
  rw [if_neg c] at H
  simp only [Option.some.injEq, Prod.mk.injEq] at H
  obtain ⟨rfl, rfl⟩ := H
  have e1 : (er != 0) = true := bne_iff_ne.mpr c
  clear c
  go_wp2
  go_ret2
  exact ⟨_, rfl, Kd.R_nil _ _ _ _ _, below_alloc HB1.out _⟩
 rw [if_pos c] at H
 subst c
 obtain ⟨x1, hx1, H⟩ := Option.bind_eq_some_iff.mp H
 obtain ⟨x0, hx0, H⟩ := Option.bind_eq_some_iff.mp H
 obtain ⟨z, hz, H⟩ := Option.bind_eq_some_iff.mp H
 simp only [Option.some.injEq, Prod.mk.injEq] at H
 obtain ⟨rfl, rfl⟩ := H
 have X1 := Aside0.mk hx1
 have X0 := Aside0.mk hx0
 have Z := Aside0.mk hz
 clear hx1 hx0 hz
 go_wp2_with fail
 have hA0 := Kd.R_alloc HO0.out (.cells #[.slice B0 t1.length d0, .slice B1 t2.length d1, .slice B2 t3.length d2] 25)
 have hA1 := Kd.R_alloc HO1.out (.cells #[.slice B0 t1.length d0, .slice B1 t2.length d1, .slice B2 t3.length d2] 25)
 have hb4 := blk_new w1 (.cells #[.slice B0 t1.length d0, .slice B1 t2.length d1, .slice B2 t3.length d2] 25)
 refine (slices_Reverse_int_int.calls k (fun k_ => some k_ = (Value.slice B1 t2.length d1).ownBlock) _ t2 x1 w _ (below_alloc HB1.out _) (Kd.R_of_own (Kd.own_of_R hA1) (fun _ hk => hk.symm)) X1.out).mono ?_
 rintro e w2 ⟨rfl, hR1, hB2, hK2⟩
 have hS0 := Kd.R_step hA0 (fun k_ hk hlt => hK2.2 k_ hlt hk)
 have hb42 := (hK2.2 _ (by simp) (Kd.R_ne hA1 hb4 (by decide))).trans hb4
 have hS1 := Kd.R_of_own (ok := fun k_ => some k_ ≠ (Value.slice B0 t1.length d0).ownBlock) (h1 := fun _ => rfl) (Kd.own_of_R hR1) (fun k_ hk => HO1.out.1 k_ hk)
 have hy0 := (blk_cell hb42 0).trans rfl
 have hy1 := (blk_cell hb42 1).trans rfl
 have hy2 := (blk_cell hb42 2).trans rfl
 have S0 := Aside0.mk hS0
 have S1 := Aside0.mk hS1
 have HB2 := Aside0.mk hB2
 have BK := Aside0.mk hb42
 clear hA0 hA1 hb4 hR1 hB2 hK2 hS0 hS1 hb42
 go_wp2_with fail
 refine (slices_Reverse_int_int.calls k (fun k_ => some k_ = (Value.slice B0 t1.length d0).ownBlock) _ t1 x0 w _ HB2.out (Kd.R_of_own (Kd.own_of_R S0.out) (fun _ hk => hk.symm)) X0.out).mono ?_
 rintro e w3 ⟨rfl, hR0, hB3, hK3⟩
 have hT1 := Kd.R_step S1.out (fun k_ hk hlt => hK3.2 k_ hlt hk)
 have hb43 := (hK3.2 _ (blk_lt BK.out) (Kd.R_ne S0.out BK.out (by decide))).trans BK.out
 obtain ⟨q1, q2, q3⟩ := Kd.R_reads' hT1
 obtain ⟨p1, p2, p3⟩ := Kd.R_reads' hR0
 clear hy0 hy1 hy2
 have hy0 := (blk_cell hb43 0).trans rfl
 have hy1 := (blk_cell hb43 1).trans rfl
 have hy2 := (blk_cell hb43 2).trans rfl
 have HB3 := Aside0.mk hB3
 have HC0 := Aside0.mk p3
 have HC1 := Aside0.mk q3
 have HL := Aside0.mk (And.intro (And.intro q1 q2) (And.intro p1 p2))
 clear hR0 hB3 hK3 hT1 hb43 q1 q2 q3 p1 p2 p3
 go_wp2_with fail
 have hl := HL.out
 have hc : Kd.C (Kd.slice 3 (Kd.int .i64)) (w3.alloc (.cells #[.slice B1 t2.length d1, .slice B0 t1.length d0] 22)) (some ⟨w3.heap.size, 0, none⟩) [x1, x0].length [x1, x0] := rows_mk (blk_new _ _) rfl (by simp) (fun i hi => by
  rcases i with _ | _ | i
  ·
   exact ⟨B1, d1, by simp [hl.1.1], by simp; omega, Kd.C_alloc HC1.out _⟩
  ·
   exact ⟨B0, d0, by simp [hl.2.1], by simp; omega, Kd.C_alloc HC0.out _⟩
  ·
   simp at hi; omega) rfl
 refine (slices_Concat_int_int.calls _ 2 [x1, x0] z _ hc (by simp) Z.out).mono ?_
 rintro e w4 ⟨v', rfl, hR', hb'⟩
 have hbz := below_then (below_alloc HB3.out _) (by have := HB3.out.size; simp; omega) hb'
 have hRz := Kd.R_lower hR' (show w.heap.size ≤ _ by have := HB3.out.size; simp; omega)
 obtain ⟨B3, d3, rfl⟩ := Kd.R_slice hRz
 have RZ := Aside0.mk hRz
 have BZ := Aside0.mk hbz
 clear hR' hb' hbz hRz hc hl
 go_wp2
 go_ret2
 exact ⟨_, rfl, RZ.out, BZ.out⟩


end Go.Proofs.Ytaofihdmgdpenaa.X

namespace Go.Proofs.Ytaofihdmgdpenaa.X
open Go.RowKit Go.Proofs.YtaofihdmgdpenaaW.PrintWords Go.Proofs.YtaofihdmgdpenaaW.PrintLast Go.Proofs.YtaofihdmgdpenaaW.PrintMore
attribute [local go_sem] max2_int min2_int max_two min_two max_three min_three max_four min_four   -- for this text's walks alone
set_option linter.unusedVariables false
set_option linter.unusedSimpArgs false

/-! ### lru_Last: function 37 -/
def lru_Last.f (l0_0 : List Int) (l0_1 : List Int) (l0_2 : List Bool) : Option (Int × Int) := (lru_Check.f l0_0 l0_1 l0_2).bind fun t530 => (if t530 = 0 then ((slices_Concat_int_int.f (([l0_1, l0_0] : List (List Int)))).bind fun t534 => (if (l0_1.length : Int) > 0 then (if 0 ≤ (wrap64 ((l0_1.length : Int) - 1)) then (if (wrap64 ((l0_1.length : Int) - 1)) < (l0_1.length : Int) then (some (rd l0_1 (wrap64 ((l0_1.length : Int) - 1)), 0)) else (none)) else (none)) else (if (t534.length : Int) > 0 then (if 0 ≤ (wrap64 ((t534.length : Int) - 1)) then (if (wrap64 ((t534.length : Int) - 1)) < (t534.length : Int) then (some (rd t534 (wrap64 ((t534.length : Int) - 1)), 0)) else (none)) else (none)) else (some (0, 6))))) else (some (0, t530)))
set_option maxHeartbeats 2000000 in
set_option maxRecDepth 100000 in
theorem lru_Last.calls (P0_0_ : Nat → Prop) (A0_0 : Option Addr) (c0_0 : Nat) (l0_0 : List Int) (P0_1_ : Nat → Prop) (A0_1 : Option Addr) (c0_1 : Nat) (l0_1 : List Int) (A0_2 : Option Addr) (c0_2 : Nat) (l0_2 : List Bool) (r1 : Int) (r2 : Int) (w : World) (hs0_0 : Kd.V (Kd.int .i64) 3 w w.heap.size (fun k_ => P0_0_ k_) (.slice A0_0 l0_0.length c0_0) l0_0) (hs0_1 : Kd.V (Kd.int .i64) 3 w w.heap.size (fun k_ => P0_1_ k_) (.slice A0_1 l0_1.length c0_1) l0_1) (hr0_2 : Kd.C Kd.bool w A0_2 l0_2.length l0_2) (hc0_2 : l0_2.length ≤ c0_2) (h : lru_Last.f l0_0 l0_1 l0_2 = some (r1, r2)) :
  Calls Try.prog 37 #[.agg #[.slice A0_0 l0_0.length c0_0, .slice A0_1 l0_1.length c0_1, .slice A0_2 l0_2.length c0_2]] w fun e w' => e = .returned (.tuple #[.int .i64 r1, .int .i64 r2]) ∧ Below w.heap.size w w' := by
 have hu25 := Try.underlying25
 have HO0_0 := Aside0.mk (show Kd.V (Kd.int .i64) 3 w w.heap.size (fun k_ => ((P0_0_ k_ ∨ P0_1_ k_) ∨ w.heap.size ≤ k_)) (.slice A0_0 l0_0.length c0_0) l0_0 from Kd.V_mono hs0_0 (fun k_ hk => .inl (.inl hk)))
 have HO0_1 := Aside0.mk (show Kd.V (Kd.int .i64) 3 w w.heap.size (fun k_ => ((P0_0_ k_ ∨ P0_1_ k_) ∨ w.heap.size ≤ k_)) (.slice A0_1 l0_1.length c0_1) l0_1 from Kd.V_mono hs0_1 (fun k_ hk => .inl (.inr hk)))
 have HR0_2 := Aside0.mk hr0_2
 have HC0_2 := Aside0.mk hc0_2
 clear hr0_2 hc0_2
 have HB := Aside0.mk (Below.refl w.heap.size w)
 have H : ((lru_Check.f l0_0 l0_1 l0_2).bind fun t530 => (if t530 = 0 then ((slices_Concat_int_int.f (([l0_1, l0_0] : List (List Int)))).bind fun t534 => (if (l0_1.length : Int) > 0 then (if 0 ≤ (wrap64 ((l0_1.length : Int) - 1)) then (if (wrap64 ((l0_1.length : Int) - 1)) < (l0_1.length : Int) then (some (rd l0_1 (wrap64 ((l0_1.length : Int) - 1)), 0)) else (none)) else (none)) else (if (t534.length : Int) > 0 then (if 0 ≤ (wrap64 ((t534.length : Int) - 1)) then (if (wrap64 ((t534.length : Int) - 1)) < (t534.length : Int) then (some (rd t534 (wrap64 ((t534.length : Int) - 1)), 0)) else (none)) else (none)) else (some (0, 6))))) else (some (0, t530)))) = some (r1, r2) := h
 clear h
 replace H := Option.bind_eq_some_iff.mp H
 obtain ⟨t530, A20, H⟩ := H
 replace H : (if t530 = 0 then ((slices_Concat_int_int.f (([l0_1, l0_0] : List (List Int)))).bind fun t534 => (if (l0_1.length : Int) > 0 then (if 0 ≤ (wrap64 ((l0_1.length : Int) - 1)) then (if (wrap64 ((l0_1.length : Int) - 1)) < (l0_1.length : Int) then (some (rd l0_1 (wrap64 ((l0_1.length : Int) - 1)), 0)) else (none)) else (none)) else (if (t534.length : Int) > 0 then (if 0 ≤ (wrap64 ((t534.length : Int) - 1)) then (if (wrap64 ((t534.length : Int) - 1)) < (t534.length : Int) then (some (rd t534 (wrap64 ((t534.length : Int) - 1)), 0)) else (none)) else (none)) else (some (0, 6))))) else (some (0, t530))) = some (r1, r2) := H
 have A2 := Aside0.mk A20
 clear A20
 by_cases c3 : t530 = 0
 ·
  rw [if_pos c3] at H
  have c3b0 : (t530 == 0) = true := beq_iff_eq.mpr c3
  have c3b1 : (t530 != 0) = false := bne_eq_false_iff_eq.mpr c3
  clear c3
  obtain ⟨y531, hy531⟩ : ∃ y_ : List (List Int), y_ = (([l0_1, l0_0] : List (List Int))) := ⟨_, rfl⟩
  replace H : ((slices_Concat_int_int.f y531).bind fun t534 => (if (l0_1.length : Int) > 0 then (if 0 ≤ (wrap64 ((l0_1.length : Int) - 1)) then (if (wrap64 ((l0_1.length : Int) - 1)) < (l0_1.length : Int) then (some (rd l0_1 (wrap64 ((l0_1.length : Int) - 1)), 0)) else (none)) else (none)) else (if (t534.length : Int) > 0 then (if 0 ≤ (wrap64 ((t534.length : Int) - 1)) then (if (wrap64 ((t534.length : Int) - 1)) < (t534.length : Int) then (some (rd t534 (wrap64 ((t534.length : Int) - 1)), 0)) else (none)) else (none)) else (some (0, 6))))) = some (r1, r2) := by first | (rw [hy531]; with_reducible exact H) | (have H2_ := (Option.bind_some _ _).symm.trans H; rw [hy531]; with_reducible exact H2_) | (have H2_ := (Option.bind_some _ _).symm.trans H; with_reducible exact H2_) | with_reducible exact H | (rw [hy531]; exact H) | exact H
  have Ny531 := Aside0.mk hy531
  clear hy531
  replace H := Option.bind_eq_some_iff.mp H
  obtain ⟨t534, A40, H⟩ := H
  replace H : (if (l0_1.length : Int) > 0 then (if 0 ≤ (wrap64 ((l0_1.length : Int) - 1)) then (if (wrap64 ((l0_1.length : Int) - 1)) < (l0_1.length : Int) then (some (rd l0_1 (wrap64 ((l0_1.length : Int) - 1)), 0)) else (none)) else (none)) else (if (t534.length : Int) > 0 then (if 0 ≤ (wrap64 ((t534.length : Int) - 1)) then (if (wrap64 ((t534.length : Int) - 1)) < (t534.length : Int) then (some (rd t534 (wrap64 ((t534.length : Int) - 1)), 0)) else (none)) else (none)) else (some (0, 6)))) = some (r1, r2) := H
  have A4 := Aside0.mk A40
  clear A40
  by_cases c5 : (l0_1.length : Int) > 0
  ·
   rw [if_pos c5] at H
   have c5b0 : decide (0 < (l0_1.length : Int)) = true := decide_eq_true c5
   have c5b1 : decide (0 < l0_1.length) = true := decide_eq_true (by omega)
   clear c5
   obtain ⟨ji6, hji6⟩ : ∃ j_ : Int, (wrap64 ((l0_1.length : Int) - 1)) = j_ := ⟨_, rfl⟩
   replace H : (if 0 ≤ (ji6) then (if (ji6) < (l0_1.length : Int) then (some (rd l0_1 (ji6), 0)) else (none)) else (none)) = some (r1, r2) := by first | (rw [hji6] at H; exact H) | (simp only [hji6] at H ⊢; exact H)
   (try rw [hji6] at A2)
   (try rw [hji6] at A4)
   have hji6w : (IntKind.i64.wrap ((l0_1.length : Int) - 1)) = ji6 := (i64_w _).trans hji6
   by_cases c7 : 0 ≤ (ji6)
   ·
    rw [if_pos c7] at H
    have c7b0 : decide (0 ≤ (ji6)) = true := decide_eq_true c7
    clear c7
    by_cases c8 : (ji6) < (l0_1.length : Int)
    ·
     rw [if_pos c8] at H
     have c8b0 : decide ((ji6) < (l0_1.length : Int)) = true := decide_eq_true c8
     clear c8
     simp only [Option.some.injEq, Prod.mk.injEq] at H
     obtain ⟨rfl, rfl⟩ := H
     go_enter Try.func37, Try.ntmps37
     go_wp2_with (first | ((with_reducible refine gate_dst (N := 1) rfl ?_); refine box_event ?hg (N := 1) ?hd (cs := #[.slice A0_0 l0_0.length c0_0, .slice A0_1 l0_1.length c0_1, .slice A0_2 l0_2.length c0_2]) (t := 25) ?hr ?_; (case hd => rfl); (case hg => rfl); (case hr => first | (go_simp; done) | (go_simp; rfl)); intro gb529 hg w9 hbox hb; have n0_ := Aside0.mk (Kd.V_below (Kd.V_elderB (upV HO0_0.out) gb529 (Nat.le_of_eq hg.symm)) hb); have n1_ := Aside0.mk (Kd.V_below (Kd.V_elderB (upV HO0_1.out) gb529 (Nat.le_of_eq hg.symm)) hb); have n2_ := Aside0.mk (below_step (upH HB) hb); have n3_ := Aside0.mk (hbox); have n4_ := Aside0.mk ((by rw [hg]; exact (below_size (upH HB)) : w.heap.size ≤ gb529)); have n5_ := Aside0.mk ((by rw [hg]; exact (below_size (upH HB)) : w.heap.size ≤ gb529)); clear HO0_0; clear HO0_1; clear HB; have HO0_0 := n0_; have HO0_1 := n1_; have HB := n2_; have BK529 := n3_; have GW529 := n4_; have GE529 := n5_; clear n0_ n1_ n2_ n3_ n4_ n5_; clear hb hbox hg; have hcz10_0 := cell0 BK529; have hcz10_1 := cell1 BK529; have hcz10_2 := cell2 BK529; have hfz10_0 := blk_frozen BK529.out 0; have hfz10_1 := blk_frozen BK529.out 1; have hfz10_2 := blk_frozen BK529.out 2) | ((with_reducible refine gate_callee (f := 16) rfl ?_); refine goesL_ (some 7) rfl rfl Try.func16 (by kernel_rfl) rfl #[.agg #[.slice A0_0 l0_0.length c0_0, .slice A0_1 l0_1.length c0_1, .slice A0_2 l0_2.length c0_2]] rfl (args_ (p := _)) ?_; (with_reducible refine (lru_Check.calls _ _ l0_0 _ _ l0_1 _ _ l0_2 t530 _ ?side1 ?side2 ?side3 ?side4 ?side5 ?side6 A2.out).mono ?_); (case side1 => exact upc (Kd.V_reads' HO0_0.out).2.2); (case side2 => exact (Kd.V_reads' HO0_0.out).2.1); (case side3 => exact upc (Kd.V_reads' HO0_1.out).2.2); (case side4 => exact (Kd.V_reads' HO0_1.out).2.1); (case side5 => exact upc (Kd.C_below HR0_2.out HB.out)); (case side6 => exact HC0_2.out); rintro e w11 ⟨rfl, hb⟩; refine ⟨_, rfl, ?_⟩; have n0_ := Aside0.mk (Kd.V_below (upV HO0_0.out) hb); have n1_ := Aside0.mk (Kd.V_below (upV HO0_1.out) hb); have n2_ := Aside0.mk (blkB BK529 hb); have n3_ := Aside0.mk (below_step (upH HB) hb); clear HO0_0; clear HO0_1; clear BK529; clear HB; have HO0_0 := n0_; have HO0_1 := n1_; have BK529 := n2_; have HB := n3_; clear n0_ n1_ n2_ n3_; (try clear hb); (try clear hb2); (try clear hk); (try clear hi); have hcz12_0 := cell0 BK529; have hcz12_1 := cell1 BK529; have hcz12_2 := cell2 BK529; have hfz12_0 := blk_frozen BK529.out 0; have hfz12_1 := blk_frozen BK529.out 1; have hfz12_2 := blk_frozen BK529.out 2) | ((with_reducible refine gate_dst (N := 15) rfl ?_); refine Kd.N_lit (Kd.slice 3 (Kd.int .i64)) _ 22 ?hg (N' := 15) ?hd (xs := ([l0_1, l0_0] : List (List Int))) (inner := [.slice A0_1 l0_1.length c0_1, .slice A0_0 l0_0.length c0_0]) (ok := (fun k_ => ((P0_0_ k_ ∨ P0_1_ k_) ∨ w.heap.size ≤ k_) ∧ k_ ≠ gb529)) (okp := (fun k_ => ((P0_0_ k_ ∨ P0_1_ k_) ∨ w.heap.size ≤ k_) ∧ k_ ≠ gb529)) ?hr ?hp (fun _ hk => hk) ((show ∀ k_, w11.heap.size ≤ k_ → (fun k_ => ((P0_0_ k_ ∨ P0_1_ k_) ∨ w.heap.size ≤ k_) ∧ k_ ≠ gb529) k_ from fun k_ hk => ⟨(.inr (Nat.le_trans (below_size (upH HB)) hk)), Kd.freshB (g := gb529) (o := .cells #[.slice A0_0 l0_0.length c0_0, .slice A0_1 l0_1.length c0_1, .slice A0_2 l0_2.length c0_2] 25 (0, 0)) (upB BK529) k_ hk⟩) _ (Nat.le_refl _)) (Below.refl _ _) (Nat.le_refl _) (by simp) ?_; (case hd => rfl); (case hg => rfl); (case hr => first | (go_simp; done) | (go_simp; rfl)); (case hp => exact (Reps.one (show Kd.FK (Kd.slice 3 (Kd.int .i64)) _ _ l0_1 [.slice A0_1 l0_1.length c0_1] from (Kd.FK_slice_mk (Kd.V_reads' (Kd.V_mono (ok' := (fun k_ => ((P0_0_ k_ ∨ P0_1_ k_) ∨ w.heap.size ≤ k_) ∧ k_ ≠ gb529)) (HO0_1.out) (fun k_ hk => ⟨hk.1, hk.2⟩))).2.1 (Kd.V_F (Kd.V_mono (ok' := (fun k_ => ((P0_0_ k_ ∨ P0_1_ k_) ∨ w.heap.size ≤ k_) ∧ k_ ≠ gb529)) (HO0_1.out) (fun k_ hk => ⟨hk.1, hk.2⟩))))) (Reps.one (show Kd.FK (Kd.slice 3 (Kd.int .i64)) _ _ l0_0 [.slice A0_0 l0_0.length c0_0] from (Kd.FK_slice_mk (Kd.V_reads' (Kd.V_mono (ok' := (fun k_ => ((P0_0_ k_ ∨ P0_1_ k_) ∨ w.heap.size ≤ k_) ∧ k_ ≠ gb529)) (HO0_0.out) (fun k_ hk => ⟨hk.1, hk.2⟩))).2.1 (Kd.V_F (Kd.V_mono (ok' := (fun k_ => ((P0_0_ k_ ∨ P0_1_ k_) ∨ w.heap.size ≤ k_) ∧ k_ ≠ gb529)) (HO0_0.out) (fun k_ hk => ⟨hk.1, hk.2⟩))))) (Reps.none _ _)))); intro v532 w13 ho14 hb hg_ hnew_; clear hg_ hnew_; (first | rw [← Ny531.out] at ho14 | (simp only [Int.reduceToNat] at ho14; rw [← Ny531.out] at ho14)); have n0_ := Aside0.mk (Kd.V_elder' (upV HO0_0.out) (Kd.N_base ho14) hb); have n1_ := Aside0.mk (Kd.V_elder' (upV HO0_1.out) (Kd.N_base ho14) hb); have n2_ := Aside0.mk (Kd.N_lower ho14 (below_size (upH HB))); have n3_ := Aside0.mk (blkB BK529 hb); have n4_ := Aside0.mk (below_step (upH HB) hb); clear HO0_0; clear HO0_1; clear BK529; clear HB; have HO0_0 := n0_; have HO0_1 := n1_; have HO533 := n2_; have BK529 := n3_; have HB := n4_; clear n0_ n1_ n2_ n3_ n4_; clear hb ho14; obtain ⟨Ao15, co15, eo15⟩ := Kd.N_slice HO533.out; subst eo15) | ((with_reducible refine gate_callee (f := 56) rfl ?_); refine goesL_ (some 16) rfl rfl Try.func56 (by kernel_rfl) rfl #[.slice Ao15 y531.length co15] rfl (args_ (p := _)) ?_; (with_reducible refine (slices_Concat_int_int.calls _ _ y531 t534 _ ?side1 ?side2 A4.out).mono ?_); (case side1 => exact upc (Kd.N_reads' HO533.out).2.2); (case side2 => exact (Kd.N_reads' HO533.out).2.1); rintro e w16 ⟨v535, rfl, ho0, hb⟩; refine ⟨_, rfl, ?_⟩; have n0_ := Aside0.mk (Kd.V_elder' (upV HO0_0.out) (Kd.R_base ho0) hb); have n1_ := Aside0.mk (Kd.V_elder' (upV HO0_1.out) (Kd.R_base ho0) hb); have n2_ := Aside0.mk (Kd.N_elder' (upN HO533.out) (Kd.R_base ho0) hb); have n3_ := Aside0.mk (Kd.R_lower (Kd.R_newM (M := fun k_ => (w.heap.size ≤ k_)) ho0 (below_size (upH HB)) (fun k_ h_ => h_)) (below_size (upH HB))); have n4_ := Aside0.mk (blkB BK529 hb); have n5_ := Aside0.mk (below_step (upH HB) hb); clear HO0_0; clear HO0_1; clear HO533; clear BK529; clear HB; have HO0_0 := n0_; have HO0_1 := n1_; have HO533 := n2_; have HO536 := n3_; have BK529 := n4_; have HB := n5_; clear n0_ n1_ n2_ n3_ n4_ n5_; (try clear hb); (try clear hb2); (try clear hk); (try clear hi); (try clear ho0); have hcz17_0 := cell0 BK529; have hcz17_1 := cell1 BK529; have hcz17_2 := cell2 BK529; have hfz17_0 := blk_frozen BK529.out 0; have hfz17_1 := blk_frozen BK529.out 1; have hfz17_2 := blk_frozen BK529.out 2; have p537 : 0 ≤ ((ji6) : Int) := of_decide_eq_true (asm_ (p := _)); have q537 : (ji6) < (l0_1.length : Int) := of_decide_eq_true (asm_ (p := _)); obtain ⟨ad537, e537, hx537_0⟩ := Kd.at_int (Kd.V_reads' HO0_1.out).2.2 (ji6) p537 q537; cases e537; replace p537 := eq_true p537; replace q537 := eq_true q537))
     go_ret2
     exact ⟨by first | rfl | (simp [errW_none, errW_some] <;> rfl) | (simp only [← hji6]; first | rfl | (simp [errW_none, errW_some] <;> rfl)) | (simp [*, errW_none, errW_some] <;> rfl), by repeat (first | (with_reducible first | exact HB.out | apply below_alloc | apply pw_below_drewN | apply below_drew1 | refine below_set ?_ GE529.out) | exact HB.out)⟩
    ·
     rw [if_neg c8] at H
     exact absurd H (by simp)
   ·
    rw [if_neg c7] at H
    exact absurd H (by simp)
  ·
   rw [if_neg c5] at H
   have c5b0 : decide (0 < (l0_1.length : Int)) = false := decide_eq_false c5
   have c5b1 : decide (0 < l0_1.length) = false := decide_eq_false (by omega)
   clear c5
   by_cases c18 : (t534.length : Int) > 0
   ·
    rw [if_pos c18] at H
    have c18b0 : decide (0 < (t534.length : Int)) = true := decide_eq_true c18
    have c18b1 : decide (0 < t534.length) = true := decide_eq_true (by omega)
    clear c18
    obtain ⟨ji19, hji19⟩ : ∃ j_ : Int, (wrap64 ((t534.length : Int) - 1)) = j_ := ⟨_, rfl⟩
    replace H : (if 0 ≤ (ji19) then (if (ji19) < (t534.length : Int) then (some (rd t534 (ji19), 0)) else (none)) else (none)) = some (r1, r2) := by first | (rw [hji19] at H; exact H) | (simp only [hji19] at H ⊢; exact H)
    (try rw [hji19] at A2)
    (try rw [hji19] at A4)
    have hji19w : (IntKind.i64.wrap ((t534.length : Int) - 1)) = ji19 := (i64_w _).trans hji19
    by_cases c20 : 0 ≤ (ji19)
    ·
     rw [if_pos c20] at H
     have c20b0 : decide (0 ≤ (ji19)) = true := decide_eq_true c20
     clear c20
     by_cases c21 : (ji19) < (t534.length : Int)
     ·
      rw [if_pos c21] at H
      have c21b0 : decide ((ji19) < (t534.length : Int)) = true := decide_eq_true c21
      clear c21
      simp only [Option.some.injEq, Prod.mk.injEq] at H
      obtain ⟨rfl, rfl⟩ := H
      go_enter Try.func37, Try.ntmps37
      go_wp2_with (first | ((with_reducible refine gate_dst (N := 1) rfl ?_); refine box_event ?hg (N := 1) ?hd (cs := #[.slice A0_0 l0_0.length c0_0, .slice A0_1 l0_1.length c0_1, .slice A0_2 l0_2.length c0_2]) (t := 25) ?hr ?_; (case hd => rfl); (case hg => rfl); (case hr => first | (go_simp; done) | (go_simp; rfl)); intro gb529 hg w22 hbox hb; have n0_ := Aside0.mk (Kd.V_below (Kd.V_elderB (upV HO0_0.out) gb529 (Nat.le_of_eq hg.symm)) hb); have n1_ := Aside0.mk (Kd.V_below (Kd.V_elderB (upV HO0_1.out) gb529 (Nat.le_of_eq hg.symm)) hb); have n2_ := Aside0.mk (below_step (upH HB) hb); have n3_ := Aside0.mk (hbox); have n4_ := Aside0.mk ((by rw [hg]; exact (below_size (upH HB)) : w.heap.size ≤ gb529)); have n5_ := Aside0.mk ((by rw [hg]; exact (below_size (upH HB)) : w.heap.size ≤ gb529)); clear HO0_0; clear HO0_1; clear HB; have HO0_0 := n0_; have HO0_1 := n1_; have HB := n2_; have BK529 := n3_; have GW529 := n4_; have GE529 := n5_; clear n0_ n1_ n2_ n3_ n4_ n5_; clear hb hbox hg; have hcz23_0 := cell0 BK529; have hcz23_1 := cell1 BK529; have hcz23_2 := cell2 BK529; have hfz23_0 := blk_frozen BK529.out 0; have hfz23_1 := blk_frozen BK529.out 1; have hfz23_2 := blk_frozen BK529.out 2) | ((with_reducible refine gate_callee (f := 16) rfl ?_); refine goesL_ (some 7) rfl rfl Try.func16 (by kernel_rfl) rfl #[.agg #[.slice A0_0 l0_0.length c0_0, .slice A0_1 l0_1.length c0_1, .slice A0_2 l0_2.length c0_2]] rfl (args_ (p := _)) ?_; (with_reducible refine (lru_Check.calls _ _ l0_0 _ _ l0_1 _ _ l0_2 t530 _ ?side1 ?side2 ?side3 ?side4 ?side5 ?side6 A2.out).mono ?_); (case side1 => exact upc (Kd.V_reads' HO0_0.out).2.2); (case side2 => exact (Kd.V_reads' HO0_0.out).2.1); (case side3 => exact upc (Kd.V_reads' HO0_1.out).2.2); (case side4 => exact (Kd.V_reads' HO0_1.out).2.1); (case side5 => exact upc (Kd.C_below HR0_2.out HB.out)); (case side6 => exact HC0_2.out); rintro e w24 ⟨rfl, hb⟩; refine ⟨_, rfl, ?_⟩; have n0_ := Aside0.mk (Kd.V_below (upV HO0_0.out) hb); have n1_ := Aside0.mk (Kd.V_below (upV HO0_1.out) hb); have n2_ := Aside0.mk (blkB BK529 hb); have n3_ := Aside0.mk (below_step (upH HB) hb); clear HO0_0; clear HO0_1; clear BK529; clear HB; have HO0_0 := n0_; have HO0_1 := n1_; have BK529 := n2_; have HB := n3_; clear n0_ n1_ n2_ n3_; (try clear hb); (try clear hb2); (try clear hk); (try clear hi); have hcz25_0 := cell0 BK529; have hcz25_1 := cell1 BK529; have hcz25_2 := cell2 BK529; have hfz25_0 := blk_frozen BK529.out 0; have hfz25_1 := blk_frozen BK529.out 1; have hfz25_2 := blk_frozen BK529.out 2) | ((with_reducible refine gate_dst (N := 15) rfl ?_); refine Kd.N_lit (Kd.slice 3 (Kd.int .i64)) _ 22 ?hg (N' := 15) ?hd (xs := ([l0_1, l0_0] : List (List Int))) (inner := [.slice A0_1 l0_1.length c0_1, .slice A0_0 l0_0.length c0_0]) (ok := (fun k_ => ((P0_0_ k_ ∨ P0_1_ k_) ∨ w.heap.size ≤ k_) ∧ k_ ≠ gb529)) (okp := (fun k_ => ((P0_0_ k_ ∨ P0_1_ k_) ∨ w.heap.size ≤ k_) ∧ k_ ≠ gb529)) ?hr ?hp (fun _ hk => hk) ((show ∀ k_, w24.heap.size ≤ k_ → (fun k_ => ((P0_0_ k_ ∨ P0_1_ k_) ∨ w.heap.size ≤ k_) ∧ k_ ≠ gb529) k_ from fun k_ hk => ⟨(.inr (Nat.le_trans (below_size (upH HB)) hk)), Kd.freshB (g := gb529) (o := .cells #[.slice A0_0 l0_0.length c0_0, .slice A0_1 l0_1.length c0_1, .slice A0_2 l0_2.length c0_2] 25 (0, 0)) (upB BK529) k_ hk⟩) _ (Nat.le_refl _)) (Below.refl _ _) (Nat.le_refl _) (by simp) ?_; (case hd => rfl); (case hg => rfl); (case hr => first | (go_simp; done) | (go_simp; rfl)); (case hp => exact (Reps.one (show Kd.FK (Kd.slice 3 (Kd.int .i64)) _ _ l0_1 [.slice A0_1 l0_1.length c0_1] from (Kd.FK_slice_mk (Kd.V_reads' (Kd.V_mono (ok' := (fun k_ => ((P0_0_ k_ ∨ P0_1_ k_) ∨ w.heap.size ≤ k_) ∧ k_ ≠ gb529)) (HO0_1.out) (fun k_ hk => ⟨hk.1, hk.2⟩))).2.1 (Kd.V_F (Kd.V_mono (ok' := (fun k_ => ((P0_0_ k_ ∨ P0_1_ k_) ∨ w.heap.size ≤ k_) ∧ k_ ≠ gb529)) (HO0_1.out) (fun k_ hk => ⟨hk.1, hk.2⟩))))) (Reps.one (show Kd.FK (Kd.slice 3 (Kd.int .i64)) _ _ l0_0 [.slice A0_0 l0_0.length c0_0] from (Kd.FK_slice_mk (Kd.V_reads' (Kd.V_mono (ok' := (fun k_ => ((P0_0_ k_ ∨ P0_1_ k_) ∨ w.heap.size ≤ k_) ∧ k_ ≠ gb529)) (HO0_0.out) (fun k_ hk => ⟨hk.1, hk.2⟩))).2.1 (Kd.V_F (Kd.V_mono (ok' := (fun k_ => ((P0_0_ k_ ∨ P0_1_ k_) ∨ w.heap.size ≤ k_) ∧ k_ ≠ gb529)) (HO0_0.out) (fun k_ hk => ⟨hk.1, hk.2⟩))))) (Reps.none _ _)))); intro v532 w26 ho27 hb hg_ hnew_; clear hg_ hnew_; (first | rw [← Ny531.out] at ho27 | (simp only [Int.reduceToNat] at ho27; rw [← Ny531.out] at ho27)); have n0_ := Aside0.mk (Kd.V_elder' (upV HO0_0.out) (Kd.N_base ho27) hb); have n1_ := Aside0.mk (Kd.V_elder' (upV HO0_1.out) (Kd.N_base ho27) hb); have n2_ := Aside0.mk (Kd.N_lower ho27 (below_size (upH HB))); have n3_ := Aside0.mk (blkB BK529 hb); have n4_ := Aside0.mk (below_step (upH HB) hb); clear HO0_0; clear HO0_1; clear BK529; clear HB; have HO0_0 := n0_; have HO0_1 := n1_; have HO533 := n2_; have BK529 := n3_; have HB := n4_; clear n0_ n1_ n2_ n3_ n4_; clear hb ho27; obtain ⟨Ao28, co28, eo28⟩ := Kd.N_slice HO533.out; subst eo28) | ((with_reducible refine gate_callee (f := 56) rfl ?_); refine goesL_ (some 16) rfl rfl Try.func56 (by kernel_rfl) rfl #[.slice Ao28 y531.length co28] rfl (args_ (p := _)) ?_; (with_reducible refine (slices_Concat_int_int.calls _ _ y531 t534 _ ?side1 ?side2 A4.out).mono ?_); (case side1 => exact upc (Kd.N_reads' HO533.out).2.2); (case side2 => exact (Kd.N_reads' HO533.out).2.1); rintro e w29 ⟨v535, rfl, ho0, hb⟩; refine ⟨_, rfl, ?_⟩; have n0_ := Aside0.mk (Kd.V_elder' (upV HO0_0.out) (Kd.R_base ho0) hb); have n1_ := Aside0.mk (Kd.V_elder' (upV HO0_1.out) (Kd.R_base ho0) hb); have n2_ := Aside0.mk (Kd.N_elder' (upN HO533.out) (Kd.R_base ho0) hb); have n3_ := Aside0.mk (Kd.R_lower (Kd.R_newM (M := fun k_ => (w.heap.size ≤ k_)) ho0 (below_size (upH HB)) (fun k_ h_ => h_)) (below_size (upH HB))); have n4_ := Aside0.mk (blkB BK529 hb); have n5_ := Aside0.mk (below_step (upH HB) hb); clear HO0_0; clear HO0_1; clear HO533; clear BK529; clear HB; have HO0_0 := n0_; have HO0_1 := n1_; have HO533 := n2_; have HO536 := n3_; have BK529 := n4_; have HB := n5_; clear n0_ n1_ n2_ n3_ n4_ n5_; (try clear hb); (try clear hb2); (try clear hk); (try clear hi); (try clear ho0); have hcz30_0 := cell0 BK529; have hcz30_1 := cell1 BK529; have hcz30_2 := cell2 BK529; have hfz30_0 := blk_frozen BK529.out 0; have hfz30_1 := blk_frozen BK529.out 1; have hfz30_2 := blk_frozen BK529.out 2; obtain ⟨Ao31, co31, eo31⟩ := Kd.R_slice HO536.out; subst eo31; have p538 : 0 ≤ ((ji19) : Int) := of_decide_eq_true (asm_ (p := _)); have q538 : (ji19) < (t534.length : Int) := of_decide_eq_true (asm_ (p := _)); obtain ⟨ad538, e538, hx538_0⟩ := Kd.at_int (Kd.R_reads' HO536.out).2.2 (ji19) p538 q538; cases e538; replace p538 := eq_true p538; replace q538 := eq_true q538))
      go_ret2
      exact ⟨by first | rfl | (simp [errW_none, errW_some] <;> rfl) | (simp only [← hji19]; first | rfl | (simp [errW_none, errW_some] <;> rfl)) | (simp [*, errW_none, errW_some] <;> rfl), by repeat (first | (with_reducible first | exact HB.out | apply below_alloc | apply pw_below_drewN | apply below_drew1 | refine below_set ?_ GE529.out) | exact HB.out)⟩
     ·
      rw [if_neg c21] at H
      exact absurd H (by simp)
    ·
     rw [if_neg c20] at H
     exact absurd H (by simp)
   ·
    rw [if_neg c18] at H
    have c18b0 : decide (0 < (t534.length : Int)) = false := decide_eq_false c18
    have c18b1 : decide (0 < t534.length) = false := decide_eq_false (by omega)
    clear c18
    simp only [Option.some.injEq, Prod.mk.injEq] at H
    obtain ⟨rfl, rfl⟩ := H
    go_enter Try.func37, Try.ntmps37
    go_wp2_with (first | ((with_reducible refine gate_dst (N := 1) rfl ?_); refine box_event ?hg (N := 1) ?hd (cs := #[.slice A0_0 l0_0.length c0_0, .slice A0_1 l0_1.length c0_1, .slice A0_2 l0_2.length c0_2]) (t := 25) ?hr ?_; (case hd => rfl); (case hg => rfl); (case hr => first | (go_simp; done) | (go_simp; rfl)); intro gb529 hg w32 hbox hb; have n0_ := Aside0.mk (Kd.V_below (Kd.V_elderB (upV HO0_0.out) gb529 (Nat.le_of_eq hg.symm)) hb); have n1_ := Aside0.mk (Kd.V_below (Kd.V_elderB (upV HO0_1.out) gb529 (Nat.le_of_eq hg.symm)) hb); have n2_ := Aside0.mk (below_step (upH HB) hb); have n3_ := Aside0.mk (hbox); have n4_ := Aside0.mk ((by rw [hg]; exact (below_size (upH HB)) : w.heap.size ≤ gb529)); have n5_ := Aside0.mk ((by rw [hg]; exact (below_size (upH HB)) : w.heap.size ≤ gb529)); clear HO0_0; clear HO0_1; clear HB; have HO0_0 := n0_; have HO0_1 := n1_; have HB := n2_; have BK529 := n3_; have GW529 := n4_; have GE529 := n5_; clear n0_ n1_ n2_ n3_ n4_ n5_; clear hb hbox hg; have hcz33_0 := cell0 BK529; have hcz33_1 := cell1 BK529; have hcz33_2 := cell2 BK529; have hfz33_0 := blk_frozen BK529.out 0; have hfz33_1 := blk_frozen BK529.out 1; have hfz33_2 := blk_frozen BK529.out 2) | ((with_reducible refine gate_callee (f := 16) rfl ?_); refine goesL_ (some 7) rfl rfl Try.func16 (by kernel_rfl) rfl #[.agg #[.slice A0_0 l0_0.length c0_0, .slice A0_1 l0_1.length c0_1, .slice A0_2 l0_2.length c0_2]] rfl (args_ (p := _)) ?_; (with_reducible refine (lru_Check.calls _ _ l0_0 _ _ l0_1 _ _ l0_2 t530 _ ?side1 ?side2 ?side3 ?side4 ?side5 ?side6 A2.out).mono ?_); (case side1 => exact upc (Kd.V_reads' HO0_0.out).2.2); (case side2 => exact (Kd.V_reads' HO0_0.out).2.1); (case side3 => exact upc (Kd.V_reads' HO0_1.out).2.2); (case side4 => exact (Kd.V_reads' HO0_1.out).2.1); (case side5 => exact upc (Kd.C_below HR0_2.out HB.out)); (case side6 => exact HC0_2.out); rintro e w34 ⟨rfl, hb⟩; refine ⟨_, rfl, ?_⟩; have n0_ := Aside0.mk (Kd.V_below (upV HO0_0.out) hb); have n1_ := Aside0.mk (Kd.V_below (upV HO0_1.out) hb); have n2_ := Aside0.mk (blkB BK529 hb); have n3_ := Aside0.mk (below_step (upH HB) hb); clear HO0_0; clear HO0_1; clear BK529; clear HB; have HO0_0 := n0_; have HO0_1 := n1_; have BK529 := n2_; have HB := n3_; clear n0_ n1_ n2_ n3_; (try clear hb); (try clear hb2); (try clear hk); (try clear hi); have hcz35_0 := cell0 BK529; have hcz35_1 := cell1 BK529; have hcz35_2 := cell2 BK529; have hfz35_0 := blk_frozen BK529.out 0; have hfz35_1 := blk_frozen BK529.out 1; have hfz35_2 := blk_frozen BK529.out 2) | ((with_reducible refine gate_dst (N := 15) rfl ?_); refine Kd.N_lit (Kd.slice 3 (Kd.int .i64)) _ 22 ?hg (N' := 15) ?hd (xs := ([l0_1, l0_0] : List (List Int))) (inner := [.slice A0_1 l0_1.length c0_1, .slice A0_0 l0_0.length c0_0]) (ok := (fun k_ => ((P0_0_ k_ ∨ P0_1_ k_) ∨ w.heap.size ≤ k_) ∧ k_ ≠ gb529)) (okp := (fun k_ => ((P0_0_ k_ ∨ P0_1_ k_) ∨ w.heap.size ≤ k_) ∧ k_ ≠ gb529)) ?hr ?hp (fun _ hk => hk) ((show ∀ k_, w34.heap.size ≤ k_ → (fun k_ => ((P0_0_ k_ ∨ P0_1_ k_) ∨ w.heap.size ≤ k_) ∧ k_ ≠ gb529) k_ from fun k_ hk => ⟨(.inr (Nat.le_trans (below_size (upH HB)) hk)), Kd.freshB (g := gb529) (o := .cells #[.slice A0_0 l0_0.length c0_0, .slice A0_1 l0_1.length c0_1, .slice A0_2 l0_2.length c0_2] 25 (0, 0)) (upB BK529) k_ hk⟩) _ (Nat.le_refl _)) (Below.refl _ _) (Nat.le_refl _) (by simp) ?_; (case hd => rfl); (case hg => rfl); (case hr => first | (go_simp; done) | (go_simp; rfl)); (case hp => exact (Reps.one (show Kd.FK (Kd.slice 3 (Kd.int .i64)) _ _ l0_1 [.slice A0_1 l0_1.length c0_1] from (Kd.FK_slice_mk (Kd.V_reads' (Kd.V_mono (ok' := (fun k_ => ((P0_0_ k_ ∨ P0_1_ k_) ∨ w.heap.size ≤ k_) ∧ k_ ≠ gb529)) (HO0_1.out) (fun k_ hk => ⟨hk.1, hk.2⟩))).2.1 (Kd.V_F (Kd.V_mono (ok' := (fun k_ => ((P0_0_ k_ ∨ P0_1_ k_) ∨ w.heap.size ≤ k_) ∧ k_ ≠ gb529)) (HO0_1.out) (fun k_ hk => ⟨hk.1, hk.2⟩))))) (Reps.one (show Kd.FK (Kd.slice 3 (Kd.int .i64)) _ _ l0_0 [.slice A0_0 l0_0.length c0_0] from (Kd.FK_slice_mk (Kd.V_reads' (Kd.V_mono (ok' := (fun k_ => ((P0_0_ k_ ∨ P0_1_ k_) ∨ w.heap.size ≤ k_) ∧ k_ ≠ gb529)) (HO0_0.out) (fun k_ hk => ⟨hk.1, hk.2⟩))).2.1 (Kd.V_F (Kd.V_mono (ok' := (fun k_ => ((P0_0_ k_ ∨ P0_1_ k_) ∨ w.heap.size ≤ k_) ∧ k_ ≠ gb529)) (HO0_0.out) (fun k_ hk => ⟨hk.1, hk.2⟩))))) (Reps.none _ _)))); intro v532 w36 ho37 hb hg_ hnew_; clear hg_ hnew_; (first | rw [← Ny531.out] at ho37 | (simp only [Int.reduceToNat] at ho37; rw [← Ny531.out] at ho37)); have n0_ := Aside0.mk (Kd.V_elder' (upV HO0_0.out) (Kd.N_base ho37) hb); have n1_ := Aside0.mk (Kd.V_elder' (upV HO0_1.out) (Kd.N_base ho37) hb); have n2_ := Aside0.mk (Kd.N_lower ho37 (below_size (upH HB))); have n3_ := Aside0.mk (blkB BK529 hb); have n4_ := Aside0.mk (below_step (upH HB) hb); clear HO0_0; clear HO0_1; clear BK529; clear HB; have HO0_0 := n0_; have HO0_1 := n1_; have HO533 := n2_; have BK529 := n3_; have HB := n4_; clear n0_ n1_ n2_ n3_ n4_; clear hb ho37; obtain ⟨Ao38, co38, eo38⟩ := Kd.N_slice HO533.out; subst eo38) | ((with_reducible refine gate_callee (f := 56) rfl ?_); refine goesL_ (some 16) rfl rfl Try.func56 (by kernel_rfl) rfl #[.slice Ao38 y531.length co38] rfl (args_ (p := _)) ?_; (with_reducible refine (slices_Concat_int_int.calls _ _ y531 t534 _ ?side1 ?side2 A4.out).mono ?_); (case side1 => exact upc (Kd.N_reads' HO533.out).2.2); (case side2 => exact (Kd.N_reads' HO533.out).2.1); rintro e w39 ⟨v535, rfl, ho0, hb⟩; refine ⟨_, rfl, ?_⟩; have n0_ := Aside0.mk (Kd.V_elder' (upV HO0_0.out) (Kd.R_base ho0) hb); have n1_ := Aside0.mk (Kd.V_elder' (upV HO0_1.out) (Kd.R_base ho0) hb); have n2_ := Aside0.mk (Kd.N_elder' (upN HO533.out) (Kd.R_base ho0) hb); have n3_ := Aside0.mk (Kd.R_lower (Kd.R_newM (M := fun k_ => (w.heap.size ≤ k_)) ho0 (below_size (upH HB)) (fun k_ h_ => h_)) (below_size (upH HB))); have n4_ := Aside0.mk (blkB BK529 hb); have n5_ := Aside0.mk (below_step (upH HB) hb); clear HO0_0; clear HO0_1; clear HO533; clear BK529; clear HB; have HO0_0 := n0_; have HO0_1 := n1_; have HO533 := n2_; have HO536 := n3_; have BK529 := n4_; have HB := n5_; clear n0_ n1_ n2_ n3_ n4_ n5_; (try clear hb); (try clear hb2); (try clear hk); (try clear hi); (try clear ho0); have hcz40_0 := cell0 BK529; have hcz40_1 := cell1 BK529; have hcz40_2 := cell2 BK529; have hfz40_0 := blk_frozen BK529.out 0; have hfz40_1 := blk_frozen BK529.out 1; have hfz40_2 := blk_frozen BK529.out 2; obtain ⟨Ao41, co41, eo41⟩ := Kd.R_slice HO536.out; subst eo41))
    go_ret2
    exact ⟨by first | rfl | (simp [errW_none, errW_some] <;> rfl) | (simp [*, errW_none, errW_some] <;> rfl), by repeat (first | (with_reducible first | exact HB.out | apply below_alloc | apply pw_below_drewN | apply below_drew1 | refine below_set ?_ GE529.out) | exact HB.out)⟩
 ·
  rw [if_neg c3] at H
  have c3b0 : (t530 == 0) = false := beq_eq_false_iff_ne.mpr c3
  have c3b1 : (t530 != 0) = true := bne_iff_ne.mpr c3
  simp only [Option.some.injEq, Prod.mk.injEq] at H
  obtain ⟨rfl, rfl⟩ := H
  go_enter Try.func37, Try.ntmps37
  go_wp2_with (first | ((with_reducible refine gate_dst (N := 1) rfl ?_); refine box_event ?hg (N := 1) ?hd (cs := #[.slice A0_0 l0_0.length c0_0, .slice A0_1 l0_1.length c0_1, .slice A0_2 l0_2.length c0_2]) (t := 25) ?hr ?_; (case hd => rfl); (case hg => rfl); (case hr => first | (go_simp; done) | (go_simp; rfl)); intro gb529 hg w42 hbox hb; have n0_ := Aside0.mk (Kd.V_below (Kd.V_elderB (upV HO0_0.out) gb529 (Nat.le_of_eq hg.symm)) hb); have n1_ := Aside0.mk (Kd.V_below (Kd.V_elderB (upV HO0_1.out) gb529 (Nat.le_of_eq hg.symm)) hb); have n2_ := Aside0.mk (below_step (upH HB) hb); have n3_ := Aside0.mk (hbox); have n4_ := Aside0.mk ((by rw [hg]; exact (below_size (upH HB)) : w.heap.size ≤ gb529)); have n5_ := Aside0.mk ((by rw [hg]; exact (below_size (upH HB)) : w.heap.size ≤ gb529)); clear HO0_0; clear HO0_1; clear HB; have HO0_0 := n0_; have HO0_1 := n1_; have HB := n2_; have BK529 := n3_; have GW529 := n4_; have GE529 := n5_; clear n0_ n1_ n2_ n3_ n4_ n5_; clear hb hbox hg; have hcz43_0 := cell0 BK529; have hcz43_1 := cell1 BK529; have hcz43_2 := cell2 BK529; have hfz43_0 := blk_frozen BK529.out 0; have hfz43_1 := blk_frozen BK529.out 1; have hfz43_2 := blk_frozen BK529.out 2) | ((with_reducible refine gate_callee (f := 16) rfl ?_); refine goesL_ (some 7) rfl rfl Try.func16 (by kernel_rfl) rfl #[.agg #[.slice A0_0 l0_0.length c0_0, .slice A0_1 l0_1.length c0_1, .slice A0_2 l0_2.length c0_2]] rfl (args_ (p := _)) ?_; (with_reducible refine (lru_Check.calls _ _ l0_0 _ _ l0_1 _ _ l0_2 t530 _ ?side1 ?side2 ?side3 ?side4 ?side5 ?side6 A2.out).mono ?_); (case side1 => exact upc (Kd.V_reads' HO0_0.out).2.2); (case side2 => exact (Kd.V_reads' HO0_0.out).2.1); (case side3 => exact upc (Kd.V_reads' HO0_1.out).2.2); (case side4 => exact (Kd.V_reads' HO0_1.out).2.1); (case side5 => exact upc (Kd.C_below HR0_2.out HB.out)); (case side6 => exact HC0_2.out); rintro e w44 ⟨rfl, hb⟩; refine ⟨_, rfl, ?_⟩; have n0_ := Aside0.mk (Kd.V_below (upV HO0_0.out) hb); have n1_ := Aside0.mk (Kd.V_below (upV HO0_1.out) hb); have n2_ := Aside0.mk (blkB BK529 hb); have n3_ := Aside0.mk (below_step (upH HB) hb); clear HO0_0; clear HO0_1; clear BK529; clear HB; have HO0_0 := n0_; have HO0_1 := n1_; have BK529 := n2_; have HB := n3_; clear n0_ n1_ n2_ n3_; (try clear hb); (try clear hb2); (try clear hk); (try clear hi)))
  go_ret2
  exact ⟨by first | rfl | (simp [errW_none, errW_some] <;> rfl) | (simp [*, errW_none, errW_some] <;> rfl), by repeat (first | (with_reducible first | exact HB.out | apply below_alloc | apply pw_below_drewN | apply below_drew1 | refine below_set ?_ GE529.out) | exact HB.out)⟩

end Go.Proofs.Ytaofihdmgdpenaa.X
