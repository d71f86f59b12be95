/- What Go functions of this seat compute, told as Lean functions, and that each call of the Go code comes to that answer; for a law: its row, for every input. Written by a program of the session. -/
import Derived.Test.YtaofihdmgdpenaaX0
import Derived.Shelf.Spec.SlicesInsertGrow
namespace Go.Proofs.Ytaofihdmgdpenaa.X
open Go.RowKit Go.Proofs.YtaofihdmgdpenaaW.PrintWords Go.Proofs.YtaofihdmgdpenaaW.PrintLast Go.Proofs.YtaofihdmgdpenaaW.PrintMore
attribute [local go_sem] max2_int min2_int max_two min_two max_three min_three max_four min_four   -- for this text's walks alone
set_option linter.unusedVariables false
set_option linter.unusedSimpArgs false

/-! ### slices_Index_int_int: function 66 -/
def slices_Index_int_int.l0 : Nat → List Int → Int → Int → Int → Option (Int)
 | 0, _, _, _, _ => none
 | k + 1, x0, x1, x7, x8 => if x8 < x7 then (if 0 ≤ x8 then (if x8 < (x0.length : Int) then (if x1 = (rd x0 x8) then (some x8) else (slices_Index_int_int.l0 k x0 x1 x7 (wrap64 (x8 + 1)))) else (none)) else (none)) else (some (-1))
def slices_Index_int_int.f (k : Nat) (l0 : List Int) (a1 : Int) : Option (Int) := slices_Index_int_int.l0 k l0 a1 (l0.length : Int) 0
theorem slices_Index_int_int.mono_l : ∀ k, (∀ y0 y1 y2 y3, LeO (slices_Index_int_int.l0 k y0 y1 y2 y3) (slices_Index_int_int.l0 (k + 1) y0 y1 y2 y3))
 | 0 => fun _ _ _ _ r h => by simp [slices_Index_int_int.l0] at h
 | k + 1 => by
  have ih0 := slices_Index_int_int.mono_l k
  ·
   intro y0 y1 y2 y3
   unfold slices_Index_int_int.l0
   repeat' first
   | (with_reducible exact ih0 _ _ _ _)
   | (with_reducible exact LeO.refl _)
   | (with_reducible exact LeO.none _)
   | (with_reducible refine LeO.ite ?_ ?_)
   | (with_reducible refine LeO.bind ?_ (fun _ => ?_))
   | exact ih0 _ _ _ _
   | exact LeO.none _
   | refine LeO.ite ?_ ?_
   | refine LeO.bind ?_ (fun _ => ?_)
theorem slices_Index_int_int.mono : ∀ a0 a1 k, LeO (slices_Index_int_int.f k a0 a1) (slices_Index_int_int.f (k + 1) a0 a1) := by
 intro a0 a1 k
 have ih0 := slices_Index_int_int.mono_l k
 unfold slices_Index_int_int.f
 repeat' first
   | (with_reducible exact ih0 _ _ _ _)
   | (with_reducible exact LeO.refl _)
   | (with_reducible exact LeO.none _)
   | (with_reducible refine LeO.ite ?_ ?_)
   | (with_reducible refine LeO.bind ?_ (fun _ => ?_))
   | exact ih0 _ _ _ _
   | exact LeO.none _
   | refine LeO.ite ?_ ?_
   | refine LeO.bind ?_ (fun _ => ?_)
set_option maxHeartbeats 2000000 in
set_option maxRecDepth 100000 in
theorem slices_Index_int_int.calls (k : Nat) (A0 : Option Addr) (c0 : Nat) (l0 : List Int) (a1 : Int) (r : Int) (w : World) (hr0 : Kd.C (Kd.int .i64) w A0 l0.length l0) (hc0 : l0.length ≤ c0) (h : slices_Index_int_int.f k l0 a1 = some r) :
  Calls Try.prog 66 #[.slice A0 l0.length c0, .int .i64 a1] w fun e w' => e = .returned (.int .i64 r) ∧ Drawn0 w w' := by
 have HR0 := Aside0.mk hr0
 have HC0 := Aside0.mk hc0
 clear hr0 hc0
 have H : (slices_Index_int_int.l0 k l0 a1 (l0.length : Int) 0) = some r := h
 clear h
 have H' := Aside0.mk H
 clear H
 go_enter Try.func66, Try.ntmps66
 go_wp2
 go_loopg [8] k (fun kq v8 w' => ∃ (x8_1 : Int), v8 = .int .i64 x8_1 ∧ Aside0 (slices_Index_int_int.l0 kq l0 a1 (l0.length : Int) x8_1 = some r) ∧ Aside0 (kq ≤ k) ∧ Drawn0 w w')
 case atStart => exact ⟨(0), (by first | rfl | (simp; done) | (simp [*]; done)), H', ⟨Nat.le_refl _⟩, by repeat (first | exact Drawn0.refl _ | apply Drawn0.step)⟩
 case round =>
  clear H'
  try clear p2
  obtain ⟨x8_1, rfl, HA, HK1, ⟨m1, rfl⟩⟩ := hrel
  cases gk with
  | zero => exact absurd HA.out (by simp [slices_Index_int_int.l0])
  | succ k1 =>
   have H := HA.out
   clear HA
   simp only [slices_Index_int_int.l0] at H
   by_cases c3 : x8_1 < (l0.length : Int)
   ·
    rw [if_pos c3] at H
    have c3b0 : decide (x8_1 < (l0.length : Int)) = true := decide_eq_true c3
    clear c3
    by_cases c4 : 0 ≤ x8_1
    ·
     rw [if_pos c4] at H
     have c4b0 : decide (0 ≤ x8_1) = true := decide_eq_true c4
     clear c4
     by_cases c5 : x8_1 < (l0.length : Int)
     ·
      rw [if_pos c5] at H
      have c5b0 : decide (x8_1 < (l0.length : Int)) = true := decide_eq_true c5
      clear c5
      by_cases c6 : a1 = (rd l0 x8_1)
      ·
       rw [if_pos c6] at H
       have c6b0 : (a1 == (rd l0 x8_1)) = true := beq_iff_eq.mpr c6
       have c6b1 : (a1 != (rd l0 x8_1)) = false := bne_eq_false_iff_eq.mpr c6
       clear c6
       obtain rfl := Option.some.inj H
       have p118 : 0 ≤ (x8_1 : Int) := of_decide_eq_true (by first | (with_reducible assumption) | assumption)
       have q118 : x8_1 < (l0.length : Int) := of_decide_eq_true (by first | (with_reducible assumption) | assumption)
       obtain ⟨ad118, e118, hx118_0⟩ := Kd.at_int HR0.out x8_1 p118 q118
       cases e118
       replace p118 := eq_true p118
       replace q118 := eq_true q118
       go_wp2
       go_ret
       exact ⟨by first | rfl | (simp; done) | (simp [*]; done), by repeat (first | exact Drawn0.refl _ | apply Drawn0.step)⟩
      ·
       rw [if_neg c6] at H
       have c6b0 : (a1 == (rd l0 x8_1)) = false := beq_eq_false_iff_ne.mpr c6
       have c6b1 : (a1 != (rd l0 x8_1)) = true := bne_iff_ne.mpr c6
       have H' := Aside0.mk H
       clear H
       have p118 : 0 ≤ (x8_1 : Int) := of_decide_eq_true (by first | (with_reducible assumption) | assumption)
       have q118 : x8_1 < (l0.length : Int) := of_decide_eq_true (by first | (with_reducible assumption) | assumption)
       obtain ⟨ad118, e118, hx118_0⟩ := Kd.at_int HR0.out x8_1 p118 q118
       cases e118
       replace p118 := eq_true p118
       replace q118 := eq_true q118
       go_wp2
       go_roundg k1
       case measure => have := HK1.out; omega
       case rel => exact ⟨(wrap64 (x8_1 + 1)), (by first | rfl | (simp; done) | (simp [*]; done)), H', ⟨by have := HK1.out; omega⟩, by repeat (first | exact Drawn0.refl _ | apply Drawn0.step)⟩
     ·
      rw [if_neg c5] at H
      exact absurd H (by simp)
    ·
     rw [if_neg c4] at H
     exact absurd H (by simp)
   ·
    rw [if_neg c3] at H
    have c3b0 : decide (x8_1 < (l0.length : Int)) = false := decide_eq_false c3
    clear c3
    obtain rfl := Option.some.inj H
    go_wp2
    go_ret
    exact ⟨by first | rfl | (simp; done) | (simp [*]; done), by repeat (first | exact Drawn0.refl _ | apply Drawn0.step)⟩

end Go.Proofs.Ytaofihdmgdpenaa.X

namespace Go.Proofs.Ytaofihdmgdpenaa.X
open Go.RowKit Go.Proofs.YtaofihdmgdpenaaW.PrintWords Go.Proofs.YtaofihdmgdpenaaW.PrintLast Go.Proofs.YtaofihdmgdpenaaW.PrintMore
attribute [local go_sem] max2_int min2_int max_two min_two max_three min_three max_four min_four   -- for this text's walks alone
set_option linter.unusedVariables false
set_option linter.unusedSimpArgs false

/-! ### slices_Contains_int_int: function 57 -/
def slices_Contains_int_int.f (k : Nat) (l0 : List Int) (a1 : Int) : Option (Bool) := (slices_Index_int_int.f k l0 a1).bind fun t119 => (some (decide (t119 ≥ 0)))
theorem slices_Contains_int_int.mono : ∀ a0 a1 k, LeO (slices_Contains_int_int.f k a0 a1) (slices_Contains_int_int.f (k + 1) a0 a1) := by
 intro a0 a1 k
 unfold slices_Contains_int_int.f
 repeat' first
   | (with_reducible exact slices_Index_int_int.mono _ _ _)
   | (with_reducible exact LeO.refl _)
   | (with_reducible exact LeO.none _)
   | (with_reducible refine LeO.ite ?_ ?_)
   | (with_reducible refine LeO.bind ?_ (fun _ => ?_))
   | exact slices_Index_int_int.mono _ _ _
   | exact LeO.none _
   | refine LeO.ite ?_ ?_
   | refine LeO.bind ?_ (fun _ => ?_)
set_option maxHeartbeats 2000000 in
set_option maxRecDepth 100000 in
theorem slices_Contains_int_int.calls (k : Nat) (A0 : Option Addr) (c0 : Nat) (l0 : List Int) (a1 : Int) (r : Bool) (w : World) (hr0 : Kd.C (Kd.int .i64) w A0 l0.length l0) (hc0 : l0.length ≤ c0) (h : slices_Contains_int_int.f k l0 a1 = some r) :
  Calls Try.prog 57 #[.slice A0 l0.length c0, .int .i64 a1] w fun e w' => e = .returned (.bool r) ∧ Drawn0 w w' := by
 have HR0 := Aside0.mk hr0
 have HC0 := Aside0.mk hc0
 clear hr0 hc0
 have H : ((slices_Index_int_int.f k l0 a1).bind fun t119 => (some (decide (t119 ≥ 0)))) = some r := h
 clear h
 replace H := Option.bind_eq_some_iff.mp H
 obtain ⟨t119, A30, H⟩ := H
 replace H : (some (decide (t119 ≥ 0))) = some r := H
 have A3 := Aside0.mk A30
 clear A30
 obtain rfl := Option.some.inj H
 go_enter Try.func57, Try.ntmps57
 go_wp2_with (first | ((with_reducible refine gate_callee (f := 66) rfl ?_); refine goesL_ (some 7) rfl rfl Try.func66 (by kernel_rfl) rfl #[.slice A0 l0.length c0, .int .i64 a1] rfl (by (try simp only [List.map_toArray, List.map_cons, List.map_nil]); first | done | rfl | (simp only [List.length_drop, List.length_take]; rfl)) ?_; (with_reducible refine (slices_Index_int_int.calls k _ _ l0 a1 t119 _ ?side1 ?side2 A3.out).mono ?_); (case side1 => repeat (first | exact HR0.out | (with_reducible refine Kd.C_alloc ?_ _) | (with_reducible refine Kd.C_drewN ?_ _) | (with_reducible refine Kd.C_drew ?_))); (case side2 => exact HC0.out); rintro e w' ⟨rfl, ⟨nd, rfl⟩⟩; refine ⟨_, rfl, ?_⟩))
 go_ret
 exact ⟨by first | rfl | (simp; done) | (simp [*]; done), by repeat (first | exact Drawn0.refl _ | apply Drawn0.step)⟩

end Go.Proofs.Ytaofihdmgdpenaa.X

namespace Go.Proofs.Ytaofihdmgdpenaa.X
open Go.RowKit Go.Proofs.YtaofihdmgdpenaaW.PrintWords Go.Proofs.YtaofihdmgdpenaaW.PrintLast Go.Proofs.YtaofihdmgdpenaaW.PrintMore
attribute [local go_sem] max2_int min2_int max_two min_two max_three min_three max_four min_four   -- for this text's walks alone
set_option linter.unusedVariables false
set_option linter.unusedSimpArgs false

/-! ### slices_Insert_int_int: function 45 -/
section
open Go.Lib
attribute [local go_sem] Oper.semAt_some
theorem insI_intinfo : (Try.prog.info? 3).map (fun i => (i.zero, i.size, i.bytes)) = some (some (.int .i64 0), 1, 8) := by kernel_rfl
/-- Behind the two copies the row is x :: xs. -/
theorem insI_row {g c : Nat} {e : TypeId} {cur : Array Value} {W : World} (xs : List Int) (x : Int) (hb : W.heap[g]? = some (.cells cur e (0, 0))) (hs : cur.size = c) (hl : xs.length + 1 ≤ c) :
  ∃ cur', ((W.setCells g 1 (xs.map (Value.int .i64))).setCells g 0 [.int .i64 x]).heap[g]? = some (.cells cur' e (0, 0)) ∧ cur'.size = c ∧ cur'.toList.take (xs.length + 1) = (x :: xs).map (Value.int .i64) := by
 obtain ⟨c1, h1, h2, h3⟩ := setCells_row (xs.map (Value.int .i64)) 1 W cur hb (by simp; omega)
 obtain ⟨c2, h4, h5, h6⟩ := setCells_row [.int .i64 x] 0 (W.setCells g 1 (xs.map (Value.int .i64))) c1 h1 (by simp; omega)
 refine ⟨c2, h4, by omega, ?_⟩
 obtain ⟨y, ys, hy⟩ := List.exists_cons_of_length_pos (l := cur.toList) (by rw [Array.length_toList]; omega)
 rw [h6, h3, hy]
 simp
theorem insI_row2 {g c : Nat} {e : TypeId} {cur : Array Value} {W : World} (xs : List Int) (x : Int) (hb : W.heap[g]? = some (.cells cur e (0, 0))) (hs : cur.size = c) (hl : xs.length + 1 ≤ c) :
  ∃ cur', ((W.setCells g 0 [.int .i64 x]).setCells g 1 (xs.map (Value.int .i64))).heap[g]? = some (.cells cur' e (0, 0)) ∧ cur'.size = c ∧ cur'.toList.take (xs.length + 1) = (x :: xs).map (Value.int .i64) := by
 obtain ⟨c1, h1, h2, h3⟩ := setCells_row [.int .i64 x] 0 W cur hb (by simp; omega)
 obtain ⟨c2, h4, h5, h6⟩ := setCells_row (xs.map (Value.int .i64)) 1 (W.setCells g 0 [.int .i64 x]) c1 h1 (by simp; omega)
 refine ⟨c2, h4, by omega, ?_⟩
 rw [h6, h3]
 simp
set_option maxHeartbeats 4000000 in
set_option maxRecDepth 100000 in
theorem insI_shift (b c vb : Nat) (xs : List Int) (x : Int) (cur : Array Value) (w : World) (hn : 0 < xs.length) (hroom : xs.length + 1 ≤ c) (hc63 : c ≤ maxLen) (hvb : vb ≠ b)
  (hb : w.heap[b]? = some (.cells cur 3 (0, 0))) (hsz0 : cur.size = c) (htake : cur.toList.take xs.length = xs.map (Value.int .i64)) (hv : w.heap[vb]? = some (.cells #[.int .i64 x] 3 (0, 0))) :
  Calls Try.prog 45 #[.slice (some ⟨b, 0, none⟩) xs.length c, .int .i64 0, .slice (some ⟨vb, 0, none⟩) 1 1] w fun e w' =>
   e = .returned (.slice (some ⟨b, 0, none⟩) (xs.length + 1) c) ∧ w' = (w.drew.setCells b 1 (xs.map (Value.int .i64))).setCells b 0 [.int .i64 x] := by
 obtain ⟨i0, hi0, hzz0, hzz1, hzz2⟩ := info_parts insI_intinfo
 have hsz : (Try.prog.info? 3).map (·.size) = some 1 := by rw [hi0]; simp [hzz1]
 have uT := Try.underlying22
 have u22 := Try.underlying22
 generalize hcs : xs.map (Value.int .i64) = cs at htake ⊢
 have hcl : cs.length = xs.length := by rw [← hcs, List.length_map]
 have h1c : ∀ v ∈ cs, v.oneCell' = true := by rw [← hcs]; intro v hv; obtain ⟨y, _, rfl⟩ := List.mem_map.1 hv; rfl
 have hcsc : ∀ j v, cs[j]? = some v → w.cell? ⟨b, j, none⟩ = some v := fun j v hj => by
  have hjl : j < xs.length := by have := (List.getElem?_eq_some_iff.1 hj).1; omega
  rw [← htake, List.getElem?_take_of_lt hjl, Array.getElem?_toList] at hj
  simp [World.cell?, hb, hj]
 have hsp : ∀ j, j < xs.length + 1 → (w.cell? ⟨b, j, none⟩).isSome = true := fun j hj => by
  simp [World.cell?, hb, Array.getElem?_eq_getElem (show j < cur.size by omega)]
 have hfz : ∀ j, w.frozen? ⟨b, j, none⟩ = false := fun j => by simp [World.frozen?, hb]
 have hvc : w.cell? ⟨vb, 0, none⟩ = some (.int .i64 x) := by simp [World.cell?, hv]
 generalize xs.length = n at *
 have hov : ∀ lb cb, (callFunc 58 #[.slice (some ⟨vb, 0, none⟩) 1 1, .slice (some ⟨b, 1, none⟩) lb cb]).run Try.prog w = .ok (.value (.bool false)) w := fun lb cb => by
  rw [run_callFunc_extern Try.func58 (by kernel_rfl) (by kernel_rfl) (by kernel_rfl) (e := Extern.SlicesOverlaps.overlaps #[22, 22] #[4]) (by kernel_rfl),
   Lib.run_overlaps_apart w 22 4 3 Try.underlying22 1 (fun W => by kernel_rfl) ⟨vb, 0, none⟩ ⟨b, 1, none⟩ 1 1 lb cb hvb 3 3 1 c (by simp [World.shape?, hv]) (by simp [World.shape?, hb, hsz0]) (by omega) (by simp [World.frozen?, hv]) (by simp [World.frozen?, hv])]
  rfl
 have hcp1 : ∀ ty dc sc, (Builtin.copy_ #[22, 22] ty #[.slice (some ⟨b, 1, none⟩) n dc, .slice (some ⟨b, 0, none⟩) (n + 1) sc]).run Try.prog w.drew = .ok (goInt cs.length) (w.drew.setCells b 1 cs) := fun ty dc sc =>
  run_copy_cells w.drew _ _ ty 3 b 1 n dc ⟨b, 0, none⟩ (n + 1) sc cs uT hsz (by rw [hcl]; simp only [Nat.min_def]; split <;> omega)
   (fun j v hj => by rw [Addr.add_lit, Nat.zero_add]; exact hcsc j v hj)
   (fun j hj => by rw [Nat.add_comm]; exact hsp _ (by omega)) (fun j hj => hfz _) h1c
 obtain ⟨W1, hW1⟩ : ∃ W1, W1 = w.drew.setCells b 1 cs := ⟨_, rfl⟩
 have hsp1 : ∀ k, k < n + 1 → (W1.cell? ⟨b, k, none⟩).isSome = true := fun k hk => by
  rw [hW1]
  exact isSome_setCells b _ _ _ (fun j hj => by rw [Nat.add_comm]; exact hsp _ (by omega)) _ (hsp k hk)
 have hcp2 : ∀ (W : World), (∀ x, W.cell? x = W1.cell? x) → (∀ x, W.frozen? x = W1.frozen? x) → ∀ ty dc, (Builtin.copy_ #[22, 22] ty #[.slice (some ⟨b, 0, none⟩) (n + 1) dc, .slice (some ⟨vb, 0, none⟩) 1 1]).run Try.prog W = .ok (goInt [Value.int .i64 x].length) (W.setCells b 0 [.int .i64 x]) := fun W hWc hWf ty dc =>
  run_copy_cells W _ _ ty 3 b 0 (n + 1) dc ⟨vb, 0, none⟩ 1 1 [.int .i64 x] uT hsz (by simp [Nat.min_def])
   (fun j v hj => by
    rw [Addr.add_lit, hWc, hW1, World.cell?_setCells_out b _ _ _ _ (fun h _ => absurd h hvb)]
    match j, hj with
    | 0, hj => cases hj; exact hvc)
   (fun j hj => by rw [hWc, Nat.zero_add]; exact hsp1 _ (by simp at hj; omega)) (fun j hj => by rw [hWf, hW1, World.frozen?_setCells]; exact hfz _) (by simp [Value.oneCell'])
 rw [← hW1] at hcp1
 have hw1 : IntKind.i64.wrap ((n : Int) + 1) = (n : Int) + 1 := by rw [IntKind.wrap_i64]; unfold maxLen at hc63; omega
 have mixed : Try.prog.follows .mixedOrders = true := rfl
 have u1 : IntKind.i64.wrap 1 = 1 := by decide
 have u2 : (1 : Int) ≤ (n : Int) + 1 := by omega
 have u3 : (0 : Int) ≤ (n : Int) + 1 := by omega
 have u4 : ¬ (c = 1) := by omega
 have u5 : ¬ (c = 0) := by omega
 have u6 : (1 : Int).toNat = 1 := rfl
 have d1 : decide ((0 : Int) = (n : Int)) = false := decide_eq_false (by omega)
 have d2 : decide ((c : Int) < (n : Int) + 1) = false := decide_eq_false (by omega)
 have d3 : decide ((n : Int) + 1 ≤ (c : Int)) = true := decide_eq_true (by omega)
 go_enter Try.func45, Try.ntmps45
 go_wp2_with (simp only [hov])
 go_region_law_o (refine step_copy_runI rfl _ _ 22 22 rfl _ _ (by simp [Act.eval, Act.put]) (by simp [Act.eval, Act.put]) (hcp1 _ _ _) ?_)
 go_wp2_with (at_builtin; refine wpList_copy_runI _ rfl _ _ 22 22 rfl _ _ rfl rfl (hcp2 _ (fun _ => rfl) (fun _ => rfl) _ _) ?_)
 go_ret
 first | exact ⟨rfl, rfl⟩ | exact ⟨rfl, by rw [hW1]⟩
set_option maxHeartbeats 4000000 in
set_option maxRecDepth 100000 in
theorem insI_grow (b c vb : Nat) (xs : List Int) (x : Int) (cur : Array Value) (w : World) (hn : 0 < xs.length) (hnc : xs.length ≤ c) (hroom : c < xs.length + 1) (hbig : xs.length ≤ 1000000)
  (hb : w.heap[b]? = some (.cells cur 3 (0, 0))) (hsz0 : cur.size = c) (htake : cur.toList.take xs.length = xs.map (Value.int .i64)) (hv : w.heap[vb]? = some (.cells #[.int .i64 x] 3 (0, 0))) :
  Calls Try.prog 45 #[.slice (some ⟨b, 0, none⟩) xs.length c, .int .i64 0, .slice (some ⟨vb, 0, none⟩) 1 1] w fun e w' =>
   ∃ (G : Nat) (ROW : Array Value), xs.length + 1 ≤ G ∧ G ≤ maxLen ∧ ROW.size = G ∧ e = .returned (.slice (some ⟨w.heap.size, 0, none⟩) (xs.length + 1) G) ∧ w' = (((w.alloc (.cells ROW 3)).drew.setCells w.heap.size 0 [.int .i64 x]).drew).setCells w.heap.size 1 (xs.map (Value.int .i64)) := by
 obtain ⟨i0, hi0, hzz0, hzz1, hzz2⟩ := info_parts insI_intinfo
 have hsz : (Try.prog.info? 3).map (·.size) = some 1 := by rw [hi0]; simp [hzz1]
 have uT := Try.underlying22
 have u22 := Try.underlying22
 have hUi := Try.underlying3
 generalize hcs : xs.map (Value.int .i64) = cs at htake ⊢
 have hcl : cs.length = xs.length := by rw [← hcs, List.length_map]
 have h1c : ∀ v ∈ cs, v.oneCell' = true := by rw [← hcs]; intro v hv; obtain ⟨y, _, rfl⟩ := List.mem_map.1 hv; rfl
 have hcsc : ∀ j v, cs[j]? = some v → w.cell? ⟨b, j, none⟩ = some v := fun j v hj => by
  have hjl : j < xs.length := by have := (List.getElem?_eq_some_iff.1 hj).1; omega
  rw [← htake, List.getElem?_take_of_lt hjl, Array.getElem?_toList] at hj
  simp [World.cell?, hb, hj]
 have hvc : w.cell? ⟨vb, 0, none⟩ = some (.int .i64 x) := by simp [World.cell?, hv]
 have hbw : b < w.heap.size := (Array.getElem?_eq_some_iff.1 hb).1
 have hvw : vb < w.heap.size := (Array.getElem?_eq_some_iff.1 hv).1
 generalize xs.length = n at *
 have hold : (Builtin.firstCells i0.size 0 (.slice (some ⟨b, 0, none⟩) 0 c)).run Try.prog w.drew = .ok #[] w.drew := by
  rw [hzz1]
  exact run_firstCells_some w.drew 1 0 ⟨b, 0, none⟩ 0 c [] rfl (fun j v hj => by simp at hj)
 have hrz : ∀ ty, (Builtin.append_ #[22, 3] ty #[.slice (some ⟨b, 0, none⟩) 0 c, .int .i64 ((n : Int) + 1)]).run Try.prog w =
   .ok (.slice (some ⟨w.heap.size, 0, none⟩) (n + 1) (grownCap w (n + 1) c 3)) (w.drew.alloc (.cells (#[] ++ Builtin.zeroCells (Value.int .i64 0).cells (n + 1) ++ Builtin.zeroCells (Value.int .i64 0).cells (grownCap w (n + 1) c 3 - (n + 1))) 3)) := fun ty => by
  have h := Lib.run_append_grow_zeros w 22 3 ty 3 i0 _ .i64 .i64 uT hUi hi0 hzz0 (some ⟨b, 0, none⟩) 0 c [] hold (n + 1) (by omega) (by omega) (by omega) (by omega) (by rw [hzz2]; omega) (by rw [hzz2, Nat.zero_add]; exact growslice_fits hroom (by omega))
  rw [Nat.zero_add] at h
  exact h
 obtain ⟨G, hG⟩ : ∃ G, G = grownCap w (n + 1) c 3 := ⟨_, rfl⟩
 have hGn : n + 1 ≤ G := by rw [hG]; exact grownCap_ge w _ _ _
 have hGm : G ≤ maxLen := by rw [hG]; exact grownCap_le_maxLen w (n + 1) c 3 (by unfold maxLen; omega)
 obtain ⟨ROW, hROW⟩ : ∃ ROW : Array Value, ROW = #[] ++ Builtin.zeroCells (Value.int .i64 0).cells (n + 1) ++ Builtin.zeroCells (Value.int .i64 0).cells (G - (n + 1)) := ⟨_, rfl⟩
 rw [← hG] at hrz
 rw [← hROW] at hrz
 have hRl : ROW.size = G := by
  rw [hROW]
  simp [Builtin.zeroCells, Value.cells]
  omega
 obtain ⟨W1, hW1⟩ : ∃ W1, W1 = w.drew.alloc (.cells ROW 3) := ⟨_, rfl⟩
 rw [← hW1] at hrz
 have hN : ∀ j, j < n + 1 → (W1.cell? ⟨w.heap.size, j, none⟩).isSome = true := fun j hj => by
  rw [hW1, World.cell?_alloc_at (w := w.drew) ROW _ w.heap.size j rfl, Array.getElem?_eq_getElem (by omega)]; rfl
 have hNf : ∀ j, W1.frozen? ⟨w.heap.size, j, none⟩ = false := fun j => by rw [hW1]; exact World.frozen?_alloc_at (w := w.drew) ROW _ w.heap.size j rfl
 have hOb : ∀ j v, w.cell? ⟨b, j, none⟩ = some v → W1.cell? ⟨b, j, none⟩ = some v := fun j v h => by rw [hW1, World.cell?_alloc_past (w := w.drew) _ b j hbw]; exact h
 have hOv : ∀ j v, w.cell? ⟨vb, j, none⟩ = some v → W1.cell? ⟨vb, j, none⟩ = some v := fun j v h => by rw [hW1, World.cell?_alloc_past (w := w.drew) _ vb j hvw]; exact h
 have hcpA : ∀ (W : World), (∀ x, W.cell? x = W1.cell? x) → (∀ x, W.frozen? x = W1.frozen? x) → ∀ ty dc, (Builtin.copy_ #[22, 22] ty #[.slice (some ⟨w.heap.size, 0, none⟩) (n + 1) dc, .slice (some ⟨vb, 0, none⟩) 1 1]).run Try.prog W = .ok (goInt [Value.int .i64 x].length) (W.setCells w.heap.size 0 [.int .i64 x]) := fun W hWc hWf ty dc =>
  run_copy_cells W _ _ ty 3 w.heap.size 0 (n + 1) dc ⟨vb, 0, none⟩ 1 1 [.int .i64 x] uT hsz (by simp [Nat.min_def])
   (fun j v hj => by
    rw [Addr.add_lit, hWc]
    match j, hj with
    | 0, hj => cases hj; exact hOv _ _ hvc)
   (fun j hj => by rw [hWc, Nat.zero_add]; exact hN _ (by simp at hj; omega)) (fun j hj => by rw [hWf]; exact hNf _) (by simp [Value.oneCell'])
 have hG63 : G ≤ 9223372036854775807 := by unfold maxLen at hGm; omega
 have hbN : b ≠ w.heap.size := by omega
 have hcpB : ∀ (W : World), (∀ y, W.cell? y = (W1.setCells w.heap.size 0 [.int .i64 x]).cell? y) → (∀ y, W.frozen? y = (W1.setCells w.heap.size 0 [.int .i64 x]).frozen? y) → ∀ ty dc sc, (Builtin.copy_ #[22, 22] ty #[.slice (some ⟨w.heap.size, 1, none⟩) n dc, .slice (some ⟨b, 0, none⟩) n sc]).run Try.prog W = .ok (goInt cs.length) (W.setCells w.heap.size 1 cs) := fun W hWc hWf ty dc sc =>
  run_copy_cells W _ _ ty 3 w.heap.size 1 n dc ⟨b, 0, none⟩ n sc cs uT hsz (by rw [hcl]; simp [Nat.min_def])
   (fun j v hj => by
    rw [Addr.add_lit, hWc, World.cell?_setCells_out _ _ _ _ _ (fun h _ => absurd h hbN), Nat.zero_add]
    exact hOb _ v (hcsc j v hj))
   (fun j hj => by rw [hWc]; exact isSome_setCells _ _ _ _ (fun t ht => hN _ (by simp at ht; omega)) _ (hN _ (by omega)))
   (fun j hj => by rw [hWf, World.frozen?_setCells]; exact hNf _) h1c
 subst hW1
 have hE1 : ∀ y, ((w.alloc (.cells ROW 3)).drew).cell? y = (w.drew.alloc (.cells ROW 3)).cell? y := fun y => rfl
 have hE2 : ∀ y, ((w.alloc (.cells ROW 3)).drew).frozen? y = (w.drew.alloc (.cells ROW 3)).frozen? y := fun y => rfl
 have hF1 : ∀ y, (((w.alloc (.cells ROW 3)).drew.setCells w.heap.size 0 [.int .i64 x]).drew).cell? y = ((w.drew.alloc (.cells ROW 3)).setCells w.heap.size 0 [.int .i64 x]).cell? y := fun y => rfl
 have hF2 : ∀ y, (((w.alloc (.cells ROW 3)).drew.setCells w.heap.size 0 [.int .i64 x]).drew).frozen? y = ((w.drew.alloc (.cells ROW 3)).setCells w.heap.size 0 [.int .i64 x]).frozen? y := fun y => rfl
 have hw1 : IntKind.i64.wrap ((n : Int) + 1) = (n : Int) + 1 := by rw [IntKind.wrap_i64]; omega
 have mixed : Try.prog.follows .mixedOrders = true := rfl
 have u1 : IntKind.i64.wrap 1 = 1 := by decide
 have u2 : (1 : Int) ≤ (n : Int) + 1 := by omega
 have u3 : (0 : Int) ≤ (n : Int) + 1 := by omega
 have u4 : ¬ (G = 1) := by omega
 have u5 : ¬ (G = 0) := by omega
 have u6 : (1 : Int).toNat = 1 := rfl
 have u7 : (0 : Int) ≤ (n : Int) := by omega
 have u8 : ¬ (c = 0) := by omega
 have d1 : decide ((0 : Int) = (n : Int)) = false := decide_eq_false (by omega)
 have d2 : decide ((c : Int) < (n : Int) + 1) = true := decide_eq_true (by omega)
 have d3 : (c : Int) < (n : Int) + 1 := by omega
 clear hold hROW hG
 go_enter Try.func45, Try.ntmps45
 go_wp2_with (first
  | (at_builtin; refine Lib.wpList_append_run _ rfl _ _ _ _ rfl _ _ rfl rfl _ _ (hrz _) ?_)
  | (at_builtin; refine wpList_copy_runI _ rfl _ _ 22 22 rfl _ _ rfl rfl (hcpA _ hE1 hE2 _ _) ?_)
  | (at_builtin; refine wpList_copy_runI _ rfl _ _ 22 22 rfl _ _ rfl rfl (hcpB _ (fun _ => rfl) (fun _ => rfl) _ _ _) ?_))
 go_region_law_o (refine step_copy_runI rfl _ _ 22 22 rfl (.slice (some ⟨w.heap.size, 1, none⟩) n (G - 1)) (.slice (some ⟨b, 0, none⟩) n c) (by simp [Act.eval, Act.put]) (by simp [Act.eval, Act.put]) (hcpB _ hF1 hF2 3 (G - 1) c) ?_)
 go_wp2
 go_ret
 exact ⟨G, ROW, hGn, hGm, hRl, rfl, rfl⟩
set_option maxHeartbeats 4000000 in
set_option maxRecDepth 100000 in
theorem insI_end_room (b c vb : Nat) (x : Int) (cur : Array Value) (w : World) (hc : 1 ≤ c)
  (hb : w.heap[b]? = some (.cells cur 3 (0, 0))) (hsz0 : cur.size = c) (hv : w.heap[vb]? = some (.cells #[.int .i64 x] 3 (0, 0))) :
  Calls Try.prog 45 #[.slice (some ⟨b, 0, none⟩) 0 c, .int .i64 0, .slice (some ⟨vb, 0, none⟩) 1 1] w fun e w' =>
   e = .returned (.slice (some ⟨b, 0, none⟩) 1 c) ∧ w' = w.setCells b 0 [.int .i64 x] := by
 have uT := Try.underlying22
 have u22 := Try.underlying22
 have hsp : (w.cell? ⟨b, 0, none⟩).isSome = true := by simp [World.cell?, hb, Array.getElem?_eq_getElem (show 0 < cur.size by omega)]
 have hfz : w.frozen? ⟨b, 0, none⟩ = false := by simp [World.frozen?, hb]
 have hvc : w.cell? ⟨vb, 0, none⟩ = some (.int .i64 x) := by simp [World.cell?, hv]
 have hsrc : Src Try.prog 1 22 (.slice (some ⟨vb, 0, none⟩) 1 1) 1 [.int .i64 x] w := Src.ofSlice w u22 ⟨vb, 0, none⟩ 1 1 [.int .i64 x] (by simp) (fun j u hj => by
  match j, hj with
  | 0, hj => cases hj; rw [Addr.add_lit]; exact hvc) (by simp [Value.oneCell'])
 have mixed : Try.prog.follows .mixedOrders = true := rfl
 go_enter Try.func45, Try.ntmps45
 go_wp2_with (at_builtin; refine wpList_append_room1 _ rfl _ _ 22 22 rfl 3 _ _ uT insI_intinfo b 0 0 c rfl _ rfl 1 [.int .i64 x] hsrc (by omega) (fun j hj => by (obtain rfl : j = 0 := by simp at hj; omega); exact hsp) (fun j hj => by (obtain rfl : j = 0 := by simp at hj; omega); exact hfz) ?_)
 go_ret
 exact ⟨rfl, rfl⟩
set_option maxHeartbeats 4000000 in
set_option maxRecDepth 100000 in
theorem insI_end_grow (base : Option Addr) (vb : Nat) (x : Int) (w : World) (hbs : base = none ∨ ∃ b, base = some ⟨b, 0, none⟩) (hv : w.heap[vb]? = some (.cells #[.int .i64 x] 3 (0, 0))) :
  Calls Try.prog 45 #[.slice base 0 0, .int .i64 0, .slice (some ⟨vb, 0, none⟩) 1 1] w fun e w' =>
   ∃ (G : Nat) (ROW : Array Value), 1 ≤ G ∧ G ≤ maxLen ∧ ROW.size = G ∧ ROW.toList.take 1 = [.int .i64 x] ∧ e = .returned (.slice (some ⟨w.heap.size, 0, none⟩) 1 G) ∧ w' = w.drew.alloc (.cells ROW 3) := by
 obtain ⟨i0, hi0, hzz0, hzz1, hzz2⟩ := info_parts insI_intinfo
 have uT := Try.underlying22
 have u22 := Try.underlying22
 have hvc : w.cell? ⟨vb, 0, none⟩ = some (.int .i64 x) := by simp [World.cell?, hv]
 have hsrc : Src Try.prog i0.size 22 (.slice (some ⟨vb, 0, none⟩) 1 1) 1 [.int .i64 x] w := by
  rw [hzz1]
  exact Src.ofSlice w u22 ⟨vb, 0, none⟩ 1 1 [.int .i64 x] (by simp) (fun j u hj => by
   match j, hj with
   | 0, hj => cases hj; rw [Addr.add_lit]; exact hvc) (by simp [Value.oneCell'])
 have hold : (Builtin.firstCells i0.size 0 (.slice base 0 0)).run Try.prog w.drew = .ok #[] w.drew := by
  rw [hzz1]
  rcases hbs with rfl | ⟨b, rfl⟩
  ·
   exact run_firstCells_none w.drew 1 0 0 0
  ·
   exact run_firstCells_some w.drew 1 0 ⟨b, 0, none⟩ 0 0 [] rfl (fun j v hj => by simp at hj)
 have hrun : ∀ ty, (Builtin.append_ #[22, 22] ty #[.slice base 0 0, .slice (some ⟨vb, 0, none⟩) 1 1]).run Try.prog w = _ := fun ty =>
  run_append_grow_src w 22 22 ty 3 i0 _ uT hi0 hzz0 base 0 0 [] hold _ 1 [.int .i64 x] hsrc (by omega) (by omega) (by rw [hzz2]; exact growslice_fits (by omega) (by omega))
 obtain ⟨G, hG⟩ : ∃ G, G = grownCap w (0 + 1) 0 3 := ⟨_, rfl⟩
 have hGn : 1 ≤ G := by rw [hG]; exact grownCap_ge w _ _ _
 have hGm : G ≤ maxLen := by rw [hG]; exact grownCap_le_maxLen w (0 + 1) 0 3 (by unfold maxLen; omega)
 obtain ⟨ROW, hROW⟩ : ∃ ROW : Array Value, ROW = ([] ++ [Value.int .i64 x]).toArray ++ Builtin.zeroCells (Value.int .i64 0).cells (G - (0 + 1)) := ⟨_, rfl⟩
 rw [← hG] at hrun
 rw [← hROW] at hrun
 have hRl : ROW.size = G := by
  rw [hROW]
  simp [Builtin.zeroCells, Value.cells]
  omega
 have hRt : ROW.toList.take 1 = [.int .i64 x] := by
  rw [hROW]
  simp
 have mixed : Try.prog.follows .mixedOrders = true := rfl
 clear hROW hG hold hsrc
 rcases hbs with rfl | ⟨b, rfl⟩
 ·
  go_enter Try.func45, Try.ntmps45
  go_wp2_with (at_builtin; refine Lib.wpList_append_run _ rfl _ _ _ _ rfl _ _ rfl rfl _ _ (hrun _) ?_)
  go_ret
  exact ⟨G, ROW, hGn, hGm, hRl, hRt, rfl, rfl⟩
 ·
  go_enter Try.func45, Try.ntmps45
  go_wp2_with (at_builtin; refine Lib.wpList_append_run _ rfl _ _ _ _ rfl _ _ rfl rfl _ _ (hrun _) ?_)
  go_ret
  exact ⟨G, ROW, hGn, hGm, hRl, hRt, rfl, rfl⟩
/-- slices.Insert(s, 0, x), s a row of the caller's own: it owns x :: xs behind it. -/
theorem insI_front (base vb : Nat) (v : Value) (xs : List Int) (x : Int) (w : World) (hR : Kd.R (Kd.int .i64) 3 w base (fun _ => True) v xs) (hlen : xs.length ≤ 1000000)
  (hv : w.heap[vb]? = some (.cells #[.int .i64 x] 3 (0, 0))) (hne : v.ownBlock ≠ some vb) (hbase : base ≤ w.heap.size) :
  Calls Try.prog 45 #[v, .int .i64 0, .slice (some ⟨vb, 0, none⟩) 1 1] w fun e w' => ∃ v', e = .returned v' ∧ Kd.R (Kd.int .i64) 3 w' base (fun _ => True) v' (x :: xs) ∧ w.grownBy w' v.ownBlock ∧ (v'.ownBlock = v.ownBlock ∨ ∃ b, v'.ownBlock = some b ∧ w.heap.size ≤ b) := by
 obtain ⟨_, hown⟩ := Kd.own_of_R hR
 have fresh : ∀ (W : World) (G : Nat) (cur : Array Value), W.heap[w.heap.size]? = some (.cells cur 3 (0, 0)) → xs.length + 1 ≤ G → G ≤ maxLen → cur.size = G → cur.toList.take (xs.length + 1) = (x :: xs).map (Value.int .i64) →
   Kd.R (Kd.int .i64) 3 W base (fun _ => True) (.slice (some ⟨w.heap.size, 0, none⟩) (xs.length + 1) G) (x :: xs) := fun W G cur h1 h2 h3 h4 h5 =>
  Kd.R_of_own ⟨by simp [encs], .inr ⟨_, G, cur, rfl, hbase, h1, h2, h3, by omega, by simpa [encs] using h5⟩⟩ (fun _ _ => trivial)
 rcases hown with ⟨rfl, h0⟩ | ⟨g, cap, cur, rfl, hg, hgb, hcap, hmax, hsz, htake⟩
 ·
  obtain rfl := List.eq_nil_of_length_eq_zero h0
  refine (insI_end_grow none vb x w (.inl rfl) hv).mono ?_
  rintro e w' ⟨G, ROW, h1, h2, h3, h4, rfl, rfl⟩
  refine ⟨_, rfl, fresh _ G ROW (blk_new w.drew _) h1 h2 h3 h4, ?_, .inr ⟨_, rfl, Nat.le_refl _⟩⟩
  exact World.grownBy.trans (⟨rfl, rfl, rfl, Nat.le_refl _, fun _ _ _ => rfl⟩ : w.grownBy w.drew _) (World.grownBy_alloc w.drew _ _)
 ·
  have hgw : g < w.heap.size := (Array.getElem?_eq_some_iff.1 hgb).1
  have hvg : vb ≠ g := fun e => hne (by rw [e]; rfl)
  have ht2 : cur.toList.take xs.length = xs.map (Value.int .i64) := by simpa [encs] using htake
  have hsz1 : cur.size = cap := by omega
  have grown : ∀ (W : World) (a b : Nat) (us vs : List Value), w.grownBy W (some g) → w.grownBy ((W.setCells g a us).setCells g b vs) (some g) := fun W a b us vs h => by
   obtain ⟨p1, p2, p3, p4⟩ := setCells_same g us a W
   obtain ⟨q1, q2, q3, q4⟩ := setCells_same g vs b (W.setCells g a us)
   exact ⟨by rw [q1, p1, h.os], by rw [q2, p2, h.tape], by rw [q3, p3, h.output], by rw [q4, p4]; exact h.size, fun k hk hkn => by
    have : k ≠ g := fun e => hkn (by rw [e])
    rw [setCells_far vs b k this, setCells_far us a k this]
    exact h.block k hk hkn⟩
  by_cases hn : 0 < xs.length
  ·
   by_cases hroom : xs.length + 1 ≤ cap
   ·
    refine (insI_shift g cap vb xs x cur w hn hroom hmax hvg hgb hsz1 ht2 hv).mono ?_
    rintro e w' ⟨rfl, rfl⟩
    obtain ⟨cur', r1, r2, r3⟩ := insI_row (W := w.drew) xs x hgb hsz1 hroom
    refine ⟨_, rfl, Kd.R_of_own ⟨by simp [encs], .inr ⟨_, cap, cur', rfl, hg, r1, hroom, hmax, by omega, by simpa [encs] using r3⟩⟩ (fun _ _ => trivial), ?_, .inl rfl⟩
    exact grown _ _ _ _ _ ((⟨rfl, rfl, rfl, Nat.le_refl _, fun _ _ _ => rfl⟩ : w.grownBy w.drew _))
   ·
    refine (insI_grow g cap vb xs x cur w hn hcap (by omega) hlen hgb hsz1 ht2 hv).mono ?_
    rintro e w' ⟨G, ROW, h1, h2, h3, rfl, rfl⟩
    rw [drew_setCells]
    obtain ⟨cur', r1, r2, r3⟩ := insI_row2 (W := (w.alloc (.cells ROW 3)).drew.drew) xs x (blk_new w _) h3 h1
    refine ⟨_, rfl, fresh _ G cur' r1 h1 h2 r2 r3, ?_, .inr ⟨_, rfl, Nat.le_refl _⟩⟩
    obtain ⟨p1, p2, p3, p4⟩ := setCells_same w.heap.size [.int .i64 x] 0 (w.alloc (.cells ROW 3)).drew.drew
    obtain ⟨q1, q2, q3, q4⟩ := setCells_same w.heap.size (xs.map (Value.int .i64)) 1 ((w.alloc (.cells ROW 3)).drew.drew.setCells w.heap.size 0 [.int .i64 x])
    have ha := World.grownBy_alloc w (.cells ROW 3) (some g)
    exact ⟨by rw [q1, p1]; exact ha.os, by rw [q2, p2]; exact ha.2, by rw [q3, p3]; exact ha.3, by rw [q4, p4]; exact ha.size, fun k hk hkn => by
     have : k ≠ w.heap.size := by omega
     rw [setCells_far _ _ k this, setCells_far _ _ k this]
     exact ha.block k hk hkn⟩
  ·
   have h0 : xs = [] := List.eq_nil_of_length_eq_zero (by omega)
   subst h0
   by_cases hc : 1 ≤ cap
   ·
    refine (insI_end_room g cap vb x cur w hc hgb hsz1 hv).mono ?_
    rintro e w' ⟨rfl, rfl⟩
    obtain ⟨cur', r1, r2, r3⟩ := setCells_row [.int .i64 x] 0 w cur hgb (by simp; omega)
    refine ⟨_, rfl, Kd.R_of_own ⟨by simp [encs], .inr ⟨_, cap, cur', rfl, hg, r1, hc, hmax, by omega, by rw [r3]; simp [encs]⟩⟩ (fun _ _ => trivial), ?_, .inl rfl⟩
    exact grown w 0 0 [] [.int .i64 x] ⟨rfl, rfl, rfl, Nat.le_refl _, fun _ _ _ => rfl⟩
   ·
    obtain rfl : cap = 0 := by omega
    refine (insI_end_grow (some ⟨g, 0, none⟩) vb x w (.inr ⟨g, rfl⟩) hv).mono ?_
    rintro e w' ⟨G, ROW, h1, h2, h3, h4, rfl, rfl⟩
    refine ⟨_, rfl, fresh _ G ROW (blk_new w.drew _) h1 h2 h3 h4, ?_, .inr ⟨_, rfl, Nat.le_refl _⟩⟩
    exact World.grownBy.trans (⟨rfl, rfl, rfl, Nat.le_refl _, fun _ _ _ => rfl⟩ : w.grownBy w.drew _) (World.grownBy_alloc w.drew _ _)
end


end Go.Proofs.Ytaofihdmgdpenaa.X
