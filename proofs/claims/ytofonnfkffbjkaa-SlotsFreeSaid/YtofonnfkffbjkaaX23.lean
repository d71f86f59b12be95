/- What Go functions of this seat compute, told as Lean functions, and that each call of the Go code comes to that answer; for a law: its row, for every input. Written by a program of the session. -/
import Derived.Test.YtofonnfkffbjkaaX0
import Derived.Test.YtofonnfkffbjkaaX1
import Derived.Test.YtofonnfkffbjkaaX2
import Derived.Test.YtofonnfkffbjkaaX22
namespace Go.Proofs.Ytofonnfkffbjkaa.X
open Go.RowKit Go.Proofs.YtofonnfkffbjkaaW.PrintWords Go.Proofs.YtofonnfkffbjkaaW.PrintLast Go.Proofs.YtofonnfkffbjkaaW.PrintMore
attribute [local go_sem] max2_int min2_int max_two min_two max_three min_three max_four min_four   -- for this text's walks alone
set_option linter.unusedVariables false
set_option linter.unusedSimpArgs false

/-! ### slots_Count: function 37 -/
def slotsCnt (u b r : Int) : List Int → List Bool → Int × Int × Int
 | x :: xs, y :: ys => slotsCnt (if x = 0 ∧ y = false then u + 1 else u) (if y = true then b + 1 else b) (wrap64 (r + x)) xs ys
 | _, _ => (u, b, r)
def slots_Count.f (k : Nat) (l0_0 : List Int) (l0_1 : List Bool) : Option (Int × Int × Int × Int) := (slots_Check.f k l0_0 l0_1).bind fun t => if t.1 = 0 then (if l0_0.length = l0_1.length ∧ l0_0.length < 1000 then some ((slotsCnt 0 0 0 l0_0 l0_1).1, (slotsCnt 0 0 0 l0_0 l0_1).2.1, (slotsCnt 0 0 0 l0_0 l0_1).2.2, 0) else none) else some (0, 0, 0, t.1)
theorem slots_Count.mono : ∀ a0 a1 k, LeO (slots_Count.f k a0 a1) (slots_Count.f (k + 1) a0 a1) := by
 intro a0 a1 k
 unfold slots_Count.f
 repeat' first
   | (with_reducible exact slots_Check.mono _ _ _)
   | (with_reducible exact LeO.refl _)
   | (with_reducible refine LeO.bind ?_ (fun _ => ?_))
theorem slotsCnt_step {u b r : Int} {l : List Int} {m : List Bool} {j : Nat} (hj : j < l.length) (hl : l.length = m.length) : slotsCnt u b r (l.drop j) (m.drop j) = slotsCnt (if l.getD j 0 = 0 ∧ m.getD j false = false then u + 1 else u) (if m.getD j false = true then b + 1 else b) (wrap64 (r + l.getD j 0)) (l.drop (j + 1)) (m.drop (j + 1)) := by
 rw [List.drop_eq_getElem_cons hj, List.drop_eq_getElem_cons (l := m) (by omega), slotsCnt]
 have e : l[j] = l.getD j 0 := by simp [List.getD_eq_getElem?_getD, List.getElem?_eq_getElem hj]
 have e' : m[j]'(by omega) = m.getD j false := by simp [List.getD_eq_getElem?_getD, List.getElem?_eq_getElem (show j < m.length by omega)]
 rw [e, e']
theorem slots_free_at {l : List Int} {m : List Bool} {j : Nat} (hj : j < l.length) (hm : j < m.length) : slots_free.f l m j = some (decide (l.getD j 0 = 0) && !(m.getD j false)) := by
 unfold slots_free.f
 have e : rd l (j : Int) = l.getD j 0 := by simp [rd, List.getD_eq_getElem?_getD]
 have e' : rdOf false m (j : Int) = m.getD j false := by simp [rdOf, List.getD_eq_getElem?_getD]
 rw [if_pos (by omega), if_pos (by omega), e, e']
 by_cases h : l.getD j 0 = 0
 ·
  rw [if_pos h, if_pos (by omega), decide_eq_true h]
  rfl
 ·
  rw [if_neg h, decide_eq_false h]
  rfl
abbrev SlotMap (w : World) (b n u : Nat) (g : Int → Option Bool) : Prop := MapSz Try.prog 3 4 (fun a : Int => .int .i64 a) (fun a => (Lit.int .i64 a).wf = true) (fun a : Bool => .lit (.bool a)) false w b n u g
theorem slot_keyBy : KeyBy Try.prog 3 (fun a : Int => .int .i64 a) (fun a => (Lit.int .i64 a).wf = true) := key_int _ _ _ Try.underlying3
set_option maxHeartbeats 4000000 in
set_option maxRecDepth 100000 in
theorem slots_Count.calls (k : Nat) (A0_0 : Option Addr) (c0_0 : Nat) (l0_0 : List Int) (A0_1 : Option Addr) (c0_1 : Nat) (l0_1 : List Bool) (r1 r2 r3 r4 : Int) (w : World) (hr0_0 : Kd.C (Kd.int .i64) w A0_0 l0_0.length l0_0) (hc0_0 : l0_0.length ≤ c0_0) (hr0_1 : Kd.C Kd.bool w A0_1 l0_1.length l0_1) (hc0_1 : l0_1.length ≤ c0_1) (h : slots_Count.f k l0_0 l0_1 = some (r1, r2, r3, r4)) :
  Calls Try.prog 37 #[.agg #[.slice A0_0 l0_0.length c0_0, .slice A0_1 l0_1.length c0_1]] w fun e w' => e = .returned (.tuple #[.int .i64 r1, .int .i64 r2, .int .i64 r3, .int .i64 r4]) ∧ Below w.heap.size w w' := by
 have huS := Try.underlying43
 have hmm := @run_makeMap Try.prog
 have HR0 := Aside0.mk hr0_0
 have HR1 := Aside0.mk hr0_1
 clear hr0_0 hr0_1
 unfold slots_Count.f at h
 obtain ⟨⟨t1, t2⟩, hc, H⟩ := Option.bind_eq_some_iff.mp h
 clear h
 have HC := Aside0.mk hc
 clear hc
 go_enter Try.func37, Try.ntmps37
 go_wp2_with fail
 refine (slots_Check.calls k _ _ l0_0 _ _ l0_1 t1 t2 _ (Kd.C_alloc HR0.out _) hc0_0 (Kd.C_alloc HR1.out _) hc0_1 HC.out).mono ?_
 rintro e w1 ⟨rfl, hb1⟩
 have BK := Aside0.mk (blk_below (blk_new w (.cells #[.slice A0_0 l0_0.length c0_0, .slice A0_1 l0_1.length c0_1] 43)) hb1)
 have HB1 := Aside0.mk (below_then (below_alloc (Below.refl w.heap.size w) _) (by simp) hb1)
 clear hb1
 by_cases c4 : t1 = 0
 case neg =>
  rw [if_neg c4] at H
  simp only [Option.some.injEq, Prod.mk.injEq] at H
  obtain ⟨rfl, rfl, rfl, rfl⟩ := H
  have c4b : (t1 != 0) = true := bne_iff_ne.mpr c4
  clear c4
  go_wp2
  refine bodyPost_ret (v := .tuple #[.int .i64 0, .int .i64 0, .int .i64 0, .int .i64 t1]) (by simp [results, Try.results37, go_sem]) rfl ⟨rfl, ?_⟩
  exact HB1.out
 subst c4
 rw [if_pos rfl] at H
 by_cases c5 : l0_0.length = l0_1.length ∧ l0_0.length < 1000
 case neg => rw [if_neg c5] at H; cases H
 rw [if_pos c5] at H
 have HL := Aside0.mk c5.1
 have hlt := c5.2
 clear c5
 have H2 : slotsCnt 0 0 0 l0_0 l0_1 = (r1, r2, r3) ∧ r4 = 0 := by
  simp only [Option.some.injEq, Prod.mk.injEq] at H
  obtain ⟨h1, h2, h3, h4⟩ := H
  exact ⟨Prod.ext h1 (Prod.ext h2 h3), h4.symm⟩
 obtain ⟨H3, rfl⟩ := H2
 have HS0 := Aside0.mk (show slotsCnt ((0 : Nat) : Int) 0 0 (l0_0.drop 0) (l0_1.drop 0) = (r1, r2, r3) from H3)
 clear H H3
 have hc0 : (w1.alloc (.map #[] 0)).cell? ⟨w.heap.size, 0, none⟩ = some (.slice A0_0 l0_0.length c0_0) := (blk_cell (blk_alloc BK.out (.map #[] 0)) 0).trans rfl
 have hc1 : (w1.alloc (.map #[] 0)).cell? ⟨w.heap.size, 1, none⟩ = some (.slice A0_1 l0_1.length c0_1) := (blk_cell (blk_alloc BK.out (.map #[] 0)) 1).trans rfl
 go_wp2
 go_loopg [3, 4, 23] l0_0.length (fun gg v3 v4 v wr => ∃ (j u : Nat) (b r : Int) (g : Int → Option Bool), j + gg = l0_0.length ∧ 0 ≤ b ∧ b ≤ j ∧ v = .int .i64 j ∧ v3 = .int .i64 b ∧ v4 = .int .i64 r ∧ Aside0 (slotsCnt u b r (l0_0.drop j) (l0_1.drop j) = (r1, r2, r3)) ∧ Aside0 (∀ i : Int, (j : Int) ≤ i → g i = none) ∧ Aside0 (SlotMap wr w1.heap.size j u g) ∧ Aside0 (Below w1.heap.size w1 wr))
 case atStart => exact ⟨0, 0, 0, 0, fun _ => none, by omega, by omega, by omega, rfl, rfl, rfl, HS0, ⟨fun _ _ => rfl⟩, ⟨mapSz_made w1⟩, ⟨below_alloc (Below.refl _ _) _⟩⟩
 case round =>
  clear HS0
  obtain ⟨j, u, b, r, g, hj, hb0, hbj, rfl, rfl, rfl, HS, HG, HM, HB⟩ := hrel
  have BK2 := Aside0.mk (blk_below BK.out HB.out)
  have hd0 : wr.cell? ⟨w.heap.size, 0, none⟩ = some (.slice A0_0 l0_0.length c0_0) := (blk_cell BK2.out 0).trans rfl
  have hd1 : wr.cell? ⟨w.heap.size, 1, none⟩ = some (.slice A0_1 l0_1.length c0_1) := (blk_cell BK2.out 1).trans rfl
  by_cases hjl : j < l0_0.length
  ·
   obtain ⟨ad0, hA0, hx0⟩ := C_at_ HR0.out 0 j hjl
   obtain ⟨ad1, hA1, hx1⟩ := C_at_ HR1.out false j (by have := HL.out; omega)
   subst hA0 hA1
   have hs := HS.out
   rw [slotsCnt_step hjl HL.out] at hs
   have hfree := slots_free_at (l := l0_0) (m := l0_1) hjl (by have := HL.out; omega)
   have hy0 := pw_cell_below HB.out (pw_cell_below HB1.out hx0)
   have hy1 := pw_cell_below HB.out (pw_cell_below HB1.out hx1)
   generalize l0_0.getD j 0 = n at hs hfree hy0
   have hx1b := hx1
   generalize l0_1.getD j false = m at hs hfree hy1 hx1b
   clear hx0 hx1 HS
   have HKO := Aside0.mk (show (Lit.int .i64 (j : Int)).wf = true from WalkArith.wf_i64 (by omega))
   have hjb : decide ((j : Int) < (l0_0.length : Int)) = true := decide_eq_true (by omega)
   have hjb' : decide (j < l0_0.length) = true := decide_eq_true hjl
   have hjm : j < l0_1.length := by have := HL.out; omega
   have hjb2 : decide ((j : Int) < (l0_1.length : Int)) = true := decide_eq_true (by have := HL.out; omega)
   have hjb3 : decide (j < l0_1.length) = true := decide_eq_true (by have := HL.out; omega)
   have HX1 := Aside0.mk hx1b
   clear hx1b
   cases m with
   | true =>
    rw [if_neg (by rintro ⟨_, h⟩; cases h), if_pos rfl] at hs
    rw [Bool.not_true, Bool.and_false] at hfree
    have HF := Aside0.mk hfree
    clear hfree
    have HS := Aside0.mk hs
    clear hs
    go_wp2_with (first | (at_mapUpdate; refine wpList_putSz slot_keyBy rfl _ _ _ _ rfl Try.underlying78 rfl HM.out (by omega) (j : Int) true rfl HKO.out _ rfl (plainElem_bool Try.underlying4 true) (HG.out _ (Int.le_refl _)) ?_; intro w5 hm5 hg5; have HB5 := Aside0.mk (HB.out.grown hg5 HB.out.size (by intro z hz; cases hz; exact Nat.le_refl _)); have HM5 := Aside0.mk hm5; clear hm5 hg5; have BK5 := Aside0.mk (blk_below BK.out HB5.out); have he0 : w5.cell? ⟨w.heap.size, 0, none⟩ = some (.slice (some ad0) l0_0.length c0_0) := (blk_cell BK5.out 0).trans rfl; have he1 : w5.cell? ⟨w.heap.size, 1, none⟩ = some (.slice (some ad1) l0_1.length c0_1) := (blk_cell BK5.out 1).trans rfl; have hz1 := pw_cell_below HB5.out (pw_cell_below HB1.out HX1.out)))
    refine (slots_free.calls _ _ l0_0 _ _ l0_1 (j : Int) _ _ (Kd.C_below HR0.out (below_then HB1.out (by have := HB1.out.size; omega) HB5.out)) hc0_0 (Kd.C_below HR1.out (below_then HB1.out (by have := HB1.out.size; omega) HB5.out)) hc0_1 HF.out).mono ?_
    rintro e w6 ⟨rfl, hb6⟩
    have HM6 := Aside0.mk (MapSz.below HM5.out hb6)
    have HB6 := Aside0.mk (below_then HB5.out (by have := HB5.out.size; omega) hb6)
    clear hb6
    go_wp2_with (first | (at_delete; refine wpList_delSz slot_keyBy rfl _ _ _ rfl Try.underlying78 rfl HM6.out (j : Int) rfl HKO.out (by simp) ?_; intro w7 hm7 hg7; have HB7 := Aside0.mk (HB6.out.grown hg7 HB6.out.size (by intro z hz; cases hz; exact Nat.le_refl _)); have HM7 := Aside0.mk hm7; clear hm7 hg7))
    go_roundg (gk - 1)
    case measure => omega
    case rel => exact ⟨j + 1, u, b + 1, _, _, by omega, by omega, by omega, by go_num, by go_num, rfl, HS, ⟨fun i hi => by rw [if_neg (by omega)]; first | exact HG.out i (by omega) | (rw [if_neg (by omega)]; exact HG.out i (by omega))⟩, ⟨HM7.out.mono (by omega)⟩, ⟨HB7.out⟩⟩
   | false =>
    by_cases hn : n = 0
    ·
     rw [if_pos ⟨hn, rfl⟩, if_neg (by decide)] at hs
     rw [decide_eq_true hn] at hfree
     have HF := Aside0.mk (show _ = some true from hfree)
     clear hfree hn
     have HS := Aside0.mk hs
     clear hs
     go_wp2_with (first | (at_mapUpdate; refine wpList_putSz slot_keyBy rfl _ _ _ _ rfl Try.underlying78 rfl HM.out (by omega) (j : Int) true rfl HKO.out _ rfl (plainElem_bool Try.underlying4 true) (HG.out _ (Int.le_refl _)) ?_; intro w5 hm5 hg5; have HB5 := Aside0.mk (HB.out.grown hg5 HB.out.size (by intro z hz; cases hz; exact Nat.le_refl _)); have HM5 := Aside0.mk hm5; clear hm5 hg5; have BK5 := Aside0.mk (blk_below BK.out HB5.out); have he0 : w5.cell? ⟨w.heap.size, 0, none⟩ = some (.slice (some ad0) l0_0.length c0_0) := (blk_cell BK5.out 0).trans rfl; have he1 : w5.cell? ⟨w.heap.size, 1, none⟩ = some (.slice (some ad1) l0_1.length c0_1) := (blk_cell BK5.out 1).trans rfl; have hz1 := pw_cell_below HB5.out (pw_cell_below HB1.out HX1.out)))
     refine (slots_free.calls _ _ l0_0 _ _ l0_1 (j : Int) _ _ (Kd.C_below HR0.out (below_then HB1.out (by have := HB1.out.size; omega) HB5.out)) hc0_0 (Kd.C_below HR1.out (below_then HB1.out (by have := HB1.out.size; omega) HB5.out)) hc0_1 HF.out).mono ?_
     rintro e w6 ⟨rfl, hb6⟩
     have HM6 := Aside0.mk (MapSz.below HM5.out hb6)
     have HB6 := Aside0.mk (below_then HB5.out (by have := HB5.out.size; omega) hb6)
     clear hb6
     go_wp2
     go_roundg (gk - 1)
     case measure => omega
     case rel => exact ⟨j + 1, u + 1, b, _, _, by omega, by omega, by omega, by go_num, rfl, rfl, HS, ⟨fun i hi => by rw [if_neg (by omega)]; first | exact HG.out i (by omega) | (rw [if_neg (by omega)]; exact HG.out i (by omega))⟩, ⟨HM6.out⟩, ⟨HB6.out⟩⟩
    ·
     rw [if_neg (fun h => hn h.1), if_neg (by decide)] at hs
     rw [decide_eq_false hn] at hfree
     have HF := Aside0.mk (show _ = some false from hfree)
     clear hfree hn
     have HS := Aside0.mk hs
     clear hs
     go_wp2_with (first | (at_mapUpdate; refine wpList_putSz slot_keyBy rfl _ _ _ _ rfl Try.underlying78 rfl HM.out (by omega) (j : Int) true rfl HKO.out _ rfl (plainElem_bool Try.underlying4 true) (HG.out _ (Int.le_refl _)) ?_; intro w5 hm5 hg5; have HB5 := Aside0.mk (HB.out.grown hg5 HB.out.size (by intro z hz; cases hz; exact Nat.le_refl _)); have HM5 := Aside0.mk hm5; clear hm5 hg5; have BK5 := Aside0.mk (blk_below BK.out HB5.out); have he0 : w5.cell? ⟨w.heap.size, 0, none⟩ = some (.slice (some ad0) l0_0.length c0_0) := (blk_cell BK5.out 0).trans rfl; have he1 : w5.cell? ⟨w.heap.size, 1, none⟩ = some (.slice (some ad1) l0_1.length c0_1) := (blk_cell BK5.out 1).trans rfl; have hz1 := pw_cell_below HB5.out (pw_cell_below HB1.out HX1.out)))
     refine (slots_free.calls _ _ l0_0 _ _ l0_1 (j : Int) _ _ (Kd.C_below HR0.out (below_then HB1.out (by have := HB1.out.size; omega) HB5.out)) hc0_0 (Kd.C_below HR1.out (below_then HB1.out (by have := HB1.out.size; omega) HB5.out)) hc0_1 HF.out).mono ?_
     rintro e w6 ⟨rfl, hb6⟩
     have HM6 := Aside0.mk (MapSz.below HM5.out hb6)
     have HB6 := Aside0.mk (below_then HB5.out (by have := HB5.out.size; omega) hb6)
     clear hb6
     go_wp2_with (first | (at_delete; refine wpList_delSz slot_keyBy rfl _ _ _ rfl Try.underlying78 rfl HM6.out (j : Int) rfl HKO.out (by simp) ?_; intro w7 hm7 hg7; have HB7 := Aside0.mk (HB6.out.grown hg7 HB6.out.size (by intro z hz; cases hz; exact Nat.le_refl _)); have HM7 := Aside0.mk hm7; clear hm7 hg7))
     go_roundg (gk - 1)
     case measure => omega
     case rel => exact ⟨j + 1, u, b, _, _, by omega, by omega, by omega, by go_num, rfl, rfl, HS, ⟨fun i hi => by rw [if_neg (by omega)]; first | exact HG.out i (by omega) | (rw [if_neg (by omega)]; exact HG.out i (by omega))⟩, ⟨HM7.out.mono (by omega)⟩, ⟨HB7.out⟩⟩
  ·
   have hjb : decide ((j : Int) < (l0_0.length : Int)) = false := decide_eq_false (by omega)
   have hs := HS.out
   rw [List.drop_eq_nil_of_le (by omega)] at hs
   have hs2 : ((u : Int), b, r) = (r1, r2, r3) := hs
   simp only [Prod.mk.injEq] at hs2
   obtain ⟨rfl, rfl, rfl⟩ := hs2
   clear hs HS
   go_wp2_with (first | (at_len; refine wpList_lenSz rfl _ _ rfl Try.underlying78 rfl HM.out ?_))
   refine bodyPost_ret (v := .tuple #[.int .i64 (u : Int), .int .i64 b, .int .i64 r, .int .i64 0]) (by simp [results, Try.results37, go_sem]) rfl ⟨rfl, ?_⟩
   exact below_then HB1.out (by have := HB1.out.size; omega) HB.out


end Go.Proofs.Ytofonnfkffbjkaa.X
