/- What Go functions of this seat compute, told as Lean functions, and that each call of the Go code comes to that answer; for a law: its row, for every input. Written by a program of the session. -/
import Derived.Shelf.SlicesE.Delete
import Derived.Ground.SlgnProg
import Derived.Lib.SliceRun
import Derived.Sort.OwnSortedInts
import Derived.Test.YtaofihdmgdpenaaX0
import Derived.Shelf.Spec.SlicesInsertGrow
import Derived.Test.YtaofihdmgdpenaaX10
import Derived.Test.YtaofihdmgdpenaaX2
namespace Go.Proofs.Ytaofihdmgdpenaa.X
open Go.RowKit Go.Proofs.YtaofihdmgdpenaaW.PrintWords Go.Proofs.YtaofihdmgdpenaaW.PrintLast Go.Proofs.YtaofihdmgdpenaaW.PrintMore
attribute [local go_sem] max2_int min2_int max_two min_two max_three min_three max_four min_four   -- for this text's walks alone
set_option linter.unusedVariables false
set_option linter.unusedSimpArgs false

/-! ### lru_list_int_68: function 68 -/
shelf_lay_g SlLaysE.n45 Slgn 45 at Try 68 as Try.delete_
section
open Go.Shelf Go.Lib Go.Sort
theorem delete_zero (w : World) : (zeroValue 3).run Try.prog w = .ok (.int .i64 0) w := by kernel_rfl
theorem delete_intinfo : (Try.prog.info? 3).map (fun i => (i.zero, i.size, i.bytes)) = some (some (.int .i64 0), 1, 8) := by kernel_rfl
set_option maxHeartbeats 2000000 in
set_option maxRecDepth 100000 in
/-- slices.Delete(s, n, n + 1), n + 1 its length, s a row of the caller's own. -/
theorem delete_last (base n : Nat) (v : Value) (xs : List Int) (w : World) (hR : Kd.R (Kd.int .i64) 3 w base (fun _ => True) v xs) (hn : xs.length = n + 1) (hlen : xs.length ≤ 1000000) :
  Calls Try.prog 68 #[v, .int .i64 n, .int .i64 ((n + 1 : Nat) : Int)] w fun e w' => ∃ v', e = .returned v' ∧ Kd.R (Kd.int .i64) 3 w' base (fun _ => True) v' (xs.take n) ∧ w.grownBy w' v.ownBlock ∧ v'.ownBlock = v.ownBlock := by
 obtain ⟨i0, hi0, hzz0, hzz1, hzz2⟩ := info_parts delete_intinfo
 obtain ⟨_, hown⟩ := Kd.own_of_R hR
 rcases hown with ⟨rfl, h0⟩ | ⟨g, cap, cur, rfl, hg, hgb, hcap, hmax, hsz, htake⟩
 ·
  omega
 ·
  have hH : Holds (Value.int .i64) w g 0 xs.toArray := Go.holds_of_blockI hgb (by simpa [encs] using htake)
  have hcon := AnyE.slices_Delete Try.delete_ (Value.int .i64) (fun _ => rfl) 0 delete_zero i0 hi0 hzz1 g 0 cap n (n + 1) xs.toArray w hH (by simpa using hcap) (by unfold maxLen at hmax; omega) (by omega) (by simp; omega)
  refine hcon.mono ?_
  rintro e w' ⟨rfl, q, rfl⟩
  have hh := Go.heap_sortedI (w := w) (n := q) (os := #[]) (xs.take n ++ xs.drop (n + 1) ++ List.replicate (n + 1 - n) 0).toArray hgb
  have hgr := Go.grownBy_sortedI (w := w) (g := g) (n := q) (os := #[]) (xs.take n ++ xs.drop (n + 1) ++ List.replicate (n + 1 - n) 0).toArray
  have htk := Go.take_putCellsI cur (xs.take n ++ xs.drop (n + 1) ++ List.replicate (n + 1 - n) 0) (by simp; omega)
  rw [grow_empty] at hh hgr
  have hl : (xs.take n).length = n := by rw [List.length_take]; omega
  refine ⟨_, rfl, Kd.R_of_own ⟨by simp [encs], .inr ⟨g, cap, _, ?_, hg, hh, by omega, hmax, by simp [putCells]; omega, ?_⟩⟩ (fun _ _ => trivial), hgr, rfl⟩
  ·
   rw [hl]; simp [hn]
  ·
   have := congrArg (List.take n) htk
   rw [List.take_take, Nat.min_eq_left (by simp; omega), List.append_assoc, List.map_append, List.take_append_of_le_length (by simp; omega), show List.take n (List.map (Value.int .i64) (xs.take n)) = List.map (Value.int .i64) (xs.take n) from List.take_of_length_le (by simp; omega)] at this
   rw [hl]
   simpa [encs, List.append_assoc] using this
end


end Go.Proofs.Ytaofihdmgdpenaa.X

namespace Go.Proofs.Ytaofihdmgdpenaa.X
open Go.RowKit Go.Proofs.YtaofihdmgdpenaaW.PrintWords Go.Proofs.YtaofihdmgdpenaaW.PrintLast Go.Proofs.YtaofihdmgdpenaaW.PrintMore
attribute [local go_sem] max2_int min2_int max_two min_two max_three min_three max_four min_four   -- for this text's walks alone
set_option linter.unusedVariables false
set_option linter.unusedSimpArgs false

/-! ### lru_list_pop: function 63 -/
set_option maxHeartbeats 2000000 in
set_option maxRecDepth 100000 in
/-- pop on a list that lies in a variable of its own. -/
theorem pop_own (base bp n : Nat) (v : Value) (xs : List Int) (w : World) (hp : w.heap[bp]? = some (.cells #[v] 72 (0, 0))) (hR : Kd.R (Kd.int .i64) 3 w base (fun _ => True) v xs) (hn : xs.length = n + 1) (hlen : xs.length ≤ 1000000) :
  Calls Try.prog 63 #[.pointer (some ⟨bp, 0, none⟩)] w fun e w' => e = .returned (.int .i64 (rd xs n)) ∧ ∃ v', w'.heap[bp]? = some (.cells #[v'] 72 (0, 0)) ∧ Kd.R (Kd.int .i64) 3 w' base (fun _ => True) v' (xs.take n) ∧ (∀ k, k < w.heap.size → k ≠ bp → some k ≠ v.ownBlock → w'.heap[k]? = w.heap[k]?) ∧ w.heap.size ≤ w'.heap.size ∧ v'.ownBlock = v.ownBlock ∧ (∀ B, B ≤ w.heap.size → B ≤ bp → (∀ k, v.ownBlock = some k → B ≤ k) → Below B w w') := by
 obtain ⟨g, d, rfl, gb, gl, cl, hgb⟩ := Kd.R_form hR (by omega)
 have hx0 := (blk_cell hp 0).trans rfl
 have hu72 := Try.underlying72
 obtain ⟨hx, hf⟩ := Kd.R_celln 0 hR (n : Int) (by omega) (by omega)
 simp only [Int.toNat_natCast] at hx hf
 have hw1 : IntKind.i64.wrap (((n + 1 : Nat) : Int) - 1) = (n : Int) := by rw [IntKind.wrap_i64]; omega
 have hw2 : IntKind.i64.wrap ((n : Int) + 1) = ((n + 1 : Nat) : Int) := by rw [IntKind.wrap_i64]; omega
 have p0 : ((0 : Int) ≤ (n : Int)) = True := eq_true (by omega)
 have p1 : ((n : Int) < ((n + 1 : Nat) : Int)) = True := eq_true (by omega)
 have HP := Aside0.mk hp
 have HR := Aside0.mk hR
 rw [hn] at hx0
 clear hp hgb
 go_enter Try.func63, Try.ntmps63
 go_wp2_with fail
 have hd := delete_last base n _ xs w HR.out hn hlen
 rw [hn] at hd
 refine hd.mono ?_
 rintro e w1 ⟨v', rfl, hR', hg, hat⟩
 obtain ⟨B', d', rfl⟩ := Kd.R_slice hR'
 have hl : (xs.take n).length = n := by rw [List.length_take]; omega
 rw [hl] at hR' hat
 have hRn := HR.out
 have hp1 := blk_grown HP.out hg (by have := Kd.R_ne HR.out HP.out (by decide); rw [hn] at this; exact this)
 rw [hn] at hp1
 have hy0 := (blk_cell hp1 0).trans rfl
 have hf0 := blk_frozen hp1 0
 have P1 := Aside0.mk hp1
 have R1 := Aside0.mk hR'
 have G1 := Aside0.mk hg
 have T1 := Aside0.mk hat
 clear hp1 hR' hg hat hx0 hd hRn
 go_wp2
 go_ret
 refine ⟨rfl, _, blk_put P1.out 0 _ rfl, Kd.R_mono (Kd.R_far (p := ⟨bp, 0, none⟩) (Kd.R_types R1.out P1.out (by decide)) (fun _ hk => hk.2) _) (fun _ hk => hk.1), fun k hk hne hnv => ?_, by have := G1.out.size; simpa using this, by rw [hn]; exact T1.out, fun B hB hBp hBv => ((Below.refl B w).grown G1.out hB (by rw [← hn]; exact hBv)).setCell (p := ⟨bp, 0, none⟩) hBp _⟩
 rw [Below.heap_setCell _ ⟨bp, 0, none⟩ _ k hne]
 exact G1.out.block k hk hnv


end Go.Proofs.Ytaofihdmgdpenaa.X

namespace Go.Proofs.Ytaofihdmgdpenaa.X
open Go.RowKit Go.Proofs.YtaofihdmgdpenaaW.PrintWords Go.Proofs.YtaofihdmgdpenaaW.PrintLast Go.Proofs.YtaofihdmgdpenaaW.PrintMore
attribute [local go_sem] max2_int min2_int max_two min_two max_three min_three max_four min_four   -- for this text's walks alone
set_option linter.unusedVariables false
set_option linter.unusedSimpArgs false

/-! ### lru_list_int_69: function 69 -/
section
open Go.Lib
attribute [local go_sem] Oper.semAt_some
theorem insL_intinfo : (Try.prog.info? 3).map (fun i => (i.zero, i.size, i.bytes)) = some (some (.int .i64 0), 1, 8) := by kernel_rfl
/-- Behind the two copies the row is x :: xs. -/
theorem insL_row {g c : Nat} {e : TypeId} {cur : Array Value} {W : World} (xs : List Int) (x : Int) (hb : W.heap[g]? = some (.cells cur e (0, 0))) (hs : cur.size = c) (hl : xs.length + 1 ≤ c) :
  ∃ cur', ((W.setCells g 1 (xs.map (Value.int .i64))).setCells g 0 [.int .i64 x]).heap[g]? = some (.cells cur' e (0, 0)) ∧ cur'.size = c ∧ cur'.toList.take (xs.length + 1) = (x :: xs).map (Value.int .i64) := by
 obtain ⟨c1, h1, h2, h3⟩ := setCells_row (xs.map (Value.int .i64)) 1 W cur hb (by simp; omega)
 obtain ⟨c2, h4, h5, h6⟩ := setCells_row [.int .i64 x] 0 (W.setCells g 1 (xs.map (Value.int .i64))) c1 h1 (by simp; omega)
 refine ⟨c2, h4, by omega, ?_⟩
 obtain ⟨y, ys, hy⟩ := List.exists_cons_of_length_pos (l := cur.toList) (by rw [Array.length_toList]; omega)
 rw [h6, h3, hy]
 simp
theorem insL_row2 {g c : Nat} {e : TypeId} {cur : Array Value} {W : World} (xs : List Int) (x : Int) (hb : W.heap[g]? = some (.cells cur e (0, 0))) (hs : cur.size = c) (hl : xs.length + 1 ≤ c) :
  ∃ cur', ((W.setCells g 0 [.int .i64 x]).setCells g 1 (xs.map (Value.int .i64))).heap[g]? = some (.cells cur' e (0, 0)) ∧ cur'.size = c ∧ cur'.toList.take (xs.length + 1) = (x :: xs).map (Value.int .i64) := by
 obtain ⟨c1, h1, h2, h3⟩ := setCells_row [.int .i64 x] 0 W cur hb (by simp; omega)
 obtain ⟨c2, h4, h5, h6⟩ := setCells_row (xs.map (Value.int .i64)) 1 (W.setCells g 0 [.int .i64 x]) c1 h1 (by simp; omega)
 refine ⟨c2, h4, by omega, ?_⟩
 rw [h6, h3]
 simp
set_option maxHeartbeats 4000000 in
set_option maxRecDepth 100000 in
theorem insL_shift (b c vb : Nat) (xs : List Int) (x : Int) (cur : Array Value) (w : World) (hn : 0 < xs.length) (hroom : xs.length + 1 ≤ c) (hc63 : c ≤ maxLen) (hvb : vb ≠ b)
  (hb : w.heap[b]? = some (.cells cur 3 (0, 0))) (hsz0 : cur.size = c) (htake : cur.toList.take xs.length = xs.map (Value.int .i64)) (hv : w.heap[vb]? = some (.cells #[.int .i64 x] 3 (0, 0))) :
  Calls Try.prog 69 #[.slice (some ⟨b, 0, none⟩) xs.length c, .int .i64 0, .slice (some ⟨vb, 0, none⟩) 1 1] w fun e w' =>
   e = .returned (.slice (some ⟨b, 0, none⟩) (xs.length + 1) c) ∧ w' = (w.drew.setCells b 1 (xs.map (Value.int .i64))).setCells b 0 [.int .i64 x] := by
 obtain ⟨i0, hi0, hzz0, hzz1, hzz2⟩ := info_parts insL_intinfo
 have hsz : (Try.prog.info? 3).map (·.size) = some 1 := by rw [hi0]; simp [hzz1]
 have uT := Try.underlying72
 have u22 := Try.underlying22
 generalize hcs : xs.map (Value.int .i64) = cs at htake ⊢
 have hcl : cs.length = xs.length := by rw [← hcs, List.length_map]
 have h1c : ∀ v ∈ cs, v.oneCell' = true := by rw [← hcs]; intro v hv; obtain ⟨y, _, rfl⟩ := List.mem_map.1 hv; rfl
 have hcsc : ∀ j v, cs[j]? = some v → w.cell? ⟨b, j, none⟩ = some v := fun j v hj => by
  have hjl : j < xs.length := by have := (List.getElem?_eq_some_iff.1 hj).1; omega
  rw [← htake, List.getElem?_take_of_lt hjl, Array.getElem?_toList] at hj
  simp [World.cell?, hb, hj]
 have hsp : ∀ j, j < xs.length + 1 → (w.cell? ⟨b, j, none⟩).isSome = true := fun j hj => by
  simp [World.cell?, hb, Array.getElem?_eq_getElem (show j < cur.size by omega)]
 have hfz : ∀ j, w.frozen? ⟨b, j, none⟩ = false := fun j => by simp [World.frozen?, hb]
 have hvc : w.cell? ⟨vb, 0, none⟩ = some (.int .i64 x) := by simp [World.cell?, hv]
 generalize xs.length = n at *
 have hov : ∀ lb cb, (callFunc 58 #[.slice (some ⟨vb, 0, none⟩) 1 1, .slice (some ⟨b, 1, none⟩) lb cb]).run Try.prog w = .ok (.value (.bool false)) w := fun lb cb => by
  rw [run_callFunc_extern Try.func58 (by kernel_rfl) (by kernel_rfl) (by kernel_rfl) (e := Extern.SlicesOverlaps.overlaps #[22, 22] #[4]) (by kernel_rfl),
   Lib.run_overlaps_apart w 22 4 3 Try.underlying22 1 (fun W => by kernel_rfl) ⟨vb, 0, none⟩ ⟨b, 1, none⟩ 1 1 lb cb hvb 3 3 1 c (by simp [World.shape?, hv]) (by simp [World.shape?, hb, hsz0]) (by omega) (by simp [World.frozen?, hv]) (by simp [World.frozen?, hv])]
  rfl
 have hcp1 : ∀ ty dc sc, (Builtin.copy_ #[72, 72] ty #[.slice (some ⟨b, 1, none⟩) n dc, .slice (some ⟨b, 0, none⟩) (n + 1) sc]).run Try.prog w.drew = .ok (goInt cs.length) (w.drew.setCells b 1 cs) := fun ty dc sc =>
  run_copy_cells w.drew _ _ ty 3 b 1 n dc ⟨b, 0, none⟩ (n + 1) sc cs uT hsz (by rw [hcl]; simp only [Nat.min_def]; split <;> omega)
   (fun j v hj => by rw [Addr.add_lit, Nat.zero_add]; exact hcsc j v hj)
   (fun j hj => by rw [Nat.add_comm]; exact hsp _ (by omega)) (fun j hj => hfz _) h1c
 obtain ⟨W1, hW1⟩ : ∃ W1, W1 = w.drew.setCells b 1 cs := ⟨_, rfl⟩
 have hsp1 : ∀ k, k < n + 1 → (W1.cell? ⟨b, k, none⟩).isSome = true := fun k hk => by
  rw [hW1]
  exact isSome_setCells b _ _ _ (fun j hj => by rw [Nat.add_comm]; exact hsp _ (by omega)) _ (hsp k hk)
 have hcp2 : ∀ (W : World), (∀ x, W.cell? x = W1.cell? x) → (∀ x, W.frozen? x = W1.frozen? x) → ∀ ty dc, (Builtin.copy_ #[72, 22] ty #[.slice (some ⟨b, 0, none⟩) (n + 1) dc, .slice (some ⟨vb, 0, none⟩) 1 1]).run Try.prog W = .ok (goInt [Value.int .i64 x].length) (W.setCells b 0 [.int .i64 x]) := fun W hWc hWf ty dc =>
  run_copy_cells W _ _ ty 3 b 0 (n + 1) dc ⟨vb, 0, none⟩ 1 1 [.int .i64 x] uT hsz (by simp [Nat.min_def])
   (fun j v hj => by
    rw [Addr.add_lit, hWc, hW1, World.cell?_setCells_out b _ _ _ _ (fun h _ => absurd h hvb)]
    match j, hj with
    | 0, hj => cases hj; exact hvc)
   (fun j hj => by rw [hWc, Nat.zero_add]; exact hsp1 _ (by simp at hj; omega)) (fun j hj => by rw [hWf, hW1, World.frozen?_setCells]; exact hfz _) (by simp [Value.oneCell'])
 rw [← hW1] at hcp1
 have hw1 : IntKind.i64.wrap ((n : Int) + 1) = (n : Int) + 1 := by rw [IntKind.wrap_i64]; unfold maxLen at hc63; omega
 have mixed : Try.prog.follows .mixedOrders = true := rfl
 have u1 : IntKind.i64.wrap 1 = 1 := by decide
 have u2 : (1 : Int) ≤ (n : Int) + 1 := by omega
 have u3 : (0 : Int) ≤ (n : Int) + 1 := by omega
 have u4 : ¬ (c = 1) := by omega
 have u5 : ¬ (c = 0) := by omega
 have u6 : (1 : Int).toNat = 1 := rfl
 have d1 : decide ((0 : Int) = (n : Int)) = false := decide_eq_false (by omega)
 have d2 : decide ((c : Int) < (n : Int) + 1) = false := decide_eq_false (by omega)
 have d3 : decide ((n : Int) + 1 ≤ (c : Int)) = true := decide_eq_true (by omega)
 go_enter Try.func69, Try.ntmps69
 go_wp2_with (simp only [hov])
 go_region_law_o (refine step_copy_runI rfl _ _ 72 72 rfl _ _ (by simp [Act.eval, Act.put]) (by simp [Act.eval, Act.put]) (hcp1 _ _ _) ?_)
 go_wp2_with (at_builtin; refine wpList_copy_runI _ rfl _ _ 72 22 rfl _ _ rfl rfl (hcp2 _ (fun _ => rfl) (fun _ => rfl) _ _) ?_)
 go_ret
 first | exact ⟨rfl, rfl⟩ | exact ⟨rfl, by rw [hW1]⟩
set_option maxHeartbeats 4000000 in
set_option maxRecDepth 100000 in
theorem insL_grow (b c vb : Nat) (xs : List Int) (x : Int) (cur : Array Value) (w : World) (hn : 0 < xs.length) (hnc : xs.length ≤ c) (hroom : c < xs.length + 1) (hbig : xs.length ≤ 1000000)
  (hb : w.heap[b]? = some (.cells cur 3 (0, 0))) (hsz0 : cur.size = c) (htake : cur.toList.take xs.length = xs.map (Value.int .i64)) (hv : w.heap[vb]? = some (.cells #[.int .i64 x] 3 (0, 0))) :
  Calls Try.prog 69 #[.slice (some ⟨b, 0, none⟩) xs.length c, .int .i64 0, .slice (some ⟨vb, 0, none⟩) 1 1] w fun e w' =>
   ∃ (G : Nat) (ROW : Array Value), xs.length + 1 ≤ G ∧ G ≤ maxLen ∧ ROW.size = G ∧ e = .returned (.slice (some ⟨w.heap.size, 0, none⟩) (xs.length + 1) G) ∧ w' = (((w.alloc (.cells ROW 3)).drew.setCells w.heap.size 0 [.int .i64 x]).drew).setCells w.heap.size 1 (xs.map (Value.int .i64)) := by
 obtain ⟨i0, hi0, hzz0, hzz1, hzz2⟩ := info_parts insL_intinfo
 have hsz : (Try.prog.info? 3).map (·.size) = some 1 := by rw [hi0]; simp [hzz1]
 have uT := Try.underlying72
 have u22 := Try.underlying22
 have hUi := Try.underlying3
 generalize hcs : xs.map (Value.int .i64) = cs at htake ⊢
 have hcl : cs.length = xs.length := by rw [← hcs, List.length_map]
 have h1c : ∀ v ∈ cs, v.oneCell' = true := by rw [← hcs]; intro v hv; obtain ⟨y, _, rfl⟩ := List.mem_map.1 hv; rfl
 have hcsc : ∀ j v, cs[j]? = some v → w.cell? ⟨b, j, none⟩ = some v := fun j v hj => by
  have hjl : j < xs.length := by have := (List.getElem?_eq_some_iff.1 hj).1; omega
  rw [← htake, List.getElem?_take_of_lt hjl, Array.getElem?_toList] at hj
  simp [World.cell?, hb, hj]
 have hvc : w.cell? ⟨vb, 0, none⟩ = some (.int .i64 x) := by simp [World.cell?, hv]
 have hbw : b < w.heap.size := (Array.getElem?_eq_some_iff.1 hb).1
 have hvw : vb < w.heap.size := (Array.getElem?_eq_some_iff.1 hv).1
 generalize xs.length = n at *
 have hold : (Builtin.firstCells i0.size 0 (.slice (some ⟨b, 0, none⟩) 0 c)).run Try.prog w.drew = .ok #[] w.drew := by
  rw [hzz1]
  exact run_firstCells_some w.drew 1 0 ⟨b, 0, none⟩ 0 c [] rfl (fun j v hj => by simp at hj)
 have hrz : ∀ ty, (Builtin.append_ #[72, 3] ty #[.slice (some ⟨b, 0, none⟩) 0 c, .int .i64 ((n : Int) + 1)]).run Try.prog w =
   .ok (.slice (some ⟨w.heap.size, 0, none⟩) (n + 1) (grownCap w (n + 1) c 3)) (w.drew.alloc (.cells (#[] ++ Builtin.zeroCells (Value.int .i64 0).cells (n + 1) ++ Builtin.zeroCells (Value.int .i64 0).cells (grownCap w (n + 1) c 3 - (n + 1))) 3)) := fun ty => by
  have h := Lib.run_append_grow_zeros w 72 3 ty 3 i0 _ .i64 .i64 uT hUi hi0 hzz0 (some ⟨b, 0, none⟩) 0 c [] hold (n + 1) (by omega) (by omega) (by omega) (by omega) (by rw [hzz2]; omega) (by rw [hzz2, Nat.zero_add]; exact growslice_fits hroom (by omega))
  rw [Nat.zero_add] at h
  exact h
 obtain ⟨G, hG⟩ : ∃ G, G = grownCap w (n + 1) c 3 := ⟨_, rfl⟩
 have hGn : n + 1 ≤ G := by rw [hG]; exact grownCap_ge w _ _ _
 have hGm : G ≤ maxLen := by rw [hG]; exact grownCap_le_maxLen w (n + 1) c 3 (by unfold maxLen; omega)
 obtain ⟨ROW, hROW⟩ : ∃ ROW : Array Value, ROW = #[] ++ Builtin.zeroCells (Value.int .i64 0).cells (n + 1) ++ Builtin.zeroCells (Value.int .i64 0).cells (G - (n + 1)) := ⟨_, rfl⟩
 rw [← hG] at hrz
 rw [← hROW] at hrz
 have hRl : ROW.size = G := by
  rw [hROW]
  simp [Builtin.zeroCells, Value.cells]
  omega
 obtain ⟨W1, hW1⟩ : ∃ W1, W1 = w.drew.alloc (.cells ROW 3) := ⟨_, rfl⟩
 rw [← hW1] at hrz
 have hN : ∀ j, j < n + 1 → (W1.cell? ⟨w.heap.size, j, none⟩).isSome = true := fun j hj => by
  rw [hW1, World.cell?_alloc_at (w := w.drew) ROW _ w.heap.size j rfl, Array.getElem?_eq_getElem (by omega)]; rfl
 have hNf : ∀ j, W1.frozen? ⟨w.heap.size, j, none⟩ = false := fun j => by rw [hW1]; exact World.frozen?_alloc_at (w := w.drew) ROW _ w.heap.size j rfl
 have hOb : ∀ j v, w.cell? ⟨b, j, none⟩ = some v → W1.cell? ⟨b, j, none⟩ = some v := fun j v h => by rw [hW1, World.cell?_alloc_past (w := w.drew) _ b j hbw]; exact h
 have hOv : ∀ j v, w.cell? ⟨vb, j, none⟩ = some v → W1.cell? ⟨vb, j, none⟩ = some v := fun j v h => by rw [hW1, World.cell?_alloc_past (w := w.drew) _ vb j hvw]; exact h
 have hcpA : ∀ (W : World), (∀ x, W.cell? x = W1.cell? x) → (∀ x, W.frozen? x = W1.frozen? x) → ∀ ty dc, (Builtin.copy_ #[72, 22] ty #[.slice (some ⟨w.heap.size, 0, none⟩) (n + 1) dc, .slice (some ⟨vb, 0, none⟩) 1 1]).run Try.prog W = .ok (goInt [Value.int .i64 x].length) (W.setCells w.heap.size 0 [.int .i64 x]) := fun W hWc hWf ty dc =>
  run_copy_cells W _ _ ty 3 w.heap.size 0 (n + 1) dc ⟨vb, 0, none⟩ 1 1 [.int .i64 x] uT hsz (by simp [Nat.min_def])
   (fun j v hj => by
    rw [Addr.add_lit, hWc]
    match j, hj with
    | 0, hj => cases hj; exact hOv _ _ hvc)
   (fun j hj => by rw [hWc, Nat.zero_add]; exact hN _ (by simp at hj; omega)) (fun j hj => by rw [hWf]; exact hNf _) (by simp [Value.oneCell'])
 have hG63 : G ≤ 9223372036854775807 := by unfold maxLen at hGm; omega
 have hbN : b ≠ w.heap.size := by omega
 have hcpB : ∀ (W : World), (∀ y, W.cell? y = (W1.setCells w.heap.size 0 [.int .i64 x]).cell? y) → (∀ y, W.frozen? y = (W1.setCells w.heap.size 0 [.int .i64 x]).frozen? y) → ∀ ty dc sc, (Builtin.copy_ #[72, 72] ty #[.slice (some ⟨w.heap.size, 1, none⟩) n dc, .slice (some ⟨b, 0, none⟩) n sc]).run Try.prog W = .ok (goInt cs.length) (W.setCells w.heap.size 1 cs) := fun W hWc hWf ty dc sc =>
  run_copy_cells W _ _ ty 3 w.heap.size 1 n dc ⟨b, 0, none⟩ n sc cs uT hsz (by rw [hcl]; simp [Nat.min_def])
   (fun j v hj => by
    rw [Addr.add_lit, hWc, World.cell?_setCells_out _ _ _ _ _ (fun h _ => absurd h hbN), Nat.zero_add]
    exact hOb _ v (hcsc j v hj))
   (fun j hj => by rw [hWc]; exact isSome_setCells _ _ _ _ (fun t ht => hN _ (by simp at ht; omega)) _ (hN _ (by omega)))
   (fun j hj => by rw [hWf, World.frozen?_setCells]; exact hNf _) h1c
 subst hW1
 have hE1 : ∀ y, ((w.alloc (.cells ROW 3)).drew).cell? y = (w.drew.alloc (.cells ROW 3)).cell? y := fun y => rfl
 have hE2 : ∀ y, ((w.alloc (.cells ROW 3)).drew).frozen? y = (w.drew.alloc (.cells ROW 3)).frozen? y := fun y => rfl
 have hF1 : ∀ y, (((w.alloc (.cells ROW 3)).drew.setCells w.heap.size 0 [.int .i64 x]).drew).cell? y = ((w.drew.alloc (.cells ROW 3)).setCells w.heap.size 0 [.int .i64 x]).cell? y := fun y => rfl
 have hF2 : ∀ y, (((w.alloc (.cells ROW 3)).drew.setCells w.heap.size 0 [.int .i64 x]).drew).frozen? y = ((w.drew.alloc (.cells ROW 3)).setCells w.heap.size 0 [.int .i64 x]).frozen? y := fun y => rfl
 have hw1 : IntKind.i64.wrap ((n : Int) + 1) = (n : Int) + 1 := by rw [IntKind.wrap_i64]; omega
 have mixed : Try.prog.follows .mixedOrders = true := rfl
 have u1 : IntKind.i64.wrap 1 = 1 := by decide
 have u2 : (1 : Int) ≤ (n : Int) + 1 := by omega
 have u3 : (0 : Int) ≤ (n : Int) + 1 := by omega
 have u4 : ¬ (G = 1) := by omega
 have u5 : ¬ (G = 0) := by omega
 have u6 : (1 : Int).toNat = 1 := rfl
 have u7 : (0 : Int) ≤ (n : Int) := by omega
 have u8 : ¬ (c = 0) := by omega
 have d1 : decide ((0 : Int) = (n : Int)) = false := decide_eq_false (by omega)
 have d2 : decide ((c : Int) < (n : Int) + 1) = true := decide_eq_true (by omega)
 have d3 : (c : Int) < (n : Int) + 1 := by omega
 clear hold hROW hG
 go_enter Try.func69, Try.ntmps69
 go_wp2_with (first
  | (at_builtin; refine Lib.wpList_append_run _ rfl _ _ _ _ rfl _ _ rfl rfl _ _ (hrz _) ?_)
  | (at_builtin; refine wpList_copy_runI _ rfl _ _ 72 22 rfl _ _ rfl rfl (hcpA _ hE1 hE2 _ _) ?_)
  | (at_builtin; refine wpList_copy_runI _ rfl _ _ 72 72 rfl _ _ rfl rfl (hcpB _ (fun _ => rfl) (fun _ => rfl) _ _ _) ?_))
 go_region_law_o (refine step_copy_runI rfl _ _ 72 72 rfl (.slice (some ⟨w.heap.size, 1, none⟩) n (G - 1)) (.slice (some ⟨b, 0, none⟩) n c) (by simp [Act.eval, Act.put]) (by simp [Act.eval, Act.put]) (hcpB _ hF1 hF2 3 (G - 1) c) ?_)
 go_wp2
 go_ret
 exact ⟨G, ROW, hGn, hGm, hRl, rfl, rfl⟩
set_option maxHeartbeats 4000000 in
set_option maxRecDepth 100000 in
theorem insL_end_room (b c vb : Nat) (x : Int) (cur : Array Value) (w : World) (hc : 1 ≤ c)
  (hb : w.heap[b]? = some (.cells cur 3 (0, 0))) (hsz0 : cur.size = c) (hv : w.heap[vb]? = some (.cells #[.int .i64 x] 3 (0, 0))) :
  Calls Try.prog 69 #[.slice (some ⟨b, 0, none⟩) 0 c, .int .i64 0, .slice (some ⟨vb, 0, none⟩) 1 1] w fun e w' =>
   e = .returned (.slice (some ⟨b, 0, none⟩) 1 c) ∧ w' = w.setCells b 0 [.int .i64 x] := by
 have uT := Try.underlying72
 have u22 := Try.underlying22
 have hsp : (w.cell? ⟨b, 0, none⟩).isSome = true := by simp [World.cell?, hb, Array.getElem?_eq_getElem (show 0 < cur.size by omega)]
 have hfz : w.frozen? ⟨b, 0, none⟩ = false := by simp [World.frozen?, hb]
 have hvc : w.cell? ⟨vb, 0, none⟩ = some (.int .i64 x) := by simp [World.cell?, hv]
 have hsrc : Src Try.prog 1 22 (.slice (some ⟨vb, 0, none⟩) 1 1) 1 [.int .i64 x] w := Src.ofSlice w u22 ⟨vb, 0, none⟩ 1 1 [.int .i64 x] (by simp) (fun j u hj => by
  match j, hj with
  | 0, hj => cases hj; rw [Addr.add_lit]; exact hvc) (by simp [Value.oneCell'])
 have mixed : Try.prog.follows .mixedOrders = true := rfl
 go_enter Try.func69, Try.ntmps69
 go_wp2_with (at_builtin; refine wpList_append_room1 _ rfl _ _ 72 22 rfl 3 _ _ uT insL_intinfo b 0 0 c rfl _ rfl 1 [.int .i64 x] hsrc (by omega) (fun j hj => by (obtain rfl : j = 0 := by simp at hj; omega); exact hsp) (fun j hj => by (obtain rfl : j = 0 := by simp at hj; omega); exact hfz) ?_)
 go_ret
 exact ⟨rfl, rfl⟩
set_option maxHeartbeats 4000000 in
set_option maxRecDepth 100000 in
theorem insL_end_grow (base : Option Addr) (vb : Nat) (x : Int) (w : World) (hbs : base = none ∨ ∃ b, base = some ⟨b, 0, none⟩) (hv : w.heap[vb]? = some (.cells #[.int .i64 x] 3 (0, 0))) :
  Calls Try.prog 69 #[.slice base 0 0, .int .i64 0, .slice (some ⟨vb, 0, none⟩) 1 1] w fun e w' =>
   ∃ (G : Nat) (ROW : Array Value), 1 ≤ G ∧ G ≤ maxLen ∧ ROW.size = G ∧ ROW.toList.take 1 = [.int .i64 x] ∧ e = .returned (.slice (some ⟨w.heap.size, 0, none⟩) 1 G) ∧ w' = w.drew.alloc (.cells ROW 3) := by
 obtain ⟨i0, hi0, hzz0, hzz1, hzz2⟩ := info_parts insL_intinfo
 have uT := Try.underlying72
 have u22 := Try.underlying22
 have hvc : w.cell? ⟨vb, 0, none⟩ = some (.int .i64 x) := by simp [World.cell?, hv]
 have hsrc : Src Try.prog i0.size 22 (.slice (some ⟨vb, 0, none⟩) 1 1) 1 [.int .i64 x] w := by
  rw [hzz1]
  exact Src.ofSlice w u22 ⟨vb, 0, none⟩ 1 1 [.int .i64 x] (by simp) (fun j u hj => by
   match j, hj with
   | 0, hj => cases hj; rw [Addr.add_lit]; exact hvc) (by simp [Value.oneCell'])
 have hold : (Builtin.firstCells i0.size 0 (.slice base 0 0)).run Try.prog w.drew = .ok #[] w.drew := by
  rw [hzz1]
  rcases hbs with rfl | ⟨b, rfl⟩
  ·
   exact run_firstCells_none w.drew 1 0 0 0
  ·
   exact run_firstCells_some w.drew 1 0 ⟨b, 0, none⟩ 0 0 [] rfl (fun j v hj => by simp at hj)
 have hrun : ∀ ty, (Builtin.append_ #[72, 22] ty #[.slice base 0 0, .slice (some ⟨vb, 0, none⟩) 1 1]).run Try.prog w = _ := fun ty =>
  run_append_grow_src w 72 22 ty 3 i0 _ uT hi0 hzz0 base 0 0 [] hold _ 1 [.int .i64 x] hsrc (by omega) (by omega) (by rw [hzz2]; exact growslice_fits (by omega) (by omega))
 obtain ⟨G, hG⟩ : ∃ G, G = grownCap w (0 + 1) 0 3 := ⟨_, rfl⟩
 have hGn : 1 ≤ G := by rw [hG]; exact grownCap_ge w _ _ _
 have hGm : G ≤ maxLen := by rw [hG]; exact grownCap_le_maxLen w (0 + 1) 0 3 (by unfold maxLen; omega)
 obtain ⟨ROW, hROW⟩ : ∃ ROW : Array Value, ROW = ([] ++ [Value.int .i64 x]).toArray ++ Builtin.zeroCells (Value.int .i64 0).cells (G - (0 + 1)) := ⟨_, rfl⟩
 rw [← hG] at hrun
 rw [← hROW] at hrun
 have hRl : ROW.size = G := by
  rw [hROW]
  simp [Builtin.zeroCells, Value.cells]
  omega
 have hRt : ROW.toList.take 1 = [.int .i64 x] := by
  rw [hROW]
  simp
 have mixed : Try.prog.follows .mixedOrders = true := rfl
 clear hROW hG hold hsrc
 rcases hbs with rfl | ⟨b, rfl⟩
 ·
  go_enter Try.func69, Try.ntmps69
  go_wp2_with (at_builtin; refine Lib.wpList_append_run _ rfl _ _ _ _ rfl _ _ rfl rfl _ _ (hrun _) ?_)
  go_ret
  exact ⟨G, ROW, hGn, hGm, hRl, hRt, rfl, rfl⟩
 ·
  go_enter Try.func69, Try.ntmps69
  go_wp2_with (at_builtin; refine Lib.wpList_append_run _ rfl _ _ _ _ rfl _ _ rfl rfl _ _ (hrun _) ?_)
  go_ret
  exact ⟨G, ROW, hGn, hGm, hRl, hRt, rfl, rfl⟩
/-- slices.Insert(s, 0, x), s a row of the caller's own: it owns x :: xs behind it. -/
theorem insL_front (base vb : Nat) (v : Value) (xs : List Int) (x : Int) (w : World) (hR : Kd.R (Kd.int .i64) 3 w base (fun _ => True) v xs) (hlen : xs.length ≤ 1000000)
  (hv : w.heap[vb]? = some (.cells #[.int .i64 x] 3 (0, 0))) (hne : v.ownBlock ≠ some vb) (hbase : base ≤ w.heap.size) :
  Calls Try.prog 69 #[v, .int .i64 0, .slice (some ⟨vb, 0, none⟩) 1 1] w fun e w' => ∃ v', e = .returned v' ∧ Kd.R (Kd.int .i64) 3 w' base (fun _ => True) v' (x :: xs) ∧ w.grownBy w' v.ownBlock ∧ (v'.ownBlock = v.ownBlock ∨ ∃ b, v'.ownBlock = some b ∧ w.heap.size ≤ b) := by
 obtain ⟨_, hown⟩ := Kd.own_of_R hR
 have fresh : ∀ (W : World) (G : Nat) (cur : Array Value), W.heap[w.heap.size]? = some (.cells cur 3 (0, 0)) → xs.length + 1 ≤ G → G ≤ maxLen → cur.size = G → cur.toList.take (xs.length + 1) = (x :: xs).map (Value.int .i64) →
   Kd.R (Kd.int .i64) 3 W base (fun _ => True) (.slice (some ⟨w.heap.size, 0, none⟩) (xs.length + 1) G) (x :: xs) := fun W G cur h1 h2 h3 h4 h5 =>
  Kd.R_of_own ⟨by simp [encs], .inr ⟨_, G, cur, rfl, hbase, h1, h2, h3, by omega, by simpa [encs] using h5⟩⟩ (fun _ _ => trivial)
 rcases hown with ⟨rfl, h0⟩ | ⟨g, cap, cur, rfl, hg, hgb, hcap, hmax, hsz, htake⟩
 ·
  obtain rfl := List.eq_nil_of_length_eq_zero h0
  refine (insL_end_grow none vb x w (.inl rfl) hv).mono ?_
  rintro e w' ⟨G, ROW, h1, h2, h3, h4, rfl, rfl⟩
  refine ⟨_, rfl, fresh _ G ROW (blk_new w.drew _) h1 h2 h3 h4, ?_, .inr ⟨_, rfl, Nat.le_refl _⟩⟩
  exact World.grownBy.trans (⟨rfl, rfl, rfl, Nat.le_refl _, fun _ _ _ => rfl⟩ : w.grownBy w.drew _) (World.grownBy_alloc w.drew _ _)
 ·
  have hgw : g < w.heap.size := (Array.getElem?_eq_some_iff.1 hgb).1
  have hvg : vb ≠ g := fun e => hne (by rw [e]; rfl)
  have ht2 : cur.toList.take xs.length = xs.map (Value.int .i64) := by simpa [encs] using htake
  have hsz1 : cur.size = cap := by omega
  have grown : ∀ (W : World) (a b : Nat) (us vs : List Value), w.grownBy W (some g) → w.grownBy ((W.setCells g a us).setCells g b vs) (some g) := fun W a b us vs h => by
   obtain ⟨p1, p2, p3, p4⟩ := setCells_same g us a W
   obtain ⟨q1, q2, q3, q4⟩ := setCells_same g vs b (W.setCells g a us)
   exact ⟨by rw [q1, p1, h.os], by rw [q2, p2, h.tape], by rw [q3, p3, h.output], by rw [q4, p4]; exact h.size, fun k hk hkn => by
    have : k ≠ g := fun e => hkn (by rw [e])
    rw [setCells_far vs b k this, setCells_far us a k this]
    exact h.block k hk hkn⟩
  by_cases hn : 0 < xs.length
  ·
   by_cases hroom : xs.length + 1 ≤ cap
   ·
    refine (insL_shift g cap vb xs x cur w hn hroom hmax hvg hgb hsz1 ht2 hv).mono ?_
    rintro e w' ⟨rfl, rfl⟩
    obtain ⟨cur', r1, r2, r3⟩ := insL_row (W := w.drew) xs x hgb hsz1 hroom
    refine ⟨_, rfl, Kd.R_of_own ⟨by simp [encs], .inr ⟨_, cap, cur', rfl, hg, r1, hroom, hmax, by omega, by simpa [encs] using r3⟩⟩ (fun _ _ => trivial), ?_, .inl rfl⟩
    exact grown _ _ _ _ _ ((⟨rfl, rfl, rfl, Nat.le_refl _, fun _ _ _ => rfl⟩ : w.grownBy w.drew _))
   ·
    refine (insL_grow g cap vb xs x cur w hn hcap (by omega) hlen hgb hsz1 ht2 hv).mono ?_
    rintro e w' ⟨G, ROW, h1, h2, h3, rfl, rfl⟩
    rw [drew_setCells]
    obtain ⟨cur', r1, r2, r3⟩ := insL_row2 (W := (w.alloc (.cells ROW 3)).drew.drew) xs x (blk_new w _) h3 h1
    refine ⟨_, rfl, fresh _ G cur' r1 h1 h2 r2 r3, ?_, .inr ⟨_, rfl, Nat.le_refl _⟩⟩
    obtain ⟨p1, p2, p3, p4⟩ := setCells_same w.heap.size [.int .i64 x] 0 (w.alloc (.cells ROW 3)).drew.drew
    obtain ⟨q1, q2, q3, q4⟩ := setCells_same w.heap.size (xs.map (Value.int .i64)) 1 ((w.alloc (.cells ROW 3)).drew.drew.setCells w.heap.size 0 [.int .i64 x])
    have ha := World.grownBy_alloc w (.cells ROW 3) (some g)
    exact ⟨by rw [q1, p1]; exact ha.os, by rw [q2, p2]; exact ha.2, by rw [q3, p3]; exact ha.3, by rw [q4, p4]; exact ha.size, fun k hk hkn => by
     have : k ≠ w.heap.size := by omega
     rw [setCells_far _ _ k this, setCells_far _ _ k this]
     exact ha.block k hk hkn⟩
  ·
   have h0 : xs = [] := List.eq_nil_of_length_eq_zero (by omega)
   subst h0
   by_cases hc : 1 ≤ cap
   ·
    refine (insL_end_room g cap vb x cur w hc hgb hsz1 hv).mono ?_
    rintro e w' ⟨rfl, rfl⟩
    obtain ⟨cur', r1, r2, r3⟩ := setCells_row [.int .i64 x] 0 w cur hgb (by simp; omega)
    refine ⟨_, rfl, Kd.R_of_own ⟨by simp [encs], .inr ⟨_, cap, cur', rfl, hg, r1, hc, hmax, by omega, by rw [r3]; simp [encs]⟩⟩ (fun _ _ => trivial), ?_, .inl rfl⟩
    exact grown w 0 0 [] [.int .i64 x] ⟨rfl, rfl, rfl, Nat.le_refl _, fun _ _ _ => rfl⟩
   ·
    obtain rfl : cap = 0 := by omega
    refine (insL_end_grow (some ⟨g, 0, none⟩) vb x w (.inr ⟨g, rfl⟩) hv).mono ?_
    rintro e w' ⟨G, ROW, h1, h2, h3, h4, rfl, rfl⟩
    refine ⟨_, rfl, fresh _ G ROW (blk_new w.drew _) h1 h2 h3 h4, ?_, .inr ⟨_, rfl, Nat.le_refl _⟩⟩
    exact World.grownBy.trans (⟨rfl, rfl, rfl, Nat.le_refl _, fun _ _ _ => rfl⟩ : w.grownBy w.drew _) (World.grownBy_alloc w.drew _ _)
end


end Go.Proofs.Ytaofihdmgdpenaa.X

namespace Go.Proofs.Ytaofihdmgdpenaa.X
open Go.RowKit Go.Proofs.YtaofihdmgdpenaaW.PrintWords Go.Proofs.YtaofihdmgdpenaaW.PrintLast Go.Proofs.YtaofihdmgdpenaaW.PrintMore
attribute [local go_sem] max2_int min2_int max_two min_two max_three min_three max_four min_four   -- for this text's walks alone
set_option linter.unusedVariables false
set_option linter.unusedSimpArgs false

/-! ### lru_list_push: function 64 -/
set_option maxHeartbeats 2000000 in
set_option maxRecDepth 100000 in
/-- push on a list that lies in a variable of its own: it owns x :: xs behind it, and nothing else has turned. -/
theorem push_own (base bp : Nat) (v : Value) (xs : List Int) (x : Int) (w : World) (hp : w.heap[bp]? = some (.cells #[v] 72 (0, 0))) (hR : Kd.R (Kd.int .i64) 3 w base (fun _ => True) v xs) (hlen : xs.length ≤ 1000000) (hbase : base ≤ w.heap.size) :
  Calls Try.prog 64 #[.pointer (some ⟨bp, 0, none⟩), .int .i64 x] w fun e w' => e = .returned (.tuple #[]) ∧ ∃ v', w'.heap[bp]? = some (.cells #[v'] 72 (0, 0)) ∧ Kd.R (Kd.int .i64) 3 w' base (fun _ => True) v' (x :: xs) ∧ (∀ k, k < w.heap.size → k ≠ bp → some k ≠ v.ownBlock → w'.heap[k]? = w.heap[k]?) ∧ w.heap.size ≤ w'.heap.size ∧ (v'.ownBlock = v.ownBlock ∨ ∃ b, v'.ownBlock = some b ∧ w.heap.size ≤ b) ∧ (∀ B, B ≤ w.heap.size → B ≤ bp → (∀ k, v.ownBlock = some k → B ≤ k) → Below B w w') := by
 obtain ⟨B, d, rfl⟩ := Kd.R_slice hR
 have hx0 := (blk_cell hp 0).trans rfl
 have hu72 := Try.underlying72
 have HP := Aside0.mk hp
 have HR := Aside0.mk hR
 clear hp hR
 go_enter Try.func64, Try.ntmps64
 go_wp2_with fail
 have hA := Kd.R_alloc HR.out (.cells #[.int .i64 x] 3)
 refine (insL_front base w.heap.size _ xs x _ hA hlen (blk_new w _) (fun he => by have := own_lt (Kd.own_of_R HR.out) _ he; omega) (by simp; omega)).mono ?_
 rintro e w1 ⟨v', rfl, hR', hg, hat⟩
 obtain ⟨B', d', rfl⟩ := Kd.R_slice hR'
 have hp1 := blk_grown (blk_alloc HP.out (.cells #[.int .i64 x] 3)) hg (Kd.R_ne hA (blk_alloc HP.out _) (by decide))
 have hy0 := (blk_cell hp1 0).trans rfl
 have hf0 := blk_frozen hp1 0
 have P1 := Aside0.mk hp1
 have R1 := Aside0.mk hR'
 have G1 := Aside0.mk hg
 have T1 := Aside0.mk hat
 clear hp1 hR' hg hat hA hx0
 go_wp2
 go_end0
 refine ⟨rfl, _, blk_put P1.out 0 _ rfl, Kd.R_mono (Kd.R_far (p := ⟨bp, 0, none⟩) (Kd.R_types R1.out P1.out (by decide)) (fun _ hk => hk.2) _) (fun _ hk => hk.1), fun k hk hne hnv => ?_, ?_, ?_, fun B hB hBp hBv => ?_⟩
 ·
  rw [Below.heap_setCell _ ⟨bp, 0, none⟩ _ k hne, G1.out.block k (by simp; omega) hnv]
  exact Below.heap_alloc w _ k hk
 ·
  have := G1.out.size
  simp at this ⊢
  omega
 ·
  rcases T1.out with h | ⟨b, h, hb⟩
  ·
   exact .inl h
  ·
   exact .inr ⟨b, h, by simp at hb; omega⟩
 ·
  exact (((Below.refl B w).alloc hB _).grown G1.out (by simp; omega) hBv).setCell (p := ⟨bp, 0, none⟩) hBp _


end Go.Proofs.Ytaofihdmgdpenaa.X

namespace Go.Proofs.Ytaofihdmgdpenaa.X
open Go.RowKit Go.Proofs.YtaofihdmgdpenaaW.PrintWords Go.Proofs.YtaofihdmgdpenaaW.PrintLast Go.Proofs.YtaofihdmgdpenaaW.PrintMore
attribute [local go_sem] max2_int min2_int max_two min_two max_three min_three max_four min_four   -- for this text's walks alone
set_option linter.unusedVariables false
set_option linter.unusedSimpArgs false

/-! ### lru_move: function 54 -/
/-- Lists in a variable of the caller's own. -/
structure MvSt (base : Nat) (W : World) (b : Nat) (v0 v1 v2 : Value) (x0 x1 : List Int) (t3 : List Bool) : Prop where
 r0 : Kd.R (Kd.int .i64) 3 W base (fun k_ => some k_ ≠ v1.ownBlock) v0 x0
 r1 : Kd.R (Kd.int .i64) 3 W base (fun k_ => some k_ ≠ v0.ownBlock) v1 x1
 r2 : Kd.R Kd.bool 4 W base (fun _ => True) v2 t3
 h : W.heap[b]? = some (.cells #[v0, v1, v2] 25 (0, 0))
 lo : base ≤ b
 size : base ≤ W.heap.size
theorem MvSt.put {base b i : Nat} {W : World} {v0 v1 v2 u v0' v1' : Value} {x0 x1 : List Int} {t3 : List Bool} (h : MvSt base W b v0 v1 v2 x0 x1 t3) (he : #[v0, v1, v2].setIfInBounds i u = #[v0', v1', v2]) (y0 y1 : List Int) (h0 : Kd.R (Kd.int .i64) 3 W base (fun k_ => some k_ ≠ v1'.ownBlock) v0' y0) (h1 : Kd.R (Kd.int .i64) 3 W base (fun k_ => some k_ ≠ v0'.ownBlock) v1' y1) : MvSt base (W.setCell ⟨b, i, none⟩ u) b v0' v1' v2 y0 y1 t3 :=
 ⟨R_set h0 h.h (by decide), R_set h1 h.h (by decide), R_set h.r2 h.h (by decide), blk_put h.h i u he, h.lo, by simp [h.size]⟩
/-- Two boxes of the call's own. -/
structure MvIn (w W : World) (b8 b9 : Nat) (v8 v9 : Value) : Prop where
 h8 : W.heap[b8]? = some (.cells #[v8] 72 (0, 0))
 h9 : W.heap[b9]? = some (.cells #[v9] 72 (0, 0))
 below : Below w.heap.size w W
 l8 : w.heap.size ≤ b8
 l9 : w.heap.size ≤ b9
 ne : b8 ≠ b9
/-- Behind pop and push. -/
structure MvOut (base : Nat) (w W : World) (b b8 b9 : Nat) (vf vt v2 : Value) (vf' vt' : Value) (yf yt : List Int) (t3 : List Bool) (vs : Array Value) : Prop where
 h8 : W.heap[b8]? = some (.cells #[vf'] 72 (0, 0))
 h9 : W.heap[b9]? = some (.cells #[vt'] 72 (0, 0))
 rf : Kd.R (Kd.int .i64) 3 W base (fun k_ => some k_ ≠ vt'.ownBlock) vf' yf
 rt : Kd.R (Kd.int .i64) 3 W base (fun k_ => some k_ ≠ vf'.ownBlock) vt' yt
 r2 : Kd.R Kd.bool 4 W base (fun _ => True) v2 t3
 h : W.heap[b]? = some (.cells vs 25 (0, 0))
 below : Below base w W
theorem MvIn.run {base b n : Nat} {w W : World} {b8 b9 : Nat} {vf vt v2 : Value} {xf xt : List Int} {t3 : List Bool} {vs : Array Value} (hI : MvIn w W b8 b9 vf vt)
  (hf : Kd.R (Kd.int .i64) 3 w base (fun k_ => some k_ ≠ vt.ownBlock) vf xf) (ht : Kd.R (Kd.int .i64) 3 w base (fun k_ => some k_ ≠ vf.ownBlock) vt xt) (h2 : Kd.R Kd.bool 4 w base (fun _ => True) v2 t3) (h : w.heap[b]? = some (.cells vs 25 (0, 0))) (hb : base ≤ b) (hsz : base ≤ w.heap.size)
  (hn : xf.length = n + 1) (hl0 : xf.length ≤ 1000000) (hl1 : xt.length ≤ 1000000) :
  Calls Try.prog 63 #[.pointer (some ⟨b8, 0, none⟩)] W fun e W1 => e = .returned (.int .i64 (rd xf n)) ∧ Calls Try.prog 64 #[.pointer (some ⟨b9, 0, none⟩), .int .i64 (rd xf n)] W1 fun e W2 => e = .returned (.tuple #[]) ∧ ∃ vf' vt', MvOut base w W2 b b8 b9 vf vt v2 vf' vt' (xf.take n) (rd xf n :: xt) t3 vs := by
 have hB := hI.below
 have fW := Kd.R_below hf hB
 have tW := Kd.R_below ht hB
 have sW := hB.size
 refine (pop_own base b8 n vf xf W hI.h8 (Kd.R_mono fW fun _ _ => trivial) hn hl0).mono ?_
 rintro e W1 ⟨rfl, vf', p8, pR, pk, ps, po, pB⟩
 refine ⟨rfl, ?_⟩
 have n9 : some b9 ≠ vf.ownBlock := Kd.R_ne fW hI.h9 (by decide)
 have q9 : W1.heap[b9]? = some (.cells #[vt] 72 (0, 0)) := (pk b9 (blk_lt hI.h9) hI.ne.symm n9).trans hI.h9
 have tW1 : Kd.R (Kd.int .i64) 3 W1 base (fun k_ => some k_ ≠ vf.ownBlock) vt xt := Kd.R_mono (Kd.R_step (Kd.R_types tW hI.h8 (by decide)) fun k hk hlt => pk k hlt hk.2 hk.1) fun _ hk => hk.1
 have fb := Kd.R_base hf
 have tb := Kd.R_base ht
 have fl := Kd.R_lt hf
 have tl := Kd.R_lt ht
 have hB1 : Below base w W1 := (hB.mono hsz).trans (pB base (by omega) (by have := hI.l8; omega) fb)
 refine (push_own base b9 vt xt (rd xf n) W1 q9 (Kd.R_mono tW1 fun _ _ => trivial) hl1 (by omega)).mono ?_
 rintro e W2 ⟨rfl, vt', r9, rR, rk, rs, ro, rB⟩
 have n8 : some b8 ≠ vt.ownBlock := Kd.R_ne tW1 p8 (by decide)
 have bW := blk_below h hB
 have nb0 : some b ≠ vf.ownBlock := Kd.R_ne fW bW (by decide)
 have nb1 : some b ≠ vt.ownBlock := Kd.R_ne tW bW (by decide)
 have nb8 : b ≠ b8 := blk_ne bW hI.h8 (by decide)
 have nb9 : b ≠ b9 := blk_ne bW hI.h9 (by decide)
 have bl := blk_lt bW
 have l8 := blk_lt hI.h8
 have hap : ∀ k, vf'.ownBlock = some k → some k ≠ vt'.ownBlock := fun k hk he => by
  rw [po] at hk
  rcases ro with ro | ⟨q, ro, hq⟩
  ·
   exact hf.1 k hk (by rw [he, ro])
  ·
   rw [ro] at he
   injection he with he
   have := fl k hk
   omega
 have pT : Kd.R (Kd.int .i64) 3 W1 base (fun k_ => some k_ ≠ vt.ownBlock) vf' (xf.take n) := Kd.R_of_own (Kd.own_of_R pR) (fun k hk => hf.1 k (po ▸ hk))
 have pT2 : Kd.R (Kd.int .i64) 3 W2 base (fun _ => True) vf' (xf.take n) := Kd.R_mono (Kd.R_step (Kd.R_types pT q9 (by decide)) fun k hk hlt => rk k hlt hk.2 hk.1) fun _ _ => trivial
 have sW1 : Kd.R Kd.bool 4 W1 base (fun _ => True) v2 t3 := Kd.R_mono (Kd.R_step (Kd.R_types (Kd.R_apart' (Kd.R_below h2 hB) (Kd.R_typed fW) (by decide)) hI.h8 (by decide)) fun k hk hlt => pk k hlt hk.2 hk.1.2) fun _ _ => trivial
 have sW2 : Kd.R Kd.bool 4 W2 base (fun _ => True) v2 t3 := Kd.R_mono (Kd.R_step (Kd.R_types (Kd.R_apart' sW1 (Kd.R_typed tW1) (by decide)) q9 (by decide)) fun k hk hlt => rk k hlt hk.2 hk.1.2) fun _ _ => trivial
 refine ⟨rfl, vf', vt', (rk b8 (by omega) hI.ne n8).trans p8, r9, Kd.R_of_own (Kd.own_of_R pT2) hap, Kd.R_of_own (Kd.own_of_R rR) (fun k hk he => hap k he.symm (by rw [hk])), sW2, ?_, hB1.trans (rB base (by omega) (by have := hI.l9; omega) tb)⟩
 exact (rk b (by omega) nb9 nb1).trans ((pk b bl nb8 nb0).trans bW)
set_option maxHeartbeats 2000000 in
theorem move_none_dem (b d : Nat) (v0 v1 v2 : Value) (w : World) (B : Option Addr) (hv : v0 = .slice B 0 d) (h : w.heap[b]? = some (.cells #[v0, v1, v2] 25 (0, 0))) :
  Calls Try.prog 54 #[.pointer (some ⟨b, 0, none⟩), .pointer (some ⟨b, 0, none⟩), .pointer (some ⟨b, 1, none⟩)] w fun e w' => e = .returned (.tuple #[.int .i64 0, .int .i64 6]) ∧ w = w' := by
 subst hv
 have hx0 := (blk_cell h 0).trans rfl
 clear h
 go_enter Try.func54, Try.ntmps54
 go_wp2
 go_ret2
 exact ⟨rfl, rfl⟩
set_option maxHeartbeats 4000000 in
set_option maxRecDepth 100000 in
theorem move_dem (base b n : Nat) (v0 v1 v2 : Value) (x0 x1 : List Int) (t3 : List Bool) (w : World) (hS : MvSt base w b v0 v1 v2 x0 x1 t3) (hn : x0.length = n + 1) (hl0 : x0.length ≤ 1000000) (hl1 : x1.length ≤ 1000000) (f0 : 0 ≤ rd x0 n) (f1 : rd x0 n < (t3.length : Int)) :
  Calls Try.prog 54 #[.pointer (some ⟨b, 0, none⟩), .pointer (some ⟨b, 0, none⟩), .pointer (some ⟨b, 1, none⟩)] w fun e w' => e = .returned (.tuple #[.int .i64 (rd x0 n), .int .i64 0]) ∧ (∃ v0' v1', MvSt base w' b v0' v1' v2 (x0.take n) (rd x0 n :: x1) (t3.set (rd x0 n).toNat false)) ∧ Below base w w' := by
 obtain ⟨B0, d0, rfl⟩ := Kd.R_slice hS.r0
 obtain ⟨B1, d1, rfl⟩ := Kd.R_slice hS.r1
 obtain ⟨g2, d2, rfl, gb2, gl2, cl2, hgb2⟩ := Kd.R_form hS.r2 (by omega)
 have hx0 := (blk_cell hS.h 0).trans rfl
 have hx1 := (blk_cell hS.h 1).trans rfl
 have hf0 := blk_frozen hS.h 0
 have hf1 := blk_frozen hS.h 1
 have e1 : (((x0.length : Nat) : Int) == 0) = false := beq_eq_false_iff_ne.mpr (by omega)
 have hbl := blk_lt hS.h
 have S0 := Aside0.mk hS
 have hrun := fun (W : World) (b8 b9 : Nat) (hI : MvIn w W b8 b9 _ _) => MvIn.run (n := n) hI hS.r0 hS.r1 hS.r2 hS.h hS.lo hS.size hn hl0 hl1
 generalize hfr : rd x0 n = fr at *
 have FR := Aside0.mk hfr
 have HN := Aside0.mk hn
 have HP := Aside0.mk hrun
 have GB := Aside0.mk gb2
 clear hS hn hfr hrun gb2 gl2 hgb2
 go_enter Try.func54, Try.ntmps54
 go_wp2_with fail
 go_region
 ·
  generalize e9 : w.heap.size + 1 = b9
  generalize e8 : w.heap.size = b8
  generalize hW : World.drew _ = W
  have hI : MvIn w W b8 b9 (.slice B0 x0.length d0) (.slice B1 x1.length d1) := by
   subst e9 e8 hW
   exact ⟨blk_alloc (blk_new w _) _, blk_second, below_drew (below_alloc (below_alloc (Below.refl _ _) _) _), by omega, by omega, by omega⟩
  have HI := Aside0.mk hI
  clear hI hx0 hx1 hf0 hf1 hbl e8 e9 hW
  go_wp2_with fail
  refine (HP.out W b8 b9 HI.out).mono ?_
  rintro e W1 ⟨rfl, hpush⟩
  have HU := Aside0.mk hpush
  clear hpush
  go_wp2_with fail
  refine HU.out.mono ?_
  rintro e W2 ⟨rfl, v8, v9, hO⟩
  obtain ⟨B8, c8, rfl⟩ := Kd.R_slice hO.rf
  obtain ⟨B9, c9, rfl⟩ := Kd.R_slice hO.rt
  rw [List.length_take, List.length_cons] at hO
  have hy0 := (blk_cell hO.h8 0).trans rfl
  have hy1 := (blk_cell hO.h9 0).trans rfl
  have hy2 := (blk_cell hO.h 2).trans rfl
  have hz0 := blk_frozen hO.h 0
  have hz1 := blk_frozen hO.h 1
  have nb8 := (blk_ne hO.h hO.h8 (by decide)).symm
  have nb9 := (blk_ne hO.h hO.h9 (by decide)).symm
  have hxx0 := (blk_cell hO.h 0).trans rfl
  have hxx1 := (blk_cell hO.h 1).trans rfl
  have O := Aside0.mk hO
  clear hO HU HP HI
  obtain ⟨hv0, hv1⟩ := Kd.R_celln false O.out.r2 fr f0 f1
  have gne : g2 ≠ b := fun e => Kd.R_ne O.out.r2 O.out.h (by decide) (by rw [e]; rfl)
  have p0 := eq_true f0
  have p1 := eq_true f1
  go_wp2
  go_ret2
  have hb1 := blk_put (cs' := #[(.slice B8 (min n x0.length) c8), (.slice B1 x1.length d1), .slice (some ⟨g2, 0, none⟩) t3.length d2]) O.out.h 0 (.slice B8 (min n x0.length) c8) rfl
  have hb2 := blk_put (cs' := #[(.slice B8 (min n x0.length) c8), (.slice B9 (x1.length + 1) c9), .slice (some ⟨g2, 0, none⟩) t3.length d2]) hb1 1 (.slice B9 (x1.length + 1) c9) rfl
  have k2 := R_set (i := 1) (u := .slice B9 (x1.length + 1) c9) (R_set (i := 0) (u := .slice B8 (min n x0.length) c8) O.out.r2 O.out.h (by decide)) hb1 (by decide)
  have kf := R_set (i := 1) (u := .slice B9 (x1.length + 1) c9) (R_set (i := 0) (u := .slice B8 (min n x0.length) c8) O.out.rf O.out.h (by decide)) hb1 (by decide)
  have kt := R_set (i := 1) (u := .slice B9 (x1.length + 1) c9) (R_set (i := 0) (u := .slice B8 (min n x0.length) c8) O.out.rt O.out.h (by decide)) hb1 (by decide)
  obtain ⟨cl, hgb⟩ := Kd.R_typed k2 g2 rfl
  have kp := (Kd.R_putg k2 fr false).1
  have hbs := ((O.out.below.setCell (p := ⟨b, 0, none⟩) S0.out.lo (.slice B8 (min n x0.length) c8)).setCell (p := ⟨b, 1, none⟩) S0.out.lo (.slice B9 (x1.length + 1) c9)).setCell (p := ⟨g2, fr.toNat, none⟩) GB.out (.bool false)
  exact ⟨rfl, ⟨_, _, R_set kf hgb (by decide), R_set kt hgb (by decide), kp, blk_past hb2 gne.symm, S0.out.lo, Nat.le_trans S0.out.size hbs.size⟩, hbs⟩
 ·
  generalize e8 : w.heap.size + 1 = b8
  generalize e9 : w.heap.size = b9
  generalize hW : World.drew _ = W
  have hI : MvIn w W b8 b9 (.slice B0 x0.length d0) (.slice B1 x1.length d1) := by
   subst e9 e8 hW
   exact ⟨blk_second, blk_alloc (blk_new w _) _, below_drew (below_alloc (below_alloc (Below.refl _ _) _) _), by omega, by omega, by omega⟩
  have HI := Aside0.mk hI
  clear hI hx0 hx1 hf0 hf1 hbl e8 e9 hW
  go_wp2_with fail
  refine (HP.out W b8 b9 HI.out).mono ?_
  rintro e W1 ⟨rfl, hpush⟩
  have HU := Aside0.mk hpush
  clear hpush
  go_wp2_with fail
  refine HU.out.mono ?_
  rintro e W2 ⟨rfl, v8, v9, hO⟩
  obtain ⟨B8, c8, rfl⟩ := Kd.R_slice hO.rf
  obtain ⟨B9, c9, rfl⟩ := Kd.R_slice hO.rt
  rw [List.length_take, List.length_cons] at hO
  have hy0 := (blk_cell hO.h8 0).trans rfl
  have hy1 := (blk_cell hO.h9 0).trans rfl
  have hy2 := (blk_cell hO.h 2).trans rfl
  have hz0 := blk_frozen hO.h 0
  have hz1 := blk_frozen hO.h 1
  have nb8 := (blk_ne hO.h hO.h8 (by decide)).symm
  have nb9 := (blk_ne hO.h hO.h9 (by decide)).symm
  have hxx0 := (blk_cell hO.h 0).trans rfl
  have hxx1 := (blk_cell hO.h 1).trans rfl
  have O := Aside0.mk hO
  clear hO HU HP HI
  obtain ⟨hv0, hv1⟩ := Kd.R_celln false O.out.r2 fr f0 f1
  have gne : g2 ≠ b := fun e => Kd.R_ne O.out.r2 O.out.h (by decide) (by rw [e]; rfl)
  have p0 := eq_true f0
  have p1 := eq_true f1
  go_wp2
  go_ret2
  have hb1 := blk_put (cs' := #[(.slice B8 (min n x0.length) c8), (.slice B1 x1.length d1), .slice (some ⟨g2, 0, none⟩) t3.length d2]) O.out.h 0 (.slice B8 (min n x0.length) c8) rfl
  have hb2 := blk_put (cs' := #[(.slice B8 (min n x0.length) c8), (.slice B9 (x1.length + 1) c9), .slice (some ⟨g2, 0, none⟩) t3.length d2]) hb1 1 (.slice B9 (x1.length + 1) c9) rfl
  have k2 := R_set (i := 1) (u := .slice B9 (x1.length + 1) c9) (R_set (i := 0) (u := .slice B8 (min n x0.length) c8) O.out.r2 O.out.h (by decide)) hb1 (by decide)
  have kf := R_set (i := 1) (u := .slice B9 (x1.length + 1) c9) (R_set (i := 0) (u := .slice B8 (min n x0.length) c8) O.out.rf O.out.h (by decide)) hb1 (by decide)
  have kt := R_set (i := 1) (u := .slice B9 (x1.length + 1) c9) (R_set (i := 0) (u := .slice B8 (min n x0.length) c8) O.out.rt O.out.h (by decide)) hb1 (by decide)
  obtain ⟨cl, hgb⟩ := Kd.R_typed k2 g2 rfl
  have kp := (Kd.R_putg k2 fr false).1
  have hbs := ((O.out.below.setCell (p := ⟨b, 0, none⟩) S0.out.lo (.slice B8 (min n x0.length) c8)).setCell (p := ⟨b, 1, none⟩) S0.out.lo (.slice B9 (x1.length + 1) c9)).setCell (p := ⟨g2, fr.toNat, none⟩) GB.out (.bool false)
  exact ⟨rfl, ⟨_, _, R_set kf hgb (by decide), R_set kt hgb (by decide), kp, blk_past hb2 gne.symm, S0.out.lo, Nat.le_trans S0.out.size hbs.size⟩, hbs⟩
set_option maxHeartbeats 2000000 in
theorem move_none_pro (b d : Nat) (v0 v1 v2 : Value) (w : World) (B : Option Addr) (hv : v1 = .slice B 0 d) (h : w.heap[b]? = some (.cells #[v0, v1, v2] 25 (0, 0))) :
  Calls Try.prog 54 #[.pointer (some ⟨b, 0, none⟩), .pointer (some ⟨b, 1, none⟩), .pointer (some ⟨b, 0, none⟩)] w fun e w' => e = .returned (.tuple #[.int .i64 0, .int .i64 6]) ∧ w = w' := by
 subst hv
 have hx0 := (blk_cell h 1).trans rfl
 clear h
 go_enter Try.func54, Try.ntmps54
 go_wp2
 go_ret2
 exact ⟨rfl, rfl⟩
set_option maxHeartbeats 4000000 in
set_option maxRecDepth 100000 in
theorem move_pro (base b n : Nat) (v0 v1 v2 : Value) (x0 x1 : List Int) (t3 : List Bool) (w : World) (hS : MvSt base w b v0 v1 v2 x0 x1 t3) (hn : x1.length = n + 1) (hl0 : x1.length ≤ 1000000) (hl1 : x0.length ≤ 1000000) (f0 : 0 ≤ rd x1 n) (f1 : rd x1 n < (t3.length : Int)) :
  Calls Try.prog 54 #[.pointer (some ⟨b, 0, none⟩), .pointer (some ⟨b, 1, none⟩), .pointer (some ⟨b, 0, none⟩)] w fun e w' => e = .returned (.tuple #[.int .i64 (rd x1 n), .int .i64 0]) ∧ (∃ v0' v1', MvSt base w' b v0' v1' v2 (rd x1 n :: x0) (x1.take n) (t3.set (rd x1 n).toNat false)) ∧ Below base w w' := by
 obtain ⟨B0, d0, rfl⟩ := Kd.R_slice hS.r0
 obtain ⟨B1, d1, rfl⟩ := Kd.R_slice hS.r1
 obtain ⟨g2, d2, rfl, gb2, gl2, cl2, hgb2⟩ := Kd.R_form hS.r2 (by omega)
 have hx0 := (blk_cell hS.h 0).trans rfl
 have hx1 := (blk_cell hS.h 1).trans rfl
 have hf0 := blk_frozen hS.h 0
 have hf1 := blk_frozen hS.h 1
 have e1 : (((x1.length : Nat) : Int) == 0) = false := beq_eq_false_iff_ne.mpr (by omega)
 have hbl := blk_lt hS.h
 have S0 := Aside0.mk hS
 have hrun := fun (W : World) (b8 b9 : Nat) (hI : MvIn w W b8 b9 _ _) => MvIn.run (n := n) hI hS.r1 hS.r0 hS.r2 hS.h hS.lo hS.size hn hl0 hl1
 generalize hfr : rd x1 n = fr at *
 have FR := Aside0.mk hfr
 have HN := Aside0.mk hn
 have HP := Aside0.mk hrun
 have GB := Aside0.mk gb2
 clear hS hn hfr hrun gb2 gl2 hgb2
 go_enter Try.func54, Try.ntmps54
 go_wp2_with fail
 go_region
 ·
  generalize e9 : w.heap.size + 1 = b9
  generalize e8 : w.heap.size = b8
  generalize hW : World.drew _ = W
  have hI : MvIn w W b8 b9 (.slice B1 x1.length d1) (.slice B0 x0.length d0) := by
   subst e9 e8 hW
   exact ⟨blk_alloc (blk_new w _) _, blk_second, below_drew (below_alloc (below_alloc (Below.refl _ _) _) _), by omega, by omega, by omega⟩
  have HI := Aside0.mk hI
  clear hI hx0 hx1 hf0 hf1 hbl e8 e9 hW
  go_wp2_with fail
  refine (HP.out W b8 b9 HI.out).mono ?_
  rintro e W1 ⟨rfl, hpush⟩
  have HU := Aside0.mk hpush
  clear hpush
  go_wp2_with fail
  refine HU.out.mono ?_
  rintro e W2 ⟨rfl, v8, v9, hO⟩
  obtain ⟨B8, c8, rfl⟩ := Kd.R_slice hO.rf
  obtain ⟨B9, c9, rfl⟩ := Kd.R_slice hO.rt
  rw [List.length_take, List.length_cons] at hO
  have hy0 := (blk_cell hO.h8 0).trans rfl
  have hy1 := (blk_cell hO.h9 0).trans rfl
  have hy2 := (blk_cell hO.h 2).trans rfl
  have hz0 := blk_frozen hO.h 0
  have hz1 := blk_frozen hO.h 1
  have nb8 := (blk_ne hO.h hO.h8 (by decide)).symm
  have nb9 := (blk_ne hO.h hO.h9 (by decide)).symm
  have hxx0 := (blk_cell hO.h 0).trans rfl
  have hxx1 := (blk_cell hO.h 1).trans rfl
  have O := Aside0.mk hO
  clear hO HU HP HI
  obtain ⟨hv0, hv1⟩ := Kd.R_celln false O.out.r2 fr f0 f1
  have gne : g2 ≠ b := fun e => Kd.R_ne O.out.r2 O.out.h (by decide) (by rw [e]; rfl)
  have p0 := eq_true f0
  have p1 := eq_true f1
  go_wp2
  go_ret2
  have hb1 := blk_put (cs' := #[(.slice B0 x0.length d0), (.slice B8 (min n x1.length) c8), .slice (some ⟨g2, 0, none⟩) t3.length d2]) O.out.h 1 (.slice B8 (min n x1.length) c8) rfl
  have hb2 := blk_put (cs' := #[(.slice B9 (x0.length + 1) c9), (.slice B8 (min n x1.length) c8), .slice (some ⟨g2, 0, none⟩) t3.length d2]) hb1 0 (.slice B9 (x0.length + 1) c9) rfl
  have k2 := R_set (i := 0) (u := .slice B9 (x0.length + 1) c9) (R_set (i := 1) (u := .slice B8 (min n x1.length) c8) O.out.r2 O.out.h (by decide)) hb1 (by decide)
  have kf := R_set (i := 0) (u := .slice B9 (x0.length + 1) c9) (R_set (i := 1) (u := .slice B8 (min n x1.length) c8) O.out.rf O.out.h (by decide)) hb1 (by decide)
  have kt := R_set (i := 0) (u := .slice B9 (x0.length + 1) c9) (R_set (i := 1) (u := .slice B8 (min n x1.length) c8) O.out.rt O.out.h (by decide)) hb1 (by decide)
  obtain ⟨cl, hgb⟩ := Kd.R_typed k2 g2 rfl
  have kp := (Kd.R_putg k2 fr false).1
  have hbs := ((O.out.below.setCell (p := ⟨b, 1, none⟩) S0.out.lo (.slice B8 (min n x1.length) c8)).setCell (p := ⟨b, 0, none⟩) S0.out.lo (.slice B9 (x0.length + 1) c9)).setCell (p := ⟨g2, fr.toNat, none⟩) GB.out (.bool false)
  exact ⟨rfl, ⟨_, _, R_set kt hgb (by decide), R_set kf hgb (by decide), kp, blk_past hb2 gne.symm, S0.out.lo, Nat.le_trans S0.out.size hbs.size⟩, hbs⟩
 ·
  generalize e8 : w.heap.size + 1 = b8
  generalize e9 : w.heap.size = b9
  generalize hW : World.drew _ = W
  have hI : MvIn w W b8 b9 (.slice B1 x1.length d1) (.slice B0 x0.length d0) := by
   subst e9 e8 hW
   exact ⟨blk_second, blk_alloc (blk_new w _) _, below_drew (below_alloc (below_alloc (Below.refl _ _) _) _), by omega, by omega, by omega⟩
  have HI := Aside0.mk hI
  clear hI hx0 hx1 hf0 hf1 hbl e8 e9 hW
  go_wp2_with fail
  refine (HP.out W b8 b9 HI.out).mono ?_
  rintro e W1 ⟨rfl, hpush⟩
  have HU := Aside0.mk hpush
  clear hpush
  go_wp2_with fail
  refine HU.out.mono ?_
  rintro e W2 ⟨rfl, v8, v9, hO⟩
  obtain ⟨B8, c8, rfl⟩ := Kd.R_slice hO.rf
  obtain ⟨B9, c9, rfl⟩ := Kd.R_slice hO.rt
  rw [List.length_take, List.length_cons] at hO
  have hy0 := (blk_cell hO.h8 0).trans rfl
  have hy1 := (blk_cell hO.h9 0).trans rfl
  have hy2 := (blk_cell hO.h 2).trans rfl
  have hz0 := blk_frozen hO.h 0
  have hz1 := blk_frozen hO.h 1
  have nb8 := (blk_ne hO.h hO.h8 (by decide)).symm
  have nb9 := (blk_ne hO.h hO.h9 (by decide)).symm
  have hxx0 := (blk_cell hO.h 0).trans rfl
  have hxx1 := (blk_cell hO.h 1).trans rfl
  have O := Aside0.mk hO
  clear hO HU HP HI
  obtain ⟨hv0, hv1⟩ := Kd.R_celln false O.out.r2 fr f0 f1
  have gne : g2 ≠ b := fun e => Kd.R_ne O.out.r2 O.out.h (by decide) (by rw [e]; rfl)
  have p0 := eq_true f0
  have p1 := eq_true f1
  go_wp2
  go_ret2
  have hb1 := blk_put (cs' := #[(.slice B0 x0.length d0), (.slice B8 (min n x1.length) c8), .slice (some ⟨g2, 0, none⟩) t3.length d2]) O.out.h 1 (.slice B8 (min n x1.length) c8) rfl
  have hb2 := blk_put (cs' := #[(.slice B9 (x0.length + 1) c9), (.slice B8 (min n x1.length) c8), .slice (some ⟨g2, 0, none⟩) t3.length d2]) hb1 0 (.slice B9 (x0.length + 1) c9) rfl
  have k2 := R_set (i := 0) (u := .slice B9 (x0.length + 1) c9) (R_set (i := 1) (u := .slice B8 (min n x1.length) c8) O.out.r2 O.out.h (by decide)) hb1 (by decide)
  have kf := R_set (i := 0) (u := .slice B9 (x0.length + 1) c9) (R_set (i := 1) (u := .slice B8 (min n x1.length) c8) O.out.rf O.out.h (by decide)) hb1 (by decide)
  have kt := R_set (i := 0) (u := .slice B9 (x0.length + 1) c9) (R_set (i := 1) (u := .slice B8 (min n x1.length) c8) O.out.rt O.out.h (by decide)) hb1 (by decide)
  obtain ⟨cl, hgb⟩ := Kd.R_typed k2 g2 rfl
  have kp := (Kd.R_putg k2 fr false).1
  have hbs := ((O.out.below.setCell (p := ⟨b, 1, none⟩) S0.out.lo (.slice B8 (min n x1.length) c8)).setCell (p := ⟨b, 0, none⟩) S0.out.lo (.slice B9 (x0.length + 1) c9)).setCell (p := ⟨g2, fr.toNat, none⟩) GB.out (.bool false)
  exact ⟨rfl, ⟨_, _, R_set kt hgb (by decide), R_set kf hgb (by decide), kp, blk_past hb2 gne.symm, S0.out.lo, Nat.le_trans S0.out.size hbs.size⟩, hbs⟩


end Go.Proofs.Ytaofihdmgdpenaa.X

namespace Go.Proofs.Ytaofihdmgdpenaa.X
open Go.RowKit Go.Proofs.YtaofihdmgdpenaaW.PrintWords Go.Proofs.YtaofihdmgdpenaaW.PrintLast Go.Proofs.YtaofihdmgdpenaaW.PrintMore
attribute [local go_sem] max2_int min2_int max_two min_two max_three min_three max_four min_four   -- for this text's walks alone
set_option linter.unusedVariables false
set_option linter.unusedSimpArgs false

/-! ### lru_Demote: function 29 -/
def lru_Demote.f (l0_0 : List Int) (l0_1 : List Int) (l0_2 : List Bool) : Option (List Int × List Int × List Bool × Int × Int) := (lru_opened.f l0_0 l0_1 l0_2).bind fun t => if t.2.2.2 = 0 then (if t.1.length = 0 then some ([], [], [], 0, 6) else if t.1.length ≤ 1000000 ∧ t.2.1.length ≤ 1000000 ∧ 0 ≤ rd t.1 ((t.1.length - 1 : Nat) : Int) ∧ rd t.1 ((t.1.length - 1 : Nat) : Int) < (t.2.2.1.length : Int) then some (t.1.take (t.1.length - 1), rd t.1 ((t.1.length - 1 : Nat) : Int) :: t.2.1, t.2.2.1.set (rd t.1 ((t.1.length - 1 : Nat) : Int)).toNat false, rd t.1 ((t.1.length - 1 : Nat) : Int), 0) else none) else some ([], [], [], 0, t.2.2.2)
set_option maxHeartbeats 4000000 in
set_option maxRecDepth 100000 in
theorem lru_Demote.calls (A0_0 : Option Addr) (c0_0 : Nat) (l0_0 : List Int) (A0_1 : Option Addr) (c0_1 : Nat) (l0_1 : List Int) (A0_2 : Option Addr) (c0_2 : Nat) (l0_2 : List Bool) (r1 : List Int) (r2 : List Int) (r3 : List Bool) (r4 : Int) (r5 : Int) (w : World) (hr0_0 : Kd.C (Kd.int .i64) w A0_0 l0_0.length l0_0) (hc0_0 : l0_0.length ≤ c0_0) (hr0_1 : Kd.C (Kd.int .i64) w A0_1 l0_1.length l0_1) (hc0_1 : l0_1.length ≤ c0_1) (hr0_2 : Kd.C Kd.bool w A0_2 l0_2.length l0_2) (hc0_2 : l0_2.length ≤ c0_2) (h : lru_Demote.f l0_0 l0_1 l0_2 = some (r1, r2, r3, r4, r5)) :
  Calls Try.prog 29 #[.agg #[.slice A0_0 l0_0.length c0_0, .slice A0_1 l0_1.length c0_1, .slice A0_2 l0_2.length c0_2]] w fun e w' => ∃ v0_ v1_ v2_ : Value, e = .returned (.tuple #[.agg #[v0_, v1_, v2_], .int .i64 r4, .int .i64 r5]) ∧ Kd.R (Kd.int .i64) 3 w' w.heap.size (fun k_ => some k_ ≠ (v1_ : Value).ownBlock) v0_ r1 ∧ Kd.R (Kd.int .i64) 3 w' w.heap.size (fun k_ => some k_ ≠ (v0_ : Value).ownBlock) v1_ r2 ∧ Kd.R Kd.bool 4 w' w.heap.size (fun _ => True) v2_ r3 ∧ Below w.heap.size w w' := by
 have hu25 := Try.underlying25
 unfold lru_Demote.f at h
 obtain ⟨⟨t1, t2, t3, er⟩, hop, H⟩ := Option.bind_eq_some_iff.mp h
 simp only at H
 clear h
 have HOP := Aside0.mk hop
 have HR0 := Aside0.mk hr0_0
 have HR1 := Aside0.mk hr0_1
 have HR2 := Aside0.mk hr0_2
 clear hop hr0_0 hr0_1 hr0_2
 go_enter Try.func29, Try.ntmps29
 go_wp2_with fail
 refine (lru_opened.calls _ _ l0_0 _ _ l0_1 _ _ l0_2 t1 t2 t3 er _ (Kd.C_alloc (Kd.C_alloc HR0.out _) _) hc0_0 (Kd.C_alloc (Kd.C_alloc HR1.out _) _) hc0_1 (Kd.C_alloc (Kd.C_alloc HR2.out _) _) hc0_2 HOP.out).mono ?_
 rintro e w1 ⟨v0, v1, v2, rfl, ho0, ho1, ho2, hb1⟩
 simp only [World.size_alloc] at ho0 ho1 ho2
 obtain ⟨B0, d0, rfl⟩ := Kd.R_slice ho0
 obtain ⟨B1, d1, rfl⟩ := Kd.R_slice ho1
 obtain ⟨B2, d2, rfl⟩ := Kd.R_slice ho2
 have hsz := hb1.size
 simp only [World.size_alloc] at hsz
 have HB1 := Aside0.mk (below_then (below_alloc (below_alloc (Below.refl w.heap.size w) _) _) (by simp; omega) hb1)
 have hbk4 := blk_below blk_second hb1
 have BK4 := Aside0.mk hbk4
 have O0 := Aside0.mk ho0
 have O1 := Aside0.mk ho1
 have O2 := Aside0.mk ho2
 clear ho0 ho1 ho2 hb1 HR0 HR1 HR2 HOP hbk4
 by_cases c : er = 0
 case neg =>
  rw [if_neg c] at H
  simp only [Option.some.injEq, Prod.mk.injEq] at H
  obtain ⟨rfl, rfl, rfl, rfl, rfl⟩ := H
  have e1 : (er == 0) = false := beq_eq_false_iff_ne.mpr c
  have e2 : (er != 0) = true := bne_iff_ne.mpr c
  have hbk := blk_alloc BK4.out (.cells #[.slice B0 t1.length d0, .slice B1 t2.length d1, .slice B2 t3.length d2] 25)
  have hx0 := (blk_cell hbk 0).trans rfl
  have hx1 := (blk_cell hbk 1).trans rfl
  have hx2 := (blk_cell hbk 2).trans rfl
  have hf0 := blk_frozen hbk 0
  have hf1 := blk_frozen hbk 1
  have hf2 := blk_frozen hbk 2
  have BK := Aside0.mk hbk
  clear hbk c
  go_wp2
  refine bodyPost_ret (results_ctt rfl _ _ (w.heap.size + 1) 25 #[.slice none 0 0, .slice none 0 0, .slice none 0 0] (0, 0) _ rfl (blk_put (blk_put (blk_put BK.out 0 _ rfl) 1 _ rfl) 2 _ rfl) hu25 rfl (by kernel_rfl)) rfl ?_
  exact ⟨_, _, _, rfl, Kd.R_nil _ _ _ _ _, Kd.R_nil _ _ _ _ _, Kd.R_nil _ _ _ _ _, (((below_alloc HB1.out _).setCell (p := ⟨_, 0, none⟩) (by simp) _).setCell (p := ⟨_, 1, none⟩) (by simp) _).setCell (p := ⟨_, 2, none⟩) (by simp) _⟩
 rw [if_pos c] at H
 subst c
 have hbk := blk_alloc BK4.out (.cells #[.slice B0 t1.length d0, .slice B1 t2.length d1, .slice B2 t3.length d2] 25)
 have hmv : MvSt (w.heap.size + 2) (w1.alloc (.cells #[.slice B0 t1.length d0, .slice B1 t2.length d1, .slice B2 t3.length d2] 25)) w1.heap.size (.slice B0 t1.length d0) (.slice B1 t2.length d1) (.slice B2 t3.length d2) t1 t2 t3 :=
  ⟨Kd.R_alloc O0.out _, Kd.R_alloc O1.out _, Kd.R_alloc O2.out _, blk_new w1 _, by omega, by simp; omega⟩
 have HBA := Aside0.mk (below_alloc HB1.out (.cells #[.slice B0 t1.length d0, .slice B1 t2.length d1, .slice B2 t3.length d2] 25))
 have MV := Aside0.mk hmv
 have BK := Aside0.mk hbk
 by_cases c : t1.length = 0
 case pos =>
  rw [if_pos c] at H
  simp only [Option.some.injEq, Prod.mk.injEq] at H
  obtain ⟨rfl, rfl, rfl, rfl, rfl⟩ := H
  have C0 := Aside0.mk c
  clear c hmv hbk
  go_wp2_with fail
  refine (move_none_dem _ d0 _ _ _ _ B0 (by rw [C0.out]) MV.out.h).mono ?_
  rintro e w2 ⟨rfl, rfl⟩
  have hx0 := (blk_cell BK.out 0).trans rfl
  have hx1 := (blk_cell BK.out 1).trans rfl
  have hx2 := (blk_cell BK.out 2).trans rfl
  have hf0 := blk_frozen BK.out 0
  have hf1 := blk_frozen BK.out 1
  have hf2 := blk_frozen BK.out 2
  go_wp2
  refine bodyPost_ret (results_ctt rfl _ _ (w.heap.size + 1) 25 #[.slice none 0 0, .slice none 0 0, .slice none 0 0] (0, 0) _ rfl (blk_put (blk_put (blk_put BK.out 0 _ rfl) 1 _ rfl) 2 _ rfl) hu25 rfl (by kernel_rfl)) rfl ?_
  exact ⟨_, _, _, rfl, Kd.R_nil _ _ _ _ _, Kd.R_nil _ _ _ _ _, Kd.R_nil _ _ _ _ _, ((HBA.out.setCell (p := ⟨_, 0, none⟩) (by simp) _).setCell (p := ⟨_, 1, none⟩) (by simp) _).setCell (p := ⟨_, 2, none⟩) (by simp) _⟩
 rw [if_neg c] at H
 obtain ⟨n, hn⟩ : ∃ n, t1.length = n + 1 := ⟨t1.length - 1, by omega⟩
 rw [show t1.length - 1 = n by omega] at H
 by_cases hc : t1.length ≤ 1000000 ∧ t2.length ≤ 1000000 ∧ 0 ≤ rd t1 (n : Int) ∧ rd t1 (n : Int) < (t3.length : Int)
 case neg =>
  rw [if_neg hc] at H
  cases H
 rw [if_pos hc] at H
 simp only [Option.some.injEq, Prod.mk.injEq] at H
 obtain ⟨rfl, rfl, rfl, rfl, rfl⟩ := H
 have hmove := move_dem _ _ n _ _ _ _ _ _ _ hmv hn hc.1 hc.2.1 hc.2.2.1 hc.2.2.2
 have HM := Aside0.mk hmove
 clear c hc hmv hbk hn hmove
 go_wp2_with fail
 refine HM.out.mono ?_
 rintro e w2 ⟨rfl, ⟨u0, u1, hS⟩, hB2⟩
 obtain ⟨A0, f0, rfl⟩ := Kd.R_slice hS.r0
 obtain ⟨A1, f1, rfl⟩ := Kd.R_slice hS.r1
 have hy0 := (blk_cell hS.h 0).trans rfl
 have hy1 := (blk_cell hS.h 1).trans rfl
 have hy2 := (blk_cell hS.h 2).trans rfl
 have hbk := (hB2.block (w.heap.size + 1) (by omega)).trans BK.out
 have hx0 := (blk_cell hbk 0).trans rfl
 have hx1 := (blk_cell hbk 1).trans rfl
 have hx2 := (blk_cell hbk 2).trans rfl
 have hf0 := blk_frozen hbk 0
 have hf1 := blk_frozen hbk 1
 have hf2 := blk_frozen hbk 2
 have S2 := Aside0.mk hS
 have BK2 := Aside0.mk hbk
 have B2_ := Aside0.mk (HBA.out.trans (hB2.mono (show w.heap.size ≤ w.heap.size + 2 by omega)))
 clear hS hbk hB2 HM MV
 go_wp2
 refine bodyPost_ret (results_ctt rfl _ _ (w.heap.size + 1) 25 #[.slice A0 _ f0, .slice A1 _ f1, .slice B2 t3.length d2] (0, 0) _ rfl (blk_put (blk_put (blk_put BK2.out 0 _ rfl) 1 _ rfl) 2 _ rfl) hu25 rfl (by kernel_rfl)) rfl ?_
 have k0 := S2.out.r0
 have k1 := S2.out.r1
 simp only [List.length_take, List.length_cons] at k0 k1
 refine ⟨_, _, _, rfl, ?_, ?_, ?_, ((B2_.out.setCell (p := ⟨_, 0, none⟩) (by simp) _).setCell (p := ⟨_, 1, none⟩) (by simp) _).setCell (p := ⟨_, 2, none⟩) (by simp) _⟩
 ·
  exact Kd.R_lower (R_set (R_set (R_set k0 BK2.out (by decide)) (blk_set BK2.out 0 _) (by decide)) (blk_set (blk_set BK2.out 0 _) 1 _) (by decide)) (by omega)
 ·
  exact Kd.R_lower (R_set (R_set (R_set k1 BK2.out (by decide)) (blk_set BK2.out 0 _) (by decide)) (blk_set (blk_set BK2.out 0 _) 1 _) (by decide)) (by omega)
 ·
  exact Kd.R_lower (R_set (R_set (R_set S2.out.r2 BK2.out (by decide)) (blk_set BK2.out 0 _) (by decide)) (blk_set (blk_set BK2.out 0 _) 1 _) (by decide)) (by omega)


end Go.Proofs.Ytaofihdmgdpenaa.X

namespace Go.Proofs.Ytaofihdmgdpenaa.X
open Go.RowKit Go.Proofs.YtaofihdmgdpenaaW.PrintWords Go.Proofs.YtaofihdmgdpenaaW.PrintLast Go.Proofs.YtaofihdmgdpenaaW.PrintMore
attribute [local go_sem] max2_int min2_int max_two min_two max_three min_three max_four min_four   -- for this text's walks alone
set_option linter.unusedVariables false
set_option linter.unusedSimpArgs false

/-! ### lru_Promote: function 33 -/
def lru_Promote.f (l0_0 : List Int) (l0_1 : List Int) (l0_2 : List Bool) : Option (List Int × List Int × List Bool × Int × Int) := (lru_opened.f l0_0 l0_1 l0_2).bind fun t => if t.2.2.2 = 0 then (if t.2.1.length = 0 then some ([], [], [], 0, 6) else if t.2.1.length ≤ 1000000 ∧ t.1.length ≤ 1000000 ∧ 0 ≤ rd t.2.1 ((t.2.1.length - 1 : Nat) : Int) ∧ rd t.2.1 ((t.2.1.length - 1 : Nat) : Int) < (t.2.2.1.length : Int) then some (rd t.2.1 ((t.2.1.length - 1 : Nat) : Int) :: t.1, t.2.1.take (t.2.1.length - 1), t.2.2.1.set (rd t.2.1 ((t.2.1.length - 1 : Nat) : Int)).toNat false, rd t.2.1 ((t.2.1.length - 1 : Nat) : Int), 0) else none) else some ([], [], [], 0, t.2.2.2)
set_option maxHeartbeats 4000000 in
set_option maxRecDepth 100000 in
theorem lru_Promote.calls (A0_0 : Option Addr) (c0_0 : Nat) (l0_0 : List Int) (A0_1 : Option Addr) (c0_1 : Nat) (l0_1 : List Int) (A0_2 : Option Addr) (c0_2 : Nat) (l0_2 : List Bool) (r1 : List Int) (r2 : List Int) (r3 : List Bool) (r4 : Int) (r5 : Int) (w : World) (hr0_0 : Kd.C (Kd.int .i64) w A0_0 l0_0.length l0_0) (hc0_0 : l0_0.length ≤ c0_0) (hr0_1 : Kd.C (Kd.int .i64) w A0_1 l0_1.length l0_1) (hc0_1 : l0_1.length ≤ c0_1) (hr0_2 : Kd.C Kd.bool w A0_2 l0_2.length l0_2) (hc0_2 : l0_2.length ≤ c0_2) (h : lru_Promote.f l0_0 l0_1 l0_2 = some (r1, r2, r3, r4, r5)) :
  Calls Try.prog 33 #[.agg #[.slice A0_0 l0_0.length c0_0, .slice A0_1 l0_1.length c0_1, .slice A0_2 l0_2.length c0_2]] w fun e w' => ∃ v0_ v1_ v2_ : Value, e = .returned (.tuple #[.agg #[v0_, v1_, v2_], .int .i64 r4, .int .i64 r5]) ∧ Kd.R (Kd.int .i64) 3 w' w.heap.size (fun k_ => some k_ ≠ (v1_ : Value).ownBlock) v0_ r1 ∧ Kd.R (Kd.int .i64) 3 w' w.heap.size (fun k_ => some k_ ≠ (v0_ : Value).ownBlock) v1_ r2 ∧ Kd.R Kd.bool 4 w' w.heap.size (fun _ => True) v2_ r3 ∧ Below w.heap.size w w' := by
 have hu25 := Try.underlying25
 unfold lru_Promote.f at h
 obtain ⟨⟨t1, t2, t3, er⟩, hop, H⟩ := Option.bind_eq_some_iff.mp h
 simp only at H
 clear h
 have HOP := Aside0.mk hop
 have HR0 := Aside0.mk hr0_0
 have HR1 := Aside0.mk hr0_1
 have HR2 := Aside0.mk hr0_2
 clear hop hr0_0 hr0_1 hr0_2
 go_enter Try.func33, Try.ntmps33
 go_wp2_with fail
 refine (lru_opened.calls _ _ l0_0 _ _ l0_1 _ _ l0_2 t1 t2 t3 er _ (Kd.C_alloc (Kd.C_alloc HR0.out _) _) hc0_0 (Kd.C_alloc (Kd.C_alloc HR1.out _) _) hc0_1 (Kd.C_alloc (Kd.C_alloc HR2.out _) _) hc0_2 HOP.out).mono ?_
 rintro e w1 ⟨v0, v1, v2, rfl, ho0, ho1, ho2, hb1⟩
 simp only [World.size_alloc] at ho0 ho1 ho2
 obtain ⟨B0, d0, rfl⟩ := Kd.R_slice ho0
 obtain ⟨B1, d1, rfl⟩ := Kd.R_slice ho1
 obtain ⟨B2, d2, rfl⟩ := Kd.R_slice ho2
 have hsz := hb1.size
 simp only [World.size_alloc] at hsz
 have HB1 := Aside0.mk (below_then (below_alloc (below_alloc (Below.refl w.heap.size w) _) _) (by simp; omega) hb1)
 have hbk4 := blk_below blk_second hb1
 have BK4 := Aside0.mk hbk4
 have O0 := Aside0.mk ho0
 have O1 := Aside0.mk ho1
 have O2 := Aside0.mk ho2
 clear ho0 ho1 ho2 hb1 HR0 HR1 HR2 HOP hbk4
 by_cases c : er = 0
 case neg =>
  rw [if_neg c] at H
  simp only [Option.some.injEq, Prod.mk.injEq] at H
  obtain ⟨rfl, rfl, rfl, rfl, rfl⟩ := H
  have e1 : (er == 0) = false := beq_eq_false_iff_ne.mpr c
  have e2 : (er != 0) = true := bne_iff_ne.mpr c
  have hbk := blk_alloc BK4.out (.cells #[.slice B0 t1.length d0, .slice B1 t2.length d1, .slice B2 t3.length d2] 25)
  have hx0 := (blk_cell hbk 0).trans rfl
  have hx1 := (blk_cell hbk 1).trans rfl
  have hx2 := (blk_cell hbk 2).trans rfl
  have hf0 := blk_frozen hbk 0
  have hf1 := blk_frozen hbk 1
  have hf2 := blk_frozen hbk 2
  have BK := Aside0.mk hbk
  clear hbk c
  go_wp2
  refine bodyPost_ret (results_ctt rfl _ _ (w.heap.size + 1) 25 #[.slice none 0 0, .slice none 0 0, .slice none 0 0] (0, 0) _ rfl (blk_put (blk_put (blk_put BK.out 0 _ rfl) 1 _ rfl) 2 _ rfl) hu25 rfl (by kernel_rfl)) rfl ?_
  exact ⟨_, _, _, rfl, Kd.R_nil _ _ _ _ _, Kd.R_nil _ _ _ _ _, Kd.R_nil _ _ _ _ _, (((below_alloc HB1.out _).setCell (p := ⟨_, 0, none⟩) (by simp) _).setCell (p := ⟨_, 1, none⟩) (by simp) _).setCell (p := ⟨_, 2, none⟩) (by simp) _⟩
 rw [if_pos c] at H
 subst c
 have hbk := blk_alloc BK4.out (.cells #[.slice B0 t1.length d0, .slice B1 t2.length d1, .slice B2 t3.length d2] 25)
 have hmv : MvSt (w.heap.size + 2) (w1.alloc (.cells #[.slice B0 t1.length d0, .slice B1 t2.length d1, .slice B2 t3.length d2] 25)) w1.heap.size (.slice B0 t1.length d0) (.slice B1 t2.length d1) (.slice B2 t3.length d2) t1 t2 t3 :=
  ⟨Kd.R_alloc O0.out _, Kd.R_alloc O1.out _, Kd.R_alloc O2.out _, blk_new w1 _, by omega, by simp; omega⟩
 have HBA := Aside0.mk (below_alloc HB1.out (.cells #[.slice B0 t1.length d0, .slice B1 t2.length d1, .slice B2 t3.length d2] 25))
 have MV := Aside0.mk hmv
 have BK := Aside0.mk hbk
 by_cases c : t2.length = 0
 case pos =>
  rw [if_pos c] at H
  simp only [Option.some.injEq, Prod.mk.injEq] at H
  obtain ⟨rfl, rfl, rfl, rfl, rfl⟩ := H
  have C0 := Aside0.mk c
  clear c hmv hbk
  go_wp2_with fail
  refine (move_none_pro _ d1 _ _ _ _ B1 (by rw [C0.out]) MV.out.h).mono ?_
  rintro e w2 ⟨rfl, rfl⟩
  have hx0 := (blk_cell BK.out 0).trans rfl
  have hx1 := (blk_cell BK.out 1).trans rfl
  have hx2 := (blk_cell BK.out 2).trans rfl
  have hf0 := blk_frozen BK.out 0
  have hf1 := blk_frozen BK.out 1
  have hf2 := blk_frozen BK.out 2
  go_wp2
  refine bodyPost_ret (results_ctt rfl _ _ (w.heap.size + 1) 25 #[.slice none 0 0, .slice none 0 0, .slice none 0 0] (0, 0) _ rfl (blk_put (blk_put (blk_put BK.out 0 _ rfl) 1 _ rfl) 2 _ rfl) hu25 rfl (by kernel_rfl)) rfl ?_
  exact ⟨_, _, _, rfl, Kd.R_nil _ _ _ _ _, Kd.R_nil _ _ _ _ _, Kd.R_nil _ _ _ _ _, ((HBA.out.setCell (p := ⟨_, 0, none⟩) (by simp) _).setCell (p := ⟨_, 1, none⟩) (by simp) _).setCell (p := ⟨_, 2, none⟩) (by simp) _⟩
 rw [if_neg c] at H
 obtain ⟨n, hn⟩ : ∃ n, t2.length = n + 1 := ⟨t2.length - 1, by omega⟩
 rw [show t2.length - 1 = n by omega] at H
 by_cases hc : t2.length ≤ 1000000 ∧ t1.length ≤ 1000000 ∧ 0 ≤ rd t2 (n : Int) ∧ rd t2 (n : Int) < (t3.length : Int)
 case neg =>
  rw [if_neg hc] at H
  cases H
 rw [if_pos hc] at H
 simp only [Option.some.injEq, Prod.mk.injEq] at H
 obtain ⟨rfl, rfl, rfl, rfl, rfl⟩ := H
 have hmove := move_pro _ _ n _ _ _ _ _ _ _ hmv hn hc.1 hc.2.1 hc.2.2.1 hc.2.2.2
 have HM := Aside0.mk hmove
 clear c hc hmv hbk hn hmove
 go_wp2_with fail
 refine HM.out.mono ?_
 rintro e w2 ⟨rfl, ⟨u0, u1, hS⟩, hB2⟩
 obtain ⟨A0, f0, rfl⟩ := Kd.R_slice hS.r0
 obtain ⟨A1, f1, rfl⟩ := Kd.R_slice hS.r1
 have hy0 := (blk_cell hS.h 0).trans rfl
 have hy1 := (blk_cell hS.h 1).trans rfl
 have hy2 := (blk_cell hS.h 2).trans rfl
 have hbk := (hB2.block (w.heap.size + 1) (by omega)).trans BK.out
 have hx0 := (blk_cell hbk 0).trans rfl
 have hx1 := (blk_cell hbk 1).trans rfl
 have hx2 := (blk_cell hbk 2).trans rfl
 have hf0 := blk_frozen hbk 0
 have hf1 := blk_frozen hbk 1
 have hf2 := blk_frozen hbk 2
 have S2 := Aside0.mk hS
 have BK2 := Aside0.mk hbk
 have B2_ := Aside0.mk (HBA.out.trans (hB2.mono (show w.heap.size ≤ w.heap.size + 2 by omega)))
 clear hS hbk hB2 HM MV
 go_wp2
 refine bodyPost_ret (results_ctt rfl _ _ (w.heap.size + 1) 25 #[.slice A0 _ f0, .slice A1 _ f1, .slice B2 t3.length d2] (0, 0) _ rfl (blk_put (blk_put (blk_put BK2.out 0 _ rfl) 1 _ rfl) 2 _ rfl) hu25 rfl (by kernel_rfl)) rfl ?_
 have k0 := S2.out.r0
 have k1 := S2.out.r1
 simp only [List.length_take, List.length_cons] at k0 k1
 refine ⟨_, _, _, rfl, ?_, ?_, ?_, ((B2_.out.setCell (p := ⟨_, 0, none⟩) (by simp) _).setCell (p := ⟨_, 1, none⟩) (by simp) _).setCell (p := ⟨_, 2, none⟩) (by simp) _⟩
 ·
  exact Kd.R_lower (R_set (R_set (R_set k0 BK2.out (by decide)) (blk_set BK2.out 0 _) (by decide)) (blk_set (blk_set BK2.out 0 _) 1 _) (by decide)) (by omega)
 ·
  exact Kd.R_lower (R_set (R_set (R_set k1 BK2.out (by decide)) (blk_set BK2.out 0 _) (by decide)) (blk_set (blk_set BK2.out 0 _) 1 _) (by decide)) (by omega)
 ·
  exact Kd.R_lower (R_set (R_set (R_set S2.out.r2 BK2.out (by decide)) (blk_set BK2.out 0 _) (by decide)) (blk_set (blk_set BK2.out 0 _) 1 _) (by decide)) (by omega)


end Go.Proofs.Ytaofihdmgdpenaa.X
