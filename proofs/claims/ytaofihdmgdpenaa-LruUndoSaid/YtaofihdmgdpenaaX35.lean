/- What Go functions of this seat compute, told as Lean functions, and that each call of the Go code comes to that answer; for a law: its row, for every input. Written by a program of the session. -/
import Derived.Shelf.SlicesE.DeleteFunc
import Derived.Ground.SlgfProg
import Derived.Lib.SliceRun
import Derived.Sort.OwnSortedInts
import Derived.Test.YtaofihdmgdpenaaX0
namespace Go.Proofs.Ytaofihdmgdpenaa.X
open Go.RowKit Go.Proofs.YtaofihdmgdpenaaW.PrintWords Go.Proofs.YtaofihdmgdpenaaW.PrintLast Go.Proofs.YtaofihdmgdpenaaW.PrintMore
attribute [local go_sem] max2_int min2_int max_two min_two max_three min_three max_four min_four   -- for this text's walks alone
set_option linter.unusedVariables false
set_option linter.unusedSimpArgs false

/-! ### slices_DeleteFunc_int_int: function 48 -/
shelf_lay_g SlLaysH.n10 Slgf 10 at Try 48 as Try.delfunc_
section
open Go.Shelf Go.Lib Go.Sort
/-- The closure of Remove, in whatever world holds the frame in the cell ⟨B, 0⟩. -/
theorem is_gives (y x : Int) (B : Nat) (W : World) (hc : W.cell? ⟨B, 0, none⟩ = some (.int .i64 y)) :
  FnGives Try.prog 47 #[.pointer (some ⟨B, 0, none⟩)] #[.int .i64 x] (.bool (x == y)) W := by
 show Calls Try.prog 47 #[.int .i64 x, .pointer (some ⟨B, 0, none⟩)] W _
 go_enter Try.func47, Try.ntmps47
 go_wp2
 all_goals (go_ret; exact ⟨by simp_all, 0, rfl⟩)
theorem is_pred (y : Int) (B : Nat) (w : World) (hB : B < w.heap.size) (hcell : w.cell? ⟨B, 0, none⟩ = some (.int .i64 y)) :
  PredAt Try.prog 47 #[.pointer (some ⟨B, 0, none⟩)] (Value.int .i64) (fun x => x == y) w :=
 fun W x hb => is_gives y x B W ((hb.cell (p := ⟨B, 0, none⟩) hB).trans hcell)
theorem is_over (y : Int) (B blk off size : Nat) (w : World) (hB : B < w.heap.size) (hne : B ≠ blk) (hcell : w.cell? ⟨B, 0, none⟩ = some (.int .i64 y)) :
  PredOver Try.prog 47 #[.pointer (some ⟨B, 0, none⟩)] (Value.int .i64) (fun x => x == y) blk off size w :=
 fun n os dk x _ => is_gives y x B _ (by
  unfold sortWorld
  rw [cell?_grow _ _ _ (by show B < (putRow _ _ _ _ _).heap.size; rw [size_putRow]; exact hB), cell?_putRow_other _ _ blk off _ _ (Or.inl hne)]
  exact hcell)
theorem delfunc_zero (w : World) : (zeroValue 3).run Try.prog w = .ok (.int .i64 0) w := by kernel_rfl
set_option maxHeartbeats 2000000 in
set_option maxRecDepth 100000 in
/-- slices.DeleteFunc(s, is), s a row of the caller's own: it owns the rest behind it. -/
theorem delfunc_own (base B : Nat) (v : Value) (xs : List Int) (y : Int) (w : World) (hR : Kd.R (Kd.int .i64) 3 w base (fun _ => True) v xs) (hlen : xs.length ≤ 1000000) (hB : B < w.heap.size) (hcell : w.cell? ⟨B, 0, none⟩ = some (.int .i64 y)) (hne : v.ownBlock ≠ some B) :
  Calls Try.prog 48 #[v, .func (.func 47) #[] #[.pointer (some ⟨B, 0, none⟩)]] w fun e w' => ∃ v', e = .returned v' ∧ Kd.R (Kd.int .i64) 3 w' base (fun _ => True) v' (xs.filter fun x => !(x == y)) ∧ w.grownBy w' v.ownBlock ∧ v'.ownBlock = v.ownBlock := by
 have eg : ∀ args w, (callFunc 47 args).run Try.prog w = .ok (.enter 47 args) w := enters_of Try.func47 (by kernel_rfl) rfl
 obtain ⟨_, hown⟩ := Kd.own_of_R hR
 rcases hown with ⟨rfl, h0⟩ | ⟨g, cap, cur, rfl, hg, hgb, hcap, hmax, hsz, htake⟩
 ·
  obtain rfl := List.eq_nil_of_length_eq_zero h0
  have hcon := AnyE.slices_IndexFunc_empty { Try.delfunc_ with } none 0 (.func (.func 47) #[] #[.pointer (some ⟨B, 0, none⟩)]) w
  change Calls Try.prog 60 _ _ _ at hcon
  go_enter Try.func48, Try.ntmps48
  go_wp2_with (go_at_call 60; refine hcon.mono ?_; rintro e w' ⟨rfl, rfl⟩)
  go_ret
  exact ⟨_, rfl, Kd.R_nil _ _ _ _ _, ⟨rfl, rfl, rfl, Nat.le_refl _, fun _ _ _ => rfl⟩, rfl⟩
 ·
  have hgw : g < w.heap.size := (Array.getElem?_eq_some_iff.1 hgb).1
  have hH : Holds (Value.int .i64) w g 0 xs.toArray := Go.holds_of_blockI hgb (by simpa [encs] using htake)
  have hBg : B ≠ g := fun e => hne (by rw [e]; rfl)
  have hcon := AnyE.slices_DeleteFunc Try.delfunc_ (Value.int .i64) (fun _ => rfl) (fun x => x == y) 47 #[.pointer (some ⟨B, 0, none⟩)] eg 0 delfunc_zero g 0 cap xs.toArray w (is_pred y B w hB hcell) (is_over y B g 0 xs.toArray.size w hB hBg hcell) hH (by simp; omega) (by simpa using hcap)
  refine hcon.mono ?_
  rintro e w' ⟨rfl, q, rfl⟩
  have hm : (xs.filter fun x => !(x == y)).length ≤ xs.length := List.length_filter_le _ _
  have hh := Go.heap_sortedI (w := w) (n := q) (os := #[]) ((xs.filter fun x => !(x == y)) ++ List.replicate (xs.length - (xs.filter fun x => !(x == y)).length) 0).toArray hgb
  have hgr := Go.grownBy_sortedI (w := w) (g := g) (n := q) (os := #[]) ((xs.filter fun x => !(x == y)) ++ List.replicate (xs.length - (xs.filter fun x => !(x == y)).length) 0).toArray
  have htk := Go.take_putCellsI cur ((xs.filter fun x => !(x == y)) ++ List.replicate (xs.length - (xs.filter fun x => !(x == y)).length) 0) (by simp; omega)
  rw [grow_empty] at hh hgr
  simp only [List.size_toArray]
  generalize hz : (xs.filter fun x => !(x == y)) = zs at *
  refine ⟨_, rfl, Kd.R_of_own ⟨by simp [encs], .inr ⟨g, cap, _, rfl, hg, hh, by omega, hmax, by simp [putCells]; omega, ?_⟩⟩ (fun _ _ => trivial), hgr, rfl⟩
  have := congrArg (List.take zs.length) htk
  rw [List.take_take, Nat.min_eq_left (by simp), List.map_append, List.take_append_of_le_length (by simp), show List.take zs.length (List.map (Value.int .i64) zs) = List.map (Value.int .i64) zs from List.take_of_length_le (by simp)] at this
  simpa [encs] using this
end


end Go.Proofs.Ytaofihdmgdpenaa.X
