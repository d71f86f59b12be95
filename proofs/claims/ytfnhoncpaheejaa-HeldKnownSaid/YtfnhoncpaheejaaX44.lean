/- What Go functions of this seat compute, told as Lean functions, and that each call of the Go code comes to that answer; for a law: its row, for every input. Written by a program of the session. -/
import Derived.RangeFuncNested
import Derived.RangeFuncBound
import Derived.RangeFuncCalls
import Derived.RangeFuncBox
import Derived.RangeFuncLeaves
import Derived.Shelf.Abstract
import Derived.OwnWalkIn
import Derived.TacticsInMore
import Derived.LoopNIn
import Derived.LoopIn
import Derived.Maps.AppendAt
import Derived.Test.YtfnhoncpaheejaaX0
namespace Go.Proofs.Ytfnhoncpaheejaa.X
open Go.RowKit Go.Proofs.YtfnhoncpaheejaaW.PrintWords Go.Proofs.YtfnhoncpaheejaaW.PrintLast Go.Proofs.YtfnhoncpaheejaaW.PrintMore
attribute [local go_sem] max2_int min2_int max_two min_two max_three min_three max_four min_four   -- for this text's walks alone
set_option linter.unusedVariables false
set_option linter.unusedSimpArgs false

/-! ### held_frames: function 43 -/
section
open Go.Shelf
attribute [local go_sem] Oper.semAt_some
def framesOf (l : List S32) : List Int := l.map (·.f1)
theorem framesOf_succ {l : List S32} {k : Nat} (h : k < l.length) : framesOf (l.take (k + 1)) = framesOf (l.take k) ++ [(rd_T32 l k).f1] := by
 unfold framesOf
 rw [List.take_succ_eq_append_getElem h, List.map_append]
 simp [rd_T32, List.getD_eq_getElem?_getD, List.getElem?_eq_getElem h]
set_option maxRecDepth 100000 in
set_option maxHeartbeats 2000000 in
/-- The iterator over the frames: for every loop's body that keeps what lay in w0. -/
theorem held_frames1_in (F : Fence) (n : Nat) (h47 : F.fn 47) (hro : F.round = none) (hn : 1 ≤ n) (l Bs : Nat) (w0 : World) (A : Option Addr) (c : Nat) (zs : List S32) (hlen : zs.length ≤ 1000) (hC : Kd.C k32 w0 A zs.length zs) (J Jx : List Int → World → Prop) (W : World) (hw : Below w0.heap.size w0 W)
  (hJ : AbidesFrom W.heap.size J)
  (hY : ∀ pre x W, J pre W → pre.length < zs.length → YieldAt F (n - 1) Try.prog l #[.int .i64 x] W fun e W' =>
   (e = .returned (.bool true) ∧ J (pre ++ [x]) W' ∧ Below w0.heap.size W W') ∨ (e = .returned (.bool false) ∧ Jx (pre ++ [x]) W'))
  (hBs : W.cell? ⟨Bs, 0, none⟩ = some (.slice A zs.length c)) (h0 : J [] W) :
  CallsIn F n Try.prog 47 #[.func (.yield l) #[] #[], .pointer (some ⟨Bs, 0, none⟩)] W fun e W' => (∃ v, e = .returned v) ∧
   ((∃ ys, ys = framesOf zs ∧ J ys W') ∨ (∃ pre, (∃ k, k ≤ zs.length ∧ pre = framesOf (zs.take k)) ∧ Jx pre W')) := by
 have huW := Try.underlying32
 have HC := Aside0.mk hC
 have HW := Aside0.mk hw
 clear hC hw
 refine callsIn_of_wp Try.func47 rfl h47 ?_ hro
 simp only [Try.ntmps47, List.size_toArray, List.length_cons, List.length_nil, Nat.reduceAdd, Nat.reduceSub, Array.replicate_succ, Array.replicate_zero, List.push_toArray, List.append_toArray, List.nil_append, List.cons_append]
 gi_wp2
 gi_loopw [7] (fun i wr => ∃ k : Nat, k ≤ zs.length ∧ i = .int .i64 k ∧ J (framesOf (zs.take k)) wr ∧ Aside0 (Below w0.heap.size w0 wr))
  (fun i _ => zs.length - (intOf i).toNat)
 case atStart => exact ⟨0, Nat.zero_le _, rfl, h0, HW⟩
 case round =>
  obtain ⟨k, hk, rfl, hJs, HB⟩ := hrel
  by_cases hlt : k < zs.length
  ·
   obtain ⟨ad, hA, hx0, hx1, hx2⟩ := at_T32 HC.out k (by omega) (by omega)
   subst hA
   have HF := Aside0.mk (framesOf_succ hlt)
   generalize rd_T32 zs k = x at hx0 hx1 hx2 HF
   simp only [Int.toNat_natCast] at hx0 hx1 hx2
   replace hx0 := pw_cell_below HB.out hx0
   replace hx1 := pw_cell_below HB.out hx1
   replace hx2 := pw_cell_below HB.out hx2
   have hJ1 : J (framesOf (zs.take k)) (wr.alloc (.cells #[.int .i64 x.f0, .int .i64 x.f1, .int .i64 x.f2] 32)) := hJ _ _ _ none hJs (World.grownBy_alloc _ _ none) (fun r e => by cases e)
   have HB1 := Aside0.mk (below_alloc HB.out (.cells #[.int .i64 x.f0, .int .i64 x.f1, .int .i64 x.f2] 32))
   obtain ⟨fn, tmps, assign, body, hy, hR⟩ := hY _ x.f1 _ hJ1 (by unfold framesOf; rw [List.length_map, List.length_take]; omega)
   gi_wp2
   refine hR.mono ?_
   rintro e W3 (⟨rfl, hJ3, hk3⟩ | ⟨rfl, hJx3⟩)
   ·
    gi_wp2
    go_roundw
    case rel => exact ⟨k + 1, by omega, by simp, by rw [HF.out]; exact hJ3, ⟨HB1.out.trans hk3⟩⟩
    case measure => simp [intOf]; omega
   ·
    gi_wp2
    refine bodyPost_ret (results_none rfl _ _ _) rfl ?_
    exact ⟨⟨_, rfl⟩, .inr ⟨_, ⟨k + 1, by omega, HF.out.symm⟩, hJx3⟩⟩
  ·
   obtain rfl : k = zs.length := by omega
   gi_wp2
   go_end0
   exact ⟨⟨_, rfl⟩, .inl ⟨_, rfl, by simpa using hJs⟩⟩
end


end Go.Proofs.Ytfnhoncpaheejaa.X
