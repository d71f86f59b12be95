/- What Go functions of this seat compute, told as Lean functions, and that each call of the Go code comes to that answer; for a law: its row, for every input. Written by a program of the session. -/
import Derived.RangeFuncNested
import Derived.RangeFuncBound
import Derived.RangeFuncCalls
import Derived.RangeFuncBox
import Derived.RangeFuncLeaves
import Derived.Shelf.Abstract
import Derived.OwnWalkIn
import Derived.TacticsInMore
import Derived.LoopNIn
import Derived.LoopIn
import Derived.Maps.AppendAt
import Derived.Shelf.SortM.Plain
import Derived.Shelf.SortM.SortNone
import Derived.Ground.SlgmProg
import Derived.Sort.OwnSortedInts
import Derived.Test.YtfnhoncpaheejaaX0
import Derived.Test.YtfnhoncpaheejaaX7
import Derived.Test.YtfnhoncpaheejaaX14
import Derived.Test.YtfnhoncpaheejaaX28
import Derived.Test.YtfnhoncpaheejaaX44
namespace Go.Proofs.Ytfnhoncpaheejaa.X
open Go.RowKit Go.Proofs.YtfnhoncpaheejaaW.PrintWords Go.Proofs.YtfnhoncpaheejaaW.PrintLast Go.Proofs.YtfnhoncpaheejaaW.PrintMore
attribute [local go_sem] max2_int min2_int max_two min_two max_three min_three max_four min_four   -- for this text's walks alone
set_option linter.unusedVariables false
set_option linter.unusedSimpArgs false

/-! ### held_Frames: function 29 -/
shelf_lay_g SlLaysM.n5 Slgm 5 at Try 44 as Try.sort_
section
open Go.Shelf
attribute [local go_sem] Oper.semAt_some
def heldFrames (l : List S32) : List Int × Int :=
 if (heldCheck l).1 = 0 then ((framesOf l).mergeSort (fun x y => decide (x ≤ y)), 0) else ([], (heldCheck l).1)
def held_Frames.f (l0 : List S32) : Option (List Int × Int) := some (heldFrames l0)
theorem framesOf_length (l : List S32) : (framesOf l).length = l.length := by simp [framesOf]
theorem held_intinfo : (Try.prog.info? 3).map (fun i => (i.zero, i.size, i.bytes)) = some (some (.int .i64 0), 1, 8) := by kernel_rfl
theorem own_downto {w : World} {base base' size n : Nat} {e : TypeId} {v : Value} {xs : List Value} (h : w.ownsRow base e size v n xs) (hb : base' ≤ base) : w.ownsRow base' e size v n xs :=
 ⟨h.1, h.2.imp id fun ⟨g, cap, cur, h1, h2, h3⟩ => ⟨g, cap, cur, h1, Nat.le_trans hb h2, h3⟩⟩
set_option maxHeartbeats 1000000 in
/-- frames boxes the list; the function value captures the box. -/
theorem held_frames_in (F : Fence) (n : Nat) (h43 : F.fn 43) (hro : F.round = none) (v : Value) (hv : ∃ A n c, v = .slice A n c) (w : World) :
  CallsIn F n Try.prog 43 #[v] w fun e w' => e = .returned (.func (.func 47) #[] #[.pointer (some ⟨w.heap.size, 0, none⟩)]) ∧ w' = w.alloc (.cells #[v] 23) := by
 obtain ⟨A, m, c, rfl⟩ := hv
 refine callsIn_of_wp Try.func43 rfl h43 ?_ hro
 simp only [Try.ntmps43, List.size_toArray, List.length_cons, List.length_nil, Nat.reduceAdd, Nat.reduceSub, Array.replicate_succ, Array.replicate_zero, List.push_toArray, List.append_toArray, List.nil_append, List.cons_append]
 gi_wp2
 go_ret
 exact ⟨rfl, rfl⟩
theorem held_frames_stops (F : Fence) (n : Nat) (h47 : F.fn 47) (hro : F.round = none) (hn : 1 ≤ n) (Bn : Nat) (A : Option Addr) (c : Nat) (zs : List S32) (w0 w : World) (hlen : zs.length ≤ 1000) (hC : Kd.C k32 w0 A zs.length zs) (hB0 : Below w0.heap.size w0 w) (hBn : Bn < w.heap.size)
  (hc : w.cell? ⟨Bn, 0, none⟩ = some (.slice A zs.length c)) :
  SeqStopsK F n Try.prog 47 #[.pointer (some ⟨Bn, 0, none⟩)] (fun x : Int => #[Value.int .i64 x]) (Below w0.heap.size) (fun ys => ys = framesOf zs) (fun pre => ∃ k, k ≤ zs.length ∧ pre = framesOf (zs.take k)) zs.length w := fun l J Jx W hW hJ _ hY h0 => by
 exact held_frames1_in F n h47 hro hn l Bn w0 A c zs hlen hC J Jx W (hB0.trans (hW.mono hB0.size)) hJ hY ((hW.cell (p := ⟨Bn, 0, none⟩) hBn).trans hc) h0
set_option maxHeartbeats 4000000 in
set_option maxRecDepth 100000 in
theorem held_Frames.calls (A0 : Option Addr) (c0 : Nat) (l0 : List S32) (r1 : List Int) (r2 : Int) (w : World) (hr0 : Kd.C k32 w A0 l0.length l0) (hc0 : l0.length ≤ c0) (h : held_Frames.f l0 = some (r1, r2)) :
  Calls Try.prog 29 #[.slice A0 l0.length c0] w fun e w' => ∃ v0_ : Value, e = .returned (.tuple #[v0_, .int .i64 r2]) ∧ Kd.R (Kd.int .i64) 3 w' w.heap.size (fun _ => True) v0_ r1 ∧ Below w.heap.size w w' := by
 have huW := Try.underlying32
 have hmm := @run_makeMap Try.prog
 have H := Option.some.inj h
 unfold heldFrames at H
 clear h
 have HR := Aside0.mk hr0
 clear hr0
 refine (callsIn_wide (n := 6)).1 ?_
 refine callsIn_of_wp_marks Try.func29 rfl trivial ?_ rfl
 simp only [Try.ntmps29, List.size_toArray, List.length_cons, List.length_nil, Nat.reduceAdd, Nat.reduceSub, Array.replicate_succ, Array.replicate_zero, List.push_toArray, List.append_toArray, List.nil_append, List.cons_append]
 gi_wp2_with fail
 refine ⟨trivial, (callsIn_wide.2 (held_Check.calls A0 c0 l0 _ _ w HR.out hc0 rfl)).mono ?_⟩
 rintro e w1 ⟨rfl, hb1⟩
 have HB1 := Aside0.mk hb1
 have HC1 := Aside0.mk (Kd.C_below HR.out hb1)
 clear hb1
 by_cases e0 : (heldCheck l0).1 = 0
 case neg =>
  rw [if_neg e0] at H
  generalize (heldCheck l0).1 = er at e0 H
  obtain ⟨rfl, rfl⟩ := Prod.mk.inj H
  have eb : (er != 0) = true := bne_iff_ne.mpr e0
  clear e0 H
  gi_wp2
  exact ⟨_, results_tmp2 rfl _ _ _, _, rfl, Kd.R_nil _ _ _ _ _, HB1.out⟩
 rw [if_pos e0] at H
 have HL := Aside0.mk (heldCheck_len e0)
 rw [e0]
 obtain ⟨rfl, rfl⟩ := Prod.mk.inj H
 clear e0 H
 have hn0 : ((0 : Int) != 0) = false := rfl
 gi_wp2_with (refine ⟨trivial, ?_⟩; gi_at_call 43; refine (held_frames_in Fence.wide 5 trivial rfl _ ⟨_, _, _, rfl⟩ _).mono ?_; rintro e w' ⟨rfl, rfl⟩)
 obtain ⟨i0, hi, hz0, hz1, hz2⟩ := info_parts held_intinfo
 have bO := Boxed.new w1 22 (.slice none 0 0)
 have bN := Boxed.new (w1.alloc (.cells #[.slice none 0 0] 22)) 23 (.slice A0 l0.length c0)
 rw [World.size_alloc] at bN
 have hB0 : Below w1.heap.size w1 ((w1.alloc (.cells #[.slice none 0 0] 22)).alloc (.cells #[.slice A0 l0.length c0] 23)) := ((Below.refl _ w1).alloc (Nat.le_refl _) _).alloc (by simp) _
 have hlen := HL.out
 refine wpIn_rangeFunc_ownG rfl (by omega) (gf := 47) (lb := #[.pointer (some ⟨w1.heap.size + 1, 0, none⟩)]) rfl trivial (enters_of Try.func47 (by kernel_rfl) rfl)
  (held_frames_stops Fence.wide 5 trivial rfl (by omega) (w1.heap.size + 1) A0 c0 l0 w1 _ (by omega) HC1.out hB0 (by simp) bN.cell) belowK_t (belowK_b (by simp; omega)) (Below.refl _ _) (fun _ => rfl)
  (fun pre W => (∃ v, Boxed W w1.heap.size 22 v ∧ W.ownsRow w1.heap.size 3 1 v pre.length (pre.map (Value.int .i64)) ∧ True) ∧ Below w1.heap.size w1 W)
  (fun _ _ _ => False)
  (OwnFrom.and (Own.from (holdsRow_own w1.heap.size w1.heap.size 22 3 1 (fun pre : List Int => pre.length) (fun pre => pre.map (Value.int .i64)) (fun pre v => True)) _) (ownFrom_below (Nat.le_refl _) (by simp; omega)))
  (fun _ _ _ _ _ hs _ _ => hs)
  ⟨⟨_, bO.alloc _, World.ownsRow_nil _ _ _ _, trivial⟩, hB0⟩
  (fun x => { tmps := #[.slice A0 l0.length c0, undef, .slice none 0 0, .int .i64 0, .int .i64 0, .int .i64 (heldCheck l0).2.1, .pointer (some ⟨w1.heap.size, 0, none⟩), .int .i64 x, .tuple #[.int .i64 0, .int .i64 (heldCheck l0).2.1], .slice A0 l0.length c0, .tuple #[.int .i64 0, .int .i64 (heldCheck l0).2.1], .int .i64 0, .int .i64 (heldCheck l0).2.1, .int .i64 0, .bool false, undef, .slice A0 l0.length c0, .func (.func 47) #[] #[.pointer (some ⟨w1.heap.size + 1, 0, none⟩)], .int .i64 x, undef, undef, undef, undef, undef, undef, undef], defers := [] }) ?assign ?body ?done ?stop
 case assign =>
  intro l x W K hK
  gi_wp2
  exact hK
 case body =>
  rintro l pre x W ⟨⟨v, hv, hrow, -⟩, hB⟩ hlt
  have hc := hv.cell
  gi_wp2_with (gi_at_builtin; refine wpListIn_append_own _ rfl _ _ 22 rfl w1.heap.size 3 i0 (.int .i64 0) 1 8 Try.underlying22 hi hz0 hz1 hz2 rfl (by decide) _ _ _ rfl (hrow.alloc _) ⟨W.heap.size, 0, none⟩ 1 1 [.int .i64 x] rfl rfl (cell_one_new _ _ _) (by simp [Value.oneCell']) (by simp [maxLen]; omega) (by omega) (by have := hB.size; simp; omega) ?_; intro v' w2 hown' hgrow _; obtain ⟨g', cap', rfl⟩ := ownsRow_succ hown'; obtain ⟨hv1, hv2, hr2, hk2, hb2⟩ := hv.appended (by decide) hrow hB.size (Nat.le_refl _) hown' hgrow; have hc1 := hv1.cell; have hf1 := hv1.frozen)
  exact ⟨hk2.from _, hb2, ⟨_, hv2, by simpa using hr2, trivial⟩, hB.trans hb2⟩
 case done =>
  rintro D ys W hD rfl ⟨⟨v, hv, hrow, -⟩, hB⟩ hK
  have hc := hv.cell
  have hB2 := HB1.out.trans (hB.mono HB1.out.size)
  rcases hrow.2 with ⟨rfl, h0⟩ | ⟨g, cap, cur, rfl, hg, hgb, hcap, hmax, hsz, htake⟩
  ·
   have hnil : framesOf l0 = [] := List.eq_nil_of_length_eq_zero h0
   gi_wp2_with (refine ⟨trivial, ?_⟩; gi_at_call 44; refine (callsIn_wide.2 (AnyM.slices_Sort_int_none Try.sort_ none 0 _)).mono ?_; rintro e w' ⟨rfl, rfl⟩)
   refine ⟨by simp, .inl ⟨_, _, rfl, run_takeDeferred hK, ?_⟩⟩
   rw [hnil, List.mergeSort_nil]
   exact ⟨_, results_tmp2 rfl _ _ _, _, rfl, Kd.R_nil _ _ _ _ _, hB2.trans (belowK_b (w := w) (Nat.le_refl _) _ D _ _ (by have := HB1.out.size; simp at hD; omega) hK rfl rfl)⟩
  ·
   have hne := hv.not_row (by decide) hrow
   gi_wp2_with (refine ⟨trivial, ?_⟩; gi_at_call 44; refine (callsIn_wide.2 (AnyM.slices_Sort_int Try.sort_ g 0 cap (framesOf l0) _ (Go.holds_of_blockI hgb (by simpa using htake)) (Array.getElem?_eq_some_iff.1 hgb).1 (by rw [framesOf_length]; omega))).mono ?_; rintro e w' ⟨rfl, nd, os, rfl⟩; have hgr := Go.grownBy_sortedI (w := W) (g := g) (n := nd) (os := os) ((framesOf l0).mergeSort fun x y => decide (x ≤ y)).toArray; have hc2 := (hv.kept hgr hne).cell)
   have hDg : D ≠ g := fun e' => by rw [e', hgb] at hK; cases hK
   have hK2 := (hgr.block D (Array.getElem?_eq_some_iff.1 hK).1 (by simpa using hDg)).trans hK
   refine ⟨by simp, .inl ⟨_, _, rfl, run_takeDeferred hK2, ?_⟩⟩
   have hms := List.length_mergeSort (le := fun x y : Int => decide (x ≤ y)) (framesOf l0)
   have hown := ownsRow_putObj (Go.ownsRow_sortedI (w := W) (cap := cap) (n := nd) (os := os) hms hg hgb hcap hmax (by simpa using hsz)) (.deferred none) hK2 rfl
   refine ⟨_, results_tmp2 rfl _ _ _, _, rfl, Kd.R_of_own ?_ (fun _ _ => trivial), ?_⟩
   ·
    rw [hms]
    exact own_downto hown HB1.out.size
   ·
    exact (hB2.grown hgr (by have := HB1.out.size; have := hB.size; omega) fun j ej => by cases ej; have := HB1.out.size; omega).trans (belowK_b (w := w) (Nat.le_refl _) _ D _ _ (by have := HB1.out.size; simp at hD; omega) hK2 rfl rfl)
 case stop =>
  rintro D c pre W _ _ h _
  exact h.elim
end


end Go.Proofs.Ytfnhoncpaheejaa.X
