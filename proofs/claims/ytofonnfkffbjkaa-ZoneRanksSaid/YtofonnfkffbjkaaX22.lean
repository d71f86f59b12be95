/- What Go functions of this seat compute, told as Lean functions, and that each call of the Go code comes to that answer; for a law: its row, for every input. Written by a program of the session. -/
import Derived.Test.YtofonnfkffbjkaaX0
import Derived.Test.YtofonnfkffbjkaaX7
import Derived.Test.YtofonnfkffbjkaaX14
import Derived.Test.YtofonnfkffbjkaaX16
import Derived.Test.YtofonnfkffbjkaaX19
import Derived.Test.YtofonnfkffbjkaaX20
import Derived.Test.YtofonnfkffbjkaaX21
namespace Go.Proofs.Ytofonnfkffbjkaa.X
open Go.RowKit Go.Proofs.YtofonnfkffbjkaaW.PrintWords Go.Proofs.YtofonnfkffbjkaaW.PrintLast Go.Proofs.YtofonnfkffbjkaaW.PrintMore
attribute [local go_sem] max2_int min2_int max_two min_two max_three min_three max_four min_four   -- for this text's walks alone
set_option linter.unusedVariables false
set_option linter.unusedSimpArgs false

/-! ### headgatelaw10_ZoneRanks: function 4 -/
mutual
def headgatelaw10_ZoneRanks.l0 : Nat → Int → Bool → Int → Bool → Int → Int → Int → Int → Option (Bool)
  | 0, _, _, _, _, _, _, _, _ => none
  | k + 1, x1, x5, x8, x9, x10, x213000, x213001, x213002 => if x10 ≥ 1 then ((zone_May.f k x213000 x213001 x213002 x10 x8).bind fun bt214 => (if bt214.2 = 0 then (if bt214.1 = true then (if x9 = true then (headgatelaw10_ZoneRanks.l0 k x1 x5 x8 bt214.1 (wrap64 (x10 - 1)) x213000 x213001 x213002) else (some false)) else (headgatelaw10_ZoneRanks.l0 k x1 x5 x8 bt214.1 (wrap64 (x10 - 1)) x213000 x213001 x213002)) else (some false))) else ((zone_May.f k x213000 x213001 x213002 3 x8).bind fun bt216 => (if bt216.2 = 0 then (if bt216.1 = true then (headgatelaw10_ZoneRanks.j1 k x1 x5 x8 (!x9) x213000 x213001 x213002) else (headgatelaw10_ZoneRanks.j1 k x1 x5 x8 false x213000 x213001 x213002)) else (headgatelaw10_ZoneRanks.j1 k x1 x5 x8 true x213000 x213001 x213002)))
def headgatelaw10_ZoneRanks.j1 : Nat → Int → Bool → Int → Bool → Int → Int → Int → Option (Bool)
  | 0, _, _, _, _, _, _, _ => none
  | k + 1, x1, x5, x8, x72, x213000, x213001, x213002 => if x72 = true then (some false) else (headgatelaw10_ZoneRanks.l1 k x1 x5 x8 1 x213000 x213001 x213002)
def headgatelaw10_ZoneRanks.l1 : Nat → Int → Bool → Int → Int → Int → Int → Int → Option (Bool)
  | 0, _, _, _, _, _, _, _ => none
  | k + 1, x1, x5, x8, x15, x213000, x213001, x213002 => if x15 ≤ 3 then ((zone_May.f k x213000 x213001 x213002 x15 x8).bind fun bt218 => ((zone_May.f k x213000 x213001 x213002 x15 (wrap64 (x8 + x1))).bind fun bt220 => (if bt218.2 = 0 then (if bt220.2 = 0 then (if bt218.1 = true then (if bt220.1 = true then (headgatelaw10_ZoneRanks.l1 k x1 x5 x8 (wrap64 (x15 + 1)) x213000 x213001 x213002) else (some false)) else (headgatelaw10_ZoneRanks.l1 k x1 x5 x8 (wrap64 (x15 + 1)) x213000 x213001 x213002)) else (some false)) else (some false)))) else ((zone_Level.f k x213000 x213001 x213002 x8).bind fun bt222 => ((zone_Level.f k x213000 x213001 x213002 (wrap64 (x8 + x1))).bind fun bt224 => ((zone_Awake.f k x213000 x213001 x213002 x8 true).bind fun bt226 => ((zone_Awake.f k x213000 x213001 x213002 x8 false).bind fun bt228 => (if bt222.2 = 0 then (if bt224.2 = 0 then (if bt226.2 = 0 then (if bt228.2 = 0 then (if bt224.1 > bt222.1 then (some false) else (if x5 = true then (if (bt226.1 == (decide (x8 < x213002))) = true then (some (bt228.1 == (decide (x8 < x213001)))) else (some false)) else (some false))) else (some false)) else (some false)) else (some false)) else (some false))))))
end
def headgatelaw10_ZoneRanks.f (k : Nat) (a0 : Int) (a1 : Int) : Option (Bool) := (headgatelaw10_ZoneKnown.f k).bind fun t206 => ((headgatelaw10_made.f a0).bind fun bt207 => ((headgatekit_Mod.f a1 100).bind fun t213 => (headgatelaw10_ZoneRanks.l0 k t213 t206 bt207.2.2.2.2 true 2 bt207.1 bt207.2.1 bt207.2.2.1)))
theorem headgatelaw10_ZoneRanks.mono_l : ∀ k, (∀ y0 y1 y2 y3 y4 y5 y6 y7, LeO (headgatelaw10_ZoneRanks.l0 k y0 y1 y2 y3 y4 y5 y6 y7) (headgatelaw10_ZoneRanks.l0 (k + 1) y0 y1 y2 y3 y4 y5 y6 y7)) ∧ (∀ y0 y1 y2 y3 y4 y5 y6, LeO (headgatelaw10_ZoneRanks.j1 k y0 y1 y2 y3 y4 y5 y6) (headgatelaw10_ZoneRanks.j1 (k + 1) y0 y1 y2 y3 y4 y5 y6)) ∧ (∀ y0 y1 y2 y3 y4 y5 y6, LeO (headgatelaw10_ZoneRanks.l1 k y0 y1 y2 y3 y4 y5 y6) (headgatelaw10_ZoneRanks.l1 (k + 1) y0 y1 y2 y3 y4 y5 y6))
  | 0 => ⟨fun _ _ _ _ _ _ _ _ r h => by simp [headgatelaw10_ZoneRanks.l0] at h, fun _ _ _ _ _ _ _ r h => by simp [headgatelaw10_ZoneRanks.j1] at h, fun _ _ _ _ _ _ _ r h => by simp [headgatelaw10_ZoneRanks.l1] at h⟩
  | k + 1 => by
    obtain ⟨ih0, ih1, ih2⟩ := headgatelaw10_ZoneRanks.mono_l k
    refine ⟨?_, ?_, ?_⟩
    · intro y0 y1 y2 y3 y4 y5 y6 y7
      unfold headgatelaw10_ZoneRanks.l0
      repeat' first
      | (with_reducible exact ih0 _ _ _ _ _ _ _ _)
      | (with_reducible exact ih1 _ _ _ _ _ _ _)
      | (with_reducible exact ih2 _ _ _ _ _ _ _)
      | (with_reducible exact headgatelaw10_ZoneKnown.mono _)
      | (with_reducible exact zone_Awake.mono _ _ _ _ _ _)
      | (with_reducible exact zone_Level.mono _ _ _ _ _)
      | (with_reducible exact zone_May.mono _ _ _ _ _ _)
      | (with_reducible exact LeO.refl _)
      | (with_reducible exact LeO.none _)
      | (with_reducible refine LeO.ite ?_ ?_)
      | (with_reducible refine LeO.bind ?_ (fun _ => ?_))
      | exact ih0 _ _ _ _ _ _ _ _
      | exact ih1 _ _ _ _ _ _ _
      | exact ih2 _ _ _ _ _ _ _
      | exact headgatelaw10_ZoneKnown.mono _
      | exact zone_Awake.mono _ _ _ _ _ _
      | exact zone_Level.mono _ _ _ _ _
      | exact zone_May.mono _ _ _ _ _ _
      | exact LeO.none _
      | refine LeO.ite ?_ ?_
      | refine LeO.bind ?_ (fun _ => ?_)
    · intro y0 y1 y2 y3 y4 y5 y6
      unfold headgatelaw10_ZoneRanks.j1
      repeat' first
      | (with_reducible exact ih0 _ _ _ _ _ _ _ _)
      | (with_reducible exact ih1 _ _ _ _ _ _ _)
      | (with_reducible exact ih2 _ _ _ _ _ _ _)
      | (with_reducible exact headgatelaw10_ZoneKnown.mono _)
      | (with_reducible exact zone_Awake.mono _ _ _ _ _ _)
      | (with_reducible exact zone_Level.mono _ _ _ _ _)
      | (with_reducible exact zone_May.mono _ _ _ _ _ _)
      | (with_reducible exact LeO.refl _)
      | (with_reducible exact LeO.none _)
      | (with_reducible refine LeO.ite ?_ ?_)
      | (with_reducible refine LeO.bind ?_ (fun _ => ?_))
      | exact ih0 _ _ _ _ _ _ _ _
      | exact ih1 _ _ _ _ _ _ _
      | exact ih2 _ _ _ _ _ _ _
      | exact headgatelaw10_ZoneKnown.mono _
      | exact zone_Awake.mono _ _ _ _ _ _
      | exact zone_Level.mono _ _ _ _ _
      | exact zone_May.mono _ _ _ _ _ _
      | exact LeO.none _
      | refine LeO.ite ?_ ?_
      | refine LeO.bind ?_ (fun _ => ?_)
    · intro y0 y1 y2 y3 y4 y5 y6
      unfold headgatelaw10_ZoneRanks.l1
      repeat' first
      | (with_reducible exact ih0 _ _ _ _ _ _ _ _)
      | (with_reducible exact ih1 _ _ _ _ _ _ _)
      | (with_reducible exact ih2 _ _ _ _ _ _ _)
      | (with_reducible exact headgatelaw10_ZoneKnown.mono _)
      | (with_reducible exact zone_Awake.mono _ _ _ _ _ _)
      | (with_reducible exact zone_Level.mono _ _ _ _ _)
      | (with_reducible exact zone_May.mono _ _ _ _ _ _)
      | (with_reducible exact LeO.refl _)
      | (with_reducible exact LeO.none _)
      | (with_reducible refine LeO.ite ?_ ?_)
      | (with_reducible refine LeO.bind ?_ (fun _ => ?_))
      | exact ih0 _ _ _ _ _ _ _ _
      | exact ih1 _ _ _ _ _ _ _
      | exact ih2 _ _ _ _ _ _ _
      | exact headgatelaw10_ZoneKnown.mono _
      | exact zone_Awake.mono _ _ _ _ _ _
      | exact zone_Level.mono _ _ _ _ _
      | exact zone_May.mono _ _ _ _ _ _
      | exact LeO.none _
      | refine LeO.ite ?_ ?_
      | refine LeO.bind ?_ (fun _ => ?_)
theorem headgatelaw10_ZoneRanks.mono : ∀ a0 a1 k, LeO (headgatelaw10_ZoneRanks.f k a0 a1) (headgatelaw10_ZoneRanks.f (k + 1) a0 a1) := by
  intro a0 a1 k
  obtain ⟨ih0, ih1, ih2⟩ := headgatelaw10_ZoneRanks.mono_l k
  unfold headgatelaw10_ZoneRanks.f
  repeat' first
      | (with_reducible exact ih0 _ _ _ _ _ _ _ _)
      | (with_reducible exact ih1 _ _ _ _ _ _ _)
      | (with_reducible exact ih2 _ _ _ _ _ _ _)
      | (with_reducible exact headgatelaw10_ZoneKnown.mono _)
      | (with_reducible exact zone_Awake.mono _ _ _ _ _ _)
      | (with_reducible exact zone_Level.mono _ _ _ _ _)
      | (with_reducible exact zone_May.mono _ _ _ _ _ _)
      | (with_reducible exact LeO.refl _)
      | (with_reducible exact LeO.none _)
      | (with_reducible refine LeO.ite ?_ ?_)
      | (with_reducible refine LeO.bind ?_ (fun _ => ?_))
      | exact ih0 _ _ _ _ _ _ _ _
      | exact ih1 _ _ _ _ _ _ _
      | exact ih2 _ _ _ _ _ _ _
      | exact headgatelaw10_ZoneKnown.mono _
      | exact zone_Awake.mono _ _ _ _ _ _
      | exact zone_Level.mono _ _ _ _ _
      | exact zone_May.mono _ _ _ _ _ _
      | exact LeO.none _
      | refine LeO.ite ?_ ?_
      | refine LeO.bind ?_ (fun _ => ?_)
set_option maxHeartbeats 2000000 in
set_option maxRecDepth 100000 in
theorem headgatelaw10_ZoneRanks.calls (k : Nat) (a0 : Int) (a1 : Int) (r : Bool) (w : World) (h : headgatelaw10_ZoneRanks.f k a0 a1 = some r) :
    Calls Try.prog 4 #[.int .i64 a0, .int .i64 a1] w fun e w' => e = .returned (.bool r) ∧ Below w.heap.size w w' := by
  have hu26 := Try.underlying26
  have HB := Aside0.mk (Below.refl w.heap.size w)
  have H : ((headgatelaw10_ZoneKnown.f k).bind fun t206 => ((headgatelaw10_made.f a0).bind fun bt207 => ((headgatekit_Mod.f a1 100).bind fun t213 => (headgatelaw10_ZoneRanks.l0 k t213 t206 bt207.2.2.2.2 true 2 bt207.1 bt207.2.1 bt207.2.2.1)))) = some r := h
  clear h
  replace H := Option.bind_eq_some_iff.mp H
  obtain ⟨t206, A30, H⟩ := H
  replace H : ((headgatelaw10_made.f a0).bind fun bt207 => ((headgatekit_Mod.f a1 100).bind fun t213 => (headgatelaw10_ZoneRanks.l0 k t213 t206 bt207.2.2.2.2 true 2 bt207.1 bt207.2.1 bt207.2.2.1))) = some r := H
  have A3 := Aside0.mk A30
  clear A30
  replace H := Option.bind_eq_some_iff.mp H
  obtain ⟨⟨t207, t208, t209, t210, t211⟩, A40, H⟩ := H
  replace H : ((headgatekit_Mod.f a1 100).bind fun t213 => (headgatelaw10_ZoneRanks.l0 k t213 t206 t211 true 2 t207 t208 t209)) = some r := H
  have A4 := Aside0.mk A40
  clear A40
  replace H := Option.bind_eq_some_iff.mp H
  obtain ⟨t213, A50, H⟩ := H
  replace H : (headgatelaw10_ZoneRanks.l0 k t213 t206 t211 true 2 t207 t208 t209) = some r := H
  have A5 := Aside0.mk A50
  clear A50
  have H' := Aside0.mk H
  clear H
  go_enter Try.func4, Try.ntmps4
  go_wp2_with (first | ((with_reducible refine gate_callee (f := 3) rfl ?_); refine goesL_ (some 28) rfl rfl Try.func3 (by kernel_rfl) rfl #[] rfl (by (try simp only [List.map_toArray, List.map_cons, List.map_nil]); first | done | rfl | (simp only [List.length_drop, List.length_take]; rfl)) ?_; (with_reducible refine (headgatelaw10_ZoneKnown.calls k  t206 _ A3.out).mono ?_); rintro e w6 ⟨rfl, hb⟩; refine ⟨_, rfl, ?_⟩; have n0_ := Aside0.mk (below_step (by repeat (first | (with_reducible first | exact HB.out | apply below_alloc | apply pw_below_drewN | apply below_drew1) | exact HB.out)) hb); clear HB; have HB := n0_; clear n0_; (try clear hb); (try clear hb2); (try clear hk); (try clear hi)) | ((with_reducible refine gate_callee (f := 18) rfl ?_); refine goesL_ (some 31) rfl rfl Try.func18 (by kernel_rfl) rfl #[.int .i64 a0] rfl (by (try simp only [List.map_toArray, List.map_cons, List.map_nil]); first | done | rfl | (simp only [List.length_drop, List.length_take]; rfl)) ?_; (with_reducible refine (headgatelaw10_made.calls a0 t207 t208 t209 t210 t211 _ A4.out).mono ?_); rintro e w7 ⟨rfl, hb⟩; refine ⟨_, rfl, ?_⟩; have n0_ := Aside0.mk (below_step (by repeat (first | (with_reducible first | exact HB.out | apply below_alloc | apply pw_below_drewN | apply below_drew1) | exact HB.out)) hb); clear HB; have HB := n0_; clear n0_; (try clear hb); (try clear hb2); (try clear hk); (try clear hi)) | ((with_reducible refine gate_dst (N := 6) rfl ?_); refine box_event ?hg (N := 6) ?hd (cs := #[.int .i64 0, .int .i64 0, .int .i64 0]) (t := 26) ?hr ?_; (case hd => rfl); (case hg => rfl); (case hr => first | (go_simp; done) | (go_simp; rfl)); intro gb212 hg w8 hbox hb; have n0_ := Aside0.mk (below_step (by repeat (first | (with_reducible first | exact HB.out | apply below_alloc | apply pw_below_drewN | apply below_drew1) | exact HB.out)) hb); have n1_ := Aside0.mk (hbox); have n2_ := Aside0.mk ((by rw [hg]; exact (below_size (by repeat (first | (with_reducible first | exact HB.out | apply below_alloc | apply pw_below_drewN | apply below_drew1) | exact HB.out))) : w.heap.size ≤ gb212)); have n3_ := Aside0.mk ((by rw [hg]; exact (below_size (by repeat (first | (with_reducible first | exact HB.out | apply below_alloc | apply pw_below_drewN | apply below_drew1) | exact HB.out))) : w.heap.size ≤ gb212)); clear HB; have HB := n0_; have BK212 := n1_; have GW212 := n2_; have GE212 := n3_; clear n0_ n1_ n2_ n3_; clear hb hbox hg; have hcz9_0 : w8.cell? ⟨gb212, 0, none⟩ = some (.int .i64 0) := (blk_cell BK212.out 0).trans rfl; have hcz9_1 : w8.cell? ⟨gb212, 1, none⟩ = some (.int .i64 0) := (blk_cell BK212.out 1).trans rfl; have hcz9_2 : w8.cell? ⟨gb212, 2, none⟩ = some (.int .i64 0) := (blk_cell BK212.out 2).trans rfl; have hfz9_0 := blk_frozen BK212.out 0; have hfz9_1 := blk_frozen BK212.out 1; have hfz9_2 := blk_frozen BK212.out 2) | ((with_reducible refine gate_callee (f := 19) rfl ?_); refine goesL_ (some 36) rfl rfl Try.func19 (by kernel_rfl) rfl #[.int .i64 a1, .int .i64 100] rfl (by (try simp only [List.map_toArray, List.map_cons, List.map_nil]); first | done | rfl | (simp only [List.length_drop, List.length_take]; rfl)) ?_; (with_reducible refine (headgatekit_Mod.calls a1 100 t213 _ A5.out).mono ?_); rintro e w' ⟨rfl, ⟨nd, rfl⟩⟩; refine ⟨_, rfl, ?_⟩))
  go_loopg [9, 10] k (fun kq v9 v10 w' => ∃ (x9_1 : Bool) (x10_1 : Int), v9 = .bool x9_1 ∧ v10 = .int .i64 x10_1 ∧ Aside0 (headgatelaw10_ZoneRanks.l0 kq t213 t206 t211 x9_1 x10_1 t207 t208 t209 = some r) ∧ Aside0 (kq ≤ k) ∧ Aside0 (w'.heap[gb212]? = some (.cells #[.int .i64 t207, .int .i64 t208, .int .i64 t209] 26 (0, 0))) ∧ Aside0 (Below w.heap.size w w'))
  case atStart => exact ⟨(true), (2), (by first | rfl | (simp; done) | (simp [*]; done)), (by first | rfl | (simp; done) | (simp [*]; done)), H', ⟨Nat.le_refl _⟩, ⟨by (with_reducible repeat (first | refine blk_drewN ?_ _ | refine blk_drew ?_ | refine blk_alloc ?_ _)); refine blk_put (cs := #[.int .i64 t207, .int .i64 t208, .int .i64 0]) ?_ 2 _ rfl; (with_reducible repeat (first | refine blk_drewN ?_ _ | refine blk_drew ?_ | refine blk_alloc ?_ _)); refine blk_put (cs := #[.int .i64 t207, .int .i64 0, .int .i64 0]) ?_ 1 _ rfl; (with_reducible repeat (first | refine blk_drewN ?_ _ | refine blk_drew ?_ | refine blk_alloc ?_ _)); refine blk_put (cs := #[.int .i64 0, .int .i64 0, .int .i64 0]) ?_ 0 _ rfl; (with_reducible repeat (first | refine blk_drewN ?_ _ | refine blk_drew ?_ | refine blk_alloc ?_ _)); exact BK212.out⟩, ⟨by repeat (first | (with_reducible first | exact HB.out | apply below_alloc | apply pw_below_drewN | apply below_drew1 | refine below_set ?_ GE212.out) | exact HB.out)⟩⟩
  case round =>
    clear H'
    try clear c1
    try clear p2
    try clear c3
    try clear c4
    try clear hcz9_0
    try clear hcz9_1
    try clear hcz9_2
    try clear hfz9_0
    try clear hfz9_1
    try clear hfz9_2
    obtain ⟨x9_1, x10_1, rfl, rfl, HA, HK1, BK212, HB⟩ := hrel
    cases gk with
    | zero => exact absurd HA.out (by simp [headgatelaw10_ZoneRanks.l0])
    | succ k1 =>
      have H := HA.out
      clear HA
      simp only [headgatelaw10_ZoneRanks.l0] at H
      by_cases c10 : x10_1 ≥ 1
      · rw [if_pos c10] at H
        have c10b0 : decide (1 ≤ x10_1) = true := decide_eq_true c10
        clear c10
        replace H := Option.bind_eq_some_iff.mp H
        obtain ⟨⟨t214, t215⟩, A110, H⟩ := H
        replace H : (if t215 = 0 then (if t214 = true then (if x9_1 = true then (headgatelaw10_ZoneRanks.l0 k1 t213 t206 t211 t214 (wrap64 (x10_1 - 1)) t207 t208 t209) else (some false)) else (headgatelaw10_ZoneRanks.l0 k1 t213 t206 t211 t214 (wrap64 (x10_1 - 1)) t207 t208 t209)) else (some false)) = some r := H
        have A11 := Aside0.mk A110
        clear A110
        by_cases c12 : t215 = 0
        · rw [if_pos c12] at H
          have c12b0 : (t215 == 0) = true := beq_iff_eq.mpr c12
          have c12b1 : (t215 != 0) = false := bne_eq_false_iff_eq.mpr c12
          clear c12
          by_cases c13 : t214 = true
          · subst c13
            have H1 : (if x9_1 = true then (headgatelaw10_ZoneRanks.l0 k1 t213 t206 t211 true (wrap64 (x10_1 - 1)) t207 t208 t209) else (some false)) = some r := by rw [if_pos rfl] at H; exact H
            clear H
            have H := H1
            clear H1
            by_cases c14 : x9_1 = true
            · subst c14
              have H1 : (headgatelaw10_ZoneRanks.l0 k1 t213 t206 t211 true (wrap64 (x10_1 - 1)) t207 t208 t209) = some r := by rw [if_pos rfl] at H; exact H
              clear H
              have H := H1
              clear H1
              have H' := Aside0.mk H
              clear H
              have hcz15_0 : wr.cell? ⟨gb212, 0, none⟩ = some (.int .i64 t207) := (blk_cell BK212.out 0).trans rfl
              have hcz15_1 : wr.cell? ⟨gb212, 1, none⟩ = some (.int .i64 t208) := (blk_cell BK212.out 1).trans rfl
              have hcz15_2 : wr.cell? ⟨gb212, 2, none⟩ = some (.int .i64 t209) := (blk_cell BK212.out 2).trans rfl
              have hfz15_0 := blk_frozen BK212.out 0
              have hfz15_1 := blk_frozen BK212.out 1
              have hfz15_2 := blk_frozen BK212.out 2
              go_wp2_with (first | ((with_reducible refine gate_callee (f := 9) rfl ?_); refine goesL_ (some 45) rfl rfl Try.func9 (by kernel_rfl) rfl #[.agg #[.int .i64 t207, .int .i64 t208, .int .i64 t209], .int .i64 x10_1, .int .i64 t211] rfl (by (try simp only [List.map_toArray, List.map_cons, List.map_nil]); first | done | rfl | (simp only [List.length_drop, List.length_take]; rfl)) ?_; (with_reducible refine (zone_May.calls k1 t207 t208 t209 x10_1 t211 true t215 _ A11.out).mono ?_); rintro e w16 ⟨rfl, hb⟩; refine ⟨_, rfl, ?_⟩; have n0_ := Aside0.mk (blk_below (g := gb212) (o := .cells #[.int .i64 t207, .int .i64 t208, .int .i64 t209] 26 (0, 0)) (by (with_reducible repeat (first | refine blk_drewN ?_ _ | refine blk_drew ?_ | refine blk_alloc ?_ _)); exact BK212.out) hb); have n1_ := Aside0.mk (below_step (by repeat (first | (with_reducible first | exact HB.out | apply below_alloc | apply pw_below_drewN | apply below_drew1 | refine below_set ?_ GE212.out) | exact HB.out)) hb); clear BK212; clear HB; have BK212 := n0_; have HB := n1_; clear n0_ n1_; (try clear hb); (try clear hb2); (try clear hk); (try clear hi)))
              go_roundg k1
              case measure => have := HK1.out; omega
              case rel => exact ⟨(true), (wrap64 (x10_1 - 1)), (by first | rfl | (simp; done) | (simp [*]; done)), (by first | rfl | (simp; done) | (simp [*]; done)), H', ⟨by have := HK1.out; omega⟩, ⟨by (with_reducible repeat (first | refine blk_drewN ?_ _ | refine blk_drew ?_ | refine blk_alloc ?_ _)); exact BK212.out⟩, ⟨by repeat (first | (with_reducible first | exact HB.out | apply below_alloc | apply pw_below_drewN | apply below_drew1 | refine below_set ?_ GE212.out) | exact HB.out)⟩⟩
            · replace c14 := Bool.eq_false_iff.mpr c14
              subst c14
              have H1 : (some false) = some r := by rw [if_neg (show ¬ (false = true) by decide)] at H; exact H
              clear H
              have H := H1
              clear H1
              obtain rfl := Option.some.inj H
              have hcz17_0 : wr.cell? ⟨gb212, 0, none⟩ = some (.int .i64 t207) := (blk_cell BK212.out 0).trans rfl
              have hcz17_1 : wr.cell? ⟨gb212, 1, none⟩ = some (.int .i64 t208) := (blk_cell BK212.out 1).trans rfl
              have hcz17_2 : wr.cell? ⟨gb212, 2, none⟩ = some (.int .i64 t209) := (blk_cell BK212.out 2).trans rfl
              have hfz17_0 := blk_frozen BK212.out 0
              have hfz17_1 := blk_frozen BK212.out 1
              have hfz17_2 := blk_frozen BK212.out 2
              go_wp2_with (first | ((with_reducible refine gate_callee (f := 9) rfl ?_); refine goesL_ (some 45) rfl rfl Try.func9 (by kernel_rfl) rfl #[.agg #[.int .i64 t207, .int .i64 t208, .int .i64 t209], .int .i64 x10_1, .int .i64 t211] rfl (by (try simp only [List.map_toArray, List.map_cons, List.map_nil]); first | done | rfl | (simp only [List.length_drop, List.length_take]; rfl)) ?_; (with_reducible refine (zone_May.calls k1 t207 t208 t209 x10_1 t211 true t215 _ A11.out).mono ?_); rintro e w18 ⟨rfl, hb⟩; refine ⟨_, rfl, ?_⟩; have n0_ := Aside0.mk (blk_below (g := gb212) (o := .cells #[.int .i64 t207, .int .i64 t208, .int .i64 t209] 26 (0, 0)) (by (with_reducible repeat (first | refine blk_drewN ?_ _ | refine blk_drew ?_ | refine blk_alloc ?_ _)); exact BK212.out) hb); have n1_ := Aside0.mk (below_step (by repeat (first | (with_reducible first | exact HB.out | apply below_alloc | apply pw_below_drewN | apply below_drew1 | refine below_set ?_ GE212.out) | exact HB.out)) hb); clear BK212; clear HB; have BK212 := n0_; have HB := n1_; clear n0_ n1_; (try clear hb); (try clear hb2); (try clear hk); (try clear hi)))
              go_ret
              exact ⟨by first | rfl | (simp [errW_none, errW_some] <;> rfl) | (simp [*, errW_none, errW_some] <;> rfl), by repeat (first | (with_reducible first | exact HB.out | apply below_alloc | apply pw_below_drewN | apply below_drew1 | refine below_set ?_ GE212.out) | exact HB.out)⟩
          · replace c13 := Bool.eq_false_iff.mpr c13
            subst c13
            have H1 : (headgatelaw10_ZoneRanks.l0 k1 t213 t206 t211 false (wrap64 (x10_1 - 1)) t207 t208 t209) = some r := by rw [if_neg (show ¬ (false = true) by decide)] at H; exact H
            clear H
            have H := H1
            clear H1
            have H' := Aside0.mk H
            clear H
            have hcz19_0 : wr.cell? ⟨gb212, 0, none⟩ = some (.int .i64 t207) := (blk_cell BK212.out 0).trans rfl
            have hcz19_1 : wr.cell? ⟨gb212, 1, none⟩ = some (.int .i64 t208) := (blk_cell BK212.out 1).trans rfl
            have hcz19_2 : wr.cell? ⟨gb212, 2, none⟩ = some (.int .i64 t209) := (blk_cell BK212.out 2).trans rfl
            have hfz19_0 := blk_frozen BK212.out 0
            have hfz19_1 := blk_frozen BK212.out 1
            have hfz19_2 := blk_frozen BK212.out 2
            go_wp2_with (first | ((with_reducible refine gate_callee (f := 9) rfl ?_); refine goesL_ (some 45) rfl rfl Try.func9 (by kernel_rfl) rfl #[.agg #[.int .i64 t207, .int .i64 t208, .int .i64 t209], .int .i64 x10_1, .int .i64 t211] rfl (by (try simp only [List.map_toArray, List.map_cons, List.map_nil]); first | done | rfl | (simp only [List.length_drop, List.length_take]; rfl)) ?_; (with_reducible refine (zone_May.calls k1 t207 t208 t209 x10_1 t211 false t215 _ A11.out).mono ?_); rintro e w20 ⟨rfl, hb⟩; refine ⟨_, rfl, ?_⟩; have n0_ := Aside0.mk (blk_below (g := gb212) (o := .cells #[.int .i64 t207, .int .i64 t208, .int .i64 t209] 26 (0, 0)) (by (with_reducible repeat (first | refine blk_drewN ?_ _ | refine blk_drew ?_ | refine blk_alloc ?_ _)); exact BK212.out) hb); have n1_ := Aside0.mk (below_step (by repeat (first | (with_reducible first | exact HB.out | apply below_alloc | apply pw_below_drewN | apply below_drew1 | refine below_set ?_ GE212.out) | exact HB.out)) hb); clear BK212; clear HB; have BK212 := n0_; have HB := n1_; clear n0_ n1_; (try clear hb); (try clear hb2); (try clear hk); (try clear hi)))
            go_roundg k1
            case measure => have := HK1.out; omega
            case rel => exact ⟨(false), (wrap64 (x10_1 - 1)), (by first | rfl | (simp; done) | (simp [*]; done)), (by first | rfl | (simp; done) | (simp [*]; done)), H', ⟨by have := HK1.out; omega⟩, ⟨by (with_reducible repeat (first | refine blk_drewN ?_ _ | refine blk_drew ?_ | refine blk_alloc ?_ _)); exact BK212.out⟩, ⟨by repeat (first | (with_reducible first | exact HB.out | apply below_alloc | apply pw_below_drewN | apply below_drew1 | refine below_set ?_ GE212.out) | exact HB.out)⟩⟩
        · rw [if_neg c12] at H
          have c12b0 : (t215 == 0) = false := beq_eq_false_iff_ne.mpr c12
          have c12b1 : (t215 != 0) = true := bne_iff_ne.mpr c12
          obtain rfl := Option.some.inj H
          have hcz21_0 : wr.cell? ⟨gb212, 0, none⟩ = some (.int .i64 t207) := (blk_cell BK212.out 0).trans rfl
          have hcz21_1 : wr.cell? ⟨gb212, 1, none⟩ = some (.int .i64 t208) := (blk_cell BK212.out 1).trans rfl
          have hcz21_2 : wr.cell? ⟨gb212, 2, none⟩ = some (.int .i64 t209) := (blk_cell BK212.out 2).trans rfl
          have hfz21_0 := blk_frozen BK212.out 0
          have hfz21_1 := blk_frozen BK212.out 1
          have hfz21_2 := blk_frozen BK212.out 2
          go_wp2_with (first | ((with_reducible refine gate_callee (f := 9) rfl ?_); refine goesL_ (some 45) rfl rfl Try.func9 (by kernel_rfl) rfl #[.agg #[.int .i64 t207, .int .i64 t208, .int .i64 t209], .int .i64 x10_1, .int .i64 t211] rfl (by (try simp only [List.map_toArray, List.map_cons, List.map_nil]); first | done | rfl | (simp only [List.length_drop, List.length_take]; rfl)) ?_; (with_reducible refine (zone_May.calls k1 t207 t208 t209 x10_1 t211 t214 t215 _ A11.out).mono ?_); rintro e w22 ⟨rfl, hb⟩; refine ⟨_, rfl, ?_⟩; have n0_ := Aside0.mk (blk_below (g := gb212) (o := .cells #[.int .i64 t207, .int .i64 t208, .int .i64 t209] 26 (0, 0)) (by (with_reducible repeat (first | refine blk_drewN ?_ _ | refine blk_drew ?_ | refine blk_alloc ?_ _)); exact BK212.out) hb); have n1_ := Aside0.mk (below_step (by repeat (first | (with_reducible first | exact HB.out | apply below_alloc | apply pw_below_drewN | apply below_drew1 | refine below_set ?_ GE212.out) | exact HB.out)) hb); clear BK212; clear HB; have BK212 := n0_; have HB := n1_; clear n0_ n1_; (try clear hb); (try clear hb2); (try clear hk); (try clear hi)))
          go_ret
          exact ⟨by first | rfl | (simp [errW_none, errW_some] <;> rfl) | (simp [*, errW_none, errW_some] <;> rfl), by repeat (first | (with_reducible first | exact HB.out | apply below_alloc | apply pw_below_drewN | apply below_drew1 | refine below_set ?_ GE212.out) | exact HB.out)⟩
      · rw [if_neg c10] at H
        have c10b0 : decide (1 ≤ x10_1) = false := decide_eq_false c10
        clear c10
        replace H := Option.bind_eq_some_iff.mp H
        obtain ⟨⟨t216, t217⟩, A230, H⟩ := H
        replace H : (if t217 = 0 then (if t216 = true then (headgatelaw10_ZoneRanks.j1 k1 t213 t206 t211 (!x9_1) t207 t208 t209) else (headgatelaw10_ZoneRanks.j1 k1 t213 t206 t211 false t207 t208 t209)) else (headgatelaw10_ZoneRanks.j1 k1 t213 t206 t211 true t207 t208 t209)) = some r := H
        have A23 := Aside0.mk A230
        clear A230
        have HC24 := Aside0.mk H
        clear H
        have hcz25_0 : wr.cell? ⟨gb212, 0, none⟩ = some (.int .i64 t207) := (blk_cell BK212.out 0).trans rfl
        have hcz25_1 : wr.cell? ⟨gb212, 1, none⟩ = some (.int .i64 t208) := (blk_cell BK212.out 1).trans rfl
        have hcz25_2 : wr.cell? ⟨gb212, 2, none⟩ = some (.int .i64 t209) := (blk_cell BK212.out 2).trans rfl
        have hfz25_0 := blk_frozen BK212.out 0
        have hfz25_1 := blk_frozen BK212.out 1
        have hfz25_2 := blk_frozen BK212.out 2
        go_upto_region 13 with (first | ((with_reducible refine gate_callee (f := 9) rfl ?_); refine goesL_ (some 61) rfl rfl Try.func9 (by kernel_rfl) rfl #[.agg #[.int .i64 t207, .int .i64 t208, .int .i64 t209], .int .i64 3, .int .i64 t211] rfl (by (try simp only [List.map_toArray, List.map_cons, List.map_nil]); first | done | rfl | (simp only [List.length_drop, List.length_take]; rfl)) ?_; (with_reducible refine (zone_May.calls k1 t207 t208 t209 3 t211 t216 t217 _ A23.out).mono ?_); rintro e w26 ⟨rfl, hb⟩; refine ⟨_, rfl, ?_⟩; have n0_ := Aside0.mk (blk_below (g := gb212) (o := .cells #[.int .i64 t207, .int .i64 t208, .int .i64 t209] 26 (0, 0)) (by (with_reducible repeat (first | refine blk_drewN ?_ _ | refine blk_drew ?_ | refine blk_alloc ?_ _)); exact BK212.out) hb); have n1_ := Aside0.mk (below_step (by repeat (first | (with_reducible first | exact HB.out | apply below_alloc | apply pw_below_drewN | apply below_drew1 | refine below_set ?_ GE212.out) | exact HB.out)) hb); clear BK212; clear HB; have BK212 := n0_; have HB := n1_; clear n0_ n1_; (try clear hb); (try clear hb2); (try clear hk); (try clear hi)))
        (try simp only [Act.put, List.setIfInBounds_toArray, List.set_cons_zero, List.set_cons_succ])
        go_cut [72] (fun v72 wc => ∃ (kq : Nat) (x72_23 : Bool), v72 = .bool x72_23 ∧ Aside0 (headgatelaw10_ZoneRanks.j1 kq t213 t206 t211 x72_23 t207 t208 t209 = some r) ∧ Aside0 (kq ≤ k1) ∧ Aside0 (wc.heap[gb212]? = some (.cells #[.int .i64 t207, .int .i64 t208, .int .i64 t209] 26 (0, 0))) ∧ Aside0 (Below w.heap.size w wc))
        case first =>
          have H := HC24.out
          clear HC24
          by_cases c27 : t217 = 0
          · rw [if_pos c27] at H
            have c27b0 : (t217 == 0) = true := beq_iff_eq.mpr c27
            have c27b1 : (t217 != 0) = false := bne_eq_false_iff_eq.mpr c27
            clear c27
            (first | rw [c27b0] | (simp only [i64_w, i32_w]; rw [c27b0]) | skip)
            by_cases c28 : t216 = true
            · subst c28
              have H1 : (headgatelaw10_ZoneRanks.j1 k1 t213 t206 t211 (!x9_1) t207 t208 t209) = some r := by rw [if_pos rfl] at H; exact H
              clear H
              have H := H1
              clear H1
              have H' := Aside0.mk H
              clear H
              go_wp2
              go_meet
              case rel => exact ⟨_, (!x9_1), (by first | rfl | (simp; done) | (simp [*]; done)), H', ⟨by have := HK1.out; first | omega | exact Nat.le_refl _⟩, ⟨by (with_reducible repeat (first | refine blk_drewN ?_ _ | refine blk_drew ?_ | refine blk_alloc ?_ _)); exact BK212.out⟩, ⟨by repeat (first | (with_reducible first | exact HB.out | apply below_alloc | apply pw_below_drewN | apply below_drew1 | refine below_set ?_ GE212.out) | exact HB.out)⟩⟩
            · replace c28 := Bool.eq_false_iff.mpr c28
              subst c28
              have H1 : (headgatelaw10_ZoneRanks.j1 k1 t213 t206 t211 false t207 t208 t209) = some r := by rw [if_neg (show ¬ (false = true) by decide)] at H; exact H
              clear H
              have H := H1
              clear H1
              have H' := Aside0.mk H
              clear H
              go_wp2
              go_meet
              case rel => exact ⟨_, (false), (by first | rfl | (simp; done) | (simp [*]; done)), H', ⟨by have := HK1.out; first | omega | exact Nat.le_refl _⟩, ⟨by (with_reducible repeat (first | refine blk_drewN ?_ _ | refine blk_drew ?_ | refine blk_alloc ?_ _)); exact BK212.out⟩, ⟨by repeat (first | (with_reducible first | exact HB.out | apply below_alloc | apply pw_below_drewN | apply below_drew1 | refine below_set ?_ GE212.out) | exact HB.out)⟩⟩
          · rw [if_neg c27] at H
            have c27b0 : (t217 == 0) = false := beq_eq_false_iff_ne.mpr c27
            have c27b1 : (t217 != 0) = true := bne_iff_ne.mpr c27
            (first | rw [c27b0] | (simp only [i64_w, i32_w]; rw [c27b0]) | skip)
            have H' := Aside0.mk H
            clear H
            go_wp2
            go_meet
            case rel => exact ⟨_, (true), (by first | rfl | (simp; done) | (simp [*]; done)), H', ⟨by have := HK1.out; first | omega | exact Nat.le_refl _⟩, ⟨by (with_reducible repeat (first | refine blk_drewN ?_ _ | refine blk_drew ?_ | refine blk_alloc ?_ _)); exact BK212.out⟩, ⟨by repeat (first | (with_reducible first | exact HB.out | apply below_alloc | apply pw_below_drewN | apply below_drew1 | refine below_set ?_ GE212.out) | exact HB.out)⟩⟩
        case rest =>
          clear HC24
          try clear c1
          try clear c2
          try clear p2
          try clear c3
          try clear c4
          try clear p6
          try clear c9
          try clear c10
          try clear c10b0
          try clear c12
          try clear c12b0
          try clear c12b1
          try clear c13
          try clear c14
          try clear c18
          try clear c19
          try clear c27
          try clear c27b0
          try clear c27b1
          try clear c28
          try clear hcz15_0
          try clear hcz15_1
          try clear hcz15_2
          try clear hcz17_0
          try clear hcz17_1
          try clear hcz17_2
          try clear hcz19_0
          try clear hcz19_1
          try clear hcz19_2
          try clear hcz21_0
          try clear hcz21_1
          try clear hcz21_2
          try clear hcz25_0
          try clear hcz25_1
          try clear hcz25_2
          try clear hcz9_0
          try clear hcz9_1
          try clear hcz9_2
          try clear hfz15_0
          try clear hfz15_1
          try clear hfz15_2
          try clear hfz17_0
          try clear hfz17_1
          try clear hfz17_2
          try clear hfz19_0
          try clear hfz19_1
          try clear hfz19_2
          try clear hfz21_0
          try clear hfz21_1
          try clear hfz21_2
          try clear hfz25_0
          try clear hfz25_1
          try clear hfz25_2
          try clear hfz9_0
          try clear hfz9_1
          try clear hfz9_2
          try clear p2
          obtain ⟨kq, x72_23, rfl, HA, HJ23, BK212, HB⟩ := hcut
          cases kq with
          | zero => exact absurd HA.out (by simp [headgatelaw10_ZoneRanks.j1])
          | succ kj23 =>
            have H := HA.out
            clear HA
            simp only [headgatelaw10_ZoneRanks.j1] at H
            by_cases c29 : x72_23 = true
            · subst c29
              have H1 : (some false) = some r := by rw [if_pos rfl] at H; exact H
              clear H
              have H := H1
              clear H1
              obtain rfl := Option.some.inj H
              go_wp2
              go_ret
              exact ⟨by first | rfl | (simp [errW_none, errW_some] <;> rfl) | (simp [*, errW_none, errW_some] <;> rfl), by repeat (first | (with_reducible first | exact HB.out | apply below_alloc | apply pw_below_drewN | apply below_drew1 | refine below_set ?_ GE212.out) | exact HB.out)⟩
            · replace c29 := Bool.eq_false_iff.mpr c29
              subst c29
              have H1 : (headgatelaw10_ZoneRanks.l1 kj23 t213 t206 t211 1 t207 t208 t209) = some r := by rw [if_neg (show ¬ (false = true) by decide)] at H; exact H
              clear H
              have H := H1
              clear H1
              have H' := Aside0.mk H
              clear H
              go_wp2
              go_loopg [15] kj23 (fun kq v15 w' => ∃ (x15_3 : Int), v15 = .int .i64 x15_3 ∧ Aside0 (headgatelaw10_ZoneRanks.l1 kq t213 t206 t211 x15_3 t207 t208 t209 = some r) ∧ Aside0 (kq ≤ kj23) ∧ Aside0 (w'.heap[gb212]? = some (.cells #[.int .i64 t207, .int .i64 t208, .int .i64 t209] 26 (0, 0))) ∧ Aside0 (Below w.heap.size w w'))
              case atStart => exact ⟨(1), (by first | rfl | (simp; done) | (simp [*]; done)), H', ⟨Nat.le_refl _⟩, ⟨by (with_reducible repeat (first | refine blk_drewN ?_ _ | refine blk_drew ?_ | refine blk_alloc ?_ _)); exact BK212.out⟩, ⟨by repeat (first | (with_reducible first | exact HB.out | apply below_alloc | apply pw_below_drewN | apply below_drew1 | refine below_set ?_ GE212.out) | exact HB.out)⟩⟩
              case round =>
                clear H'
                try clear c1
                try clear c2
                try clear p2
                try clear c3
                try clear c4
                try clear p6
                try clear c9
                try clear c10
                try clear c10b0
                try clear c12
                try clear c12b0
                try clear c12b1
                try clear c13
                try clear c14
                try clear c18
                try clear c19
                try clear c27
                try clear c27b0
                try clear c27b1
                try clear c28
                try clear c29
                try clear hcz15_0
                try clear hcz15_1
                try clear hcz15_2
                try clear hcz17_0
                try clear hcz17_1
                try clear hcz17_2
                try clear hcz19_0
                try clear hcz19_1
                try clear hcz19_2
                try clear hcz21_0
                try clear hcz21_1
                try clear hcz21_2
                try clear hcz25_0
                try clear hcz25_1
                try clear hcz25_2
                try clear hcz9_0
                try clear hcz9_1
                try clear hcz9_2
                try clear hfz15_0
                try clear hfz15_1
                try clear hfz15_2
                try clear hfz17_0
                try clear hfz17_1
                try clear hfz17_2
                try clear hfz19_0
                try clear hfz19_1
                try clear hfz19_2
                try clear hfz21_0
                try clear hfz21_1
                try clear hfz21_2
                try clear hfz25_0
                try clear hfz25_1
                try clear hfz25_2
                try clear hfz9_0
                try clear hfz9_1
                try clear hfz9_2
                try clear p2
                try clear p6
                obtain ⟨x15_3, rfl, HA, HK3, BK212, HB⟩ := hrel
                cases gk with
                | zero => exact absurd HA.out (by simp [headgatelaw10_ZoneRanks.l1])
                | succ k3 =>
                  have H := HA.out
                  clear HA
                  simp only [headgatelaw10_ZoneRanks.l1] at H
                  by_cases c30 : x15_3 ≤ 3
                  · rw [if_pos c30] at H
                    have c30b0 : decide (x15_3 ≤ 3) = true := decide_eq_true c30
                    clear c30
                    replace H := Option.bind_eq_some_iff.mp H
                    obtain ⟨⟨t218, t219⟩, A310, H⟩ := H
                    replace H : ((zone_May.f k3 t207 t208 t209 x15_3 (wrap64 (t211 + t213))).bind fun bt220 => (if t219 = 0 then (if bt220.2 = 0 then (if t218 = true then (if bt220.1 = true then (headgatelaw10_ZoneRanks.l1 k3 t213 t206 t211 (wrap64 (x15_3 + 1)) t207 t208 t209) else (some false)) else (headgatelaw10_ZoneRanks.l1 k3 t213 t206 t211 (wrap64 (x15_3 + 1)) t207 t208 t209)) else (some false)) else (some false))) = some r := H
                    have A31 := Aside0.mk A310
                    clear A310
                    replace H := Option.bind_eq_some_iff.mp H
                    obtain ⟨⟨t220, t221⟩, A320, H⟩ := H
                    replace H : (if t219 = 0 then (if t221 = 0 then (if t218 = true then (if t220 = true then (headgatelaw10_ZoneRanks.l1 k3 t213 t206 t211 (wrap64 (x15_3 + 1)) t207 t208 t209) else (some false)) else (headgatelaw10_ZoneRanks.l1 k3 t213 t206 t211 (wrap64 (x15_3 + 1)) t207 t208 t209)) else (some false)) else (some false)) = some r := H
                    have A32 := Aside0.mk A320
                    clear A320
                    by_cases c33 : t219 = 0
                    · rw [if_pos c33] at H
                      have c33b0 : (t219 == 0) = true := beq_iff_eq.mpr c33
                      have c33b1 : (t219 != 0) = false := bne_eq_false_iff_eq.mpr c33
                      clear c33
                      by_cases c34 : t221 = 0
                      · rw [if_pos c34] at H
                        have c34b0 : (t221 == 0) = true := beq_iff_eq.mpr c34
                        have c34b1 : (t221 != 0) = false := bne_eq_false_iff_eq.mpr c34
                        clear c34
                        by_cases c35 : t218 = true
                        · subst c35
                          have H1 : (if t220 = true then (headgatelaw10_ZoneRanks.l1 k3 t213 t206 t211 (wrap64 (x15_3 + 1)) t207 t208 t209) else (some false)) = some r := by rw [if_pos rfl] at H; exact H
                          clear H
                          have H := H1
                          clear H1
                          by_cases c36 : t220 = true
                          · subst c36
                            have H1 : (headgatelaw10_ZoneRanks.l1 k3 t213 t206 t211 (wrap64 (x15_3 + 1)) t207 t208 t209) = some r := by rw [if_pos rfl] at H; exact H
                            clear H
                            have H := H1
                            clear H1
                            have H' := Aside0.mk H
                            clear H
                            have hcz37_0 : wr.cell? ⟨gb212, 0, none⟩ = some (.int .i64 t207) := (blk_cell BK212.out 0).trans rfl
                            have hcz37_1 : wr.cell? ⟨gb212, 1, none⟩ = some (.int .i64 t208) := (blk_cell BK212.out 1).trans rfl
                            have hcz37_2 : wr.cell? ⟨gb212, 2, none⟩ = some (.int .i64 t209) := (blk_cell BK212.out 2).trans rfl
                            have hfz37_0 := blk_frozen BK212.out 0
                            have hfz37_1 := blk_frozen BK212.out 1
                            have hfz37_2 := blk_frozen BK212.out 2
                            go_wp2_with (first | ((with_reducible refine gate_callee (f := 9) rfl ?_); refine goesL_ (some 81) rfl rfl Try.func9 (by kernel_rfl) rfl #[.agg #[.int .i64 t207, .int .i64 t208, .int .i64 t209], .int .i64 x15_3, .int .i64 t211] rfl (by (try simp only [List.map_toArray, List.map_cons, List.map_nil]); first | done | rfl | (simp only [List.length_drop, List.length_take]; rfl)) ?_; (with_reducible refine (zone_May.calls k3 t207 t208 t209 x15_3 t211 true t219 _ A31.out).mono ?_); rintro e w38 ⟨rfl, hb⟩; refine ⟨_, rfl, ?_⟩; have n0_ := Aside0.mk (blk_below (g := gb212) (o := .cells #[.int .i64 t207, .int .i64 t208, .int .i64 t209] 26 (0, 0)) (by (with_reducible repeat (first | refine blk_drewN ?_ _ | refine blk_drew ?_ | refine blk_alloc ?_ _)); exact BK212.out) hb); have n1_ := Aside0.mk (below_step (by repeat (first | (with_reducible first | exact HB.out | apply below_alloc | apply pw_below_drewN | apply below_drew1 | refine below_set ?_ GE212.out) | exact HB.out)) hb); clear BK212; clear HB; have BK212 := n0_; have HB := n1_; clear n0_ n1_; (try clear hb); (try clear hb2); (try clear hk); (try clear hi); have hcz39_0 : w38.cell? ⟨gb212, 0, none⟩ = some (.int .i64 t207) := (blk_cell BK212.out 0).trans rfl; have hcz39_1 : w38.cell? ⟨gb212, 1, none⟩ = some (.int .i64 t208) := (blk_cell BK212.out 1).trans rfl; have hcz39_2 : w38.cell? ⟨gb212, 2, none⟩ = some (.int .i64 t209) := (blk_cell BK212.out 2).trans rfl; have hfz39_0 := blk_frozen BK212.out 0; have hfz39_1 := blk_frozen BK212.out 1; have hfz39_2 := blk_frozen BK212.out 2) | ((with_reducible refine gate_callee (f := 9) rfl ?_); refine goesL_ (some 90) rfl rfl Try.func9 (by kernel_rfl) rfl #[.agg #[.int .i64 t207, .int .i64 t208, .int .i64 t209], .int .i64 x15_3, .int .i64 (wrap64 (t211 + t213))] rfl (by (try simp only [List.map_toArray, List.map_cons, List.map_nil]); first | done | rfl | (simp only [List.length_drop, List.length_take]; rfl)) ?_; (with_reducible refine (zone_May.calls k3 t207 t208 t209 x15_3 (wrap64 (t211 + t213)) true t221 _ A32.out).mono ?_); rintro e w40 ⟨rfl, hb⟩; refine ⟨_, rfl, ?_⟩; have n0_ := Aside0.mk (blk_below (g := gb212) (o := .cells #[.int .i64 t207, .int .i64 t208, .int .i64 t209] 26 (0, 0)) (by (with_reducible repeat (first | refine blk_drewN ?_ _ | refine blk_drew ?_ | refine blk_alloc ?_ _)); exact BK212.out) hb); have n1_ := Aside0.mk (below_step (by repeat (first | (with_reducible first | exact HB.out | apply below_alloc | apply pw_below_drewN | apply below_drew1 | refine below_set ?_ GE212.out) | exact HB.out)) hb); clear BK212; clear HB; have BK212 := n0_; have HB := n1_; clear n0_ n1_; (try clear hb); (try clear hb2); (try clear hk); (try clear hi)))
                            go_roundg k3
                            case measure => have := HK1.out; have := HJ23.out; have := HK3.out; omega
                            case rel => exact ⟨(wrap64 (x15_3 + 1)), (by first | rfl | (simp; done) | (simp [*]; done)), H', ⟨by have := HK1.out; have := HJ23.out; have := HK3.out; omega⟩, ⟨by (with_reducible repeat (first | refine blk_drewN ?_ _ | refine blk_drew ?_ | refine blk_alloc ?_ _)); exact BK212.out⟩, ⟨by repeat (first | (with_reducible first | exact HB.out | apply below_alloc | apply pw_below_drewN | apply below_drew1 | refine below_set ?_ GE212.out) | exact HB.out)⟩⟩
                          · replace c36 := Bool.eq_false_iff.mpr c36
                            subst c36
                            have H1 : (some false) = some r := by rw [if_neg (show ¬ (false = true) by decide)] at H; exact H
                            clear H
                            have H := H1
                            clear H1
                            obtain rfl := Option.some.inj H
                            have hcz41_0 : wr.cell? ⟨gb212, 0, none⟩ = some (.int .i64 t207) := (blk_cell BK212.out 0).trans rfl
                            have hcz41_1 : wr.cell? ⟨gb212, 1, none⟩ = some (.int .i64 t208) := (blk_cell BK212.out 1).trans rfl
                            have hcz41_2 : wr.cell? ⟨gb212, 2, none⟩ = some (.int .i64 t209) := (blk_cell BK212.out 2).trans rfl
                            have hfz41_0 := blk_frozen BK212.out 0
                            have hfz41_1 := blk_frozen BK212.out 1
                            have hfz41_2 := blk_frozen BK212.out 2
                            go_wp2_with (first | ((with_reducible refine gate_callee (f := 9) rfl ?_); refine goesL_ (some 81) rfl rfl Try.func9 (by kernel_rfl) rfl #[.agg #[.int .i64 t207, .int .i64 t208, .int .i64 t209], .int .i64 x15_3, .int .i64 t211] rfl (by (try simp only [List.map_toArray, List.map_cons, List.map_nil]); first | done | rfl | (simp only [List.length_drop, List.length_take]; rfl)) ?_; (with_reducible refine (zone_May.calls k3 t207 t208 t209 x15_3 t211 true t219 _ A31.out).mono ?_); rintro e w42 ⟨rfl, hb⟩; refine ⟨_, rfl, ?_⟩; have n0_ := Aside0.mk (blk_below (g := gb212) (o := .cells #[.int .i64 t207, .int .i64 t208, .int .i64 t209] 26 (0, 0)) (by (with_reducible repeat (first | refine blk_drewN ?_ _ | refine blk_drew ?_ | refine blk_alloc ?_ _)); exact BK212.out) hb); have n1_ := Aside0.mk (below_step (by repeat (first | (with_reducible first | exact HB.out | apply below_alloc | apply pw_below_drewN | apply below_drew1 | refine below_set ?_ GE212.out) | exact HB.out)) hb); clear BK212; clear HB; have BK212 := n0_; have HB := n1_; clear n0_ n1_; (try clear hb); (try clear hb2); (try clear hk); (try clear hi); have hcz43_0 : w42.cell? ⟨gb212, 0, none⟩ = some (.int .i64 t207) := (blk_cell BK212.out 0).trans rfl; have hcz43_1 : w42.cell? ⟨gb212, 1, none⟩ = some (.int .i64 t208) := (blk_cell BK212.out 1).trans rfl; have hcz43_2 : w42.cell? ⟨gb212, 2, none⟩ = some (.int .i64 t209) := (blk_cell BK212.out 2).trans rfl; have hfz43_0 := blk_frozen BK212.out 0; have hfz43_1 := blk_frozen BK212.out 1; have hfz43_2 := blk_frozen BK212.out 2) | ((with_reducible refine gate_callee (f := 9) rfl ?_); refine goesL_ (some 90) rfl rfl Try.func9 (by kernel_rfl) rfl #[.agg #[.int .i64 t207, .int .i64 t208, .int .i64 t209], .int .i64 x15_3, .int .i64 (wrap64 (t211 + t213))] rfl (by (try simp only [List.map_toArray, List.map_cons, List.map_nil]); first | done | rfl | (simp only [List.length_drop, List.length_take]; rfl)) ?_; (with_reducible refine (zone_May.calls k3 t207 t208 t209 x15_3 (wrap64 (t211 + t213)) false t221 _ A32.out).mono ?_); rintro e w44 ⟨rfl, hb⟩; refine ⟨_, rfl, ?_⟩; have n0_ := Aside0.mk (blk_below (g := gb212) (o := .cells #[.int .i64 t207, .int .i64 t208, .int .i64 t209] 26 (0, 0)) (by (with_reducible repeat (first | refine blk_drewN ?_ _ | refine blk_drew ?_ | refine blk_alloc ?_ _)); exact BK212.out) hb); have n1_ := Aside0.mk (below_step (by repeat (first | (with_reducible first | exact HB.out | apply below_alloc | apply pw_below_drewN | apply below_drew1 | refine below_set ?_ GE212.out) | exact HB.out)) hb); clear BK212; clear HB; have BK212 := n0_; have HB := n1_; clear n0_ n1_; (try clear hb); (try clear hb2); (try clear hk); (try clear hi)))
                            go_ret
                            exact ⟨by first | rfl | (simp [errW_none, errW_some] <;> rfl) | (simp [*, errW_none, errW_some] <;> rfl), by repeat (first | (with_reducible first | exact HB.out | apply below_alloc | apply pw_below_drewN | apply below_drew1 | refine below_set ?_ GE212.out) | exact HB.out)⟩
                        · replace c35 := Bool.eq_false_iff.mpr c35
                          subst c35
                          have H1 : (headgatelaw10_ZoneRanks.l1 k3 t213 t206 t211 (wrap64 (x15_3 + 1)) t207 t208 t209) = some r := by rw [if_neg (show ¬ (false = true) by decide)] at H; exact H
                          clear H
                          have H := H1
                          clear H1
                          have H' := Aside0.mk H
                          clear H
                          have hcz45_0 : wr.cell? ⟨gb212, 0, none⟩ = some (.int .i64 t207) := (blk_cell BK212.out 0).trans rfl
                          have hcz45_1 : wr.cell? ⟨gb212, 1, none⟩ = some (.int .i64 t208) := (blk_cell BK212.out 1).trans rfl
                          have hcz45_2 : wr.cell? ⟨gb212, 2, none⟩ = some (.int .i64 t209) := (blk_cell BK212.out 2).trans rfl
                          have hfz45_0 := blk_frozen BK212.out 0
                          have hfz45_1 := blk_frozen BK212.out 1
                          have hfz45_2 := blk_frozen BK212.out 2
                          go_wp2_with (first | ((with_reducible refine gate_callee (f := 9) rfl ?_); refine goesL_ (some 81) rfl rfl Try.func9 (by kernel_rfl) rfl #[.agg #[.int .i64 t207, .int .i64 t208, .int .i64 t209], .int .i64 x15_3, .int .i64 t211] rfl (by (try simp only [List.map_toArray, List.map_cons, List.map_nil]); first | done | rfl | (simp only [List.length_drop, List.length_take]; rfl)) ?_; (with_reducible refine (zone_May.calls k3 t207 t208 t209 x15_3 t211 false t219 _ A31.out).mono ?_); rintro e w46 ⟨rfl, hb⟩; refine ⟨_, rfl, ?_⟩; have n0_ := Aside0.mk (blk_below (g := gb212) (o := .cells #[.int .i64 t207, .int .i64 t208, .int .i64 t209] 26 (0, 0)) (by (with_reducible repeat (first | refine blk_drewN ?_ _ | refine blk_drew ?_ | refine blk_alloc ?_ _)); exact BK212.out) hb); have n1_ := Aside0.mk (below_step (by repeat (first | (with_reducible first | exact HB.out | apply below_alloc | apply pw_below_drewN | apply below_drew1 | refine below_set ?_ GE212.out) | exact HB.out)) hb); clear BK212; clear HB; have BK212 := n0_; have HB := n1_; clear n0_ n1_; (try clear hb); (try clear hb2); (try clear hk); (try clear hi); have hcz47_0 : w46.cell? ⟨gb212, 0, none⟩ = some (.int .i64 t207) := (blk_cell BK212.out 0).trans rfl; have hcz47_1 : w46.cell? ⟨gb212, 1, none⟩ = some (.int .i64 t208) := (blk_cell BK212.out 1).trans rfl; have hcz47_2 : w46.cell? ⟨gb212, 2, none⟩ = some (.int .i64 t209) := (blk_cell BK212.out 2).trans rfl; have hfz47_0 := blk_frozen BK212.out 0; have hfz47_1 := blk_frozen BK212.out 1; have hfz47_2 := blk_frozen BK212.out 2) | ((with_reducible refine gate_callee (f := 9) rfl ?_); refine goesL_ (some 90) rfl rfl Try.func9 (by kernel_rfl) rfl #[.agg #[.int .i64 t207, .int .i64 t208, .int .i64 t209], .int .i64 x15_3, .int .i64 (wrap64 (t211 + t213))] rfl (by (try simp only [List.map_toArray, List.map_cons, List.map_nil]); first | done | rfl | (simp only [List.length_drop, List.length_take]; rfl)) ?_; (with_reducible refine (zone_May.calls k3 t207 t208 t209 x15_3 (wrap64 (t211 + t213)) t220 t221 _ A32.out).mono ?_); rintro e w48 ⟨rfl, hb⟩; refine ⟨_, rfl, ?_⟩; have n0_ := Aside0.mk (blk_below (g := gb212) (o := .cells #[.int .i64 t207, .int .i64 t208, .int .i64 t209] 26 (0, 0)) (by (with_reducible repeat (first | refine blk_drewN ?_ _ | refine blk_drew ?_ | refine blk_alloc ?_ _)); exact BK212.out) hb); have n1_ := Aside0.mk (below_step (by repeat (first | (with_reducible first | exact HB.out | apply below_alloc | apply pw_below_drewN | apply below_drew1 | refine below_set ?_ GE212.out) | exact HB.out)) hb); clear BK212; clear HB; have BK212 := n0_; have HB := n1_; clear n0_ n1_; (try clear hb); (try clear hb2); (try clear hk); (try clear hi)))
                          go_roundg k3
                          case measure => have := HK1.out; have := HJ23.out; have := HK3.out; omega
                          case rel => exact ⟨(wrap64 (x15_3 + 1)), (by first | rfl | (simp; done) | (simp [*]; done)), H', ⟨by have := HK1.out; have := HJ23.out; have := HK3.out; omega⟩, ⟨by (with_reducible repeat (first | refine blk_drewN ?_ _ | refine blk_drew ?_ | refine blk_alloc ?_ _)); exact BK212.out⟩, ⟨by repeat (first | (with_reducible first | exact HB.out | apply below_alloc | apply pw_below_drewN | apply below_drew1 | refine below_set ?_ GE212.out) | exact HB.out)⟩⟩
                      · rw [if_neg c34] at H
                        have c34b0 : (t221 == 0) = false := beq_eq_false_iff_ne.mpr c34
                        have c34b1 : (t221 != 0) = true := bne_iff_ne.mpr c34
                        obtain rfl := Option.some.inj H
                        have hcz49_0 : wr.cell? ⟨gb212, 0, none⟩ = some (.int .i64 t207) := (blk_cell BK212.out 0).trans rfl
                        have hcz49_1 : wr.cell? ⟨gb212, 1, none⟩ = some (.int .i64 t208) := (blk_cell BK212.out 1).trans rfl
                        have hcz49_2 : wr.cell? ⟨gb212, 2, none⟩ = some (.int .i64 t209) := (blk_cell BK212.out 2).trans rfl
                        have hfz49_0 := blk_frozen BK212.out 0
                        have hfz49_1 := blk_frozen BK212.out 1
                        have hfz49_2 := blk_frozen BK212.out 2
                        go_wp2_with (first | ((with_reducible refine gate_callee (f := 9) rfl ?_); refine goesL_ (some 81) rfl rfl Try.func9 (by kernel_rfl) rfl #[.agg #[.int .i64 t207, .int .i64 t208, .int .i64 t209], .int .i64 x15_3, .int .i64 t211] rfl (by (try simp only [List.map_toArray, List.map_cons, List.map_nil]); first | done | rfl | (simp only [List.length_drop, List.length_take]; rfl)) ?_; (with_reducible refine (zone_May.calls k3 t207 t208 t209 x15_3 t211 t218 t219 _ A31.out).mono ?_); rintro e w50 ⟨rfl, hb⟩; refine ⟨_, rfl, ?_⟩; have n0_ := Aside0.mk (blk_below (g := gb212) (o := .cells #[.int .i64 t207, .int .i64 t208, .int .i64 t209] 26 (0, 0)) (by (with_reducible repeat (first | refine blk_drewN ?_ _ | refine blk_drew ?_ | refine blk_alloc ?_ _)); exact BK212.out) hb); have n1_ := Aside0.mk (below_step (by repeat (first | (with_reducible first | exact HB.out | apply below_alloc | apply pw_below_drewN | apply below_drew1 | refine below_set ?_ GE212.out) | exact HB.out)) hb); clear BK212; clear HB; have BK212 := n0_; have HB := n1_; clear n0_ n1_; (try clear hb); (try clear hb2); (try clear hk); (try clear hi); have hcz51_0 : w50.cell? ⟨gb212, 0, none⟩ = some (.int .i64 t207) := (blk_cell BK212.out 0).trans rfl; have hcz51_1 : w50.cell? ⟨gb212, 1, none⟩ = some (.int .i64 t208) := (blk_cell BK212.out 1).trans rfl; have hcz51_2 : w50.cell? ⟨gb212, 2, none⟩ = some (.int .i64 t209) := (blk_cell BK212.out 2).trans rfl; have hfz51_0 := blk_frozen BK212.out 0; have hfz51_1 := blk_frozen BK212.out 1; have hfz51_2 := blk_frozen BK212.out 2) | ((with_reducible refine gate_callee (f := 9) rfl ?_); refine goesL_ (some 90) rfl rfl Try.func9 (by kernel_rfl) rfl #[.agg #[.int .i64 t207, .int .i64 t208, .int .i64 t209], .int .i64 x15_3, .int .i64 (wrap64 (t211 + t213))] rfl (by (try simp only [List.map_toArray, List.map_cons, List.map_nil]); first | done | rfl | (simp only [List.length_drop, List.length_take]; rfl)) ?_; (with_reducible refine (zone_May.calls k3 t207 t208 t209 x15_3 (wrap64 (t211 + t213)) t220 t221 _ A32.out).mono ?_); rintro e w52 ⟨rfl, hb⟩; refine ⟨_, rfl, ?_⟩; have n0_ := Aside0.mk (blk_below (g := gb212) (o := .cells #[.int .i64 t207, .int .i64 t208, .int .i64 t209] 26 (0, 0)) (by (with_reducible repeat (first | refine blk_drewN ?_ _ | refine blk_drew ?_ | refine blk_alloc ?_ _)); exact BK212.out) hb); have n1_ := Aside0.mk (below_step (by repeat (first | (with_reducible first | exact HB.out | apply below_alloc | apply pw_below_drewN | apply below_drew1 | refine below_set ?_ GE212.out) | exact HB.out)) hb); clear BK212; clear HB; have BK212 := n0_; have HB := n1_; clear n0_ n1_; (try clear hb); (try clear hb2); (try clear hk); (try clear hi)))
                        go_ret
                        exact ⟨by first | rfl | (simp [errW_none, errW_some] <;> rfl) | (simp [*, errW_none, errW_some] <;> rfl), by repeat (first | (with_reducible first | exact HB.out | apply below_alloc | apply pw_below_drewN | apply below_drew1 | refine below_set ?_ GE212.out) | exact HB.out)⟩
                    · rw [if_neg c33] at H
                      have c33b0 : (t219 == 0) = false := beq_eq_false_iff_ne.mpr c33
                      have c33b1 : (t219 != 0) = true := bne_iff_ne.mpr c33
                      obtain rfl := Option.some.inj H
                      have hcz53_0 : wr.cell? ⟨gb212, 0, none⟩ = some (.int .i64 t207) := (blk_cell BK212.out 0).trans rfl
                      have hcz53_1 : wr.cell? ⟨gb212, 1, none⟩ = some (.int .i64 t208) := (blk_cell BK212.out 1).trans rfl
                      have hcz53_2 : wr.cell? ⟨gb212, 2, none⟩ = some (.int .i64 t209) := (blk_cell BK212.out 2).trans rfl
                      have hfz53_0 := blk_frozen BK212.out 0
                      have hfz53_1 := blk_frozen BK212.out 1
                      have hfz53_2 := blk_frozen BK212.out 2
                      go_wp2_with (first | ((with_reducible refine gate_callee (f := 9) rfl ?_); refine goesL_ (some 81) rfl rfl Try.func9 (by kernel_rfl) rfl #[.agg #[.int .i64 t207, .int .i64 t208, .int .i64 t209], .int .i64 x15_3, .int .i64 t211] rfl (by (try simp only [List.map_toArray, List.map_cons, List.map_nil]); first | done | rfl | (simp only [List.length_drop, List.length_take]; rfl)) ?_; (with_reducible refine (zone_May.calls k3 t207 t208 t209 x15_3 t211 t218 t219 _ A31.out).mono ?_); rintro e w54 ⟨rfl, hb⟩; refine ⟨_, rfl, ?_⟩; have n0_ := Aside0.mk (blk_below (g := gb212) (o := .cells #[.int .i64 t207, .int .i64 t208, .int .i64 t209] 26 (0, 0)) (by (with_reducible repeat (first | refine blk_drewN ?_ _ | refine blk_drew ?_ | refine blk_alloc ?_ _)); exact BK212.out) hb); have n1_ := Aside0.mk (below_step (by repeat (first | (with_reducible first | exact HB.out | apply below_alloc | apply pw_below_drewN | apply below_drew1 | refine below_set ?_ GE212.out) | exact HB.out)) hb); clear BK212; clear HB; have BK212 := n0_; have HB := n1_; clear n0_ n1_; (try clear hb); (try clear hb2); (try clear hk); (try clear hi); have hcz55_0 : w54.cell? ⟨gb212, 0, none⟩ = some (.int .i64 t207) := (blk_cell BK212.out 0).trans rfl; have hcz55_1 : w54.cell? ⟨gb212, 1, none⟩ = some (.int .i64 t208) := (blk_cell BK212.out 1).trans rfl; have hcz55_2 : w54.cell? ⟨gb212, 2, none⟩ = some (.int .i64 t209) := (blk_cell BK212.out 2).trans rfl; have hfz55_0 := blk_frozen BK212.out 0; have hfz55_1 := blk_frozen BK212.out 1; have hfz55_2 := blk_frozen BK212.out 2) | ((with_reducible refine gate_callee (f := 9) rfl ?_); refine goesL_ (some 90) rfl rfl Try.func9 (by kernel_rfl) rfl #[.agg #[.int .i64 t207, .int .i64 t208, .int .i64 t209], .int .i64 x15_3, .int .i64 (wrap64 (t211 + t213))] rfl (by (try simp only [List.map_toArray, List.map_cons, List.map_nil]); first | done | rfl | (simp only [List.length_drop, List.length_take]; rfl)) ?_; (with_reducible refine (zone_May.calls k3 t207 t208 t209 x15_3 (wrap64 (t211 + t213)) t220 t221 _ A32.out).mono ?_); rintro e w56 ⟨rfl, hb⟩; refine ⟨_, rfl, ?_⟩; have n0_ := Aside0.mk (blk_below (g := gb212) (o := .cells #[.int .i64 t207, .int .i64 t208, .int .i64 t209] 26 (0, 0)) (by (with_reducible repeat (first | refine blk_drewN ?_ _ | refine blk_drew ?_ | refine blk_alloc ?_ _)); exact BK212.out) hb); have n1_ := Aside0.mk (below_step (by repeat (first | (with_reducible first | exact HB.out | apply below_alloc | apply pw_below_drewN | apply below_drew1 | refine below_set ?_ GE212.out) | exact HB.out)) hb); clear BK212; clear HB; have BK212 := n0_; have HB := n1_; clear n0_ n1_; (try clear hb); (try clear hb2); (try clear hk); (try clear hi)))
                      go_ret
                      exact ⟨by first | rfl | (simp [errW_none, errW_some] <;> rfl) | (simp [*, errW_none, errW_some] <;> rfl), by repeat (first | (with_reducible first | exact HB.out | apply below_alloc | apply pw_below_drewN | apply below_drew1 | refine below_set ?_ GE212.out) | exact HB.out)⟩
                  · rw [if_neg c30] at H
                    have c30b0 : decide (x15_3 ≤ 3) = false := decide_eq_false c30
                    clear c30
                    replace H := Option.bind_eq_some_iff.mp H
                    obtain ⟨⟨t222, t223⟩, A570, H⟩ := H
                    replace H : ((zone_Level.f k3 t207 t208 t209 (wrap64 (t211 + t213))).bind fun bt224 => ((zone_Awake.f k3 t207 t208 t209 t211 true).bind fun bt226 => ((zone_Awake.f k3 t207 t208 t209 t211 false).bind fun bt228 => (if t223 = 0 then (if bt224.2 = 0 then (if bt226.2 = 0 then (if bt228.2 = 0 then (if bt224.1 > t222 then (some false) else (if t206 = true then (if (bt226.1 == (decide (t211 < t209))) = true then (some (bt228.1 == (decide (t211 < t208)))) else (some false)) else (some false))) else (some false)) else (some false)) else (some false)) else (some false))))) = some r := H
                    have A57 := Aside0.mk A570
                    clear A570
                    replace H := Option.bind_eq_some_iff.mp H
                    obtain ⟨⟨t224, t225⟩, A580, H⟩ := H
                    replace H : ((zone_Awake.f k3 t207 t208 t209 t211 true).bind fun bt226 => ((zone_Awake.f k3 t207 t208 t209 t211 false).bind fun bt228 => (if t223 = 0 then (if t225 = 0 then (if bt226.2 = 0 then (if bt228.2 = 0 then (if t224 > t222 then (some false) else (if t206 = true then (if (bt226.1 == (decide (t211 < t209))) = true then (some (bt228.1 == (decide (t211 < t208)))) else (some false)) else (some false))) else (some false)) else (some false)) else (some false)) else (some false)))) = some r := H
                    have A58 := Aside0.mk A580
                    clear A580
                    replace H := Option.bind_eq_some_iff.mp H
                    obtain ⟨⟨t226, t227⟩, A590, H⟩ := H
                    replace H : ((zone_Awake.f k3 t207 t208 t209 t211 false).bind fun bt228 => (if t223 = 0 then (if t225 = 0 then (if t227 = 0 then (if bt228.2 = 0 then (if t224 > t222 then (some false) else (if t206 = true then (if (t226 == (decide (t211 < t209))) = true then (some (bt228.1 == (decide (t211 < t208)))) else (some false)) else (some false))) else (some false)) else (some false)) else (some false)) else (some false))) = some r := H
                    have A59 := Aside0.mk A590
                    clear A590
                    replace H := Option.bind_eq_some_iff.mp H
                    obtain ⟨⟨t228, t229⟩, A600, H⟩ := H
                    replace H : (if t223 = 0 then (if t225 = 0 then (if t227 = 0 then (if t229 = 0 then (if t224 > t222 then (some false) else (if t206 = true then (if (t226 == (decide (t211 < t209))) = true then (some (t228 == (decide (t211 < t208)))) else (some false)) else (some false))) else (some false)) else (some false)) else (some false)) else (some false)) = some r := H
                    have A60 := Aside0.mk A600
                    clear A600
                    by_cases c61 : t223 = 0
                    · rw [if_pos c61] at H
                      have c61b0 : (t223 == 0) = true := beq_iff_eq.mpr c61
                      have c61b1 : (t223 != 0) = false := bne_eq_false_iff_eq.mpr c61
                      clear c61
                      by_cases c62 : t225 = 0
                      · rw [if_pos c62] at H
                        have c62b0 : (t225 == 0) = true := beq_iff_eq.mpr c62
                        have c62b1 : (t225 != 0) = false := bne_eq_false_iff_eq.mpr c62
                        clear c62
                        by_cases c63 : t227 = 0
                        · rw [if_pos c63] at H
                          have c63b0 : (t227 == 0) = true := beq_iff_eq.mpr c63
                          have c63b1 : (t227 != 0) = false := bne_eq_false_iff_eq.mpr c63
                          clear c63
                          by_cases c64 : t229 = 0
                          · rw [if_pos c64] at H
                            have c64b0 : (t229 == 0) = true := beq_iff_eq.mpr c64
                            have c64b1 : (t229 != 0) = false := bne_eq_false_iff_eq.mpr c64
                            clear c64
                            by_cases c65 : t224 > t222
                            · rw [if_pos c65] at H
                              have c65b0 : decide (t222 < t224) = true := decide_eq_true c65
                              clear c65
                              obtain rfl := Option.some.inj H
                              have hcz66_0 : wr.cell? ⟨gb212, 0, none⟩ = some (.int .i64 t207) := (blk_cell BK212.out 0).trans rfl
                              have hcz66_1 : wr.cell? ⟨gb212, 1, none⟩ = some (.int .i64 t208) := (blk_cell BK212.out 1).trans rfl
                              have hcz66_2 : wr.cell? ⟨gb212, 2, none⟩ = some (.int .i64 t209) := (blk_cell BK212.out 2).trans rfl
                              have hfz66_0 := blk_frozen BK212.out 0
                              have hfz66_1 := blk_frozen BK212.out 1
                              have hfz66_2 := blk_frozen BK212.out 2
                              go_wp2_with (first | ((with_reducible refine gate_callee (f := 20) rfl ?_); refine goesL_ (some 109) rfl rfl Try.func20 (by kernel_rfl) rfl #[.agg #[.int .i64 t207, .int .i64 t208, .int .i64 t209], .int .i64 t211] rfl (by (try simp only [List.map_toArray, List.map_cons, List.map_nil]); first | done | rfl | (simp only [List.length_drop, List.length_take]; rfl)) ?_; (with_reducible refine (zone_Level.calls k3 t207 t208 t209 t211 t222 t223 _ A57.out).mono ?_); rintro e w67 ⟨rfl, hb⟩; refine ⟨_, rfl, ?_⟩; have n0_ := Aside0.mk (blk_below (g := gb212) (o := .cells #[.int .i64 t207, .int .i64 t208, .int .i64 t209] 26 (0, 0)) (by (with_reducible repeat (first | refine blk_drewN ?_ _ | refine blk_drew ?_ | refine blk_alloc ?_ _)); exact BK212.out) hb); have n1_ := Aside0.mk (below_step (by repeat (first | (with_reducible first | exact HB.out | apply below_alloc | apply pw_below_drewN | apply below_drew1 | refine below_set ?_ GE212.out) | exact HB.out)) hb); clear BK212; clear HB; have BK212 := n0_; have HB := n1_; clear n0_ n1_; (try clear hb); (try clear hb2); (try clear hk); (try clear hi); have hcz68_0 : w67.cell? ⟨gb212, 0, none⟩ = some (.int .i64 t207) := (blk_cell BK212.out 0).trans rfl; have hcz68_1 : w67.cell? ⟨gb212, 1, none⟩ = some (.int .i64 t208) := (blk_cell BK212.out 1).trans rfl; have hcz68_2 : w67.cell? ⟨gb212, 2, none⟩ = some (.int .i64 t209) := (blk_cell BK212.out 2).trans rfl; have hfz68_0 := blk_frozen BK212.out 0; have hfz68_1 := blk_frozen BK212.out 1; have hfz68_2 := blk_frozen BK212.out 2) | ((with_reducible refine gate_callee (f := 20) rfl ?_); refine goesL_ (some 117) rfl rfl Try.func20 (by kernel_rfl) rfl #[.agg #[.int .i64 t207, .int .i64 t208, .int .i64 t209], .int .i64 (wrap64 (t211 + t213))] rfl (by (try simp only [List.map_toArray, List.map_cons, List.map_nil]); first | done | rfl | (simp only [List.length_drop, List.length_take]; rfl)) ?_; (with_reducible refine (zone_Level.calls k3 t207 t208 t209 (wrap64 (t211 + t213)) t224 t225 _ A58.out).mono ?_); rintro e w69 ⟨rfl, hb⟩; refine ⟨_, rfl, ?_⟩; have n0_ := Aside0.mk (blk_below (g := gb212) (o := .cells #[.int .i64 t207, .int .i64 t208, .int .i64 t209] 26 (0, 0)) (by (with_reducible repeat (first | refine blk_drewN ?_ _ | refine blk_drew ?_ | refine blk_alloc ?_ _)); exact BK212.out) hb); have n1_ := Aside0.mk (below_step (by repeat (first | (with_reducible first | exact HB.out | apply below_alloc | apply pw_below_drewN | apply below_drew1 | refine below_set ?_ GE212.out) | exact HB.out)) hb); clear BK212; clear HB; have BK212 := n0_; have HB := n1_; clear n0_ n1_; (try clear hb); (try clear hb2); (try clear hk); (try clear hi); have hcz70_0 : w69.cell? ⟨gb212, 0, none⟩ = some (.int .i64 t207) := (blk_cell BK212.out 0).trans rfl; have hcz70_1 : w69.cell? ⟨gb212, 1, none⟩ = some (.int .i64 t208) := (blk_cell BK212.out 1).trans rfl; have hcz70_2 : w69.cell? ⟨gb212, 2, none⟩ = some (.int .i64 t209) := (blk_cell BK212.out 2).trans rfl; have hfz70_0 := blk_frozen BK212.out 0; have hfz70_1 := blk_frozen BK212.out 1; have hfz70_2 := blk_frozen BK212.out 2) | ((with_reducible refine gate_callee (f := 21) rfl ?_); refine goesL_ (some 123) rfl rfl Try.func21 (by kernel_rfl) rfl #[.agg #[.int .i64 t207, .int .i64 t208, .int .i64 t209], .int .i64 t211, .bool true] rfl (by (try simp only [List.map_toArray, List.map_cons, List.map_nil]); first | done | rfl | (simp only [List.length_drop, List.length_take]; rfl)) ?_; (with_reducible refine (zone_Awake.calls k3 t207 t208 t209 t211 true t226 t227 _ A59.out).mono ?_); rintro e w71 ⟨rfl, hb⟩; refine ⟨_, rfl, ?_⟩; have n0_ := Aside0.mk (blk_below (g := gb212) (o := .cells #[.int .i64 t207, .int .i64 t208, .int .i64 t209] 26 (0, 0)) (by (with_reducible repeat (first | refine blk_drewN ?_ _ | refine blk_drew ?_ | refine blk_alloc ?_ _)); exact BK212.out) hb); have n1_ := Aside0.mk (below_step (by repeat (first | (with_reducible first | exact HB.out | apply below_alloc | apply pw_below_drewN | apply below_drew1 | refine below_set ?_ GE212.out) | exact HB.out)) hb); clear BK212; clear HB; have BK212 := n0_; have HB := n1_; clear n0_ n1_; (try clear hb); (try clear hb2); (try clear hk); (try clear hi); have hcz72_0 : w71.cell? ⟨gb212, 0, none⟩ = some (.int .i64 t207) := (blk_cell BK212.out 0).trans rfl; have hcz72_1 : w71.cell? ⟨gb212, 1, none⟩ = some (.int .i64 t208) := (blk_cell BK212.out 1).trans rfl; have hcz72_2 : w71.cell? ⟨gb212, 2, none⟩ = some (.int .i64 t209) := (blk_cell BK212.out 2).trans rfl; have hfz72_0 := blk_frozen BK212.out 0; have hfz72_1 := blk_frozen BK212.out 1; have hfz72_2 := blk_frozen BK212.out 2) | ((with_reducible refine gate_callee (f := 21) rfl ?_); refine goesL_ (some 129) rfl rfl Try.func21 (by kernel_rfl) rfl #[.agg #[.int .i64 t207, .int .i64 t208, .int .i64 t209], .int .i64 t211, .bool false] rfl (by (try simp only [List.map_toArray, List.map_cons, List.map_nil]); first | done | rfl | (simp only [List.length_drop, List.length_take]; rfl)) ?_; (with_reducible refine (zone_Awake.calls k3 t207 t208 t209 t211 false t228 t229 _ A60.out).mono ?_); rintro e w73 ⟨rfl, hb⟩; refine ⟨_, rfl, ?_⟩; have n0_ := Aside0.mk (blk_below (g := gb212) (o := .cells #[.int .i64 t207, .int .i64 t208, .int .i64 t209] 26 (0, 0)) (by (with_reducible repeat (first | refine blk_drewN ?_ _ | refine blk_drew ?_ | refine blk_alloc ?_ _)); exact BK212.out) hb); have n1_ := Aside0.mk (below_step (by repeat (first | (with_reducible first | exact HB.out | apply below_alloc | apply pw_below_drewN | apply below_drew1 | refine below_set ?_ GE212.out) | exact HB.out)) hb); clear BK212; clear HB; have BK212 := n0_; have HB := n1_; clear n0_ n1_; (try clear hb); (try clear hb2); (try clear hk); (try clear hi)))
                              go_ret
                              exact ⟨by first | rfl | (simp [errW_none, errW_some] <;> rfl) | (simp [*, errW_none, errW_some] <;> rfl), by repeat (first | (with_reducible first | exact HB.out | apply below_alloc | apply pw_below_drewN | apply below_drew1 | refine below_set ?_ GE212.out) | exact HB.out)⟩
                            · rw [if_neg c65] at H
                              have c65b0 : decide (t222 < t224) = false := decide_eq_false c65
                              clear c65
                              by_cases c74 : t206 = true
                              · subst c74
                                have H1 : (if (t226 == (decide (t211 < t209))) = true then (some (t228 == (decide (t211 < t208)))) else (some false)) = some r := by rw [if_pos rfl] at H; exact H
                                clear H
                                have H := H1
                                clear H1
                                by_cases c75 : (t226 == (decide (t211 < t209))) = true
                                · rw [if_pos c75] at H
                                  have c75b0 : (t226 == (decide (t211 < t209))) = true := c75
                                  (try (have c75b1 : decide (t226 = (decide (t211 < t209))) = true := by simpa using c75))
                                  (try (have c75b2 : (t226 == (decide (t211 < t209))) = true := by simpa using c75))
                                  clear c75
                                  obtain rfl := Option.some.inj H
                                  have hcz76_0 : wr.cell? ⟨gb212, 0, none⟩ = some (.int .i64 t207) := (blk_cell BK212.out 0).trans rfl
                                  have hcz76_1 : wr.cell? ⟨gb212, 1, none⟩ = some (.int .i64 t208) := (blk_cell BK212.out 1).trans rfl
                                  have hcz76_2 : wr.cell? ⟨gb212, 2, none⟩ = some (.int .i64 t209) := (blk_cell BK212.out 2).trans rfl
                                  have hfz76_0 := blk_frozen BK212.out 0
                                  have hfz76_1 := blk_frozen BK212.out 1
                                  have hfz76_2 := blk_frozen BK212.out 2
                                  go_wp2_with (first | ((with_reducible refine gate_callee (f := 20) rfl ?_); refine goesL_ (some 109) rfl rfl Try.func20 (by kernel_rfl) rfl #[.agg #[.int .i64 t207, .int .i64 t208, .int .i64 t209], .int .i64 t211] rfl (by (try simp only [List.map_toArray, List.map_cons, List.map_nil]); first | done | rfl | (simp only [List.length_drop, List.length_take]; rfl)) ?_; (with_reducible refine (zone_Level.calls k3 t207 t208 t209 t211 t222 t223 _ A57.out).mono ?_); rintro e w77 ⟨rfl, hb⟩; refine ⟨_, rfl, ?_⟩; have n0_ := Aside0.mk (blk_below (g := gb212) (o := .cells #[.int .i64 t207, .int .i64 t208, .int .i64 t209] 26 (0, 0)) (by (with_reducible repeat (first | refine blk_drewN ?_ _ | refine blk_drew ?_ | refine blk_alloc ?_ _)); exact BK212.out) hb); have n1_ := Aside0.mk (below_step (by repeat (first | (with_reducible first | exact HB.out | apply below_alloc | apply pw_below_drewN | apply below_drew1 | refine below_set ?_ GE212.out) | exact HB.out)) hb); clear BK212; clear HB; have BK212 := n0_; have HB := n1_; clear n0_ n1_; (try clear hb); (try clear hb2); (try clear hk); (try clear hi); have hcz78_0 : w77.cell? ⟨gb212, 0, none⟩ = some (.int .i64 t207) := (blk_cell BK212.out 0).trans rfl; have hcz78_1 : w77.cell? ⟨gb212, 1, none⟩ = some (.int .i64 t208) := (blk_cell BK212.out 1).trans rfl; have hcz78_2 : w77.cell? ⟨gb212, 2, none⟩ = some (.int .i64 t209) := (blk_cell BK212.out 2).trans rfl; have hfz78_0 := blk_frozen BK212.out 0; have hfz78_1 := blk_frozen BK212.out 1; have hfz78_2 := blk_frozen BK212.out 2) | ((with_reducible refine gate_callee (f := 20) rfl ?_); refine goesL_ (some 117) rfl rfl Try.func20 (by kernel_rfl) rfl #[.agg #[.int .i64 t207, .int .i64 t208, .int .i64 t209], .int .i64 (wrap64 (t211 + t213))] rfl (by (try simp only [List.map_toArray, List.map_cons, List.map_nil]); first | done | rfl | (simp only [List.length_drop, List.length_take]; rfl)) ?_; (with_reducible refine (zone_Level.calls k3 t207 t208 t209 (wrap64 (t211 + t213)) t224 t225 _ A58.out).mono ?_); rintro e w79 ⟨rfl, hb⟩; refine ⟨_, rfl, ?_⟩; have n0_ := Aside0.mk (blk_below (g := gb212) (o := .cells #[.int .i64 t207, .int .i64 t208, .int .i64 t209] 26 (0, 0)) (by (with_reducible repeat (first | refine blk_drewN ?_ _ | refine blk_drew ?_ | refine blk_alloc ?_ _)); exact BK212.out) hb); have n1_ := Aside0.mk (below_step (by repeat (first | (with_reducible first | exact HB.out | apply below_alloc | apply pw_below_drewN | apply below_drew1 | refine below_set ?_ GE212.out) | exact HB.out)) hb); clear BK212; clear HB; have BK212 := n0_; have HB := n1_; clear n0_ n1_; (try clear hb); (try clear hb2); (try clear hk); (try clear hi); have hcz80_0 : w79.cell? ⟨gb212, 0, none⟩ = some (.int .i64 t207) := (blk_cell BK212.out 0).trans rfl; have hcz80_1 : w79.cell? ⟨gb212, 1, none⟩ = some (.int .i64 t208) := (blk_cell BK212.out 1).trans rfl; have hcz80_2 : w79.cell? ⟨gb212, 2, none⟩ = some (.int .i64 t209) := (blk_cell BK212.out 2).trans rfl; have hfz80_0 := blk_frozen BK212.out 0; have hfz80_1 := blk_frozen BK212.out 1; have hfz80_2 := blk_frozen BK212.out 2) | ((with_reducible refine gate_callee (f := 21) rfl ?_); refine goesL_ (some 123) rfl rfl Try.func21 (by kernel_rfl) rfl #[.agg #[.int .i64 t207, .int .i64 t208, .int .i64 t209], .int .i64 t211, .bool true] rfl (by (try simp only [List.map_toArray, List.map_cons, List.map_nil]); first | done | rfl | (simp only [List.length_drop, List.length_take]; rfl)) ?_; (with_reducible refine (zone_Awake.calls k3 t207 t208 t209 t211 true t226 t227 _ A59.out).mono ?_); rintro e w81 ⟨rfl, hb⟩; refine ⟨_, rfl, ?_⟩; have n0_ := Aside0.mk (blk_below (g := gb212) (o := .cells #[.int .i64 t207, .int .i64 t208, .int .i64 t209] 26 (0, 0)) (by (with_reducible repeat (first | refine blk_drewN ?_ _ | refine blk_drew ?_ | refine blk_alloc ?_ _)); exact BK212.out) hb); have n1_ := Aside0.mk (below_step (by repeat (first | (with_reducible first | exact HB.out | apply below_alloc | apply pw_below_drewN | apply below_drew1 | refine below_set ?_ GE212.out) | exact HB.out)) hb); clear BK212; clear HB; have BK212 := n0_; have HB := n1_; clear n0_ n1_; (try clear hb); (try clear hb2); (try clear hk); (try clear hi); have hcz82_0 : w81.cell? ⟨gb212, 0, none⟩ = some (.int .i64 t207) := (blk_cell BK212.out 0).trans rfl; have hcz82_1 : w81.cell? ⟨gb212, 1, none⟩ = some (.int .i64 t208) := (blk_cell BK212.out 1).trans rfl; have hcz82_2 : w81.cell? ⟨gb212, 2, none⟩ = some (.int .i64 t209) := (blk_cell BK212.out 2).trans rfl; have hfz82_0 := blk_frozen BK212.out 0; have hfz82_1 := blk_frozen BK212.out 1; have hfz82_2 := blk_frozen BK212.out 2) | ((with_reducible refine gate_callee (f := 21) rfl ?_); refine goesL_ (some 129) rfl rfl Try.func21 (by kernel_rfl) rfl #[.agg #[.int .i64 t207, .int .i64 t208, .int .i64 t209], .int .i64 t211, .bool false] rfl (by (try simp only [List.map_toArray, List.map_cons, List.map_nil]); first | done | rfl | (simp only [List.length_drop, List.length_take]; rfl)) ?_; (with_reducible refine (zone_Awake.calls k3 t207 t208 t209 t211 false t228 t229 _ A60.out).mono ?_); rintro e w83 ⟨rfl, hb⟩; refine ⟨_, rfl, ?_⟩; have n0_ := Aside0.mk (blk_below (g := gb212) (o := .cells #[.int .i64 t207, .int .i64 t208, .int .i64 t209] 26 (0, 0)) (by (with_reducible repeat (first | refine blk_drewN ?_ _ | refine blk_drew ?_ | refine blk_alloc ?_ _)); exact BK212.out) hb); have n1_ := Aside0.mk (below_step (by repeat (first | (with_reducible first | exact HB.out | apply below_alloc | apply pw_below_drewN | apply below_drew1 | refine below_set ?_ GE212.out) | exact HB.out)) hb); clear BK212; clear HB; have BK212 := n0_; have HB := n1_; clear n0_ n1_; (try clear hb); (try clear hb2); (try clear hk); (try clear hi); have hcz84_0 : w83.cell? ⟨gb212, 0, none⟩ = some (.int .i64 t207) := (blk_cell BK212.out 0).trans rfl; have hcz84_1 : w83.cell? ⟨gb212, 1, none⟩ = some (.int .i64 t208) := (blk_cell BK212.out 1).trans rfl; have hcz84_2 : w83.cell? ⟨gb212, 2, none⟩ = some (.int .i64 t209) := (blk_cell BK212.out 2).trans rfl; have hfz84_0 := blk_frozen BK212.out 0; have hfz84_1 := blk_frozen BK212.out 1; have hfz84_2 := blk_frozen BK212.out 2))
                                  go_ret
                                  exact ⟨by first | rfl | (simp [errW_none, errW_some] <;> rfl) | (simp [*, errW_none, errW_some] <;> rfl), by repeat (first | (with_reducible first | exact HB.out | apply below_alloc | apply pw_below_drewN | apply below_drew1 | refine below_set ?_ GE212.out) | exact HB.out)⟩
                                · rw [if_neg c75] at H
                                  have c75b0 : (t226 == (decide (t211 < t209))) = false := by simpa using c75
                                  (try (have c75b1 : decide (t226 = (decide (t211 < t209))) = false := by simpa using c75))
                                  (try (have c75b2 : (t226 == (decide (t211 < t209))) = false := by simpa using c75))
                                  (try (have c75b3 : ¬ (t226 = (decide (t211 < t209))) := by simpa using c75))
                                  clear c75
                                  obtain rfl := Option.some.inj H
                                  have hcz85_0 : wr.cell? ⟨gb212, 0, none⟩ = some (.int .i64 t207) := (blk_cell BK212.out 0).trans rfl
                                  have hcz85_1 : wr.cell? ⟨gb212, 1, none⟩ = some (.int .i64 t208) := (blk_cell BK212.out 1).trans rfl
                                  have hcz85_2 : wr.cell? ⟨gb212, 2, none⟩ = some (.int .i64 t209) := (blk_cell BK212.out 2).trans rfl
                                  have hfz85_0 := blk_frozen BK212.out 0
                                  have hfz85_1 := blk_frozen BK212.out 1
                                  have hfz85_2 := blk_frozen BK212.out 2
                                  go_wp2_with (first | ((with_reducible refine gate_callee (f := 20) rfl ?_); refine goesL_ (some 109) rfl rfl Try.func20 (by kernel_rfl) rfl #[.agg #[.int .i64 t207, .int .i64 t208, .int .i64 t209], .int .i64 t211] rfl (by (try simp only [List.map_toArray, List.map_cons, List.map_nil]); first | done | rfl | (simp only [List.length_drop, List.length_take]; rfl)) ?_; (with_reducible refine (zone_Level.calls k3 t207 t208 t209 t211 t222 t223 _ A57.out).mono ?_); rintro e w86 ⟨rfl, hb⟩; refine ⟨_, rfl, ?_⟩; have n0_ := Aside0.mk (blk_below (g := gb212) (o := .cells #[.int .i64 t207, .int .i64 t208, .int .i64 t209] 26 (0, 0)) (by (with_reducible repeat (first | refine blk_drewN ?_ _ | refine blk_drew ?_ | refine blk_alloc ?_ _)); exact BK212.out) hb); have n1_ := Aside0.mk (below_step (by repeat (first | (with_reducible first | exact HB.out | apply below_alloc | apply pw_below_drewN | apply below_drew1 | refine below_set ?_ GE212.out) | exact HB.out)) hb); clear BK212; clear HB; have BK212 := n0_; have HB := n1_; clear n0_ n1_; (try clear hb); (try clear hb2); (try clear hk); (try clear hi); have hcz87_0 : w86.cell? ⟨gb212, 0, none⟩ = some (.int .i64 t207) := (blk_cell BK212.out 0).trans rfl; have hcz87_1 : w86.cell? ⟨gb212, 1, none⟩ = some (.int .i64 t208) := (blk_cell BK212.out 1).trans rfl; have hcz87_2 : w86.cell? ⟨gb212, 2, none⟩ = some (.int .i64 t209) := (blk_cell BK212.out 2).trans rfl; have hfz87_0 := blk_frozen BK212.out 0; have hfz87_1 := blk_frozen BK212.out 1; have hfz87_2 := blk_frozen BK212.out 2) | ((with_reducible refine gate_callee (f := 20) rfl ?_); refine goesL_ (some 117) rfl rfl Try.func20 (by kernel_rfl) rfl #[.agg #[.int .i64 t207, .int .i64 t208, .int .i64 t209], .int .i64 (wrap64 (t211 + t213))] rfl (by (try simp only [List.map_toArray, List.map_cons, List.map_nil]); first | done | rfl | (simp only [List.length_drop, List.length_take]; rfl)) ?_; (with_reducible refine (zone_Level.calls k3 t207 t208 t209 (wrap64 (t211 + t213)) t224 t225 _ A58.out).mono ?_); rintro e w88 ⟨rfl, hb⟩; refine ⟨_, rfl, ?_⟩; have n0_ := Aside0.mk (blk_below (g := gb212) (o := .cells #[.int .i64 t207, .int .i64 t208, .int .i64 t209] 26 (0, 0)) (by (with_reducible repeat (first | refine blk_drewN ?_ _ | refine blk_drew ?_ | refine blk_alloc ?_ _)); exact BK212.out) hb); have n1_ := Aside0.mk (below_step (by repeat (first | (with_reducible first | exact HB.out | apply below_alloc | apply pw_below_drewN | apply below_drew1 | refine below_set ?_ GE212.out) | exact HB.out)) hb); clear BK212; clear HB; have BK212 := n0_; have HB := n1_; clear n0_ n1_; (try clear hb); (try clear hb2); (try clear hk); (try clear hi); have hcz89_0 : w88.cell? ⟨gb212, 0, none⟩ = some (.int .i64 t207) := (blk_cell BK212.out 0).trans rfl; have hcz89_1 : w88.cell? ⟨gb212, 1, none⟩ = some (.int .i64 t208) := (blk_cell BK212.out 1).trans rfl; have hcz89_2 : w88.cell? ⟨gb212, 2, none⟩ = some (.int .i64 t209) := (blk_cell BK212.out 2).trans rfl; have hfz89_0 := blk_frozen BK212.out 0; have hfz89_1 := blk_frozen BK212.out 1; have hfz89_2 := blk_frozen BK212.out 2) | ((with_reducible refine gate_callee (f := 21) rfl ?_); refine goesL_ (some 123) rfl rfl Try.func21 (by kernel_rfl) rfl #[.agg #[.int .i64 t207, .int .i64 t208, .int .i64 t209], .int .i64 t211, .bool true] rfl (by (try simp only [List.map_toArray, List.map_cons, List.map_nil]); first | done | rfl | (simp only [List.length_drop, List.length_take]; rfl)) ?_; (with_reducible refine (zone_Awake.calls k3 t207 t208 t209 t211 true t226 t227 _ A59.out).mono ?_); rintro e w90 ⟨rfl, hb⟩; refine ⟨_, rfl, ?_⟩; have n0_ := Aside0.mk (blk_below (g := gb212) (o := .cells #[.int .i64 t207, .int .i64 t208, .int .i64 t209] 26 (0, 0)) (by (with_reducible repeat (first | refine blk_drewN ?_ _ | refine blk_drew ?_ | refine blk_alloc ?_ _)); exact BK212.out) hb); have n1_ := Aside0.mk (below_step (by repeat (first | (with_reducible first | exact HB.out | apply below_alloc | apply pw_below_drewN | apply below_drew1 | refine below_set ?_ GE212.out) | exact HB.out)) hb); clear BK212; clear HB; have BK212 := n0_; have HB := n1_; clear n0_ n1_; (try clear hb); (try clear hb2); (try clear hk); (try clear hi); have hcz91_0 : w90.cell? ⟨gb212, 0, none⟩ = some (.int .i64 t207) := (blk_cell BK212.out 0).trans rfl; have hcz91_1 : w90.cell? ⟨gb212, 1, none⟩ = some (.int .i64 t208) := (blk_cell BK212.out 1).trans rfl; have hcz91_2 : w90.cell? ⟨gb212, 2, none⟩ = some (.int .i64 t209) := (blk_cell BK212.out 2).trans rfl; have hfz91_0 := blk_frozen BK212.out 0; have hfz91_1 := blk_frozen BK212.out 1; have hfz91_2 := blk_frozen BK212.out 2) | ((with_reducible refine gate_callee (f := 21) rfl ?_); refine goesL_ (some 129) rfl rfl Try.func21 (by kernel_rfl) rfl #[.agg #[.int .i64 t207, .int .i64 t208, .int .i64 t209], .int .i64 t211, .bool false] rfl (by (try simp only [List.map_toArray, List.map_cons, List.map_nil]); first | done | rfl | (simp only [List.length_drop, List.length_take]; rfl)) ?_; (with_reducible refine (zone_Awake.calls k3 t207 t208 t209 t211 false t228 t229 _ A60.out).mono ?_); rintro e w92 ⟨rfl, hb⟩; refine ⟨_, rfl, ?_⟩; have n0_ := Aside0.mk (blk_below (g := gb212) (o := .cells #[.int .i64 t207, .int .i64 t208, .int .i64 t209] 26 (0, 0)) (by (with_reducible repeat (first | refine blk_drewN ?_ _ | refine blk_drew ?_ | refine blk_alloc ?_ _)); exact BK212.out) hb); have n1_ := Aside0.mk (below_step (by repeat (first | (with_reducible first | exact HB.out | apply below_alloc | apply pw_below_drewN | apply below_drew1 | refine below_set ?_ GE212.out) | exact HB.out)) hb); clear BK212; clear HB; have BK212 := n0_; have HB := n1_; clear n0_ n1_; (try clear hb); (try clear hb2); (try clear hk); (try clear hi); have hcz93_0 : w92.cell? ⟨gb212, 0, none⟩ = some (.int .i64 t207) := (blk_cell BK212.out 0).trans rfl; have hcz93_1 : w92.cell? ⟨gb212, 1, none⟩ = some (.int .i64 t208) := (blk_cell BK212.out 1).trans rfl; have hcz93_2 : w92.cell? ⟨gb212, 2, none⟩ = some (.int .i64 t209) := (blk_cell BK212.out 2).trans rfl; have hfz93_0 := blk_frozen BK212.out 0; have hfz93_1 := blk_frozen BK212.out 1; have hfz93_2 := blk_frozen BK212.out 2))
                                  go_ret
                                  exact ⟨by first | rfl | (simp [errW_none, errW_some] <;> rfl) | (simp [*, errW_none, errW_some] <;> rfl), by repeat (first | (with_reducible first | exact HB.out | apply below_alloc | apply pw_below_drewN | apply below_drew1 | refine below_set ?_ GE212.out) | exact HB.out)⟩
                              · replace c74 := Bool.eq_false_iff.mpr c74
                                subst c74
                                have H1 : (some false) = some r := by rw [if_neg (show ¬ (false = true) by decide)] at H; exact H
                                clear H
                                have H := H1
                                clear H1
                                obtain rfl := Option.some.inj H
                                have hcz94_0 : wr.cell? ⟨gb212, 0, none⟩ = some (.int .i64 t207) := (blk_cell BK212.out 0).trans rfl
                                have hcz94_1 : wr.cell? ⟨gb212, 1, none⟩ = some (.int .i64 t208) := (blk_cell BK212.out 1).trans rfl
                                have hcz94_2 : wr.cell? ⟨gb212, 2, none⟩ = some (.int .i64 t209) := (blk_cell BK212.out 2).trans rfl
                                have hfz94_0 := blk_frozen BK212.out 0
                                have hfz94_1 := blk_frozen BK212.out 1
                                have hfz94_2 := blk_frozen BK212.out 2
                                go_wp2_with (first | ((with_reducible refine gate_callee (f := 20) rfl ?_); refine goesL_ (some 109) rfl rfl Try.func20 (by kernel_rfl) rfl #[.agg #[.int .i64 t207, .int .i64 t208, .int .i64 t209], .int .i64 t211] rfl (by (try simp only [List.map_toArray, List.map_cons, List.map_nil]); first | done | rfl | (simp only [List.length_drop, List.length_take]; rfl)) ?_; (with_reducible refine (zone_Level.calls k3 t207 t208 t209 t211 t222 t223 _ A57.out).mono ?_); rintro e w95 ⟨rfl, hb⟩; refine ⟨_, rfl, ?_⟩; have n0_ := Aside0.mk (blk_below (g := gb212) (o := .cells #[.int .i64 t207, .int .i64 t208, .int .i64 t209] 26 (0, 0)) (by (with_reducible repeat (first | refine blk_drewN ?_ _ | refine blk_drew ?_ | refine blk_alloc ?_ _)); exact BK212.out) hb); have n1_ := Aside0.mk (below_step (by repeat (first | (with_reducible first | exact HB.out | apply below_alloc | apply pw_below_drewN | apply below_drew1 | refine below_set ?_ GE212.out) | exact HB.out)) hb); clear BK212; clear HB; have BK212 := n0_; have HB := n1_; clear n0_ n1_; (try clear hb); (try clear hb2); (try clear hk); (try clear hi); have hcz96_0 : w95.cell? ⟨gb212, 0, none⟩ = some (.int .i64 t207) := (blk_cell BK212.out 0).trans rfl; have hcz96_1 : w95.cell? ⟨gb212, 1, none⟩ = some (.int .i64 t208) := (blk_cell BK212.out 1).trans rfl; have hcz96_2 : w95.cell? ⟨gb212, 2, none⟩ = some (.int .i64 t209) := (blk_cell BK212.out 2).trans rfl; have hfz96_0 := blk_frozen BK212.out 0; have hfz96_1 := blk_frozen BK212.out 1; have hfz96_2 := blk_frozen BK212.out 2) | ((with_reducible refine gate_callee (f := 20) rfl ?_); refine goesL_ (some 117) rfl rfl Try.func20 (by kernel_rfl) rfl #[.agg #[.int .i64 t207, .int .i64 t208, .int .i64 t209], .int .i64 (wrap64 (t211 + t213))] rfl (by (try simp only [List.map_toArray, List.map_cons, List.map_nil]); first | done | rfl | (simp only [List.length_drop, List.length_take]; rfl)) ?_; (with_reducible refine (zone_Level.calls k3 t207 t208 t209 (wrap64 (t211 + t213)) t224 t225 _ A58.out).mono ?_); rintro e w97 ⟨rfl, hb⟩; refine ⟨_, rfl, ?_⟩; have n0_ := Aside0.mk (blk_below (g := gb212) (o := .cells #[.int .i64 t207, .int .i64 t208, .int .i64 t209] 26 (0, 0)) (by (with_reducible repeat (first | refine blk_drewN ?_ _ | refine blk_drew ?_ | refine blk_alloc ?_ _)); exact BK212.out) hb); have n1_ := Aside0.mk (below_step (by repeat (first | (with_reducible first | exact HB.out | apply below_alloc | apply pw_below_drewN | apply below_drew1 | refine below_set ?_ GE212.out) | exact HB.out)) hb); clear BK212; clear HB; have BK212 := n0_; have HB := n1_; clear n0_ n1_; (try clear hb); (try clear hb2); (try clear hk); (try clear hi); have hcz98_0 : w97.cell? ⟨gb212, 0, none⟩ = some (.int .i64 t207) := (blk_cell BK212.out 0).trans rfl; have hcz98_1 : w97.cell? ⟨gb212, 1, none⟩ = some (.int .i64 t208) := (blk_cell BK212.out 1).trans rfl; have hcz98_2 : w97.cell? ⟨gb212, 2, none⟩ = some (.int .i64 t209) := (blk_cell BK212.out 2).trans rfl; have hfz98_0 := blk_frozen BK212.out 0; have hfz98_1 := blk_frozen BK212.out 1; have hfz98_2 := blk_frozen BK212.out 2) | ((with_reducible refine gate_callee (f := 21) rfl ?_); refine goesL_ (some 123) rfl rfl Try.func21 (by kernel_rfl) rfl #[.agg #[.int .i64 t207, .int .i64 t208, .int .i64 t209], .int .i64 t211, .bool true] rfl (by (try simp only [List.map_toArray, List.map_cons, List.map_nil]); first | done | rfl | (simp only [List.length_drop, List.length_take]; rfl)) ?_; (with_reducible refine (zone_Awake.calls k3 t207 t208 t209 t211 true t226 t227 _ A59.out).mono ?_); rintro e w99 ⟨rfl, hb⟩; refine ⟨_, rfl, ?_⟩; have n0_ := Aside0.mk (blk_below (g := gb212) (o := .cells #[.int .i64 t207, .int .i64 t208, .int .i64 t209] 26 (0, 0)) (by (with_reducible repeat (first | refine blk_drewN ?_ _ | refine blk_drew ?_ | refine blk_alloc ?_ _)); exact BK212.out) hb); have n1_ := Aside0.mk (below_step (by repeat (first | (with_reducible first | exact HB.out | apply below_alloc | apply pw_below_drewN | apply below_drew1 | refine below_set ?_ GE212.out) | exact HB.out)) hb); clear BK212; clear HB; have BK212 := n0_; have HB := n1_; clear n0_ n1_; (try clear hb); (try clear hb2); (try clear hk); (try clear hi); have hcz100_0 : w99.cell? ⟨gb212, 0, none⟩ = some (.int .i64 t207) := (blk_cell BK212.out 0).trans rfl; have hcz100_1 : w99.cell? ⟨gb212, 1, none⟩ = some (.int .i64 t208) := (blk_cell BK212.out 1).trans rfl; have hcz100_2 : w99.cell? ⟨gb212, 2, none⟩ = some (.int .i64 t209) := (blk_cell BK212.out 2).trans rfl; have hfz100_0 := blk_frozen BK212.out 0; have hfz100_1 := blk_frozen BK212.out 1; have hfz100_2 := blk_frozen BK212.out 2) | ((with_reducible refine gate_callee (f := 21) rfl ?_); refine goesL_ (some 129) rfl rfl Try.func21 (by kernel_rfl) rfl #[.agg #[.int .i64 t207, .int .i64 t208, .int .i64 t209], .int .i64 t211, .bool false] rfl (by (try simp only [List.map_toArray, List.map_cons, List.map_nil]); first | done | rfl | (simp only [List.length_drop, List.length_take]; rfl)) ?_; (with_reducible refine (zone_Awake.calls k3 t207 t208 t209 t211 false t228 t229 _ A60.out).mono ?_); rintro e w101 ⟨rfl, hb⟩; refine ⟨_, rfl, ?_⟩; have n0_ := Aside0.mk (blk_below (g := gb212) (o := .cells #[.int .i64 t207, .int .i64 t208, .int .i64 t209] 26 (0, 0)) (by (with_reducible repeat (first | refine blk_drewN ?_ _ | refine blk_drew ?_ | refine blk_alloc ?_ _)); exact BK212.out) hb); have n1_ := Aside0.mk (below_step (by repeat (first | (with_reducible first | exact HB.out | apply below_alloc | apply pw_below_drewN | apply below_drew1 | refine below_set ?_ GE212.out) | exact HB.out)) hb); clear BK212; clear HB; have BK212 := n0_; have HB := n1_; clear n0_ n1_; (try clear hb); (try clear hb2); (try clear hk); (try clear hi)))
                                go_ret
                                exact ⟨by first | rfl | (simp [errW_none, errW_some] <;> rfl) | (simp [*, errW_none, errW_some] <;> rfl), by repeat (first | (with_reducible first | exact HB.out | apply below_alloc | apply pw_below_drewN | apply below_drew1 | refine below_set ?_ GE212.out) | exact HB.out)⟩
                          · rw [if_neg c64] at H
                            have c64b0 : (t229 == 0) = false := beq_eq_false_iff_ne.mpr c64
                            have c64b1 : (t229 != 0) = true := bne_iff_ne.mpr c64
                            obtain rfl := Option.some.inj H
                            have hcz102_0 : wr.cell? ⟨gb212, 0, none⟩ = some (.int .i64 t207) := (blk_cell BK212.out 0).trans rfl
                            have hcz102_1 : wr.cell? ⟨gb212, 1, none⟩ = some (.int .i64 t208) := (blk_cell BK212.out 1).trans rfl
                            have hcz102_2 : wr.cell? ⟨gb212, 2, none⟩ = some (.int .i64 t209) := (blk_cell BK212.out 2).trans rfl
                            have hfz102_0 := blk_frozen BK212.out 0
                            have hfz102_1 := blk_frozen BK212.out 1
                            have hfz102_2 := blk_frozen BK212.out 2
                            go_wp2_with (first | ((with_reducible refine gate_callee (f := 20) rfl ?_); refine goesL_ (some 109) rfl rfl Try.func20 (by kernel_rfl) rfl #[.agg #[.int .i64 t207, .int .i64 t208, .int .i64 t209], .int .i64 t211] rfl (by (try simp only [List.map_toArray, List.map_cons, List.map_nil]); first | done | rfl | (simp only [List.length_drop, List.length_take]; rfl)) ?_; (with_reducible refine (zone_Level.calls k3 t207 t208 t209 t211 t222 t223 _ A57.out).mono ?_); rintro e w103 ⟨rfl, hb⟩; refine ⟨_, rfl, ?_⟩; have n0_ := Aside0.mk (blk_below (g := gb212) (o := .cells #[.int .i64 t207, .int .i64 t208, .int .i64 t209] 26 (0, 0)) (by (with_reducible repeat (first | refine blk_drewN ?_ _ | refine blk_drew ?_ | refine blk_alloc ?_ _)); exact BK212.out) hb); have n1_ := Aside0.mk (below_step (by repeat (first | (with_reducible first | exact HB.out | apply below_alloc | apply pw_below_drewN | apply below_drew1 | refine below_set ?_ GE212.out) | exact HB.out)) hb); clear BK212; clear HB; have BK212 := n0_; have HB := n1_; clear n0_ n1_; (try clear hb); (try clear hb2); (try clear hk); (try clear hi); have hcz104_0 : w103.cell? ⟨gb212, 0, none⟩ = some (.int .i64 t207) := (blk_cell BK212.out 0).trans rfl; have hcz104_1 : w103.cell? ⟨gb212, 1, none⟩ = some (.int .i64 t208) := (blk_cell BK212.out 1).trans rfl; have hcz104_2 : w103.cell? ⟨gb212, 2, none⟩ = some (.int .i64 t209) := (blk_cell BK212.out 2).trans rfl; have hfz104_0 := blk_frozen BK212.out 0; have hfz104_1 := blk_frozen BK212.out 1; have hfz104_2 := blk_frozen BK212.out 2) | ((with_reducible refine gate_callee (f := 20) rfl ?_); refine goesL_ (some 117) rfl rfl Try.func20 (by kernel_rfl) rfl #[.agg #[.int .i64 t207, .int .i64 t208, .int .i64 t209], .int .i64 (wrap64 (t211 + t213))] rfl (by (try simp only [List.map_toArray, List.map_cons, List.map_nil]); first | done | rfl | (simp only [List.length_drop, List.length_take]; rfl)) ?_; (with_reducible refine (zone_Level.calls k3 t207 t208 t209 (wrap64 (t211 + t213)) t224 t225 _ A58.out).mono ?_); rintro e w105 ⟨rfl, hb⟩; refine ⟨_, rfl, ?_⟩; have n0_ := Aside0.mk (blk_below (g := gb212) (o := .cells #[.int .i64 t207, .int .i64 t208, .int .i64 t209] 26 (0, 0)) (by (with_reducible repeat (first | refine blk_drewN ?_ _ | refine blk_drew ?_ | refine blk_alloc ?_ _)); exact BK212.out) hb); have n1_ := Aside0.mk (below_step (by repeat (first | (with_reducible first | exact HB.out | apply below_alloc | apply pw_below_drewN | apply below_drew1 | refine below_set ?_ GE212.out) | exact HB.out)) hb); clear BK212; clear HB; have BK212 := n0_; have HB := n1_; clear n0_ n1_; (try clear hb); (try clear hb2); (try clear hk); (try clear hi); have hcz106_0 : w105.cell? ⟨gb212, 0, none⟩ = some (.int .i64 t207) := (blk_cell BK212.out 0).trans rfl; have hcz106_1 : w105.cell? ⟨gb212, 1, none⟩ = some (.int .i64 t208) := (blk_cell BK212.out 1).trans rfl; have hcz106_2 : w105.cell? ⟨gb212, 2, none⟩ = some (.int .i64 t209) := (blk_cell BK212.out 2).trans rfl; have hfz106_0 := blk_frozen BK212.out 0; have hfz106_1 := blk_frozen BK212.out 1; have hfz106_2 := blk_frozen BK212.out 2) | ((with_reducible refine gate_callee (f := 21) rfl ?_); refine goesL_ (some 123) rfl rfl Try.func21 (by kernel_rfl) rfl #[.agg #[.int .i64 t207, .int .i64 t208, .int .i64 t209], .int .i64 t211, .bool true] rfl (by (try simp only [List.map_toArray, List.map_cons, List.map_nil]); first | done | rfl | (simp only [List.length_drop, List.length_take]; rfl)) ?_; (with_reducible refine (zone_Awake.calls k3 t207 t208 t209 t211 true t226 t227 _ A59.out).mono ?_); rintro e w107 ⟨rfl, hb⟩; refine ⟨_, rfl, ?_⟩; have n0_ := Aside0.mk (blk_below (g := gb212) (o := .cells #[.int .i64 t207, .int .i64 t208, .int .i64 t209] 26 (0, 0)) (by (with_reducible repeat (first | refine blk_drewN ?_ _ | refine blk_drew ?_ | refine blk_alloc ?_ _)); exact BK212.out) hb); have n1_ := Aside0.mk (below_step (by repeat (first | (with_reducible first | exact HB.out | apply below_alloc | apply pw_below_drewN | apply below_drew1 | refine below_set ?_ GE212.out) | exact HB.out)) hb); clear BK212; clear HB; have BK212 := n0_; have HB := n1_; clear n0_ n1_; (try clear hb); (try clear hb2); (try clear hk); (try clear hi); have hcz108_0 : w107.cell? ⟨gb212, 0, none⟩ = some (.int .i64 t207) := (blk_cell BK212.out 0).trans rfl; have hcz108_1 : w107.cell? ⟨gb212, 1, none⟩ = some (.int .i64 t208) := (blk_cell BK212.out 1).trans rfl; have hcz108_2 : w107.cell? ⟨gb212, 2, none⟩ = some (.int .i64 t209) := (blk_cell BK212.out 2).trans rfl; have hfz108_0 := blk_frozen BK212.out 0; have hfz108_1 := blk_frozen BK212.out 1; have hfz108_2 := blk_frozen BK212.out 2) | ((with_reducible refine gate_callee (f := 21) rfl ?_); refine goesL_ (some 129) rfl rfl Try.func21 (by kernel_rfl) rfl #[.agg #[.int .i64 t207, .int .i64 t208, .int .i64 t209], .int .i64 t211, .bool false] rfl (by (try simp only [List.map_toArray, List.map_cons, List.map_nil]); first | done | rfl | (simp only [List.length_drop, List.length_take]; rfl)) ?_; (with_reducible refine (zone_Awake.calls k3 t207 t208 t209 t211 false t228 t229 _ A60.out).mono ?_); rintro e w109 ⟨rfl, hb⟩; refine ⟨_, rfl, ?_⟩; have n0_ := Aside0.mk (blk_below (g := gb212) (o := .cells #[.int .i64 t207, .int .i64 t208, .int .i64 t209] 26 (0, 0)) (by (with_reducible repeat (first | refine blk_drewN ?_ _ | refine blk_drew ?_ | refine blk_alloc ?_ _)); exact BK212.out) hb); have n1_ := Aside0.mk (below_step (by repeat (first | (with_reducible first | exact HB.out | apply below_alloc | apply pw_below_drewN | apply below_drew1 | refine below_set ?_ GE212.out) | exact HB.out)) hb); clear BK212; clear HB; have BK212 := n0_; have HB := n1_; clear n0_ n1_; (try clear hb); (try clear hb2); (try clear hk); (try clear hi)))
                            go_ret
                            exact ⟨by first | rfl | (simp [errW_none, errW_some] <;> rfl) | (simp [*, errW_none, errW_some] <;> rfl), by repeat (first | (with_reducible first | exact HB.out | apply below_alloc | apply pw_below_drewN | apply below_drew1 | refine below_set ?_ GE212.out) | exact HB.out)⟩
                        · rw [if_neg c63] at H
                          have c63b0 : (t227 == 0) = false := beq_eq_false_iff_ne.mpr c63
                          have c63b1 : (t227 != 0) = true := bne_iff_ne.mpr c63
                          obtain rfl := Option.some.inj H
                          have hcz110_0 : wr.cell? ⟨gb212, 0, none⟩ = some (.int .i64 t207) := (blk_cell BK212.out 0).trans rfl
                          have hcz110_1 : wr.cell? ⟨gb212, 1, none⟩ = some (.int .i64 t208) := (blk_cell BK212.out 1).trans rfl
                          have hcz110_2 : wr.cell? ⟨gb212, 2, none⟩ = some (.int .i64 t209) := (blk_cell BK212.out 2).trans rfl
                          have hfz110_0 := blk_frozen BK212.out 0
                          have hfz110_1 := blk_frozen BK212.out 1
                          have hfz110_2 := blk_frozen BK212.out 2
                          go_wp2_with (first | ((with_reducible refine gate_callee (f := 20) rfl ?_); refine goesL_ (some 109) rfl rfl Try.func20 (by kernel_rfl) rfl #[.agg #[.int .i64 t207, .int .i64 t208, .int .i64 t209], .int .i64 t211] rfl (by (try simp only [List.map_toArray, List.map_cons, List.map_nil]); first | done | rfl | (simp only [List.length_drop, List.length_take]; rfl)) ?_; (with_reducible refine (zone_Level.calls k3 t207 t208 t209 t211 t222 t223 _ A57.out).mono ?_); rintro e w111 ⟨rfl, hb⟩; refine ⟨_, rfl, ?_⟩; have n0_ := Aside0.mk (blk_below (g := gb212) (o := .cells #[.int .i64 t207, .int .i64 t208, .int .i64 t209] 26 (0, 0)) (by (with_reducible repeat (first | refine blk_drewN ?_ _ | refine blk_drew ?_ | refine blk_alloc ?_ _)); exact BK212.out) hb); have n1_ := Aside0.mk (below_step (by repeat (first | (with_reducible first | exact HB.out | apply below_alloc | apply pw_below_drewN | apply below_drew1 | refine below_set ?_ GE212.out) | exact HB.out)) hb); clear BK212; clear HB; have BK212 := n0_; have HB := n1_; clear n0_ n1_; (try clear hb); (try clear hb2); (try clear hk); (try clear hi); have hcz112_0 : w111.cell? ⟨gb212, 0, none⟩ = some (.int .i64 t207) := (blk_cell BK212.out 0).trans rfl; have hcz112_1 : w111.cell? ⟨gb212, 1, none⟩ = some (.int .i64 t208) := (blk_cell BK212.out 1).trans rfl; have hcz112_2 : w111.cell? ⟨gb212, 2, none⟩ = some (.int .i64 t209) := (blk_cell BK212.out 2).trans rfl; have hfz112_0 := blk_frozen BK212.out 0; have hfz112_1 := blk_frozen BK212.out 1; have hfz112_2 := blk_frozen BK212.out 2) | ((with_reducible refine gate_callee (f := 20) rfl ?_); refine goesL_ (some 117) rfl rfl Try.func20 (by kernel_rfl) rfl #[.agg #[.int .i64 t207, .int .i64 t208, .int .i64 t209], .int .i64 (wrap64 (t211 + t213))] rfl (by (try simp only [List.map_toArray, List.map_cons, List.map_nil]); first | done | rfl | (simp only [List.length_drop, List.length_take]; rfl)) ?_; (with_reducible refine (zone_Level.calls k3 t207 t208 t209 (wrap64 (t211 + t213)) t224 t225 _ A58.out).mono ?_); rintro e w113 ⟨rfl, hb⟩; refine ⟨_, rfl, ?_⟩; have n0_ := Aside0.mk (blk_below (g := gb212) (o := .cells #[.int .i64 t207, .int .i64 t208, .int .i64 t209] 26 (0, 0)) (by (with_reducible repeat (first | refine blk_drewN ?_ _ | refine blk_drew ?_ | refine blk_alloc ?_ _)); exact BK212.out) hb); have n1_ := Aside0.mk (below_step (by repeat (first | (with_reducible first | exact HB.out | apply below_alloc | apply pw_below_drewN | apply below_drew1 | refine below_set ?_ GE212.out) | exact HB.out)) hb); clear BK212; clear HB; have BK212 := n0_; have HB := n1_; clear n0_ n1_; (try clear hb); (try clear hb2); (try clear hk); (try clear hi); have hcz114_0 : w113.cell? ⟨gb212, 0, none⟩ = some (.int .i64 t207) := (blk_cell BK212.out 0).trans rfl; have hcz114_1 : w113.cell? ⟨gb212, 1, none⟩ = some (.int .i64 t208) := (blk_cell BK212.out 1).trans rfl; have hcz114_2 : w113.cell? ⟨gb212, 2, none⟩ = some (.int .i64 t209) := (blk_cell BK212.out 2).trans rfl; have hfz114_0 := blk_frozen BK212.out 0; have hfz114_1 := blk_frozen BK212.out 1; have hfz114_2 := blk_frozen BK212.out 2) | ((with_reducible refine gate_callee (f := 21) rfl ?_); refine goesL_ (some 123) rfl rfl Try.func21 (by kernel_rfl) rfl #[.agg #[.int .i64 t207, .int .i64 t208, .int .i64 t209], .int .i64 t211, .bool true] rfl (by (try simp only [List.map_toArray, List.map_cons, List.map_nil]); first | done | rfl | (simp only [List.length_drop, List.length_take]; rfl)) ?_; (with_reducible refine (zone_Awake.calls k3 t207 t208 t209 t211 true t226 t227 _ A59.out).mono ?_); rintro e w115 ⟨rfl, hb⟩; refine ⟨_, rfl, ?_⟩; have n0_ := Aside0.mk (blk_below (g := gb212) (o := .cells #[.int .i64 t207, .int .i64 t208, .int .i64 t209] 26 (0, 0)) (by (with_reducible repeat (first | refine blk_drewN ?_ _ | refine blk_drew ?_ | refine blk_alloc ?_ _)); exact BK212.out) hb); have n1_ := Aside0.mk (below_step (by repeat (first | (with_reducible first | exact HB.out | apply below_alloc | apply pw_below_drewN | apply below_drew1 | refine below_set ?_ GE212.out) | exact HB.out)) hb); clear BK212; clear HB; have BK212 := n0_; have HB := n1_; clear n0_ n1_; (try clear hb); (try clear hb2); (try clear hk); (try clear hi); have hcz116_0 : w115.cell? ⟨gb212, 0, none⟩ = some (.int .i64 t207) := (blk_cell BK212.out 0).trans rfl; have hcz116_1 : w115.cell? ⟨gb212, 1, none⟩ = some (.int .i64 t208) := (blk_cell BK212.out 1).trans rfl; have hcz116_2 : w115.cell? ⟨gb212, 2, none⟩ = some (.int .i64 t209) := (blk_cell BK212.out 2).trans rfl; have hfz116_0 := blk_frozen BK212.out 0; have hfz116_1 := blk_frozen BK212.out 1; have hfz116_2 := blk_frozen BK212.out 2) | ((with_reducible refine gate_callee (f := 21) rfl ?_); refine goesL_ (some 129) rfl rfl Try.func21 (by kernel_rfl) rfl #[.agg #[.int .i64 t207, .int .i64 t208, .int .i64 t209], .int .i64 t211, .bool false] rfl (by (try simp only [List.map_toArray, List.map_cons, List.map_nil]); first | done | rfl | (simp only [List.length_drop, List.length_take]; rfl)) ?_; (with_reducible refine (zone_Awake.calls k3 t207 t208 t209 t211 false t228 t229 _ A60.out).mono ?_); rintro e w117 ⟨rfl, hb⟩; refine ⟨_, rfl, ?_⟩; have n0_ := Aside0.mk (blk_below (g := gb212) (o := .cells #[.int .i64 t207, .int .i64 t208, .int .i64 t209] 26 (0, 0)) (by (with_reducible repeat (first | refine blk_drewN ?_ _ | refine blk_drew ?_ | refine blk_alloc ?_ _)); exact BK212.out) hb); have n1_ := Aside0.mk (below_step (by repeat (first | (with_reducible first | exact HB.out | apply below_alloc | apply pw_below_drewN | apply below_drew1 | refine below_set ?_ GE212.out) | exact HB.out)) hb); clear BK212; clear HB; have BK212 := n0_; have HB := n1_; clear n0_ n1_; (try clear hb); (try clear hb2); (try clear hk); (try clear hi)))
                          go_ret
                          exact ⟨by first | rfl | (simp [errW_none, errW_some] <;> rfl) | (simp [*, errW_none, errW_some] <;> rfl), by repeat (first | (with_reducible first | exact HB.out | apply below_alloc | apply pw_below_drewN | apply below_drew1 | refine below_set ?_ GE212.out) | exact HB.out)⟩
                      · rw [if_neg c62] at H
                        have c62b0 : (t225 == 0) = false := beq_eq_false_iff_ne.mpr c62
                        have c62b1 : (t225 != 0) = true := bne_iff_ne.mpr c62
                        obtain rfl := Option.some.inj H
                        have hcz118_0 : wr.cell? ⟨gb212, 0, none⟩ = some (.int .i64 t207) := (blk_cell BK212.out 0).trans rfl
                        have hcz118_1 : wr.cell? ⟨gb212, 1, none⟩ = some (.int .i64 t208) := (blk_cell BK212.out 1).trans rfl
                        have hcz118_2 : wr.cell? ⟨gb212, 2, none⟩ = some (.int .i64 t209) := (blk_cell BK212.out 2).trans rfl
                        have hfz118_0 := blk_frozen BK212.out 0
                        have hfz118_1 := blk_frozen BK212.out 1
                        have hfz118_2 := blk_frozen BK212.out 2
                        go_wp2_with (first | ((with_reducible refine gate_callee (f := 20) rfl ?_); refine goesL_ (some 109) rfl rfl Try.func20 (by kernel_rfl) rfl #[.agg #[.int .i64 t207, .int .i64 t208, .int .i64 t209], .int .i64 t211] rfl (by (try simp only [List.map_toArray, List.map_cons, List.map_nil]); first | done | rfl | (simp only [List.length_drop, List.length_take]; rfl)) ?_; (with_reducible refine (zone_Level.calls k3 t207 t208 t209 t211 t222 t223 _ A57.out).mono ?_); rintro e w119 ⟨rfl, hb⟩; refine ⟨_, rfl, ?_⟩; have n0_ := Aside0.mk (blk_below (g := gb212) (o := .cells #[.int .i64 t207, .int .i64 t208, .int .i64 t209] 26 (0, 0)) (by (with_reducible repeat (first | refine blk_drewN ?_ _ | refine blk_drew ?_ | refine blk_alloc ?_ _)); exact BK212.out) hb); have n1_ := Aside0.mk (below_step (by repeat (first | (with_reducible first | exact HB.out | apply below_alloc | apply pw_below_drewN | apply below_drew1 | refine below_set ?_ GE212.out) | exact HB.out)) hb); clear BK212; clear HB; have BK212 := n0_; have HB := n1_; clear n0_ n1_; (try clear hb); (try clear hb2); (try clear hk); (try clear hi); have hcz120_0 : w119.cell? ⟨gb212, 0, none⟩ = some (.int .i64 t207) := (blk_cell BK212.out 0).trans rfl; have hcz120_1 : w119.cell? ⟨gb212, 1, none⟩ = some (.int .i64 t208) := (blk_cell BK212.out 1).trans rfl; have hcz120_2 : w119.cell? ⟨gb212, 2, none⟩ = some (.int .i64 t209) := (blk_cell BK212.out 2).trans rfl; have hfz120_0 := blk_frozen BK212.out 0; have hfz120_1 := blk_frozen BK212.out 1; have hfz120_2 := blk_frozen BK212.out 2) | ((with_reducible refine gate_callee (f := 20) rfl ?_); refine goesL_ (some 117) rfl rfl Try.func20 (by kernel_rfl) rfl #[.agg #[.int .i64 t207, .int .i64 t208, .int .i64 t209], .int .i64 (wrap64 (t211 + t213))] rfl (by (try simp only [List.map_toArray, List.map_cons, List.map_nil]); first | done | rfl | (simp only [List.length_drop, List.length_take]; rfl)) ?_; (with_reducible refine (zone_Level.calls k3 t207 t208 t209 (wrap64 (t211 + t213)) t224 t225 _ A58.out).mono ?_); rintro e w121 ⟨rfl, hb⟩; refine ⟨_, rfl, ?_⟩; have n0_ := Aside0.mk (blk_below (g := gb212) (o := .cells #[.int .i64 t207, .int .i64 t208, .int .i64 t209] 26 (0, 0)) (by (with_reducible repeat (first | refine blk_drewN ?_ _ | refine blk_drew ?_ | refine blk_alloc ?_ _)); exact BK212.out) hb); have n1_ := Aside0.mk (below_step (by repeat (first | (with_reducible first | exact HB.out | apply below_alloc | apply pw_below_drewN | apply below_drew1 | refine below_set ?_ GE212.out) | exact HB.out)) hb); clear BK212; clear HB; have BK212 := n0_; have HB := n1_; clear n0_ n1_; (try clear hb); (try clear hb2); (try clear hk); (try clear hi); have hcz122_0 : w121.cell? ⟨gb212, 0, none⟩ = some (.int .i64 t207) := (blk_cell BK212.out 0).trans rfl; have hcz122_1 : w121.cell? ⟨gb212, 1, none⟩ = some (.int .i64 t208) := (blk_cell BK212.out 1).trans rfl; have hcz122_2 : w121.cell? ⟨gb212, 2, none⟩ = some (.int .i64 t209) := (blk_cell BK212.out 2).trans rfl; have hfz122_0 := blk_frozen BK212.out 0; have hfz122_1 := blk_frozen BK212.out 1; have hfz122_2 := blk_frozen BK212.out 2) | ((with_reducible refine gate_callee (f := 21) rfl ?_); refine goesL_ (some 123) rfl rfl Try.func21 (by kernel_rfl) rfl #[.agg #[.int .i64 t207, .int .i64 t208, .int .i64 t209], .int .i64 t211, .bool true] rfl (by (try simp only [List.map_toArray, List.map_cons, List.map_nil]); first | done | rfl | (simp only [List.length_drop, List.length_take]; rfl)) ?_; (with_reducible refine (zone_Awake.calls k3 t207 t208 t209 t211 true t226 t227 _ A59.out).mono ?_); rintro e w123 ⟨rfl, hb⟩; refine ⟨_, rfl, ?_⟩; have n0_ := Aside0.mk (blk_below (g := gb212) (o := .cells #[.int .i64 t207, .int .i64 t208, .int .i64 t209] 26 (0, 0)) (by (with_reducible repeat (first | refine blk_drewN ?_ _ | refine blk_drew ?_ | refine blk_alloc ?_ _)); exact BK212.out) hb); have n1_ := Aside0.mk (below_step (by repeat (first | (with_reducible first | exact HB.out | apply below_alloc | apply pw_below_drewN | apply below_drew1 | refine below_set ?_ GE212.out) | exact HB.out)) hb); clear BK212; clear HB; have BK212 := n0_; have HB := n1_; clear n0_ n1_; (try clear hb); (try clear hb2); (try clear hk); (try clear hi); have hcz124_0 : w123.cell? ⟨gb212, 0, none⟩ = some (.int .i64 t207) := (blk_cell BK212.out 0).trans rfl; have hcz124_1 : w123.cell? ⟨gb212, 1, none⟩ = some (.int .i64 t208) := (blk_cell BK212.out 1).trans rfl; have hcz124_2 : w123.cell? ⟨gb212, 2, none⟩ = some (.int .i64 t209) := (blk_cell BK212.out 2).trans rfl; have hfz124_0 := blk_frozen BK212.out 0; have hfz124_1 := blk_frozen BK212.out 1; have hfz124_2 := blk_frozen BK212.out 2) | ((with_reducible refine gate_callee (f := 21) rfl ?_); refine goesL_ (some 129) rfl rfl Try.func21 (by kernel_rfl) rfl #[.agg #[.int .i64 t207, .int .i64 t208, .int .i64 t209], .int .i64 t211, .bool false] rfl (by (try simp only [List.map_toArray, List.map_cons, List.map_nil]); first | done | rfl | (simp only [List.length_drop, List.length_take]; rfl)) ?_; (with_reducible refine (zone_Awake.calls k3 t207 t208 t209 t211 false t228 t229 _ A60.out).mono ?_); rintro e w125 ⟨rfl, hb⟩; refine ⟨_, rfl, ?_⟩; have n0_ := Aside0.mk (blk_below (g := gb212) (o := .cells #[.int .i64 t207, .int .i64 t208, .int .i64 t209] 26 (0, 0)) (by (with_reducible repeat (first | refine blk_drewN ?_ _ | refine blk_drew ?_ | refine blk_alloc ?_ _)); exact BK212.out) hb); have n1_ := Aside0.mk (below_step (by repeat (first | (with_reducible first | exact HB.out | apply below_alloc | apply pw_below_drewN | apply below_drew1 | refine below_set ?_ GE212.out) | exact HB.out)) hb); clear BK212; clear HB; have BK212 := n0_; have HB := n1_; clear n0_ n1_; (try clear hb); (try clear hb2); (try clear hk); (try clear hi)))
                        go_ret
                        exact ⟨by first | rfl | (simp [errW_none, errW_some] <;> rfl) | (simp [*, errW_none, errW_some] <;> rfl), by repeat (first | (with_reducible first | exact HB.out | apply below_alloc | apply pw_below_drewN | apply below_drew1 | refine below_set ?_ GE212.out) | exact HB.out)⟩
                    · rw [if_neg c61] at H
                      have c61b0 : (t223 == 0) = false := beq_eq_false_iff_ne.mpr c61
                      have c61b1 : (t223 != 0) = true := bne_iff_ne.mpr c61
                      obtain rfl := Option.some.inj H
                      have hcz126_0 : wr.cell? ⟨gb212, 0, none⟩ = some (.int .i64 t207) := (blk_cell BK212.out 0).trans rfl
                      have hcz126_1 : wr.cell? ⟨gb212, 1, none⟩ = some (.int .i64 t208) := (blk_cell BK212.out 1).trans rfl
                      have hcz126_2 : wr.cell? ⟨gb212, 2, none⟩ = some (.int .i64 t209) := (blk_cell BK212.out 2).trans rfl
                      have hfz126_0 := blk_frozen BK212.out 0
                      have hfz126_1 := blk_frozen BK212.out 1
                      have hfz126_2 := blk_frozen BK212.out 2
                      go_wp2_with (first | ((with_reducible refine gate_callee (f := 20) rfl ?_); refine goesL_ (some 109) rfl rfl Try.func20 (by kernel_rfl) rfl #[.agg #[.int .i64 t207, .int .i64 t208, .int .i64 t209], .int .i64 t211] rfl (by (try simp only [List.map_toArray, List.map_cons, List.map_nil]); first | done | rfl | (simp only [List.length_drop, List.length_take]; rfl)) ?_; (with_reducible refine (zone_Level.calls k3 t207 t208 t209 t211 t222 t223 _ A57.out).mono ?_); rintro e w127 ⟨rfl, hb⟩; refine ⟨_, rfl, ?_⟩; have n0_ := Aside0.mk (blk_below (g := gb212) (o := .cells #[.int .i64 t207, .int .i64 t208, .int .i64 t209] 26 (0, 0)) (by (with_reducible repeat (first | refine blk_drewN ?_ _ | refine blk_drew ?_ | refine blk_alloc ?_ _)); exact BK212.out) hb); have n1_ := Aside0.mk (below_step (by repeat (first | (with_reducible first | exact HB.out | apply below_alloc | apply pw_below_drewN | apply below_drew1 | refine below_set ?_ GE212.out) | exact HB.out)) hb); clear BK212; clear HB; have BK212 := n0_; have HB := n1_; clear n0_ n1_; (try clear hb); (try clear hb2); (try clear hk); (try clear hi); have hcz128_0 : w127.cell? ⟨gb212, 0, none⟩ = some (.int .i64 t207) := (blk_cell BK212.out 0).trans rfl; have hcz128_1 : w127.cell? ⟨gb212, 1, none⟩ = some (.int .i64 t208) := (blk_cell BK212.out 1).trans rfl; have hcz128_2 : w127.cell? ⟨gb212, 2, none⟩ = some (.int .i64 t209) := (blk_cell BK212.out 2).trans rfl; have hfz128_0 := blk_frozen BK212.out 0; have hfz128_1 := blk_frozen BK212.out 1; have hfz128_2 := blk_frozen BK212.out 2) | ((with_reducible refine gate_callee (f := 20) rfl ?_); refine goesL_ (some 117) rfl rfl Try.func20 (by kernel_rfl) rfl #[.agg #[.int .i64 t207, .int .i64 t208, .int .i64 t209], .int .i64 (wrap64 (t211 + t213))] rfl (by (try simp only [List.map_toArray, List.map_cons, List.map_nil]); first | done | rfl | (simp only [List.length_drop, List.length_take]; rfl)) ?_; (with_reducible refine (zone_Level.calls k3 t207 t208 t209 (wrap64 (t211 + t213)) t224 t225 _ A58.out).mono ?_); rintro e w129 ⟨rfl, hb⟩; refine ⟨_, rfl, ?_⟩; have n0_ := Aside0.mk (blk_below (g := gb212) (o := .cells #[.int .i64 t207, .int .i64 t208, .int .i64 t209] 26 (0, 0)) (by (with_reducible repeat (first | refine blk_drewN ?_ _ | refine blk_drew ?_ | refine blk_alloc ?_ _)); exact BK212.out) hb); have n1_ := Aside0.mk (below_step (by repeat (first | (with_reducible first | exact HB.out | apply below_alloc | apply pw_below_drewN | apply below_drew1 | refine below_set ?_ GE212.out) | exact HB.out)) hb); clear BK212; clear HB; have BK212 := n0_; have HB := n1_; clear n0_ n1_; (try clear hb); (try clear hb2); (try clear hk); (try clear hi); have hcz130_0 : w129.cell? ⟨gb212, 0, none⟩ = some (.int .i64 t207) := (blk_cell BK212.out 0).trans rfl; have hcz130_1 : w129.cell? ⟨gb212, 1, none⟩ = some (.int .i64 t208) := (blk_cell BK212.out 1).trans rfl; have hcz130_2 : w129.cell? ⟨gb212, 2, none⟩ = some (.int .i64 t209) := (blk_cell BK212.out 2).trans rfl; have hfz130_0 := blk_frozen BK212.out 0; have hfz130_1 := blk_frozen BK212.out 1; have hfz130_2 := blk_frozen BK212.out 2) | ((with_reducible refine gate_callee (f := 21) rfl ?_); refine goesL_ (some 123) rfl rfl Try.func21 (by kernel_rfl) rfl #[.agg #[.int .i64 t207, .int .i64 t208, .int .i64 t209], .int .i64 t211, .bool true] rfl (by (try simp only [List.map_toArray, List.map_cons, List.map_nil]); first | done | rfl | (simp only [List.length_drop, List.length_take]; rfl)) ?_; (with_reducible refine (zone_Awake.calls k3 t207 t208 t209 t211 true t226 t227 _ A59.out).mono ?_); rintro e w131 ⟨rfl, hb⟩; refine ⟨_, rfl, ?_⟩; have n0_ := Aside0.mk (blk_below (g := gb212) (o := .cells #[.int .i64 t207, .int .i64 t208, .int .i64 t209] 26 (0, 0)) (by (with_reducible repeat (first | refine blk_drewN ?_ _ | refine blk_drew ?_ | refine blk_alloc ?_ _)); exact BK212.out) hb); have n1_ := Aside0.mk (below_step (by repeat (first | (with_reducible first | exact HB.out | apply below_alloc | apply pw_below_drewN | apply below_drew1 | refine below_set ?_ GE212.out) | exact HB.out)) hb); clear BK212; clear HB; have BK212 := n0_; have HB := n1_; clear n0_ n1_; (try clear hb); (try clear hb2); (try clear hk); (try clear hi); have hcz132_0 : w131.cell? ⟨gb212, 0, none⟩ = some (.int .i64 t207) := (blk_cell BK212.out 0).trans rfl; have hcz132_1 : w131.cell? ⟨gb212, 1, none⟩ = some (.int .i64 t208) := (blk_cell BK212.out 1).trans rfl; have hcz132_2 : w131.cell? ⟨gb212, 2, none⟩ = some (.int .i64 t209) := (blk_cell BK212.out 2).trans rfl; have hfz132_0 := blk_frozen BK212.out 0; have hfz132_1 := blk_frozen BK212.out 1; have hfz132_2 := blk_frozen BK212.out 2) | ((with_reducible refine gate_callee (f := 21) rfl ?_); refine goesL_ (some 129) rfl rfl Try.func21 (by kernel_rfl) rfl #[.agg #[.int .i64 t207, .int .i64 t208, .int .i64 t209], .int .i64 t211, .bool false] rfl (by (try simp only [List.map_toArray, List.map_cons, List.map_nil]); first | done | rfl | (simp only [List.length_drop, List.length_take]; rfl)) ?_; (with_reducible refine (zone_Awake.calls k3 t207 t208 t209 t211 false t228 t229 _ A60.out).mono ?_); rintro e w133 ⟨rfl, hb⟩; refine ⟨_, rfl, ?_⟩; have n0_ := Aside0.mk (blk_below (g := gb212) (o := .cells #[.int .i64 t207, .int .i64 t208, .int .i64 t209] 26 (0, 0)) (by (with_reducible repeat (first | refine blk_drewN ?_ _ | refine blk_drew ?_ | refine blk_alloc ?_ _)); exact BK212.out) hb); have n1_ := Aside0.mk (below_step (by repeat (first | (with_reducible first | exact HB.out | apply below_alloc | apply pw_below_drewN | apply below_drew1 | refine below_set ?_ GE212.out) | exact HB.out)) hb); clear BK212; clear HB; have BK212 := n0_; have HB := n1_; clear n0_ n1_; (try clear hb); (try clear hb2); (try clear hk); (try clear hi)))
                      go_ret
                      exact ⟨by first | rfl | (simp [errW_none, errW_some] <;> rfl) | (simp [*, errW_none, errW_some] <;> rfl), by repeat (first | (with_reducible first | exact HB.out | apply below_alloc | apply pw_below_drewN | apply below_drew1 | refine below_set ?_ GE212.out) | exact HB.out)⟩

/-- THE ONE PURE STATEMENT of headgatelaw10_ZoneRanks: yours. -/
def headgatelaw10_ZoneRanks.Pure : Prop := ∀ (a0 : Int) (a1 : Int), (Lit.int .i64 a0).wf = true → (Lit.int .i64 a1).wf = true → ∃ k, headgatelaw10_ZoneRanks.f k a0 a1 = some true
theorem headgatelaw10_ZoneRanks.walk (P : headgatelaw10_ZoneRanks.Pure) (a0 : Int) (a1 : Int) (w : World) (w0 : (Lit.int .i64 a0).wf = true) (w1 : (Lit.int .i64 a1).wf = true) :
    Calls Try.prog 4 #[.int .i64 a0, .int .i64 a1] w fun e w' => e = .returned (.bool true) ∧ Below w.heap.size w w' := by
  obtain ⟨k, h⟩ := P a0 a1 w0 w1
  refine (headgatelaw10_ZoneRanks.calls k a0 a1 true w h).mono ?_
  rintro e w' ⟨rfl, hd⟩
  exact ⟨rfl, hd⟩

end Go.Proofs.Ytofonnfkffbjkaa.X
