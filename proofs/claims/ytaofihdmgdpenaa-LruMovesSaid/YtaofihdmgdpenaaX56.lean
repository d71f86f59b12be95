/- What Go functions of this seat compute, told as Lean functions, and that each call of the Go code comes to that answer; for a law: its row, for every input. Written by a program of the session. -/
import Derived.Test.YtaofihdmgdpenaaX56D
import Derived.Test.YtaofihdmgdpenaaX0
import Derived.Test.YtaofihdmgdpenaaX17
import Derived.Test.YtaofihdmgdpenaaX25
import Derived.Test.YtaofihdmgdpenaaX45
import Derived.Test.YtaofihdmgdpenaaX47
import Derived.Test.YtaofihdmgdpenaaX53
namespace Go.Proofs.Ytaofihdmgdpenaa.X
open Go.RowKit Go.Proofs.YtaofihdmgdpenaaW.PrintWords Go.Proofs.YtaofihdmgdpenaaW.PrintLast Go.Proofs.YtaofihdmgdpenaaW.PrintMore
attribute [local go_sem] max2_int min2_int max_two min_two max_three min_three max_four min_four   -- for this text's walks alone
set_option linter.unusedVariables false
set_option linter.unusedSimpArgs false


set_option maxHeartbeats 2000000 in
set_option maxRecDepth 100000 in
theorem headgatelaw07_LruMoves.calls (k : Nat) (A0 : Option Addr) (c0 : Nat) (l0 : List Int) (r : Bool) (w : World) (hr0 : Kd.C (Kd.int .i64) w A0 l0.length l0) (hc0 : l0.length ≤ c0) (HT : Aside0 (r = true)) (h : headgatelaw07_LruMoves.f k l0 = some r) :
  Calls Try.prog 5 #[.slice A0 l0.length c0] w fun e w' => e = .returned (.bool r) ∧ Below w.heap.size w w' := by
 have hu25 := Try.underlying25
 have HR0 := Aside0.mk hr0
 have HC0 := Aside0.mk hc0
 clear hr0 hc0
 have HB := Aside0.mk (Below.refl w.heap.size w)
 have H : ((headgatelaw07_made.f k l0).bind fun bt507 => ((lru_Demote.f bt507.1 bt507.2.1 bt507.2.2).bind fun bt517 => (if bt517.2.2.2.2 = 0 then (if (bt517.2.1.length : Int) = 0 then (some false) else (if 0 < (bt517.2.1.length : Int) then (if (rd bt517.2.1 0) = bt517.2.2.2.1 then (if 0 ≤ (wrap64 ((bt507.1.length : Int) - 1)) then (if (wrap64 ((bt507.1.length : Int) - 1)) < (bt507.1.length : Int) then (if bt517.2.2.2.1 = (rd bt507.1 (wrap64 ((bt507.1.length : Int) - 1))) then ((headgatelaw07_without.f k bt507.1 bt517.2.2.2.1).bind fun t531 => ((headgatekit_SameInts.f k bt517.1 t531).bind fun t534 => (if t534 = true then (if 1 ≤ (bt517.2.1.length : Int) then ((headgatekit_SameInts.f k (bt517.2.1.drop 1) bt507.2.1).bind fun t539 => (if t539 = true then ((headgatelaw07_bits.f k bt517.1 bt517.2.1 bt517.2.2.1 bt507.1 bt507.2.1 bt507.2.2 bt517.2.2.2.1).bind fun t540 => (if t540 = true then (headgatelaw07_LruMoves.j0 k bt517.2.2.2.2 bt507.1 bt507.2.1 bt507.2.2) else (some false))) else (some false))) else (none)) else (some false)))) else (some false)) else (none)) else (none)) else (some false)) else (none))) else (headgatelaw07_LruMoves.j0 k bt517.2.2.2.2 bt507.1 bt507.2.1 bt507.2.2)))) = some r := h
 clear h
 replace H := Option.bind_eq_some_iff.mp H
 obtain ⟨⟨t507, t510, t513⟩, A20, H⟩ := H
 replace H : ((lru_Demote.f t507 t510 t513).bind fun bt517 => (if bt517.2.2.2.2 = 0 then (if (bt517.2.1.length : Int) = 0 then (some false) else (if 0 < (bt517.2.1.length : Int) then (if (rd bt517.2.1 0) = bt517.2.2.2.1 then (if 0 ≤ (wrap64 ((t507.length : Int) - 1)) then (if (wrap64 ((t507.length : Int) - 1)) < (t507.length : Int) then (if bt517.2.2.2.1 = (rd t507 (wrap64 ((t507.length : Int) - 1))) then ((headgatelaw07_without.f k t507 bt517.2.2.2.1).bind fun t531 => ((headgatekit_SameInts.f k bt517.1 t531).bind fun t534 => (if t534 = true then (if 1 ≤ (bt517.2.1.length : Int) then ((headgatekit_SameInts.f k (bt517.2.1.drop 1) t510).bind fun t539 => (if t539 = true then ((headgatelaw07_bits.f k bt517.1 bt517.2.1 bt517.2.2.1 t507 t510 t513 bt517.2.2.2.1).bind fun t540 => (if t540 = true then (headgatelaw07_LruMoves.j0 k bt517.2.2.2.2 t507 t510 t513) else (some false))) else (some false))) else (none)) else (some false)))) else (some false)) else (none)) else (none)) else (some false)) else (none))) else (headgatelaw07_LruMoves.j0 k bt517.2.2.2.2 t507 t510 t513))) = some r := H
 have A2 := Aside0.mk A20
 clear A20
 replace H := Option.bind_eq_some_iff.mp H
 obtain ⟨⟨t517, t520, t523, t526, t527⟩, A30, H⟩ := H
 replace H : (if t527 = 0 then (if (t520.length : Int) = 0 then (some false) else (if 0 < (t520.length : Int) then (if (rd t520 0) = t526 then (if 0 ≤ (wrap64 ((t507.length : Int) - 1)) then (if (wrap64 ((t507.length : Int) - 1)) < (t507.length : Int) then (if t526 = (rd t507 (wrap64 ((t507.length : Int) - 1))) then ((headgatelaw07_without.f k t507 t526).bind fun t531 => ((headgatekit_SameInts.f k t517 t531).bind fun t534 => (if t534 = true then (if 1 ≤ (t520.length : Int) then ((headgatekit_SameInts.f k (t520.drop 1) t510).bind fun t539 => (if t539 = true then ((headgatelaw07_bits.f k t517 t520 t523 t507 t510 t513 t526).bind fun t540 => (if t540 = true then (headgatelaw07_LruMoves.j0 k t527 t507 t510 t513) else (some false))) else (some false))) else (none)) else (some false)))) else (some false)) else (none)) else (none)) else (some false)) else (none))) else (headgatelaw07_LruMoves.j0 k t527 t507 t510 t513)) = some r := H
 have A3 := Aside0.mk A30
 clear A30
 have HC4 := Aside0.mk H
 clear H
 go_enter Try.func5, Try.ntmps5
 go_upto_if 19 with (first | ((with_reducible refine gate_callee (f := 26) rfl ?_); refine goesL_ (some 11) rfl rfl Try.func26 (by kernel_rfl) rfl #[.slice A0 l0.length c0] rfl (by (try simp only [List.map_toArray, List.map_cons, List.map_nil]); first | done | rfl | (simp only [List.length_drop, List.length_take]; rfl)) ?_; (with_reducible refine (headgatelaw07_made.calls k _ _ l0 t507 t510 t513 _ ?side1 ?side2 A2.out).mono ?_); (case side1 => repeat (first | exact HR0.out | (with_reducible refine Kd.C_alloc ?_ _) | (with_reducible refine Kd.C_drewN ?_ _) | (with_reducible refine Kd.C_drew ?_))); (case side2 => exact HC0.out); rintro e w5 ⟨v508, v511, v514, rfl, ho0, ho1, ho2, hb⟩; refine ⟨_, rfl, ?_⟩; have n0_ := Aside0.mk (Kd.R_lower ho0 (below_size (by repeat (first | (with_reducible first | exact HB.out | apply below_alloc | apply pw_below_drewN | apply below_drew1) | exact HB.out)))); have n1_ := Aside0.mk (Kd.R_lower ho1 (below_size (by repeat (first | (with_reducible first | exact HB.out | apply below_alloc | apply pw_below_drewN | apply below_drew1) | exact HB.out)))); have n2_ := Aside0.mk (Kd.R_lower ho2 (below_size (by repeat (first | (with_reducible first | exact HB.out | apply below_alloc | apply pw_below_drewN | apply below_drew1) | exact HB.out)))); have n3_ := Aside0.mk (below_step (by repeat (first | (with_reducible first | exact HB.out | apply below_alloc | apply pw_below_drewN | apply below_drew1) | exact HB.out)) hb); clear HB; have HO509 := n0_; have HO512 := n1_; have HO515 := n2_; have HB := n3_; clear n0_ n1_ n2_ n3_; (try clear hb); (try clear hb2); (try clear hk); (try clear hi); (try clear ho0); (try clear ho1); (try clear ho2)) | ((with_reducible refine gate_dst (N := 3) rfl ?_); (try (refine gate_guard (by rfl) ?_; dsimp only)); refine box_event ?hg (N := 3) ?hd (cs := #[.slice none 0 0, .slice none 0 0, .slice none 0 0]) (t := 25) ?hr ?_; (case hd => rfl); (case hg => rfl); (case hr => first | (go_simp; done) | (go_simp; rfl)); intro gb516 hg w6 hbox hb; have n0_ := Aside0.mk (Kd.R_below (by (with_reducible repeat (first | apply Kd.R_alloc | apply Kd.R_drewN | apply Kd.R_drew)); exact HO509.out) hb); have n1_ := Aside0.mk (Kd.R_below (by (with_reducible repeat (first | apply Kd.R_alloc | apply Kd.R_drewN | apply Kd.R_drew)); exact HO512.out) hb); have n2_ := Aside0.mk (Kd.R_below (by (with_reducible repeat (first | apply Kd.R_alloc | apply Kd.R_drewN | apply Kd.R_drew)); exact HO515.out) hb); have n3_ := Aside0.mk (below_step (by repeat (first | (with_reducible first | exact HB.out | apply below_alloc | apply pw_below_drewN | apply below_drew1) | exact HB.out)) hb); have n4_ := Aside0.mk (hbox); have n5_ := Aside0.mk ((by rw [hg]; exact (below_size (by repeat (first | (with_reducible first | exact HB.out | apply below_alloc | apply pw_below_drewN | apply below_drew1) | exact HB.out))) : w.heap.size ≤ gb516)); have n6_ := Aside0.mk ((by rw [hg]; exact (below_size (by repeat (first | (with_reducible first | exact HB.out | apply below_alloc | apply pw_below_drewN | apply below_drew1) | exact HB.out))) : w.heap.size ≤ gb516)); clear HO509; clear HO512; clear HO515; clear HB; have HO509 := n0_; have HO512 := n1_; have HO515 := n2_; have HB := n3_; have BK516 := n4_; have GW516 := n5_; have GE516 := n6_; clear n0_ n1_ n2_ n3_ n4_ n5_ n6_; clear hb hbox hg; obtain ⟨Ao7, co7, eo7⟩ := Kd.R_slice HO509.out; subst eo7; have hcz8_0 : w6.cell? ⟨gb516, 0, none⟩ = some (.slice none 0 0) := (blk_cell BK516.out 0).trans rfl; have hcz8_1 : w6.cell? ⟨gb516, 1, none⟩ = some (.slice none 0 0) := (blk_cell BK516.out 1).trans rfl; have hcz8_2 : w6.cell? ⟨gb516, 2, none⟩ = some (.slice none 0 0) := (blk_cell BK516.out 2).trans rfl; have hfz8_0 := blk_frozen BK516.out 0; have hfz8_1 := blk_frozen BK516.out 1; have hfz8_2 := blk_frozen BK516.out 2; obtain ⟨Ao9, co9, eo9⟩ := Kd.R_slice HO512.out; subst eo9; obtain ⟨Ao10, co10, eo10⟩ := Kd.R_slice HO515.out; subst eo10) | ((with_reducible refine gate_callee (f := 29) rfl ?_); refine goesL_ (some 14) rfl rfl Try.func29 (by kernel_rfl) rfl #[.agg #[.slice Ao7 t507.length co7, .slice Ao9 t510.length co9, .slice Ao10 t513.length co10]] rfl (by (try simp only [List.map_toArray, List.map_cons, List.map_nil]); first | done | rfl | (simp only [List.length_drop, List.length_take]; rfl)) ?_; (with_reducible refine (lru_Demote.calls _ _ t507 _ _ t510 _ _ t513 t517 t520 t523 t526 t527 _ ?side1 ?side2 ?side3 ?side4 ?side5 ?side6 A3.out).mono ?_); (case side1 => refine (Kd.R_reads' (e := 3) (base := w.heap.size) (ok := fun k_ => some k_ ≠ (.slice Ao9 t510.length co9 : Value).ownBlock) (n := t507.length) (c := co7) ?_).2.2; exact (by (with_reducible repeat (first | apply Kd.R_alloc | apply Kd.R_drewN | apply Kd.R_drew)); exact (Kd.R_mono (Kd.R_far (p := ⟨gb516, 2, none⟩) (Kd.R_far (p := ⟨gb516, 1, none⟩) (Kd.R_far (p := ⟨gb516, 0, none⟩) (Kd.R_types HO509.out BK516.out (by decide)) (fun _ hk => hk.2) (.slice Ao7 t507.length co7)) (fun _ hk => hk.2) (.slice Ao9 t510.length co9)) (fun _ hk => hk.2) (.slice Ao10 t513.length co10)) (fun _ h_ => h_.1)))); (case side2 => exact (Kd.R_reads' HO509.out).2.1); (case side3 => refine (Kd.R_reads' (e := 3) (base := w.heap.size) (ok := fun k_ => some k_ ≠ (.slice Ao7 t507.length co7 : Value).ownBlock) (n := t510.length) (c := co9) ?_).2.2; exact (by (with_reducible repeat (first | apply Kd.R_alloc | apply Kd.R_drewN | apply Kd.R_drew)); exact (Kd.R_mono (Kd.R_far (p := ⟨gb516, 2, none⟩) (Kd.R_far (p := ⟨gb516, 1, none⟩) (Kd.R_far (p := ⟨gb516, 0, none⟩) (Kd.R_types HO512.out BK516.out (by decide)) (fun _ hk => hk.2) (.slice Ao7 t507.length co7)) (fun _ hk => hk.2) (.slice Ao9 t510.length co9)) (fun _ hk => hk.2) (.slice Ao10 t513.length co10)) (fun _ h_ => h_.1)))); (case side4 => exact (Kd.R_reads' HO512.out).2.1); (case side5 => refine (Kd.R_reads' (e := 4) (base := w.heap.size) (ok := fun k_ => True) (n := t513.length) (c := co10) ?_).2.2; exact (by (with_reducible repeat (first | apply Kd.R_alloc | apply Kd.R_drewN | apply Kd.R_drew)); exact (Kd.R_mono (Kd.R_far (p := ⟨gb516, 2, none⟩) (Kd.R_far (p := ⟨gb516, 1, none⟩) (Kd.R_far (p := ⟨gb516, 0, none⟩) (Kd.R_types HO515.out BK516.out (by decide)) (fun _ hk => hk.2) (.slice Ao7 t507.length co7)) (fun _ hk => hk.2) (.slice Ao9 t510.length co9)) (fun _ hk => hk.2) (.slice Ao10 t513.length co10)) (fun _ h_ => h_.1)))); (case side6 => exact (Kd.R_reads' HO515.out).2.1); rintro e w11 ⟨v518, v521, v524, rfl, ho0, ho1, ho2, hb⟩; refine ⟨_, rfl, ?_⟩; have n0_ := Aside0.mk (Kd.R_mono (Kd.R_told (Kd.R_told (Kd.R_old (by (with_reducible repeat (first | apply Kd.R_alloc | apply Kd.R_drewN | apply Kd.R_drew)); exact (Kd.R_mono (Kd.R_far (p := ⟨gb516, 2, none⟩) (Kd.R_far (p := ⟨gb516, 1, none⟩) (Kd.R_far (p := ⟨gb516, 0, none⟩) (Kd.R_types HO509.out BK516.out (by decide)) (fun _ hk => hk.2) (.slice Ao7 t507.length co7)) (fun _ hk => hk.2) (.slice Ao9 t510.length co9)) (fun _ hk => hk.2) (.slice Ao10 t513.length co10)) (fun _ h_ => h_.1))) hb) (Kd.R_base ho0)) (Kd.R_base ho1)) (fun _ h_ => h_.1)); have n1_ := Aside0.mk (Kd.R_mono (Kd.R_told (Kd.R_told (Kd.R_old (by (with_reducible repeat (first | apply Kd.R_alloc | apply Kd.R_drewN | apply Kd.R_drew)); exact (Kd.R_mono (Kd.R_far (p := ⟨gb516, 2, none⟩) (Kd.R_far (p := ⟨gb516, 1, none⟩) (Kd.R_far (p := ⟨gb516, 0, none⟩) (Kd.R_types HO512.out BK516.out (by decide)) (fun _ hk => hk.2) (.slice Ao7 t507.length co7)) (fun _ hk => hk.2) (.slice Ao9 t510.length co9)) (fun _ hk => hk.2) (.slice Ao10 t513.length co10)) (fun _ h_ => h_.1))) hb) (Kd.R_base ho0)) (Kd.R_base ho1)) (fun _ h_ => h_.1)); have n2_ := Aside0.mk (Kd.R_elder' (by (with_reducible repeat (first | apply Kd.R_alloc | apply Kd.R_drewN | apply Kd.R_drew)); exact (Kd.R_mono (Kd.R_far (p := ⟨gb516, 2, none⟩) (Kd.R_far (p := ⟨gb516, 1, none⟩) (Kd.R_far (p := ⟨gb516, 0, none⟩) (Kd.R_types HO515.out BK516.out (by decide)) (fun _ hk => hk.2) (.slice Ao7 t507.length co7)) (fun _ hk => hk.2) (.slice Ao9 t510.length co9)) (fun _ hk => hk.2) (.slice Ao10 t513.length co10)) (fun _ h_ => h_.1))) (Kd.R_base ho2) hb); have n3_ := Aside0.mk (Kd.R_lower (Kd.R_new' (Kd.R_new' ho0 (Kd.R_lt (by (with_reducible repeat (first | apply Kd.R_alloc | apply Kd.R_drewN | apply Kd.R_drew)); exact (Kd.R_mono (Kd.R_far (p := ⟨gb516, 2, none⟩) (Kd.R_far (p := ⟨gb516, 1, none⟩) (Kd.R_far (p := ⟨gb516, 0, none⟩) (Kd.R_types HO509.out BK516.out (by decide)) (fun _ hk => hk.2) (.slice Ao7 t507.length co7)) (fun _ hk => hk.2) (.slice Ao9 t510.length co9)) (fun _ hk => hk.2) (.slice Ao10 t513.length co10)) (fun _ h_ => h_.1))))) (Kd.R_lt (by (with_reducible repeat (first | apply Kd.R_alloc | apply Kd.R_drewN | apply Kd.R_drew)); exact (Kd.R_mono (Kd.R_far (p := ⟨gb516, 2, none⟩) (Kd.R_far (p := ⟨gb516, 1, none⟩) (Kd.R_far (p := ⟨gb516, 0, none⟩) (Kd.R_types HO512.out BK516.out (by decide)) (fun _ hk => hk.2) (.slice Ao7 t507.length co7)) (fun _ hk => hk.2) (.slice Ao9 t510.length co9)) (fun _ hk => hk.2) (.slice Ao10 t513.length co10)) (fun _ h_ => h_.1))))) (below_size (by repeat (first | (with_reducible first | exact HB.out | apply below_alloc | apply pw_below_drewN | apply below_drew1 | refine below_set ?_ GE516.out) | exact HB.out)))); have n4_ := Aside0.mk (Kd.R_lower (Kd.R_new' (Kd.R_new' ho1 (Kd.R_lt (by (with_reducible repeat (first | apply Kd.R_alloc | apply Kd.R_drewN | apply Kd.R_drew)); exact (Kd.R_mono (Kd.R_far (p := ⟨gb516, 2, none⟩) (Kd.R_far (p := ⟨gb516, 1, none⟩) (Kd.R_far (p := ⟨gb516, 0, none⟩) (Kd.R_types HO509.out BK516.out (by decide)) (fun _ hk => hk.2) (.slice Ao7 t507.length co7)) (fun _ hk => hk.2) (.slice Ao9 t510.length co9)) (fun _ hk => hk.2) (.slice Ao10 t513.length co10)) (fun _ h_ => h_.1))))) (Kd.R_lt (by (with_reducible repeat (first | apply Kd.R_alloc | apply Kd.R_drewN | apply Kd.R_drew)); exact (Kd.R_mono (Kd.R_far (p := ⟨gb516, 2, none⟩) (Kd.R_far (p := ⟨gb516, 1, none⟩) (Kd.R_far (p := ⟨gb516, 0, none⟩) (Kd.R_types HO512.out BK516.out (by decide)) (fun _ hk => hk.2) (.slice Ao7 t507.length co7)) (fun _ hk => hk.2) (.slice Ao9 t510.length co9)) (fun _ hk => hk.2) (.slice Ao10 t513.length co10)) (fun _ h_ => h_.1))))) (below_size (by repeat (first | (with_reducible first | exact HB.out | apply below_alloc | apply pw_below_drewN | apply below_drew1 | refine below_set ?_ GE516.out) | exact HB.out)))); have n5_ := Aside0.mk (Kd.R_lower (Kd.R_new' ho2 (Kd.R_lt (by (with_reducible repeat (first | apply Kd.R_alloc | apply Kd.R_drewN | apply Kd.R_drew)); exact (Kd.R_mono (Kd.R_far (p := ⟨gb516, 2, none⟩) (Kd.R_far (p := ⟨gb516, 1, none⟩) (Kd.R_far (p := ⟨gb516, 0, none⟩) (Kd.R_types HO515.out BK516.out (by decide)) (fun _ hk => hk.2) (.slice Ao7 t507.length co7)) (fun _ hk => hk.2) (.slice Ao9 t510.length co9)) (fun _ hk => hk.2) (.slice Ao10 t513.length co10)) (fun _ h_ => h_.1))))) (below_size (by repeat (first | (with_reducible first | exact HB.out | apply below_alloc | apply pw_below_drewN | apply below_drew1 | refine below_set ?_ GE516.out) | exact HB.out)))); have n6_ := Aside0.mk (blk_below (g := gb516) (o := .cells #[.slice Ao7 t507.length co7, .slice Ao9 t510.length co9, .slice Ao10 t513.length co10] 25 (0, 0)) (by (with_reducible repeat (first | refine blk_drewN ?_ _ | refine blk_drew ?_ | refine blk_alloc ?_ _)); refine blk_put (cs := #[.slice Ao7 t507.length co7, .slice Ao9 t510.length co9, .slice none 0 0]) ?_ 2 _ rfl; (with_reducible repeat (first | refine blk_drewN ?_ _ | refine blk_drew ?_ | refine blk_alloc ?_ _)); refine blk_put (cs := #[.slice Ao7 t507.length co7, .slice none 0 0, .slice none 0 0]) ?_ 1 _ rfl; (with_reducible repeat (first | refine blk_drewN ?_ _ | refine blk_drew ?_ | refine blk_alloc ?_ _)); refine blk_put (cs := #[.slice none 0 0, .slice none 0 0, .slice none 0 0]) ?_ 0 _ rfl; (with_reducible repeat (first | refine blk_drewN ?_ _ | refine blk_drew ?_ | refine blk_alloc ?_ _)); exact BK516.out) hb); have n7_ := Aside0.mk (below_step (by repeat (first | (with_reducible first | exact HB.out | apply below_alloc | apply pw_below_drewN | apply below_drew1 | refine below_set ?_ GE516.out) | exact HB.out)) hb); clear HO509; clear HO512; clear HO515; clear BK516; clear HB; have HO509 := n0_; have HO512 := n1_; have HO515 := n2_; have HO519 := n3_; have HO522 := n4_; have HO525 := n5_; have BK516 := n6_; have HB := n7_; clear n0_ n1_ n2_ n3_ n4_ n5_ n6_ n7_; (try clear hb); (try clear hb2); (try clear hk); (try clear hi); (try clear ho0); (try clear ho1); (try clear ho2)) | ((with_reducible refine gate_dst (N := 4) rfl ?_); (try (refine gate_guard (by rfl) ?_; dsimp only)); refine box_event ?hg (N := 4) ?hd (cs := #[.slice none 0 0, .slice none 0 0, .slice none 0 0]) (t := 25) ?hr ?_; (case hd => rfl); (case hg => rfl); (case hr => first | (go_simp; done) | (go_simp; rfl)); intro gb528 hg w12 hbox hb; have n0_ := Aside0.mk (Kd.R_below (by (with_reducible repeat (first | apply Kd.R_alloc | apply Kd.R_drewN | apply Kd.R_drew)); exact HO509.out) hb); have n1_ := Aside0.mk (Kd.R_below (by (with_reducible repeat (first | apply Kd.R_alloc | apply Kd.R_drewN | apply Kd.R_drew)); exact HO512.out) hb); have n2_ := Aside0.mk (Kd.R_below (by (with_reducible repeat (first | apply Kd.R_alloc | apply Kd.R_drewN | apply Kd.R_drew)); exact HO515.out) hb); have n3_ := Aside0.mk (Kd.R_below (by (with_reducible repeat (first | apply Kd.R_alloc | apply Kd.R_drewN | apply Kd.R_drew)); exact HO519.out) hb); have n4_ := Aside0.mk (Kd.R_below (by (with_reducible repeat (first | apply Kd.R_alloc | apply Kd.R_drewN | apply Kd.R_drew)); exact HO522.out) hb); have n5_ := Aside0.mk (Kd.R_below (by (with_reducible repeat (first | apply Kd.R_alloc | apply Kd.R_drewN | apply Kd.R_drew)); exact HO525.out) hb); have n6_ := Aside0.mk (blk_below (g := gb516) (o := .cells #[.slice Ao7 t507.length co7, .slice Ao9 t510.length co9, .slice Ao10 t513.length co10] 25 (0, 0)) (by (with_reducible repeat (first | refine blk_drewN ?_ _ | refine blk_drew ?_ | refine blk_alloc ?_ _)); exact BK516.out) hb); have n7_ := Aside0.mk (below_step (by repeat (first | (with_reducible first | exact HB.out | apply below_alloc | apply pw_below_drewN | apply below_drew1 | refine below_set ?_ GE516.out) | exact HB.out)) hb); have n8_ := Aside0.mk (hbox); have n9_ := Aside0.mk ((by rw [hg]; exact (below_size (by repeat (first | (with_reducible first | exact HB.out | apply below_alloc | apply pw_below_drewN | apply below_drew1 | refine below_set ?_ GE516.out) | exact HB.out))) : w.heap.size ≤ gb528)); have n10_ := Aside0.mk ((by rw [hg]; exact (below_size (by repeat (first | (with_reducible first | exact HB.out | apply below_alloc | apply pw_below_drewN | apply below_drew1 | refine below_set ?_ GE516.out) | exact HB.out))) : w.heap.size ≤ gb528)); have n11_ := Aside0.mk ((by rw [hg]; exact Nat.ne_of_lt (blk_lt (g := gb516) (o := .cells #[.slice Ao7 t507.length co7, .slice Ao9 t510.length co9, .slice Ao10 t513.length co10] 25 (0, 0)) (by (with_reducible repeat (first | refine blk_drewN ?_ _ | refine blk_drew ?_ | refine blk_alloc ?_ _)); exact BK516.out)) : gb516 ≠ gb528)); have n12_ := Aside0.mk ((by rw [hg]; exact Nat.ne_of_gt (blk_lt (g := gb516) (o := .cells #[.slice Ao7 t507.length co7, .slice Ao9 t510.length co9, .slice Ao10 t513.length co10] 25 (0, 0)) (by (with_reducible repeat (first | refine blk_drewN ?_ _ | refine blk_drew ?_ | refine blk_alloc ?_ _)); exact BK516.out)) : gb528 ≠ gb516)); clear HO509; clear HO512; clear HO515; clear HO519; clear HO522; clear HO525; clear BK516; clear HB; have HO509 := n0_; have HO512 := n1_; have HO515 := n2_; have HO519 := n3_; have HO522 := n4_; have HO525 := n5_; have BK516 := n6_; have HB := n7_; have BK528 := n8_; have GW528 := n9_; have GE528 := n10_; have NB516_528 := n11_; have NB528_516 := n12_; clear n0_ n1_ n2_ n3_ n4_ n5_ n6_ n7_ n8_ n9_ n10_ n11_ n12_; clear hb hbox hg; obtain ⟨Ao13, co13, eo13⟩ := Kd.R_slice HO519.out; subst eo13; have hnb14 := NB528_516.out; have hnc14 := NB516_528.out; have hcz15_0 : w12.cell? ⟨gb528, 0, none⟩ = some (.slice none 0 0) := (blk_cell BK528.out 0).trans rfl; have hcz15_1 : w12.cell? ⟨gb528, 1, none⟩ = some (.slice none 0 0) := (blk_cell BK528.out 1).trans rfl; have hcz15_2 : w12.cell? ⟨gb528, 2, none⟩ = some (.slice none 0 0) := (blk_cell BK528.out 2).trans rfl; have hfz15_0 := blk_frozen BK528.out 0; have hfz15_1 := blk_frozen BK528.out 1; have hfz15_2 := blk_frozen BK528.out 2; obtain ⟨Ao16, co16, eo16⟩ := Kd.R_slice HO522.out; subst eo16; obtain ⟨Ao17, co17, eo17⟩ := Kd.R_slice HO525.out; subst eo17))
 (try simp only [Act.put, List.setIfInBounds_toArray, List.set_cons_zero, List.set_cons_succ])
 go_cut [] (fun wc => ∃ (kq : Nat), Aside0 (headgatelaw07_LruMoves.j0 kq t527 t507 t510 t513 = some r) ∧ Aside0 (kq ≤ k) ∧ Aside0 (Kd.R (Kd.int .i64) 3 wc w.heap.size (fun k_ => some k_ ≠ ((.slice Ao9 t510.length co9) : Value).ownBlock ∧ some k_ ≠ ((.slice Ao13 t517.length co13) : Value).ownBlock ∧ some k_ ≠ ((.slice Ao16 t520.length co16) : Value).ownBlock) (.slice Ao7 t507.length co7) t507) ∧ Aside0 (Kd.R (Kd.int .i64) 3 wc w.heap.size (fun k_ => some k_ ≠ ((.slice Ao7 t507.length co7) : Value).ownBlock ∧ some k_ ≠ ((.slice Ao13 t517.length co13) : Value).ownBlock ∧ some k_ ≠ ((.slice Ao16 t520.length co16) : Value).ownBlock) (.slice Ao9 t510.length co9) t510) ∧ Aside0 (Kd.R Kd.bool 4 wc w.heap.size (fun k_ => some k_ ≠ ((.slice Ao17 t523.length co17) : Value).ownBlock) (.slice Ao10 t513.length co10) t513) ∧ Aside0 (Kd.R (Kd.int .i64) 3 wc w.heap.size (fun k_ => some k_ ≠ ((.slice Ao7 t507.length co7) : Value).ownBlock ∧ some k_ ≠ ((.slice Ao9 t510.length co9) : Value).ownBlock ∧ some k_ ≠ ((.slice Ao16 t520.length co16) : Value).ownBlock) (.slice Ao13 t517.length co13) t517) ∧ Aside0 (Kd.R (Kd.int .i64) 3 wc w.heap.size (fun k_ => some k_ ≠ ((.slice Ao7 t507.length co7) : Value).ownBlock ∧ some k_ ≠ ((.slice Ao9 t510.length co9) : Value).ownBlock ∧ some k_ ≠ ((.slice Ao13 t517.length co13) : Value).ownBlock) (.slice Ao16 t520.length co16) t520) ∧ Aside0 (Kd.R Kd.bool 4 wc w.heap.size (fun k_ => some k_ ≠ ((.slice Ao10 t513.length co10) : Value).ownBlock) (.slice Ao17 t523.length co17) t523) ∧ Aside0 (wc.heap[gb516]? = some (.cells #[(.slice Ao7 t507.length co7), (.slice Ao9 t510.length co9), (.slice Ao10 t513.length co10)] 25 (0, 0))) ∧ Aside0 (wc.heap[gb528]? = some (.cells #[(.slice Ao13 t517.length co13), (.slice Ao16 t520.length co16), (.slice Ao17 t523.length co17)] 25 (0, 0))) ∧ Aside0 (Below w.heap.size w wc))
 case first => as_aux_lemma =>
  have H := HC4.out
  clear HC4
  by_cases c18 : t527 = 0
  ·
   rw [if_pos c18] at H
   have c18b0 : (t527 == 0) = true := beq_iff_eq.mpr c18
   have c18b1 : (t527 != 0) = false := bne_eq_false_iff_eq.mpr c18
   clear c18
   (first | rw [c18b0] | (simp only [i64_w, i32_w]; rw [c18b0]) | skip)
   by_cases c19 : (t520.length : Int) = 0
   ·
    rw [if_pos c19] at H
    have c19b0 : ((t520.length : Int) == 0) = true := beq_iff_eq.mpr c19
    have c19b1 : ((t520.length : Int) != 0) = false := bne_eq_false_iff_eq.mpr c19
    clear c19
    exact absurd H (by rw [HT.out]; simp)
   ·
    rw [if_neg c19] at H
    have c19b0 : ((t520.length : Int) == 0) = false := beq_eq_false_iff_ne.mpr c19
    have c19b1 : ((t520.length : Int) != 0) = true := bne_iff_ne.mpr c19
    have c19b2 : ¬ (t520 = []) := fun h_ => c19 (by rw [h_]; rfl)
    by_cases c20 : 0 < (t520.length : Int)
    ·
     rw [if_pos c20] at H
     have c20b0 : decide (0 < (t520.length : Int)) = true := decide_eq_true c20
     have c20b1 : decide (0 < t520.length) = true := decide_eq_true (by omega)
     clear c20
     by_cases c21 : (rd t520 0) = t526
     ·
      rw [if_pos c21] at H
      have c21b0 : ((rd t520 0) == t526) = true := beq_iff_eq.mpr c21
      have c21b1 : ((rd t520 0) != t526) = false := bne_eq_false_iff_eq.mpr c21
      clear c21
      obtain ⟨ji22, hji22⟩ : ∃ j_ : Int, (wrap64 ((t507.length : Int) - 1)) = j_ := ⟨_, rfl⟩
      replace H : (if 0 ≤ (ji22) then (if (ji22) < (t507.length : Int) then (if t526 = (rd t507 (ji22)) then ((headgatelaw07_without.f k t507 t526).bind fun t531 => ((headgatekit_SameInts.f k t517 t531).bind fun t534 => (if t534 = true then (if 1 ≤ (t520.length : Int) then ((headgatekit_SameInts.f k (t520.drop 1) t510).bind fun t539 => (if t539 = true then ((headgatelaw07_bits.f k t517 t520 t523 t507 t510 t513 t526).bind fun t540 => (if t540 = true then (headgatelaw07_LruMoves.j0 k t527 t507 t510 t513) else (some false))) else (some false))) else (none)) else (some false)))) else (some false)) else (none)) else (none)) = some r := by first | (rw [hji22] at H; exact H) | (simp only [hji22] at H ⊢; exact H)
      have hji22w : (IntKind.i64.wrap ((t507.length : Int) - 1)) = ji22 := (i64_w _).trans hji22
      by_cases c23 : 0 ≤ (ji22)
      ·
       rw [if_pos c23] at H
       have c23b0 : decide (0 ≤ (ji22)) = true := decide_eq_true c23
       clear c23
       by_cases c24 : (ji22) < (t507.length : Int)
       ·
        rw [if_pos c24] at H
        have c24b0 : decide ((ji22) < (t507.length : Int)) = true := decide_eq_true c24
        clear c24
        by_cases c25 : t526 = (rd t507 (ji22))
        ·
         rw [if_pos c25] at H
         have c25b0 : (t526 == (rd t507 (ji22))) = true := beq_iff_eq.mpr c25
         have c25b1 : (t526 != (rd t507 (ji22))) = false := bne_eq_false_iff_eq.mpr c25
         clear c25
         replace H := Option.bind_eq_some_iff.mp H
         obtain ⟨t531, A260, H⟩ := H
         replace H : ((headgatekit_SameInts.f k t517 t531).bind fun t534 => (if t534 = true then (if 1 ≤ (t520.length : Int) then ((headgatekit_SameInts.f k (t520.drop 1) t510).bind fun t539 => (if t539 = true then ((headgatelaw07_bits.f k t517 t520 t523 t507 t510 t513 t526).bind fun t540 => (if t540 = true then (headgatelaw07_LruMoves.j0 k t527 t507 t510 t513) else (some false))) else (some false))) else (none)) else (some false))) = some r := H
         have A26 := Aside0.mk A260
         clear A260
         replace H := Option.bind_eq_some_iff.mp H
         obtain ⟨t534, A270, H⟩ := H
         replace H : (if t534 = true then (if 1 ≤ (t520.length : Int) then ((headgatekit_SameInts.f k (t520.drop 1) t510).bind fun t539 => (if t539 = true then ((headgatelaw07_bits.f k t517 t520 t523 t507 t510 t513 t526).bind fun t540 => (if t540 = true then (headgatelaw07_LruMoves.j0 k t527 t507 t510 t513) else (some false))) else (some false))) else (none)) else (some false)) = some r := H
         have A27 := Aside0.mk A270
         clear A270
         by_cases c28 : t534 = true
         ·
          subst c28
          have H1 : (if 1 ≤ (t520.length : Int) then ((headgatekit_SameInts.f k (t520.drop 1) t510).bind fun t539 => (if t539 = true then ((headgatelaw07_bits.f k t517 t520 t523 t507 t510 t513 t526).bind fun t540 => (if t540 = true then (headgatelaw07_LruMoves.j0 k t527 t507 t510 t513) else (some false))) else (some false))) else (none)) = some r := by rw [if_pos rfl] at H; exact H
          clear H
          have H := H1
          clear H1
          by_cases c29 : 1 ≤ (t520.length : Int)
          ·
           rw [if_pos c29] at H
           have c29b0 := eq_true c29
           have c29b1 : decide (1 ≤ (t520.length : Int)) = true := decide_eq_true c29
           clear c29
           obtain ⟨y535, hy535⟩ : ∃ y_ : List Int, y_ = (t520.drop 1) := ⟨_, rfl⟩
           replace H : ((headgatekit_SameInts.f k y535 t510).bind fun t539 => (if t539 = true then ((headgatelaw07_bits.f k t517 t520 t523 t507 t510 t513 t526).bind fun t540 => (if t540 = true then (headgatelaw07_LruMoves.j0 k t527 t507 t510 t513) else (some false))) else (some false))) = some r := by first | (rw [hy535]; with_reducible exact H) | (have H2_ := (Option.bind_some _ _).symm.trans H; rw [hy535]; with_reducible exact H2_) | (have H2_ := (Option.bind_some _ _).symm.trans H; with_reducible exact H2_) | with_reducible exact H | (rw [hy535]; exact H) | exact H
           have Ny535 := Aside0.mk hy535
           clear hy535
           replace H := Option.bind_eq_some_iff.mp H
           obtain ⟨t539, A300, H⟩ := H
           replace H : (if t539 = true then ((headgatelaw07_bits.f k t517 t520 t523 t507 t510 t513 t526).bind fun t540 => (if t540 = true then (headgatelaw07_LruMoves.j0 k t527 t507 t510 t513) else (some false))) else (some false)) = some r := H
           have A30 := Aside0.mk A300
           clear A300
           by_cases c31 : t539 = true
           ·
            subst c31
            have H1 : ((headgatelaw07_bits.f k t517 t520 t523 t507 t510 t513 t526).bind fun t540 => (if t540 = true then (headgatelaw07_LruMoves.j0 k t527 t507 t510 t513) else (some false))) = some r := by rw [if_pos rfl] at H; exact H
            clear H
            have H := H1
            clear H1
            replace H := Option.bind_eq_some_iff.mp H
            obtain ⟨t540, A320, H⟩ := H
            replace H : (if t540 = true then (headgatelaw07_LruMoves.j0 k t527 t507 t510 t513) else (some false)) = some r := H
            have A32 := Aside0.mk A320
            clear A320
            by_cases c33 : t540 = true
            · as_aux_lemma =>
             subst c33
             have H1 : (headgatelaw07_LruMoves.j0 k t527 t507 t510 t513) = some r := by rw [if_pos rfl] at H; exact H
             clear H
             have H := H1
             clear H1
             have H' := Aside0.mk H
             clear H
             try go_wp2
             have n0_ : Aside0 (Kd.R (Kd.int .i64) 3 (((w12.setCell ⟨gb528, 0, none⟩ (.slice Ao13 t517.length co13)).setCell ⟨gb528, 1, none⟩ (.slice Ao16 t520.length co16)).setCell ⟨gb528, 2, none⟩ (.slice Ao17 t523.length co17)) w.heap.size (fun k_ => some k_ ≠ (.slice Ao9 t510.length co9 : Value).ownBlock ∧ some k_ ≠ (.slice Ao13 t517.length co13 : Value).ownBlock ∧ some k_ ≠ (.slice Ao16 t520.length co16 : Value).ownBlock) (.slice Ao7 t507.length co7) t507) := ⟨by (with_reducible repeat (first | apply Kd.R_alloc | apply Kd.R_drewN | apply Kd.R_drew)); exact Kd.R_mono (Kd.R_far (p := ⟨gb528, 2, none⟩) (Kd.R_far (p := ⟨gb528, 1, none⟩) (Kd.R_far (p := ⟨gb528, 0, none⟩) (Kd.R_types HO509.out BK528.out (by decide)) (fun _ hk => hk.2) (.slice Ao13 t517.length co13)) (fun _ hk => hk.2) (.slice Ao16 t520.length co16)) (fun _ hk => hk.2) (.slice Ao17 t523.length co17)) (fun _ hk => ⟨hk.1.1.1, ⟨hk.1.1.2, hk.1.2⟩⟩)⟩
             have n1_ : Aside0 (Kd.R (Kd.int .i64) 3 (((w12.setCell ⟨gb528, 0, none⟩ (.slice Ao13 t517.length co13)).setCell ⟨gb528, 1, none⟩ (.slice Ao16 t520.length co16)).setCell ⟨gb528, 2, none⟩ (.slice Ao17 t523.length co17)) w.heap.size (fun k_ => some k_ ≠ (.slice Ao7 t507.length co7 : Value).ownBlock ∧ some k_ ≠ (.slice Ao13 t517.length co13 : Value).ownBlock ∧ some k_ ≠ (.slice Ao16 t520.length co16 : Value).ownBlock) (.slice Ao9 t510.length co9) t510) := ⟨by (with_reducible repeat (first | apply Kd.R_alloc | apply Kd.R_drewN | apply Kd.R_drew)); exact Kd.R_mono (Kd.R_far (p := ⟨gb528, 2, none⟩) (Kd.R_far (p := ⟨gb528, 1, none⟩) (Kd.R_far (p := ⟨gb528, 0, none⟩) (Kd.R_types HO512.out BK528.out (by decide)) (fun _ hk => hk.2) (.slice Ao13 t517.length co13)) (fun _ hk => hk.2) (.slice Ao16 t520.length co16)) (fun _ hk => hk.2) (.slice Ao17 t523.length co17)) (fun _ hk => ⟨hk.1.1.1, ⟨hk.1.1.2, hk.1.2⟩⟩)⟩
             have n2_ : Aside0 (Kd.R Kd.bool 4 (((w12.setCell ⟨gb528, 0, none⟩ (.slice Ao13 t517.length co13)).setCell ⟨gb528, 1, none⟩ (.slice Ao16 t520.length co16)).setCell ⟨gb528, 2, none⟩ (.slice Ao17 t523.length co17)) w.heap.size (fun k_ => some k_ ≠ (.slice Ao17 t523.length co17 : Value).ownBlock) (.slice Ao10 t513.length co10) t513) := ⟨by (with_reducible repeat (first | apply Kd.R_alloc | apply Kd.R_drewN | apply Kd.R_drew)); exact Kd.R_mono (Kd.R_far (p := ⟨gb528, 2, none⟩) (Kd.R_far (p := ⟨gb528, 1, none⟩) (Kd.R_far (p := ⟨gb528, 0, none⟩) (Kd.R_types HO515.out BK528.out (by decide)) (fun _ hk => hk.2) (.slice Ao13 t517.length co13)) (fun _ hk => hk.2) (.slice Ao16 t520.length co16)) (fun _ hk => hk.2) (.slice Ao17 t523.length co17)) (fun _ hk => hk.1.2)⟩
             have n3_ : Aside0 (Kd.R (Kd.int .i64) 3 (((w12.setCell ⟨gb528, 0, none⟩ (.slice Ao13 t517.length co13)).setCell ⟨gb528, 1, none⟩ (.slice Ao16 t520.length co16)).setCell ⟨gb528, 2, none⟩ (.slice Ao17 t523.length co17)) w.heap.size (fun k_ => some k_ ≠ (.slice Ao7 t507.length co7 : Value).ownBlock ∧ some k_ ≠ (.slice Ao9 t510.length co9 : Value).ownBlock ∧ some k_ ≠ (.slice Ao16 t520.length co16 : Value).ownBlock) (.slice Ao13 t517.length co13) t517) := ⟨by (with_reducible repeat (first | apply Kd.R_alloc | apply Kd.R_drewN | apply Kd.R_drew)); exact Kd.R_mono (Kd.R_far (p := ⟨gb528, 2, none⟩) (Kd.R_far (p := ⟨gb528, 1, none⟩) (Kd.R_far (p := ⟨gb528, 0, none⟩) (Kd.R_types HO519.out BK528.out (by decide)) (fun _ hk => hk.2) (.slice Ao13 t517.length co13)) (fun _ hk => hk.2) (.slice Ao16 t520.length co16)) (fun _ hk => hk.2) (.slice Ao17 t523.length co17)) (fun _ hk => ⟨hk.1.1.2, ⟨hk.1.2, hk.1.1.1⟩⟩)⟩
             have n4_ : Aside0 (Kd.R (Kd.int .i64) 3 (((w12.setCell ⟨gb528, 0, none⟩ (.slice Ao13 t517.length co13)).setCell ⟨gb528, 1, none⟩ (.slice Ao16 t520.length co16)).setCell ⟨gb528, 2, none⟩ (.slice Ao17 t523.length co17)) w.heap.size (fun k_ => some k_ ≠ (.slice Ao7 t507.length co7 : Value).ownBlock ∧ some k_ ≠ (.slice Ao9 t510.length co9 : Value).ownBlock ∧ some k_ ≠ (.slice Ao13 t517.length co13 : Value).ownBlock) (.slice Ao16 t520.length co16) t520) := ⟨by (with_reducible repeat (first | apply Kd.R_alloc | apply Kd.R_drewN | apply Kd.R_drew)); exact Kd.R_mono (Kd.R_far (p := ⟨gb528, 2, none⟩) (Kd.R_far (p := ⟨gb528, 1, none⟩) (Kd.R_far (p := ⟨gb528, 0, none⟩) (Kd.R_types HO522.out BK528.out (by decide)) (fun _ hk => hk.2) (.slice Ao13 t517.length co13)) (fun _ hk => hk.2) (.slice Ao16 t520.length co16)) (fun _ hk => hk.2) (.slice Ao17 t523.length co17)) (fun _ hk => ⟨hk.1.1.2, ⟨hk.1.2, hk.1.1.1⟩⟩)⟩
             have n5_ : Aside0 (Kd.R Kd.bool 4 (((w12.setCell ⟨gb528, 0, none⟩ (.slice Ao13 t517.length co13)).setCell ⟨gb528, 1, none⟩ (.slice Ao16 t520.length co16)).setCell ⟨gb528, 2, none⟩ (.slice Ao17 t523.length co17)) w.heap.size (fun k_ => some k_ ≠ (.slice Ao10 t513.length co10 : Value).ownBlock) (.slice Ao17 t523.length co17) t523) := ⟨by (with_reducible repeat (first | apply Kd.R_alloc | apply Kd.R_drewN | apply Kd.R_drew)); exact Kd.R_mono (Kd.R_far (p := ⟨gb528, 2, none⟩) (Kd.R_far (p := ⟨gb528, 1, none⟩) (Kd.R_far (p := ⟨gb528, 0, none⟩) (Kd.R_types HO525.out BK528.out (by decide)) (fun _ hk => hk.2) (.slice Ao13 t517.length co13)) (fun _ hk => hk.2) (.slice Ao16 t520.length co16)) (fun _ hk => hk.2) (.slice Ao17 t523.length co17)) (fun _ hk => hk.1.2)⟩
             have n6_ : Aside0 ((((w12.setCell ⟨gb528, 0, none⟩ (.slice Ao13 t517.length co13)).setCell ⟨gb528, 1, none⟩ (.slice Ao16 t520.length co16)).setCell ⟨gb528, 2, none⟩ (.slice Ao17 t523.length co17)).heap[gb516]? = some (.cells #[.slice Ao7 t507.length co7, .slice Ao9 t510.length co9, .slice Ao10 t513.length co10] 25 (0, 0))) := ⟨by (with_reducible repeat (first | refine blk_drewN ?_ _ | refine blk_drew ?_ | refine blk_alloc ?_ _)); refine blk_far ?_ NB516_528.out _; (with_reducible repeat (first | refine blk_drewN ?_ _ | refine blk_drew ?_ | refine blk_alloc ?_ _)); refine blk_far ?_ NB516_528.out _; (with_reducible repeat (first | refine blk_drewN ?_ _ | refine blk_drew ?_ | refine blk_alloc ?_ _)); refine blk_far ?_ NB516_528.out _; (with_reducible repeat (first | refine blk_drewN ?_ _ | refine blk_drew ?_ | refine blk_alloc ?_ _)); exact BK516.out⟩
             have n7_ : Aside0 ((((w12.setCell ⟨gb528, 0, none⟩ (.slice Ao13 t517.length co13)).setCell ⟨gb528, 1, none⟩ (.slice Ao16 t520.length co16)).setCell ⟨gb528, 2, none⟩ (.slice Ao17 t523.length co17)).heap[gb528]? = some (.cells #[.slice Ao13 t517.length co13, .slice Ao16 t520.length co16, .slice Ao17 t523.length co17] 25 (0, 0))) := ⟨by (with_reducible repeat (first | refine blk_drewN ?_ _ | refine blk_drew ?_ | refine blk_alloc ?_ _)); refine blk_put (cs := #[.slice Ao13 t517.length co13, .slice Ao16 t520.length co16, .slice none 0 0]) ?_ 2 _ rfl; (with_reducible repeat (first | refine blk_drewN ?_ _ | refine blk_drew ?_ | refine blk_alloc ?_ _)); refine blk_put (cs := #[.slice Ao13 t517.length co13, .slice none 0 0, .slice none 0 0]) ?_ 1 _ rfl; (with_reducible repeat (first | refine blk_drewN ?_ _ | refine blk_drew ?_ | refine blk_alloc ?_ _)); refine blk_put (cs := #[.slice none 0 0, .slice none 0 0, .slice none 0 0]) ?_ 0 _ rfl; (with_reducible repeat (first | refine blk_drewN ?_ _ | refine blk_drew ?_ | refine blk_alloc ?_ _)); exact BK528.out⟩
             have n8_ : Aside0 (Below w.heap.size w (((w12.setCell ⟨gb528, 0, none⟩ (.slice Ao13 t517.length co13)).setCell ⟨gb528, 1, none⟩ (.slice Ao16 t520.length co16)).setCell ⟨gb528, 2, none⟩ (.slice Ao17 t523.length co17))) := ⟨by repeat (first | (with_reducible first | exact HB.out | apply below_alloc | apply pw_below_drewN | apply below_drew1 | refine below_set ?_ GE516.out | refine below_set ?_ GE528.out) | exact HB.out)⟩
             (try clear HO509)
             (try clear HO512)
             (try clear HO515)
             (try clear HO519)
             (try clear HO522)
             (try clear HO525)
             (try clear BK516)
             (try clear BK528)
             (try clear HB)
             generalize (((w12.setCell ⟨gb528, 0, none⟩ (.slice Ao13 t517.length co13)).setCell ⟨gb528, 1, none⟩ (.slice Ao16 t520.length co16)).setCell ⟨gb528, 2, none⟩ (.slice Ao17 t523.length co17)) = w34 at n0_ n1_ n2_ n3_ n4_ n5_ n6_ n7_ n8_ ⊢
             have HO509 := n0_
             have HO512 := n1_
             have HO515 := n2_
             have HO519 := n3_
             have HO522 := n4_
             have HO525 := n5_
             have BK516 := n6_
             have BK528 := n7_
             have HB := n8_
             clear n0_ n1_ n2_ n3_ n4_ n5_ n6_ n7_ n8_
             have n0_ := Aside0.mk (Kd.R_drew HO509.out)
             have n1_ := Aside0.mk (Kd.R_drew HO512.out)
             have n2_ := Aside0.mk (Kd.R_drew HO515.out)
             have n3_ := Aside0.mk (Kd.R_drew HO519.out)
             have n4_ := Aside0.mk (Kd.R_drew HO522.out)
             have n5_ := Aside0.mk (Kd.R_drew HO525.out)
             have n6_ := Aside0.mk (blk_drew BK516.out)
             have n7_ := Aside0.mk (blk_drew BK528.out)
             have n8_ := Aside0.mk (below_drew1 HB.out)
             clear HO509
             clear HO512
             clear HO515
             clear HO519
             clear HO522
             clear HO525
             clear BK516
             clear BK528
             clear HB
             have HO509 := n0_
             have HO512 := n1_
             have HO515 := n2_
             have HO519 := n3_
             have HO522 := n4_
             have HO525 := n5_
             have BK516 := n6_
             have BK528 := n7_
             have HB := n8_
             clear n0_ n1_ n2_ n3_ n4_ n5_ n6_ n7_ n8_
             have p529 : 0 ≤ (0 : Int) := (by omega)
             have q529 : 0 < (t520.length : Int) := of_decide_eq_true (by first | (with_reducible assumption) | assumption)
             obtain ⟨ad529, e529, hx529_0⟩ := Kd.at_int (Kd.R_reads' HO522.out).2.2 0 p529 q529
             cases e529
             have qi529 : (0 < t520.length) = True := eq_true (by omega)
             (try rw [show ((0 : Int)).toNat = 0 from rfl] at hx529_0)
             (try rw [Addr.add_zero'] at hx529_0)
             replace p529 := eq_true p529
             replace q529 := eq_true q529
             have p530 : 0 ≤ ((ji22) : Int) := of_decide_eq_true (by first | (with_reducible assumption) | assumption)
             have q530 : (ji22) < (t507.length : Int) := of_decide_eq_true (by first | (with_reducible assumption) | assumption)
             obtain ⟨ad530, e530, hx530_0⟩ := Kd.at_int (Kd.R_reads' HO509.out).2.2 (ji22) p530 q530
             cases e530
             replace p530 := eq_true p530
             replace q530 := eq_true q530
             refine start_ (n := 50) (S := fun w' => w'.cell? ⟨gb528, 0, none⟩ = some (.slice Ao13 t517.length co13) ∧ w'.cell? ⟨gb528, 1, none⟩ = some (.slice (some ad529) t520.length co16) ∧ w'.cell? ⟨gb528, 2, none⟩ = some (.slice Ao17 t523.length co17) ∧ w'.cell? ⟨gb516, 0, none⟩ = some (.slice (some ad530) t507.length co7) ∧ w'.cell? ⟨gb516, 1, none⟩ = some (.slice Ao9 t510.length co9) ∧ w'.cell? ⟨gb516, 2, none⟩ = some (.slice Ao10 t513.length co10) ∧ w'.cell? ad529 = some (.int .i64 (rd t520 0)) ∧ w'.cell? (ad530.add ((ji22)).toNat) = some (.int .i64 (rd t507 (ji22)))) (ds := []) #[false, false, false, false, false, false, false, false, false, false, false, false, false, false, false, false, false, false, false, false, false, false, false, false, false, false, false, false, false, false, false, false, false, false, false, false, false, false, false, false, false, false, false, false, false, false, false, false, false, false] (by kernel_rfl) rfl rfl ⟨(blk_cell BK528.out 0).trans rfl, (blk_cell BK528.out 1).trans rfl, (blk_cell BK528.out 2).trans rfl, (blk_cell BK516.out 0).trans rfl, (blk_cell BK516.out 1).trans rfl, (blk_cell BK516.out 2).trans rfl, hx529_0, hx530_0⟩ (fun hHeld => ?_); refine with_tabW headgatelaw07_LruMoves.tab4 headgatelaw07_LruMoves.bits4 (fun HT_ HW_ => ?_)
             generalize w34.drew = w35 at HO509 HO512 HO515 HO519 HO522 HO525 BK516 BK528 HB hx529_0 hx530_0 hHeld ⊢
             refine pure_ (i := 0) (N := some 20) (v := ?_) (a' := ?_) #[true, false, false, false, false, false, false, false, false, false, false, false, false, false, false, false, false, false, false, false, false, false, false, false, false, false, false, false, false, false, false, false, false, false, false, false, false, false, false, false, false, false, false, false, false, false, false, false, false, false] rfl rfl (any_of HT_.out (by kernel_rfl)) (fun _ _ _ h => h) (Or.inl ⟨by rfl, ?_⟩) ?_ ?_
             rotate_left
             ·
              intro w'
              go_simp
              with_reducible rfl
             rotate_left
             ·
              simp only [Act.put, List.setIfInBounds_toArray, List.set_cons_zero, List.set_cons_succ, i64_w, i32_w]
              rfl
             refine take_ (i := 1) (N := some 21) (v := ?_) (a' := ?_) #[true, true, false, false, false, false, false, false, false, false, false, false, false, false, false, false, false, false, false, false, false, false, false, false, false, false, false, false, false, false, false, false, false, false, false, false, false, false, false, false, false, false, false, false, false, false, false, false, false, false] rfl rfl (take_ofW HT_.out HW_.out (by kernel_rfl)) (fun _ _ _ h => h) (Or.inl ⟨by rfl, ?_⟩) hHeld ?_ ?_
             rotate_left
             ·
              rintro w' ⟨s0, s1, s2, s3, s4, s5, s6, s7⟩
              go_simp
              with_reducible rfl
             rotate_left
             ·
              simp only [Act.put, List.setIfInBounds_toArray, List.set_cons_zero, List.set_cons_succ, i64_w, i32_w]
              rfl
             refine pure_ (i := 2) (N := some 22) (v := ?_) (a' := ?_) #[true, true, true, false, false, false, false, false, false, false, false, false, false, false, false, false, false, false, false, false, false, false, false, false, false, false, false, false, false, false, false, false, false, false, false, false, false, false, false, false, false, false, false, false, false, false, false, false, false, false] rfl rfl (any_of HT_.out (by kernel_rfl)) (fun _ _ _ h => h) (Or.inl ⟨by rfl, ?_⟩) ?_ ?_
             rotate_left
             ·
              intro w'
              go_simp
              with_reducible rfl
             rotate_left
             ·
              simp only [Act.put, List.setIfInBounds_toArray, List.set_cons_zero, List.set_cons_succ, i64_w, i32_w]
              rfl
             refine pure_ (i := 3) (N := some 23) (v := ?_) (a' := ?_) #[true, true, true, true, false, false, false, false, false, false, false, false, false, false, false, false, false, false, false, false, false, false, false, false, false, false, false, false, false, false, false, false, false, false, false, false, false, false, false, false, false, false, false, false, false, false, false, false, false, false] rfl rfl (any_of HT_.out (by kernel_rfl)) (fun _ _ _ h => h) (Or.inl ⟨by rfl, ?_⟩) ?_ ?_
             rotate_left
             ·
              intro w'
              go_simp
              with_reducible rfl
             rotate_left
             ·
              simp only [Act.put, List.setIfInBounds_toArray, List.set_cons_zero, List.set_cons_succ, i64_w, i32_w]
              rfl
             refine pure_ (i := 4) (N := some 24) (v := ?_) (a' := ?_) #[true, true, true, true, true, false, false, false, false, false, false, false, false, false, false, false, false, false, false, false, false, false, false, false, false, false, false, false, false, false, false, false, false, false, false, false, false, false, false, false, false, false, false, false, false, false, false, false, false, false] rfl rfl (any_of HT_.out (by kernel_rfl)) (fun _ _ _ h => h) (Or.inl ⟨by rfl, ?_⟩) ?_ ?_
             rotate_left
             ·
              intro w'
              go_simp
              with_reducible rfl
             rotate_left
             ·
              simp only [Act.put, List.setIfInBounds_toArray, List.set_cons_zero, List.set_cons_succ, i64_w, i32_w]
              rfl
             refine pure_ (i := 5) (N := some 25) (v := ?_) (a' := ?_) #[true, true, true, true, true, true, false, false, false, false, false, false, false, false, false, false, false, false, false, false, false, false, false, false, false, false, false, false, false, false, false, false, false, false, false, false, false, false, false, false, false, false, false, false, false, false, false, false, false, false] rfl rfl (any_of HT_.out (by kernel_rfl)) (fun _ _ _ h => h) (Or.inl ⟨by rfl, ?_⟩) ?_ ?_
             rotate_left
             ·
              intro w'
              go_simp
              with_reducible rfl
             rotate_left
             ·
              simp only [Act.put, List.setIfInBounds_toArray, List.set_cons_zero, List.set_cons_succ, i64_w, i32_w]
              rfl
             refine pure_ (i := 9) (N := some 29) (v := ?_) (a' := ?_) #[true, true, true, true, true, true, false, false, false, true, false, false, false, false, false, false, false, false, false, false, false, false, false, false, false, false, false, false, false, false, false, false, false, false, false, false, false, false, false, false, false, false, false, false, false, false, false, false, false, false] rfl rfl (any_of HT_.out (by kernel_rfl)) (fun _ _ _ h => h) (Or.inl ⟨by rfl, ?_⟩) ?_ ?_
             rotate_left
             ·
              intro w'
              go_simp
              with_reducible rfl
             rotate_left
             ·
              simp only [Act.put, List.setIfInBounds_toArray, List.set_cons_zero, List.set_cons_succ, i64_w, i32_w]
              rfl
             refine take_ (i := 6) (N := some 26) (v := ?_) (a' := ?_) #[true, true, true, true, true, true, true, false, false, true, false, false, false, false, false, false, false, false, false, false, false, false, false, false, false, false, false, false, false, false, false, false, false, false, false, false, false, false, false, false, false, false, false, false, false, false, false, false, false, false] rfl rfl (take_ofW HT_.out HW_.out (by kernel_rfl)) (fun _ _ _ h => h) (Or.inl ⟨by rfl, ?_⟩) hHeld ?_ ?_
             rotate_left
             ·
              rintro w' ⟨s0, s1, s2, s3, s4, s5, s6, s7⟩
              go_simp
              with_reducible rfl
             rotate_left
             ·
              simp only [Act.put, List.setIfInBounds_toArray, List.set_cons_zero, List.set_cons_succ, i64_w, i32_w]
              rfl
             refine pure_ (i := 7) (N := some 27) (v := ?_) (a' := ?_) #[true, true, true, true, true, true, true, true, false, true, false, false, false, false, false, false, false, false, false, false, false, false, false, false, false, false, false, false, false, false, false, false, false, false, false, false, false, false, false, false, false, false, false, false, false, false, false, false, false, false] rfl rfl (any_of HT_.out (by kernel_rfl)) (fun _ _ _ h => h) (Or.inl ⟨by rfl, ?_⟩) ?_ ?_
             rotate_left
             ·
              intro w'
              go_simp
              with_reducible rfl
             rotate_left
             ·
              simp only [Act.put, List.setIfInBounds_toArray, List.set_cons_zero, List.set_cons_succ, i64_w, i32_w]
              rfl
             refine take_ (i := 8) (N := some 28) (v := ?_) (a' := ?_) #[true, true, true, true, true, true, true, true, true, true, false, false, false, false, false, false, false, false, false, false, false, false, false, false, false, false, false, false, false, false, false, false, false, false, false, false, false, false, false, false, false, false, false, false, false, false, false, false, false, false] rfl rfl (take_ofW HT_.out HW_.out (by kernel_rfl)) (fun _ _ _ h => h) (Or.inl ⟨by rfl, ?_⟩) hHeld ?_ ?_
             rotate_left
             ·
              rintro w' ⟨s0, s1, s2, s3, s4, s5, s6, s7⟩
              go_simp
              with_reducible rfl
             rotate_left
             ·
              simp only [Act.put, List.setIfInBounds_toArray, List.set_cons_zero, List.set_cons_succ, i64_w, i32_w]
              rfl
             refine pure_ (i := 10) (N := some 30) (v := ?_) (a' := ?_) #[true, true, true, true, true, true, true, true, true, true, true, false, false, false, false, false, false, false, false, false, false, false, false, false, false, false, false, false, false, false, false, false, false, false, false, false, false, false, false, false, false, false, false, false, false, false, false, false, false, false] rfl rfl (any_of HT_.out (by kernel_rfl)) (fun _ _ _ h => h) (Or.inl ⟨by rfl, ?_⟩) ?_ ?_
             rotate_left
             ·
              intro w'
              go_simp
              with_reducible rfl
             rotate_left
             ·
              simp only [Act.put, List.setIfInBounds_toArray, List.set_cons_zero, List.set_cons_succ, i64_w, i32_w]
              rfl
             refine pure_ (i := 11) (N := some 31) (v := ?_) (a' := ?_) #[true, true, true, true, true, true, true, true, true, true, true, true, false, false, false, false, false, false, false, false, false, false, false, false, false, false, false, false, false, false, false, false, false, false, false, false, false, false, false, false, false, false, false, false, false, false, false, false, false, false] rfl rfl (any_of HT_.out (by kernel_rfl)) (fun _ _ _ h => h) (Or.inl ⟨by rfl, ?_⟩) ?_ ?_
             rotate_left
             ·
              intro w'
              go_simp
              with_reducible rfl
             rotate_left
             ·
              simp only [Act.put, List.setIfInBounds_toArray, List.set_cons_zero, List.set_cons_succ, i64_w, i32_w]
              rfl
             refine pure_ (i := 12) (N := some 32) (v := ?_) (a' := ?_) #[true, true, true, true, true, true, true, true, true, true, true, true, true, false, false, false, false, false, false, false, false, false, false, false, false, false, false, false, false, false, false, false, false, false, false, false, false, false, false, false, false, false, false, false, false, false, false, false, false, false] rfl rfl (any_of HT_.out (by kernel_rfl)) (fun _ _ _ h => h) (Or.inl ⟨by rfl, ?_⟩) ?_ ?_
             rotate_left
             ·
              intro w'
              go_simp
              with_reducible rfl
             rotate_left
             ·
              simp only [Act.put, List.setIfInBounds_toArray, List.set_cons_zero, List.set_cons_succ, i64_w, i32_w]
              rfl
             refine pure_ (i := 13) (N := some 33) (v := ?_) (a' := ?_) #[true, true, true, true, true, true, true, true, true, true, true, true, true, true, false, false, false, false, false, false, false, false, false, false, false, false, false, false, false, false, false, false, false, false, false, false, false, false, false, false, false, false, false, false, false, false, false, false, false, false] rfl rfl (any_of HT_.out (by kernel_rfl)) (fun _ _ _ h => h) (Or.inl ⟨by rfl, ?_⟩) ?_ ?_
             rotate_left
             ·
              intro w'
              go_simp
              with_reducible rfl
             rotate_left
             ·
              simp only [Act.put, List.setIfInBounds_toArray, List.set_cons_zero, List.set_cons_succ, i64_w, i32_w]
              rfl
             refine pure_ (i := 14) (N := some 34) (v := ?_) (a' := ?_) #[true, true, true, true, true, true, true, true, true, true, true, true, true, true, true, false, false, false, false, false, false, false, false, false, false, false, false, false, false, false, false, false, false, false, false, false, false, false, false, false, false, false, false, false, false, false, false, false, false, false] rfl rfl (any_of HT_.out (by kernel_rfl)) (fun _ _ _ h => h) (Or.inl ⟨by rfl, ?_⟩) ?_ ?_
             rotate_left
             ·
              intro w'
              go_simp
              with_reducible rfl
             rotate_left
             ·
              simp only [Act.put, List.setIfInBounds_toArray, List.set_cons_zero, List.set_cons_succ, i64_w, i32_w]
              rfl
             refine pure_ (i := 16) (N := some 36) (v := ?_) (a' := ?_) #[true, true, true, true, true, true, true, true, true, true, true, true, true, true, true, false, true, false, false, false, false, false, false, false, false, false, false, false, false, false, false, false, false, false, false, false, false, false, false, false, false, false, false, false, false, false, false, false, false, false] rfl rfl (any_of HT_.out (by kernel_rfl)) (fun _ _ _ h => h) (Or.inl ⟨by rfl, ?_⟩) ?_ ?_
             rotate_left
             ·
              intro w'
              go_simp
              with_reducible rfl
             rotate_left
             ·
              simp only [Act.put, List.setIfInBounds_toArray, List.set_cons_zero, List.set_cons_succ, i64_w, i32_w]
              rfl
             refine take_ (i := 15) (N := some 35) (v := ?_) (a' := ?_) #[true, true, true, true, true, true, true, true, true, true, true, true, true, true, true, true, true, false, false, false, false, false, false, false, false, false, false, false, false, false, false, false, false, false, false, false, false, false, false, false, false, false, false, false, false, false, false, false, false, false] rfl rfl (take_ofW HT_.out HW_.out (by kernel_rfl)) (fun _ _ _ h => h) (Or.inl ⟨by rfl, ?_⟩) hHeld ?_ ?_
             rotate_left
             ·
              rintro w' ⟨s0, s1, s2, s3, s4, s5, s6, s7⟩
              go_simp
              with_reducible rfl
             rotate_left
             ·
              simp only [Act.put, List.setIfInBounds_toArray, List.set_cons_zero, List.set_cons_succ, i64_w, i32_w]
              rfl
             refine take_ (i := 17) (N := some 37) (v := ?_) (a' := ?_) #[true, true, true, true, true, true, true, true, true, true, true, true, true, true, true, true, true, true, false, false, false, false, false, false, false, false, false, false, false, false, false, false, false, false, false, false, false, false, false, false, false, false, false, false, false, false, false, false, false, false] rfl rfl (take_ofW HT_.out HW_.out (by kernel_rfl)) (fun _ _ _ h => h) (Or.inl ⟨by rfl, ?_⟩) hHeld ?_ ?_
             rotate_left
             ·
              rintro w' ⟨s0, s1, s2, s3, s4, s5, s6, s7⟩
              go_simp
              with_reducible rfl
             rotate_left
             ·
              simp only [Act.put, List.setIfInBounds_toArray, List.set_cons_zero, List.set_cons_succ, i64_w, i32_w]
              rfl
             refine pure_ (i := 18) (N := some 38) (v := ?_) (a' := ?_) #[true, true, true, true, true, true, true, true, true, true, true, true, true, true, true, true, true, true, true, false, false, false, false, false, false, false, false, false, false, false, false, false, false, false, false, false, false, false, false, false, false, false, false, false, false, false, false, false, false, false] rfl rfl (any_of HT_.out (by kernel_rfl)) (fun _ _ _ h => h) (Or.inl ⟨by rfl, ?_⟩) ?_ ?_
             rotate_left
             ·
              intro w'
              go_simp
              with_reducible rfl
             rotate_left
             ·
              simp only [Act.put, List.setIfInBounds_toArray, List.set_cons_zero, List.set_cons_succ, i64_w, i32_w]
              rfl
             refine pure_ (i := 19) (N := some 39) (v := ?_) (a' := ?_) #[true, true, true, true, true, true, true, true, true, true, true, true, true, true, true, true, true, true, true, true, false, false, false, false, false, false, false, false, false, false, false, false, false, false, false, false, false, false, false, false, false, false, false, false, false, false, false, false, false, false] rfl rfl (any_of HT_.out (by kernel_rfl)) (fun _ _ _ h => h) (Or.inl ⟨by rfl, ?_⟩) ?_ ?_
             rotate_left
             ·
              intro w'
              go_simp
              with_reducible rfl
             rotate_left
             ·
              simp only [Act.put, List.setIfInBounds_toArray, List.set_cons_zero, List.set_cons_succ, i64_w, i32_w]
              rfl
             refine pure_ (i := 20) (N := some 40) (v := ?_) (a' := ?_) #[true, true, true, true, true, true, true, true, true, true, true, true, true, true, true, true, true, true, true, true, true, false, false, false, false, false, false, false, false, false, false, false, false, false, false, false, false, false, false, false, false, false, false, false, false, false, false, false, false, false] rfl rfl (any_of HT_.out (by kernel_rfl)) (fun _ _ _ h => h) (Or.inl ⟨by rfl, ?_⟩) ?_ ?_
             rotate_left
             ·
              intro w'
              go_simp
              with_reducible rfl
             rotate_left
             ·
              simp only [Act.put, List.setIfInBounds_toArray, List.set_cons_zero, List.set_cons_succ, i64_w, i32_w]
              rfl
             refine take_ (i := 21) (N := some 41) (v := ?_) (a' := ?_) #[true, true, true, true, true, true, true, true, true, true, true, true, true, true, true, true, true, true, true, true, true, true, false, false, false, false, false, false, false, false, false, false, false, false, false, false, false, false, false, false, false, false, false, false, false, false, false, false, false, false] rfl rfl (take_ofW HT_.out HW_.out (by kernel_rfl)) (fun _ _ _ h => h) (Or.inl ⟨by rfl, ?_⟩) hHeld ?_ ?_
             rotate_left
             ·
              rintro w' ⟨s0, s1, s2, s3, s4, s5, s6, s7⟩
              go_simp
              with_reducible rfl
             rotate_left
             ·
              simp only [Act.put, List.setIfInBounds_toArray, List.set_cons_zero, List.set_cons_succ, i64_w, i32_w]
              rfl
             refine pure_ (i := 22) (N := some 42) (v := ?_) (a' := ?_) #[true, true, true, true, true, true, true, true, true, true, true, true, true, true, true, true, true, true, true, true, true, true, true, false, false, false, false, false, false, false, false, false, false, false, false, false, false, false, false, false, false, false, false, false, false, false, false, false, false, false] rfl rfl (any_of HT_.out (by kernel_rfl)) (fun _ _ _ h => h) (Or.inl ⟨by rfl, ?_⟩) ?_ ?_
             rotate_left
             ·
              intro w'
              go_simp
              with_reducible rfl
             rotate_left
             ·
              simp only [Act.put, List.setIfInBounds_toArray, List.set_cons_zero, List.set_cons_succ, i64_w, i32_w]
              rfl
             refine pure_ (i := 23) (N := some 43) (v := ?_) (a' := ?_) #[true, true, true, true, true, true, true, true, true, true, true, true, true, true, true, true, true, true, true, true, true, true, true, true, false, false, false, false, false, false, false, false, false, false, false, false, false, false, false, false, false, false, false, false, false, false, false, false, false, false] rfl rfl (any_of HT_.out (by kernel_rfl)) (fun _ _ _ h => h) (Or.inl ⟨by rfl, ?_⟩) ?_ ?_
             rotate_left
             ·
              intro w'
              go_simp
              with_reducible rfl
             rotate_left
             ·
              simp only [Act.put, List.setIfInBounds_toArray, List.set_cons_zero, List.set_cons_succ, i64_w, i32_w]
              rfl
             refine pure_ (i := 24) (N := some 44) (v := ?_) (a' := ?_) #[true, true, true, true, true, true, true, true, true, true, true, true, true, true, true, true, true, true, true, true, true, true, true, true, true, false, false, false, false, false, false, false, false, false, false, false, false, false, false, false, false, false, false, false, false, false, false, false, false, false] rfl rfl (any_of HT_.out (by kernel_rfl)) (fun _ _ _ h => h) (Or.inl ⟨by rfl, ?_⟩) ?_ ?_
             rotate_left
             ·
              intro w'
              go_simp
              with_reducible rfl
             rotate_left
             ·
              simp only [Act.put, List.setIfInBounds_toArray, List.set_cons_zero, List.set_cons_succ, i64_w, i32_w]
              rfl
             refine pure_ (i := 25) (N := some 45) (v := ?_) (a' := ?_) #[true, true, true, true, true, true, true, true, true, true, true, true, true, true, true, true, true, true, true, true, true, true, true, true, true, true, false, false, false, false, false, false, false, false, false, false, false, false, false, false, false, false, false, false, false, false, false, false, false, false] rfl rfl (any_of HT_.out (by kernel_rfl)) (fun _ _ _ h => h) (Or.inl ⟨by rfl, ?_⟩) ?_ ?_
             rotate_left
             ·
              intro w'
              go_simp
              with_reducible rfl
             rotate_left
             ·
              simp only [Act.put, List.setIfInBounds_toArray, List.set_cons_zero, List.set_cons_succ, i64_w, i32_w]
              rfl
             refine pure_ (i := 27) (N := some 47) (v := ?_) (a' := ?_) #[true, true, true, true, true, true, true, true, true, true, true, true, true, true, true, true, true, true, true, true, true, true, true, true, true, true, false, true, false, false, false, false, false, false, false, false, false, false, false, false, false, false, false, false, false, false, false, false, false, false] rfl rfl (any_of HT_.out (by kernel_rfl)) (fun _ _ _ h => h) (Or.inl ⟨by rfl, ?_⟩) ?_ ?_
             rotate_left
             ·
              intro w'
              go_simp
              with_reducible rfl
             rotate_left
             ·
              simp only [Act.put, List.setIfInBounds_toArray, List.set_cons_zero, List.set_cons_succ, i64_w, i32_w]
              rfl
             refine pure_ (i := 29) (N := some 49) (v := ?_) (a' := ?_) #[true, true, true, true, true, true, true, true, true, true, true, true, true, true, true, true, true, true, true, true, true, true, true, true, true, true, false, true, false, true, false, false, false, false, false, false, false, false, false, false, false, false, false, false, false, false, false, false, false, false] rfl rfl (any_of HT_.out (by kernel_rfl)) (fun _ _ _ h => h) (Or.inl ⟨by rfl, ?_⟩) ?_ ?_
             rotate_left
             ·
              intro w'
              go_simp
              with_reducible rfl
             rotate_left
             ·
              simp only [Act.put, List.setIfInBounds_toArray, List.set_cons_zero, List.set_cons_succ, i64_w, i32_w]
              rfl
             refine take_ (i := 26) (N := some 46) (v := ?_) (a' := ?_) #[true, true, true, true, true, true, true, true, true, true, true, true, true, true, true, true, true, true, true, true, true, true, true, true, true, true, true, true, false, true, false, false, false, false, false, false, false, false, false, false, false, false, false, false, false, false, false, false, false, false] rfl rfl (take_ofW HT_.out HW_.out (by kernel_rfl)) (fun _ _ _ h => h) (Or.inl ⟨by rfl, ?_⟩) hHeld ?_ ?_
             rotate_left
             ·
              rintro w' ⟨s0, s1, s2, s3, s4, s5, s6, s7⟩
              go_simp
              with_reducible rfl
             rotate_left
             ·
              simp only [Act.put, List.setIfInBounds_toArray, List.set_cons_zero, List.set_cons_succ, i64_w, i32_w]
              rfl
             refine take_ (i := 28) (N := some 48) (v := ?_) (a' := ?_) #[true, true, true, true, true, true, true, true, true, true, true, true, true, true, true, true, true, true, true, true, true, true, true, true, true, true, true, true, true, true, false, false, false, false, false, false, false, false, false, false, false, false, false, false, false, false, false, false, false, false] rfl rfl (take_ofW HT_.out HW_.out (by kernel_rfl)) (fun _ _ _ h => h) (Or.inl ⟨by rfl, ?_⟩) hHeld ?_ ?_
             rotate_left
             ·
              rintro w' ⟨s0, s1, s2, s3, s4, s5, s6, s7⟩
              go_simp
              with_reducible rfl
             rotate_left
             ·
              simp only [Act.put, List.setIfInBounds_toArray, List.set_cons_zero, List.set_cons_succ, i64_w, i32_w]
              rfl
             refine one_ (i := 30) (N := some 50) #[true, true, true, true, true, true, true, true, true, true, true, true, true, true, true, true, true, true, true, true, true, true, true, true, true, true, true, true, true, true, true, false, false, false, false, false, false, false, false, false, false, false, false, false, false, false, false, false, false, false] rfl rfl (one_of HT_.out (by kernel_rfl)) (by decide) (fun K hK => ?_)
             refine goes_ Try.func31 (by kernel_rfl) rfl #[.slice (some ad530) t507.length co7, .int .i64 t526] (by rfl) rfl rfl (by (try simp only [List.map_toArray, List.map_cons, List.map_nil]); first | done | rfl | (simp only [List.length_drop, List.length_take]; rfl)) ?_
             with_reducible refine (headgatelaw07_without.calls k _ _ t507 t526 t531 _ ?side1 ?side2 A26.out).mono ?_
             (case side1 => repeat (first | exact (Kd.R_reads' HO509.out).2.2 | (with_reducible refine Kd.C_alloc ?_ _) | (with_reducible refine Kd.C_drewN ?_ _) | (with_reducible refine Kd.C_drew ?_)))
             (case side2 => exact (Kd.R_reads' HO509.out).2.1)
             rintro e w36 ⟨v532, rfl, ho0, hb⟩
             have HS6_ := (hb.cell (World.block_lt_of_cell? _ _ (hHeld.2.2.2.2.2.2.1))).trans (hHeld.2.2.2.2.2.2.1)
             have HS7_ := (hb.cell (World.block_lt_of_cell? _ _ (hHeld.2.2.2.2.2.2.2))).trans (hHeld.2.2.2.2.2.2.2)
             refine ⟨_, rfl, ?_⟩
             have n0_ := Aside0.mk (Kd.R_elder' (by (with_reducible repeat (first | apply Kd.R_alloc | apply Kd.R_drewN | apply Kd.R_drew)); exact HO509.out) (Kd.R_base ho0) hb)
             have n1_ := Aside0.mk (Kd.R_elder' (by (with_reducible repeat (first | apply Kd.R_alloc | apply Kd.R_drewN | apply Kd.R_drew)); exact HO512.out) (Kd.R_base ho0) hb)
             have n2_ := Aside0.mk (Kd.R_below (by (with_reducible repeat (first | apply Kd.R_alloc | apply Kd.R_drewN | apply Kd.R_drew)); exact HO515.out) hb)
             have n3_ := Aside0.mk (Kd.R_elder' (by (with_reducible repeat (first | apply Kd.R_alloc | apply Kd.R_drewN | apply Kd.R_drew)); exact HO519.out) (Kd.R_base ho0) hb)
             have n4_ := Aside0.mk (Kd.R_elder' (by (with_reducible repeat (first | apply Kd.R_alloc | apply Kd.R_drewN | apply Kd.R_drew)); exact HO522.out) (Kd.R_base ho0) hb)
             have n5_ := Aside0.mk (Kd.R_below (by (with_reducible repeat (first | apply Kd.R_alloc | apply Kd.R_drewN | apply Kd.R_drew)); exact HO525.out) hb)
             have n6_ := Aside0.mk (Kd.R_lower (Kd.R_new' (Kd.R_new' (Kd.R_new' (Kd.R_new' ho0 (Kd.R_lt (by (with_reducible repeat (first | apply Kd.R_alloc | apply Kd.R_drewN | apply Kd.R_drew)); exact HO509.out))) (Kd.R_lt (by (with_reducible repeat (first | apply Kd.R_alloc | apply Kd.R_drewN | apply Kd.R_drew)); exact HO512.out))) (Kd.R_lt (by (with_reducible repeat (first | apply Kd.R_alloc | apply Kd.R_drewN | apply Kd.R_drew)); exact HO519.out))) (Kd.R_lt (by (with_reducible repeat (first | apply Kd.R_alloc | apply Kd.R_drewN | apply Kd.R_drew)); exact HO522.out))) (below_size (by repeat (first | (with_reducible first | exact HB.out | apply below_alloc | apply pw_below_drewN | apply below_drew1 | refine below_set ?_ GE516.out | refine below_set ?_ GE528.out) | exact HB.out))))
             have n7_ := Aside0.mk (blk_below (g := gb516) (o := .cells #[.slice (some ad530) t507.length co7, .slice Ao9 t510.length co9, .slice Ao10 t513.length co10] 25 (0, 0)) (by (with_reducible repeat (first | refine blk_drewN ?_ _ | refine blk_drew ?_ | refine blk_alloc ?_ _)); exact BK516.out) hb)
             have n8_ := Aside0.mk (blk_below (g := gb528) (o := .cells #[.slice Ao13 t517.length co13, .slice (some ad529) t520.length co16, .slice Ao17 t523.length co17] 25 (0, 0)) (by (with_reducible repeat (first | refine blk_drewN ?_ _ | refine blk_drew ?_ | refine blk_alloc ?_ _)); exact BK528.out) hb)
             have n9_ := Aside0.mk (below_step (by repeat (first | (with_reducible first | exact HB.out | apply below_alloc | apply pw_below_drewN | apply below_drew1 | refine below_set ?_ GE516.out | refine below_set ?_ GE528.out) | exact HB.out)) hb)
             clear HO509
             clear HO512
             clear HO515
             clear HO519
             clear HO522
             clear HO525
             clear BK516
             clear BK528
             clear HB
             have HO509 := n0_
             have HO512 := n1_
             have HO515 := n2_
             have HO519 := n3_
             have HO522 := n4_
             have HO525 := n5_
             have HO533 := n6_
             have BK516 := n7_
             have BK528 := n8_
             have HB := n9_
             clear n0_ n1_ n2_ n3_ n4_ n5_ n6_ n7_ n8_ n9_
             (try clear hb)
             (try clear hb2)
             (try clear hk)
             (try clear hi)
             (try clear ho0)
             obtain ⟨Ao37, co37, eo37⟩ := Kd.R_slice HO533.out
             (first | subst eo37 | (injection eo37 with f1_ f2_ f3_; have f4_ := f1_.symm; have f5_ := f3_.symm; clear f1_ f2_ f3_; subst f4_; subst f5_))
             refine hK.out _ _ ⟨(blk_cell BK528.out 0).trans rfl, (blk_cell BK528.out 1).trans rfl, (blk_cell BK528.out 2).trans rfl, (blk_cell BK516.out 0).trans rfl, (blk_cell BK516.out 1).trans rfl, (blk_cell BK516.out 2).trans rfl, HS6_, HS7_⟩ (fun hHeld => ?_)
             clear hK K
             refine norm_ (a' := ?_) ?_ ?_
             rotate_left
             ·
              show Act.put _ (some 50) _ = _
              simp only [Act.put, List.setIfInBounds_toArray, List.set_cons_zero, List.set_cons_succ, i64_w, i32_w]
              rfl
             refine one_ (i := 31) (N := some 51) #[true, true, true, true, true, true, true, true, true, true, true, true, true, true, true, true, true, true, true, true, true, true, true, true, true, true, true, true, true, true, true, true, false, false, false, false, false, false, false, false, false, false, false, false, false, false, false, false, false, false] rfl rfl (one_of HT_.out (by kernel_rfl)) (by decide) (fun K hK => ?_)
             refine goes_ Try.func30 (by kernel_rfl) rfl #[.slice Ao13 t517.length co13, .slice Ao37 t531.length co37] (by rfl) rfl rfl (by (try simp only [List.map_toArray, List.map_cons, List.map_nil]); first | done | rfl | (simp only [List.length_drop, List.length_take]; rfl)) ?_
             with_reducible refine (headgatekit_SameInts.calls k _ _ t517 _ _ t531 true _ ?side1 ?side2 ?side3 ?side4 A27.out).mono ?_
             (case side1 => repeat (first | exact (Kd.R_reads' HO519.out).2.2 | (with_reducible refine Kd.C_alloc ?_ _) | (with_reducible refine Kd.C_drewN ?_ _) | (with_reducible refine Kd.C_drew ?_)))
             (case side2 => exact (Kd.R_reads' HO519.out).2.1)
             (case side3 => repeat (first | exact (Kd.R_reads' HO533.out).2.2 | (with_reducible refine Kd.C_alloc ?_ _) | (with_reducible refine Kd.C_drewN ?_ _) | (with_reducible refine Kd.C_drew ?_)))
             (case side4 => exact (Kd.R_reads' HO533.out).2.1)
             rintro e w' ⟨rfl, ⟨nd, rfl⟩⟩
             refine ⟨_, rfl, ?_⟩
             have q38 : (1 : Int) ≤ ((t520.length : Int) : Int) := of_decide_eq_true (by first | (with_reducible assumption) | assumption)
             obtain ⟨i038, hi038, _, hsz38, _⟩ := info_parts info3
             have hroom38 : t520.length ≤ co16 := (Kd.R_reads' HO522.out).2.1
             have hC38 : Kd.C (Kd.int .i64) _ (some ad529) t520.length t520 := (Kd.R_reads' HO522.out).2.2
             have hcut38 := cut_from (P := Try.prog) 22 3 .i64 Try.underlying22 hi038 1 hsz38 (some ad529) t520.length co16 1 (by omega) q38
             have hr38 := Kd.C_drop (m := (1 : Int).toNat) (c := co16) hC38 (by omega) hroom38
             obtain ⟨A38, hA38⟩ : ∃ A1, A1 = (if co16 = (1 : Int).toNat then (some ad529) else ((some ad529) : Option Addr).map (·.add ((1 : Int).toNat * 1))) := ⟨_, rfl⟩
             obtain ⟨c38, hc38⟩ : ∃ c1, c1 = co16 - (1 : Int).toNat := ⟨_, rfl⟩
             have hy38 : y535.length = t520.length - (1 : Int).toNat := (by rw [Ny535.out, List.length_drop] <;> omega)
             rw [show (t520).drop (1 : Int).toNat = y535 from Ny535.out.symm] at hr38
             replace hr38 : Kd.C (Kd.int .i64) _ A38 y535.length y535 := (by rw [hA38]; exact hr38)
             rw [← hy38, ← hA38, ← hc38] at hcut38
             have HR538 := Aside0.mk hr38
             have HC538 := Aside0.mk (show y535.length ≤ c38 from by rw [hy38, hc38]; exact Nat.sub_le_sub_right hroom38 _)
             clear hr38 hC38 hroom38 hi038 hsz38 hc38
             have KY38 := Aside0.mk hy38
             have KA38 := Aside0.mk hA38
             clear hy38 hA38
             have KL38 := Aside0.mk (show 1 ≤ t520.length from by omega)
             replace q38 := eq_true q38
             refine hK.out _ _ ⟨(blk_cell BK528.out 0).trans rfl, (blk_cell BK528.out 1).trans rfl, (blk_cell BK528.out 2).trans rfl, (blk_cell BK516.out 0).trans rfl, (blk_cell BK516.out 1).trans rfl, (blk_cell BK516.out 2).trans rfl, hHeld.2.2.2.2.2.2.1, hHeld.2.2.2.2.2.2.2⟩ (fun hHeld => ?_)
             clear hK K
             refine norm_ (a' := ?_) ?_ ?_
             rotate_left
             ·
              show Act.put _ (some 51) _ = _
              simp only [Act.put, List.setIfInBounds_toArray, List.set_cons_zero, List.set_cons_succ, i64_w, i32_w]
              rfl
             refine pure_ (i := 32) (N := some 52) (v := ?_) (a' := ?_) #[true, true, true, true, true, true, true, true, true, true, true, true, true, true, true, true, true, true, true, true, true, true, true, true, true, true, true, true, true, true, true, true, true, false, false, false, false, false, false, false, false, false, false, false, false, false, false, false, false, false] rfl rfl (any_of HT_.out (by kernel_rfl)) (fun _ _ _ h => h) (Or.inl ⟨by rfl, ?_⟩) ?_ ?_
             rotate_left
             ·
              intro w'
              go_simp
              with_reducible rfl
             rotate_left
             ·
              simp only [Act.put, List.setIfInBounds_toArray, List.set_cons_zero, List.set_cons_succ, i64_w, i32_w]
              rfl
             refine pure_ (i := 33) (N := some 53) (v := ?_) (a' := ?_) #[true, true, true, true, true, true, true, true, true, true, true, true, true, true, true, true, true, true, true, true, true, true, true, true, true, true, true, true, true, true, true, true, true, true, false, false, false, false, false, false, false, false, false, false, false, false, false, false, false, false] rfl rfl (any_of HT_.out (by kernel_rfl)) (fun _ _ _ h => h) (Or.inl ⟨by rfl, ?_⟩) ?_ ?_
             rotate_left
             ·
              intro w'
              go_simp
              with_reducible rfl
             rotate_left
             ·
              simp only [Act.put, List.setIfInBounds_toArray, List.set_cons_zero, List.set_cons_succ, i64_w, i32_w]
              rfl
             refine pure_ (i := 34) (N := some 54) (v := ?_) (a' := ?_) #[true, true, true, true, true, true, true, true, true, true, true, true, true, true, true, true, true, true, true, true, true, true, true, true, true, true, true, true, true, true, true, true, true, true, true, false, false, false, false, false, false, false, false, false, false, false, false, false, false, false] rfl rfl (any_of HT_.out (by kernel_rfl)) (fun _ _ _ h => h) (Or.inl ⟨by rfl, ?_⟩) ?_ ?_
             rotate_left
             ·
              intro w'
              go_simp
              with_reducible rfl
             rotate_left
             ·
              simp only [Act.put, List.setIfInBounds_toArray, List.set_cons_zero, List.set_cons_succ, i64_w, i32_w]
              rfl
             refine pure_ (i := 35) (N := some 55) (v := ?_) (a' := ?_) #[true, true, true, true, true, true, true, true, true, true, true, true, true, true, true, true, true, true, true, true, true, true, true, true, true, true, true, true, true, true, true, true, true, true, true, true, false, false, false, false, false, false, false, false, false, false, false, false, false, false] rfl rfl (any_of HT_.out (by kernel_rfl)) (fun _ _ _ h => h) (Or.inl ⟨by rfl, ?_⟩) ?_ ?_
             rotate_left
             ·
              intro w'
              go_simp
              with_reducible rfl
             rotate_left
             ·
              simp only [Act.put, List.setIfInBounds_toArray, List.set_cons_zero, List.set_cons_succ, i64_w, i32_w]
              rfl
             refine pure_ (i := 38) (N := some 58) (v := ?_) (a' := ?_) #[true, true, true, true, true, true, true, true, true, true, true, true, true, true, true, true, true, true, true, true, true, true, true, true, true, true, true, true, true, true, true, true, true, true, true, true, false, false, true, false, false, false, false, false, false, false, false, false, false, false] rfl rfl (any_of HT_.out (by kernel_rfl)) (fun _ _ _ h => h) (Or.inl ⟨by rfl, ?_⟩) ?_ ?_
             rotate_left
             ·
              intro w'
              go_simp
              with_reducible rfl
             rotate_left
             ·
              simp only [Act.put, List.setIfInBounds_toArray, List.set_cons_zero, List.set_cons_succ, i64_w, i32_w]
              rfl
             refine take_ (i := 36) (N := some 56) (v := ?_) (a' := ?_) #[true, true, true, true, true, true, true, true, true, true, true, true, true, true, true, true, true, true, true, true, true, true, true, true, true, true, true, true, true, true, true, true, true, true, true, true, true, false, true, false, false, false, false, false, false, false, false, false, false, false] rfl rfl (take_ofW HT_.out HW_.out (by kernel_rfl)) (fun _ _ _ h => h) (Or.inl ⟨by rfl, ?_⟩) hHeld ?_ ?_
             rotate_left
             ·
              rintro w' ⟨s0, s1, s2, s3, s4, s5, s6, s7⟩
              go_simp
              with_reducible rfl
             rotate_left
             ·
              simp only [Act.put, List.setIfInBounds_toArray, List.set_cons_zero, List.set_cons_succ, i64_w, i32_w]
              rfl
             refine pure_ (i := 37) (N := some 57) (v := ?_) (a' := ?_) #[true, true, true, true, true, true, true, true, true, true, true, true, true, true, true, true, true, true, true, true, true, true, true, true, true, true, true, true, true, true, true, true, true, true, true, true, true, true, true, false, false, false, false, false, false, false, false, false, false, false] rfl rfl (any_of HT_.out (by kernel_rfl)) (fun _ _ _ h => h) (Or.inl ⟨by rfl, ?_⟩) ?_ ?_
             rotate_left
             ·
              intro w'
              go_simp
              with_reducible rfl
             rotate_left
             ·
              simp only [Act.put, List.setIfInBounds_toArray, List.set_cons_zero, List.set_cons_succ, i64_w, i32_w]
              rfl
             refine take_ (i := 39) (N := some 59) (v := ?_) (a' := ?_) #[true, true, true, true, true, true, true, true, true, true, true, true, true, true, true, true, true, true, true, true, true, true, true, true, true, true, true, true, true, true, true, true, true, true, true, true, true, true, true, true, false, false, false, false, false, false, false, false, false, false] rfl rfl (take_ofW HT_.out HW_.out (by kernel_rfl)) (fun _ _ _ h => h) (Or.inl ⟨by rfl, ?_⟩) hHeld ?_ ?_
             rotate_left
             ·
              rintro w' ⟨s0, s1, s2, s3, s4, s5, s6, s7⟩
              go_simp
              with_reducible rfl
             rotate_left
             ·
              simp only [Act.put, List.setIfInBounds_toArray, List.set_cons_zero, List.set_cons_succ, i64_w, i32_w]
              rfl
             refine one_ (i := 40) (N := some 60) #[true, true, true, true, true, true, true, true, true, true, true, true, true, true, true, true, true, true, true, true, true, true, true, true, true, true, true, true, true, true, true, true, true, true, true, true, true, true, true, true, true, false, false, false, false, false, false, false, false, false] rfl rfl (one_of HT_.out (by kernel_rfl)) (by decide) (fun K hK => ?_)
             refine goes_ Try.func30 (by kernel_rfl) rfl #[.slice A38 y535.length c38, .slice Ao9 t510.length co9] (by rfl) rfl rfl (by (try simp only [List.map_toArray, List.map_cons, List.map_nil]); first | done | rfl | (simp only [List.length_drop, List.length_take]; rfl)) ?_
             with_reducible refine (headgatekit_SameInts.calls k _ _ y535 _ _ t510 true _ ?side1 ?side2 ?side3 ?side4 A30.out).mono ?_
             (case side1 => repeat (first | exact (by repeat (first | (with_reducible exact HR538.out) | (with_reducible refine Kd.C_alloc ?_ _) | (with_reducible refine Kd.C_drewN ?_ _) | (with_reducible refine Kd.C_drew ?_) | exact HR538.out)) | (with_reducible refine Kd.C_alloc ?_ _) | (with_reducible refine Kd.C_drewN ?_ _) | (with_reducible refine Kd.C_drew ?_)))
             (case side2 => exact HC538.out)
             (case side3 => repeat (first | exact (Kd.R_reads' HO512.out).2.2 | (with_reducible refine Kd.C_alloc ?_ _) | (with_reducible refine Kd.C_drewN ?_ _) | (with_reducible refine Kd.C_drew ?_)))
             (case side4 => exact (Kd.R_reads' HO512.out).2.1)
             rintro e w' ⟨rfl, ⟨nd, rfl⟩⟩
             refine ⟨_, rfl, ?_⟩
             refine hK.out _ _ ⟨(blk_cell BK528.out 0).trans rfl, (blk_cell BK528.out 1).trans rfl, (blk_cell BK528.out 2).trans rfl, (blk_cell BK516.out 0).trans rfl, (blk_cell BK516.out 1).trans rfl, (blk_cell BK516.out 2).trans rfl, hHeld.2.2.2.2.2.2.1, hHeld.2.2.2.2.2.2.2⟩ (fun hHeld => ?_)
             clear hK K
             refine norm_ (a' := ?_) ?_ ?_
             rotate_left
             ·
              show Act.put _ (some 60) _ = _
              simp only [Act.put, List.setIfInBounds_toArray, List.set_cons_zero, List.set_cons_succ, i64_w, i32_w]
              rfl
             refine pure_ (i := 41) (N := some 61) (v := ?_) (a' := ?_) #[true, true, true, true, true, true, true, true, true, true, true, true, true, true, true, true, true, true, true, true, true, true, true, true, true, true, true, true, true, true, true, true, true, true, true, true, true, true, true, true, true, true, false, false, false, false, false, false, false, false] rfl rfl (any_of HT_.out (by kernel_rfl)) (fun _ _ _ h => h) (Or.inl ⟨by rfl, ?_⟩) ?_ ?_
             rotate_left
             ·
              intro w'
              go_simp
              with_reducible rfl
             rotate_left
             ·
              simp only [Act.put, List.setIfInBounds_toArray, List.set_cons_zero, List.set_cons_succ, i64_w, i32_w]
              rfl
             refine pure_ (i := 42) (N := some 62) (v := ?_) (a' := ?_) #[true, true, true, true, true, true, true, true, true, true, true, true, true, true, true, true, true, true, true, true, true, true, true, true, true, true, true, true, true, true, true, true, true, true, true, true, true, true, true, true, true, true, true, false, false, false, false, false, false, false] rfl rfl (any_of HT_.out (by kernel_rfl)) (fun _ _ _ h => h) (Or.inl ⟨by rfl, ?_⟩) ?_ ?_
             rotate_left
             ·
              intro w'
              go_simp
              with_reducible rfl
             rotate_left
             ·
              simp only [Act.put, List.setIfInBounds_toArray, List.set_cons_zero, List.set_cons_succ, i64_w, i32_w]
              rfl
             refine pure_ (i := 43) (N := some 63) (v := ?_) (a' := ?_) #[true, true, true, true, true, true, true, true, true, true, true, true, true, true, true, true, true, true, true, true, true, true, true, true, true, true, true, true, true, true, true, true, true, true, true, true, true, true, true, true, true, true, true, true, false, false, false, false, false, false] rfl rfl (any_of HT_.out (by kernel_rfl)) (fun _ _ _ h => h) (Or.inl ⟨by rfl, ?_⟩) ?_ ?_
             rotate_left
             ·
              intro w'
              go_simp
              with_reducible rfl
             rotate_left
             ·
              simp only [Act.put, List.setIfInBounds_toArray, List.set_cons_zero, List.set_cons_succ, i64_w, i32_w]
              rfl
             refine pure_ (i := 46) (N := some 66) (v := ?_) (a' := ?_) #[true, true, true, true, true, true, true, true, true, true, true, true, true, true, true, true, true, true, true, true, true, true, true, true, true, true, true, true, true, true, true, true, true, true, true, true, true, true, true, true, true, true, true, true, false, false, true, false, false, false] rfl rfl (any_of HT_.out (by kernel_rfl)) (fun _ _ _ h => h) (Or.inl ⟨by rfl, ?_⟩) ?_ ?_
             rotate_left
             ·
              intro w'
              go_simp
              with_reducible rfl
             rotate_left
             ·
              simp only [Act.put, List.setIfInBounds_toArray, List.set_cons_zero, List.set_cons_succ, i64_w, i32_w]
              rfl
             refine take_ (i := 44) (N := some 64) (v := ?_) (a' := ?_) #[true, true, true, true, true, true, true, true, true, true, true, true, true, true, true, true, true, true, true, true, true, true, true, true, true, true, true, true, true, true, true, true, true, true, true, true, true, true, true, true, true, true, true, true, true, false, true, false, false, false] rfl rfl (take_ofW HT_.out HW_.out (by kernel_rfl)) (fun _ _ _ h => h) (Or.inl ⟨by rfl, ?_⟩) hHeld ?_ ?_
             rotate_left
             ·
              rintro w' ⟨s0, s1, s2, s3, s4, s5, s6, s7⟩
              go_simp
              with_reducible rfl
             rotate_left
             ·
              simp only [Act.put, List.setIfInBounds_toArray, List.set_cons_zero, List.set_cons_succ, i64_w, i32_w]
              rfl
             refine take_ (i := 45) (N := some 65) (v := ?_) (a' := ?_) #[true, true, true, true, true, true, true, true, true, true, true, true, true, true, true, true, true, true, true, true, true, true, true, true, true, true, true, true, true, true, true, true, true, true, true, true, true, true, true, true, true, true, true, true, true, true, true, false, false, false] rfl rfl (take_ofW HT_.out HW_.out (by kernel_rfl)) (fun _ _ _ h => h) (Or.inl ⟨by rfl, ?_⟩) hHeld ?_ ?_
             rotate_left
             ·
              rintro w' ⟨s0, s1, s2, s3, s4, s5, s6, s7⟩
              go_simp
              with_reducible rfl
             rotate_left
             ·
              simp only [Act.put, List.setIfInBounds_toArray, List.set_cons_zero, List.set_cons_succ, i64_w, i32_w]
              rfl
             refine one_ (i := 47) (N := some 67) #[true, true, true, true, true, true, true, true, true, true, true, true, true, true, true, true, true, true, true, true, true, true, true, true, true, true, true, true, true, true, true, true, true, true, true, true, true, true, true, true, true, true, true, true, true, true, true, true, false, false] rfl rfl (one_of HT_.out (by kernel_rfl)) (by decide) (fun K hK => ?_)
             refine goes_ Try.func32 (by kernel_rfl) rfl #[.agg #[.slice Ao13 t517.length co13, .slice (some ad529) t520.length co16, .slice Ao17 t523.length co17], .agg #[.slice (some ad530) t507.length co7, .slice Ao9 t510.length co9, .slice Ao10 t513.length co10], .int .i64 t526] (by rfl) rfl rfl (by (try simp only [List.map_toArray, List.map_cons, List.map_nil]); first | done | rfl | (simp only [List.length_drop, List.length_take]; rfl)) ?_
             with_reducible refine (headgatelaw07_bits.calls k _ _ t517 _ _ t520 _ _ t523 _ _ t507 _ _ t510 _ _ t513 t526 true _ ?side1 ?side2 ?side3 ?side4 ?side5 ?side6 ?side7 ?side8 ?side9 ?side10 ?side11 ?side12 A32.out).mono ?_
             (case side1 => repeat (first | exact (Kd.R_reads' HO519.out).2.2 | (with_reducible refine Kd.C_alloc ?_ _) | (with_reducible refine Kd.C_drewN ?_ _) | (with_reducible refine Kd.C_drew ?_)))
             (case side2 => exact (Kd.R_reads' HO519.out).2.1)
             (case side3 => repeat (first | exact (Kd.R_reads' HO522.out).2.2 | (with_reducible refine Kd.C_alloc ?_ _) | (with_reducible refine Kd.C_drewN ?_ _) | (with_reducible refine Kd.C_drew ?_)))
             (case side4 => exact (Kd.R_reads' HO522.out).2.1)
             (case side5 => repeat (first | exact (Kd.R_reads' HO525.out).2.2 | (with_reducible refine Kd.C_alloc ?_ _) | (with_reducible refine Kd.C_drewN ?_ _) | (with_reducible refine Kd.C_drew ?_)))
             (case side6 => exact (Kd.R_reads' HO525.out).2.1)
             (case side7 => repeat (first | exact (Kd.R_reads' HO509.out).2.2 | (with_reducible refine Kd.C_alloc ?_ _) | (with_reducible refine Kd.C_drewN ?_ _) | (with_reducible refine Kd.C_drew ?_)))
             (case side8 => exact (Kd.R_reads' HO509.out).2.1)
             (case side9 => repeat (first | exact (Kd.R_reads' HO512.out).2.2 | (with_reducible refine Kd.C_alloc ?_ _) | (with_reducible refine Kd.C_drewN ?_ _) | (with_reducible refine Kd.C_drew ?_)))
             (case side10 => exact (Kd.R_reads' HO512.out).2.1)
             (case side11 => repeat (first | exact (Kd.R_reads' HO515.out).2.2 | (with_reducible refine Kd.C_alloc ?_ _) | (with_reducible refine Kd.C_drewN ?_ _) | (with_reducible refine Kd.C_drew ?_)))
             (case side12 => exact (Kd.R_reads' HO515.out).2.1)
             rintro e w39 ⟨rfl, hb⟩
             have HS6_ := (hb.cell (World.block_lt_of_cell? _ _ (hHeld.2.2.2.2.2.2.1))).trans (hHeld.2.2.2.2.2.2.1)
             have HS7_ := (hb.cell (World.block_lt_of_cell? _ _ (hHeld.2.2.2.2.2.2.2))).trans (hHeld.2.2.2.2.2.2.2)
             refine ⟨_, rfl, ?_⟩
             have n0_ := Aside0.mk (Kd.R_below (by (with_reducible repeat (first | apply Kd.R_alloc | apply Kd.R_drewN | apply Kd.R_drew)); exact HO509.out) hb)
             have n1_ := Aside0.mk (Kd.R_below (by (with_reducible repeat (first | apply Kd.R_alloc | apply Kd.R_drewN | apply Kd.R_drew)); exact HO512.out) hb)
             have n2_ := Aside0.mk (Kd.R_below (by (with_reducible repeat (first | apply Kd.R_alloc | apply Kd.R_drewN | apply Kd.R_drew)); exact HO515.out) hb)
             have n3_ := Aside0.mk (Kd.R_below (by (with_reducible repeat (first | apply Kd.R_alloc | apply Kd.R_drewN | apply Kd.R_drew)); exact HO519.out) hb)
             have n4_ := Aside0.mk (Kd.R_below (by (with_reducible repeat (first | apply Kd.R_alloc | apply Kd.R_drewN | apply Kd.R_drew)); exact HO522.out) hb)
             have n5_ := Aside0.mk (Kd.R_below (by (with_reducible repeat (first | apply Kd.R_alloc | apply Kd.R_drewN | apply Kd.R_drew)); exact HO525.out) hb)
             have n6_ := Aside0.mk (Kd.R_below (by (with_reducible repeat (first | apply Kd.R_alloc | apply Kd.R_drewN | apply Kd.R_drew)); exact HO533.out) hb)
             have n7_ := Aside0.mk (blk_below (g := gb516) (o := .cells #[.slice (some ad530) t507.length co7, .slice Ao9 t510.length co9, .slice Ao10 t513.length co10] 25 (0, 0)) (by (with_reducible repeat (first | refine blk_drewN ?_ _ | refine blk_drew ?_ | refine blk_alloc ?_ _)); exact BK516.out) hb)
             have n8_ := Aside0.mk (blk_below (g := gb528) (o := .cells #[.slice Ao13 t517.length co13, .slice (some ad529) t520.length co16, .slice Ao17 t523.length co17] 25 (0, 0)) (by (with_reducible repeat (first | refine blk_drewN ?_ _ | refine blk_drew ?_ | refine blk_alloc ?_ _)); exact BK528.out) hb)
             have n9_ := Aside0.mk (Kd.C_below (by repeat (first | (with_reducible exact HR538.out) | (with_reducible refine Kd.C_alloc ?_ _) | (with_reducible refine Kd.C_drewN ?_ _) | (with_reducible refine Kd.C_drew ?_) | exact HR538.out)) hb)
             have n10_ := Aside0.mk (below_step (by repeat (first | (with_reducible first | exact HB.out | apply below_alloc | apply pw_below_drewN | apply below_drew1 | refine below_set ?_ GE516.out | refine below_set ?_ GE528.out) | exact HB.out)) hb)
             clear HO509
             clear HO512
             clear HO515
             clear HO519
             clear HO522
             clear HO525
             clear HO533
             clear BK516
             clear BK528
             clear HR538
             clear HB
             have HO509 := n0_
             have HO512 := n1_
             have HO515 := n2_
             have HO519 := n3_
             have HO522 := n4_
             have HO525 := n5_
             have HO533 := n6_
             have BK516 := n7_
             have BK528 := n8_
             have HR538 := n9_
             have HB := n10_
             clear n0_ n1_ n2_ n3_ n4_ n5_ n6_ n7_ n8_ n9_ n10_
             (try clear hb)
             (try clear hb2)
             (try clear hk)
             (try clear hi)
             refine hK.out _ _ ⟨(blk_cell BK528.out 0).trans rfl, (blk_cell BK528.out 1).trans rfl, (blk_cell BK528.out 2).trans rfl, (blk_cell BK516.out 0).trans rfl, (blk_cell BK516.out 1).trans rfl, (blk_cell BK516.out 2).trans rfl, HS6_, HS7_⟩ (fun hHeld => ?_)
             clear hK K
             refine norm_ (a' := ?_) ?_ ?_
             rotate_left
             ·
              show Act.put _ (some 67) _ = _
              simp only [Act.put, List.setIfInBounds_toArray, List.set_cons_zero, List.set_cons_succ, i64_w, i32_w]
              rfl
             refine pure_ (i := 48) (N := some 68) (v := ?_) (a' := ?_) #[true, true, true, true, true, true, true, true, true, true, true, true, true, true, true, true, true, true, true, true, true, true, true, true, true, true, true, true, true, true, true, true, true, true, true, true, true, true, true, true, true, true, true, true, true, true, true, true, true, false] rfl rfl (any_of HT_.out (by kernel_rfl)) (fun _ _ _ h => h) (Or.inl ⟨by rfl, ?_⟩) ?_ ?_
             rotate_left
             ·
              intro w'
              go_simp
              with_reducible rfl
             rotate_left
             ·
              simp only [Act.put, List.setIfInBounds_toArray, List.set_cons_zero, List.set_cons_succ, i64_w, i32_w]
              rfl
             refine pure_ (i := 49) (N := some 69) (v := ?_) (a' := ?_) #[true, true, true, true, true, true, true, true, true, true, true, true, true, true, true, true, true, true, true, true, true, true, true, true, true, true, true, true, true, true, true, true, true, true, true, true, true, true, true, true, true, true, true, true, true, true, true, true, true, true] rfl rfl (any_of HT_.out (by kernel_rfl)) (fun _ _ _ h => h) (Or.inl ⟨by rfl, ?_⟩) ?_ ?_
             rotate_left
             ·
              intro w'
              go_simp
              with_reducible rfl
             rotate_left
             ·
              simp only [Act.put, List.setIfInBounds_toArray, List.set_cons_zero, List.set_cons_succ, i64_w, i32_w]
              rfl
             refine done_ (done_of HT_.out (by kernel_rfl)) ?_
             try go_wp2
             go_meet
             case rel => exact ⟨_, H', ⟨by first | omega | exact Nat.le_refl _⟩, ⟨by (with_reducible repeat (first | apply Kd.R_alloc | apply Kd.R_drewN | apply Kd.R_drew)); exact Kd.R_mono HO509.out (fun _ hk => ⟨hk.1.1, ⟨hk.1.2.1, hk.1.2.2⟩⟩)⟩, ⟨by (with_reducible repeat (first | apply Kd.R_alloc | apply Kd.R_drewN | apply Kd.R_drew)); exact Kd.R_mono HO512.out (fun _ hk => ⟨hk.1.1, ⟨hk.1.2.1, hk.1.2.2⟩⟩)⟩, ⟨by (with_reducible repeat (first | apply Kd.R_alloc | apply Kd.R_drewN | apply Kd.R_drew)); exact HO515.out⟩, ⟨by (with_reducible repeat (first | apply Kd.R_alloc | apply Kd.R_drewN | apply Kd.R_drew)); exact Kd.R_mono HO519.out (fun _ hk => ⟨hk.1.1, ⟨hk.1.2.1, hk.1.2.2⟩⟩)⟩, ⟨by (with_reducible repeat (first | apply Kd.R_alloc | apply Kd.R_drewN | apply Kd.R_drew)); exact Kd.R_mono HO522.out (fun _ hk => ⟨hk.1.1, ⟨hk.1.2.1, hk.1.2.2⟩⟩)⟩, ⟨by (with_reducible repeat (first | apply Kd.R_alloc | apply Kd.R_drewN | apply Kd.R_drew)); exact HO525.out⟩, ⟨by (with_reducible repeat (first | refine blk_drewN ?_ _ | refine blk_drew ?_ | refine blk_alloc ?_ _)); exact BK516.out⟩, ⟨by (with_reducible repeat (first | refine blk_drewN ?_ _ | refine blk_drew ?_ | refine blk_alloc ?_ _)); exact BK528.out⟩, ⟨by repeat (first | (with_reducible first | exact HB.out | apply below_alloc | apply pw_below_drewN | apply below_drew1 | refine below_set ?_ GE516.out | refine below_set ?_ GE528.out) | exact HB.out)⟩⟩
            ·
             replace c33 := Bool.eq_false_iff.mpr c33
             subst c33
             have H1 : (some false) = some r := by rw [if_neg (show ¬ (false = true) by decide)] at H; exact H
             clear H
             have H := H1
             clear H1
             exact absurd H (by rw [HT.out]; simp)
           ·
            replace c31 := Bool.eq_false_iff.mpr c31
            subst c31
            have H1 : (some false) = some r := by rw [if_neg (show ¬ (false = true) by decide)] at H; exact H
            clear H
            have H := H1
            clear H1
            exact absurd H (by rw [HT.out]; simp)
          ·
           rw [if_neg c29] at H
           exact absurd H (by simp)
         ·
          replace c28 := Bool.eq_false_iff.mpr c28
          subst c28
          have H1 : (some false) = some r := by rw [if_neg (show ¬ (false = true) by decide)] at H; exact H
          clear H
          have H := H1
          clear H1
          exact absurd H (by rw [HT.out]; simp)
        ·
         rw [if_neg c25] at H
         have c25b0 : (t526 == (rd t507 (ji22))) = false := beq_eq_false_iff_ne.mpr c25
         have c25b1 : (t526 != (rd t507 (ji22))) = true := bne_iff_ne.mpr c25
         exact absurd H (by rw [HT.out]; simp)
       ·
        rw [if_neg c24] at H
        exact absurd H (by simp)
      ·
       rw [if_neg c23] at H
       exact absurd H (by simp)
     ·
      rw [if_neg c21] at H
      have c21b0 : ((rd t520 0) == t526) = false := beq_eq_false_iff_ne.mpr c21
      have c21b1 : ((rd t520 0) != t526) = true := bne_iff_ne.mpr c21
      exact absurd H (by rw [HT.out]; simp)
    ·
     rw [if_neg c20] at H
     exact absurd H (by simp)
  ·
   rw [if_neg c18] at H
   have c18b0 : (t527 == 0) = false := beq_eq_false_iff_ne.mpr c18
   have c18b1 : (t527 != 0) = true := bne_iff_ne.mpr c18
   (first | rw [c18b0] | (simp only [i64_w, i32_w]; rw [c18b0]) | skip)
   have H' := Aside0.mk H
   clear H
   go_wp2
   go_meet
   case rel => exact ⟨_, H', ⟨by first | omega | exact Nat.le_refl _⟩, ⟨by (with_reducible repeat (first | apply Kd.R_alloc | apply Kd.R_drewN | apply Kd.R_drew)); exact Kd.R_mono (Kd.R_far (p := ⟨gb528, 2, none⟩) (Kd.R_far (p := ⟨gb528, 1, none⟩) (Kd.R_far (p := ⟨gb528, 0, none⟩) (Kd.R_types HO509.out BK528.out (by decide)) (fun _ hk => hk.2) (.slice Ao13 t517.length co13)) (fun _ hk => hk.2) (.slice Ao16 t520.length co16)) (fun _ hk => hk.2) (.slice Ao17 t523.length co17)) (fun _ hk => ⟨hk.1.1.1, ⟨hk.1.1.2, hk.1.2⟩⟩)⟩, ⟨by (with_reducible repeat (first | apply Kd.R_alloc | apply Kd.R_drewN | apply Kd.R_drew)); exact Kd.R_mono (Kd.R_far (p := ⟨gb528, 2, none⟩) (Kd.R_far (p := ⟨gb528, 1, none⟩) (Kd.R_far (p := ⟨gb528, 0, none⟩) (Kd.R_types HO512.out BK528.out (by decide)) (fun _ hk => hk.2) (.slice Ao13 t517.length co13)) (fun _ hk => hk.2) (.slice Ao16 t520.length co16)) (fun _ hk => hk.2) (.slice Ao17 t523.length co17)) (fun _ hk => ⟨hk.1.1.1, ⟨hk.1.1.2, hk.1.2⟩⟩)⟩, ⟨by (with_reducible repeat (first | apply Kd.R_alloc | apply Kd.R_drewN | apply Kd.R_drew)); exact Kd.R_mono (Kd.R_far (p := ⟨gb528, 2, none⟩) (Kd.R_far (p := ⟨gb528, 1, none⟩) (Kd.R_far (p := ⟨gb528, 0, none⟩) (Kd.R_types HO515.out BK528.out (by decide)) (fun _ hk => hk.2) (.slice Ao13 t517.length co13)) (fun _ hk => hk.2) (.slice Ao16 t520.length co16)) (fun _ hk => hk.2) (.slice Ao17 t523.length co17)) (fun _ hk => hk.1.2)⟩, ⟨by (with_reducible repeat (first | apply Kd.R_alloc | apply Kd.R_drewN | apply Kd.R_drew)); exact Kd.R_mono (Kd.R_far (p := ⟨gb528, 2, none⟩) (Kd.R_far (p := ⟨gb528, 1, none⟩) (Kd.R_far (p := ⟨gb528, 0, none⟩) (Kd.R_types HO519.out BK528.out (by decide)) (fun _ hk => hk.2) (.slice Ao13 t517.length co13)) (fun _ hk => hk.2) (.slice Ao16 t520.length co16)) (fun _ hk => hk.2) (.slice Ao17 t523.length co17)) (fun _ hk => ⟨hk.1.1.2, ⟨hk.1.2, hk.1.1.1⟩⟩)⟩, ⟨by (with_reducible repeat (first | apply Kd.R_alloc | apply Kd.R_drewN | apply Kd.R_drew)); exact Kd.R_mono (Kd.R_far (p := ⟨gb528, 2, none⟩) (Kd.R_far (p := ⟨gb528, 1, none⟩) (Kd.R_far (p := ⟨gb528, 0, none⟩) (Kd.R_types HO522.out BK528.out (by decide)) (fun _ hk => hk.2) (.slice Ao13 t517.length co13)) (fun _ hk => hk.2) (.slice Ao16 t520.length co16)) (fun _ hk => hk.2) (.slice Ao17 t523.length co17)) (fun _ hk => ⟨hk.1.1.2, ⟨hk.1.2, hk.1.1.1⟩⟩)⟩, ⟨by (with_reducible repeat (first | apply Kd.R_alloc | apply Kd.R_drewN | apply Kd.R_drew)); exact Kd.R_mono (Kd.R_far (p := ⟨gb528, 2, none⟩) (Kd.R_far (p := ⟨gb528, 1, none⟩) (Kd.R_far (p := ⟨gb528, 0, none⟩) (Kd.R_types HO525.out BK528.out (by decide)) (fun _ hk => hk.2) (.slice Ao13 t517.length co13)) (fun _ hk => hk.2) (.slice Ao16 t520.length co16)) (fun _ hk => hk.2) (.slice Ao17 t523.length co17)) (fun _ hk => hk.1.2)⟩, ⟨by (with_reducible repeat (first | refine blk_drewN ?_ _ | refine blk_drew ?_ | refine blk_alloc ?_ _)); refine blk_far ?_ NB516_528.out _; (with_reducible repeat (first | refine blk_drewN ?_ _ | refine blk_drew ?_ | refine blk_alloc ?_ _)); refine blk_far ?_ NB516_528.out _; (with_reducible repeat (first | refine blk_drewN ?_ _ | refine blk_drew ?_ | refine blk_alloc ?_ _)); refine blk_far ?_ NB516_528.out _; (with_reducible repeat (first | refine blk_drewN ?_ _ | refine blk_drew ?_ | refine blk_alloc ?_ _)); exact BK516.out⟩, ⟨by (with_reducible repeat (first | refine blk_drewN ?_ _ | refine blk_drew ?_ | refine blk_alloc ?_ _)); refine blk_put (cs := #[.slice Ao13 t517.length co13, .slice Ao16 t520.length co16, .slice none 0 0]) ?_ 2 _ rfl; (with_reducible repeat (first | refine blk_drewN ?_ _ | refine blk_drew ?_ | refine blk_alloc ?_ _)); refine blk_put (cs := #[.slice Ao13 t517.length co13, .slice none 0 0, .slice none 0 0]) ?_ 1 _ rfl; (with_reducible repeat (first | refine blk_drewN ?_ _ | refine blk_drew ?_ | refine blk_alloc ?_ _)); refine blk_put (cs := #[.slice none 0 0, .slice none 0 0, .slice none 0 0]) ?_ 0 _ rfl; (with_reducible repeat (first | refine blk_drewN ?_ _ | refine blk_drew ?_ | refine blk_alloc ?_ _)); exact BK528.out⟩, ⟨by repeat (first | (with_reducible first | exact HB.out | apply below_alloc | apply pw_below_drewN | apply below_drew1 | refine below_set ?_ GE516.out | refine below_set ?_ GE528.out) | exact HB.out)⟩⟩
 case rest =>
  clear HC4
  try clear c1
  try clear c2
  try clear p2
  try clear c3
  try clear q3
  try clear p5
  try clear q5
  try clear hx5
  try clear c18
  try clear c18b0
  try clear c18b1
  try clear c20
  try clear c21
  try clear c21b0
  try clear c21b1
  try clear c23
  try clear c24
  try clear c25
  try clear c25b0
  try clear c25b1
  try clear c28
  try clear c29
  try clear c30
  try clear c31
  try clear c32
  try clear c33
  try clear c38
  try clear q38
  try clear hx529_0
  try clear hx530_0
  try clear p529
  try clear p530
  try clear q38
  try clear q529
  try clear q530
  obtain ⟨kq, HA, HJ3, HO_517000, HO_517001, HO_517002, HO_529000, HO_529001, HO_529002, BK516, BK528, HB⟩ := hcut
  cases kq with
  | zero => exact absurd HA.out (by simp [headgatelaw07_LruMoves.j0])
  | succ kj3 =>
   have H := HA.out
   clear HA
   simp only [headgatelaw07_LruMoves.j0] at H
   replace H := Option.bind_eq_some_iff.mp H
   obtain ⟨⟨t541, t544, t547, t550, t551⟩, A400, H⟩ := H
   replace H : (if t551 = 0 then (if (t541.length : Int) = 0 then (some false) else (if 0 < (t541.length : Int) then (if (rd t541 0) = t550 then (if 0 ≤ (wrap64 ((t510.length : Int) - 1)) then (if (wrap64 ((t510.length : Int) - 1)) < (t510.length : Int) then (if t550 = (rd t510 (wrap64 ((t510.length : Int) - 1))) then ((headgatelaw07_without.f kj3 t510 t550).bind fun t555 => ((headgatekit_SameInts.f kj3 t544 t555).bind fun t558 => (if t558 = true then (if 1 ≤ (t541.length : Int) then ((headgatekit_SameInts.f kj3 (t541.drop 1) t507).bind fun t563 => (if t563 = true then ((headgatelaw07_bits.f kj3 t541 t544 t547 t507 t510 t513 t550).bind fun t564 => (if t564 = true then (if ((t527 == 0) == (decide ((t507.length : Int) > 0))) = true then (if ((t551 == 0) == (decide ((t510.length : Int) > 0))) = true then ((headgatelaw07_awake.f).bind fun t565 => (some t565)) else (some false)) else (some false)) else (some false))) else (some false))) else (none)) else (some false)))) else (some false)) else (none)) else (none)) else (some false)) else (none))) else (if ((t527 == 0) == (decide ((t507.length : Int) > 0))) = true then (if ((t551 == 0) == (decide ((t510.length : Int) > 0))) = true then ((headgatelaw07_awake.f).bind fun t566 => (some t566)) else (some false)) else (some false))) = some r := H
   have A40 := Aside0.mk A400
   clear A400
   by_cases c41 : t551 = 0
   · as_aux_lemma =>
    rw [if_pos c41] at H
    have c41b0 : (t551 == 0) = true := beq_iff_eq.mpr c41
    have c41b1 : (t551 != 0) = false := bne_eq_false_iff_eq.mpr c41
    clear c41
    by_cases c42 : (t541.length : Int) = 0
    ·
     rw [if_pos c42] at H
     have c42b0 : ((t541.length : Int) == 0) = true := beq_iff_eq.mpr c42
     have c42b1 : ((t541.length : Int) != 0) = false := bne_eq_false_iff_eq.mpr c42
     clear c42
     exact absurd H (by rw [HT.out]; simp)
    ·
     rw [if_neg c42] at H
     have c42b0 : ((t541.length : Int) == 0) = false := beq_eq_false_iff_ne.mpr c42
     have c42b1 : ((t541.length : Int) != 0) = true := bne_iff_ne.mpr c42
     have c42b2 : ¬ (t541 = []) := fun h_ => c42 (by rw [h_]; rfl)
     by_cases c43 : 0 < (t541.length : Int)
     ·
      rw [if_pos c43] at H
      have c43b0 : decide (0 < (t541.length : Int)) = true := decide_eq_true c43
      have c43b1 : decide (0 < t541.length) = true := decide_eq_true (by omega)
      clear c43
      by_cases c44 : (rd t541 0) = t550
      ·
       rw [if_pos c44] at H
       have c44b0 : ((rd t541 0) == t550) = true := beq_iff_eq.mpr c44
       have c44b1 : ((rd t541 0) != t550) = false := bne_eq_false_iff_eq.mpr c44
       clear c44
       obtain ⟨ji45, hji45⟩ : ∃ j_ : Int, (wrap64 ((t510.length : Int) - 1)) = j_ := ⟨_, rfl⟩
       replace H : (if 0 ≤ (ji45) then (if (ji45) < (t510.length : Int) then (if t550 = (rd t510 (ji45)) then ((headgatelaw07_without.f kj3 t510 t550).bind fun t555 => ((headgatekit_SameInts.f kj3 t544 t555).bind fun t558 => (if t558 = true then (if 1 ≤ (t541.length : Int) then ((headgatekit_SameInts.f kj3 (t541.drop 1) t507).bind fun t563 => (if t563 = true then ((headgatelaw07_bits.f kj3 t541 t544 t547 t507 t510 t513 t550).bind fun t564 => (if t564 = true then (if ((t527 == 0) == (decide ((t507.length : Int) > 0))) = true then (if ((t551 == 0) == (decide ((t510.length : Int) > 0))) = true then ((headgatelaw07_awake.f).bind fun t565 => (some t565)) else (some false)) else (some false)) else (some false))) else (some false))) else (none)) else (some false)))) else (some false)) else (none)) else (none)) = some r := by first | (rw [hji45] at H; exact H) | (simp only [hji45] at H ⊢; exact H)
       (try rw [hji45] at A40)
       have hji45w : (IntKind.i64.wrap ((t510.length : Int) - 1)) = ji45 := (i64_w _).trans hji45
       by_cases c46 : 0 ≤ (ji45)
       ·
        rw [if_pos c46] at H
        have c46b0 : decide (0 ≤ (ji45)) = true := decide_eq_true c46
        clear c46
        by_cases c47 : (ji45) < (t510.length : Int)
        ·
         rw [if_pos c47] at H
         have c47b0 : decide ((ji45) < (t510.length : Int)) = true := decide_eq_true c47
         clear c47
         by_cases c48 : t550 = (rd t510 (ji45))
         ·
          rw [if_pos c48] at H
          have c48b0 : (t550 == (rd t510 (ji45))) = true := beq_iff_eq.mpr c48
          have c48b1 : (t550 != (rd t510 (ji45))) = false := bne_eq_false_iff_eq.mpr c48
          clear c48
          replace H := Option.bind_eq_some_iff.mp H
          obtain ⟨t555, A490, H⟩ := H
          replace H : ((headgatekit_SameInts.f kj3 t544 t555).bind fun t558 => (if t558 = true then (if 1 ≤ (t541.length : Int) then ((headgatekit_SameInts.f kj3 (t541.drop 1) t507).bind fun t563 => (if t563 = true then ((headgatelaw07_bits.f kj3 t541 t544 t547 t507 t510 t513 t550).bind fun t564 => (if t564 = true then (if ((t527 == 0) == (decide ((t507.length : Int) > 0))) = true then (if ((t551 == 0) == (decide ((t510.length : Int) > 0))) = true then ((headgatelaw07_awake.f).bind fun t565 => (some t565)) else (some false)) else (some false)) else (some false))) else (some false))) else (none)) else (some false))) = some r := H
          have A49 := Aside0.mk A490
          clear A490
          replace H := Option.bind_eq_some_iff.mp H
          obtain ⟨t558, A500, H⟩ := H
          replace H : (if t558 = true then (if 1 ≤ (t541.length : Int) then ((headgatekit_SameInts.f kj3 (t541.drop 1) t507).bind fun t563 => (if t563 = true then ((headgatelaw07_bits.f kj3 t541 t544 t547 t507 t510 t513 t550).bind fun t564 => (if t564 = true then (if ((t527 == 0) == (decide ((t507.length : Int) > 0))) = true then (if ((t551 == 0) == (decide ((t510.length : Int) > 0))) = true then ((headgatelaw07_awake.f).bind fun t565 => (some t565)) else (some false)) else (some false)) else (some false))) else (some false))) else (none)) else (some false)) = some r := H
          have A50 := Aside0.mk A500
          clear A500
          by_cases c51 : t558 = true
          ·
           subst c51
           have H1 : (if 1 ≤ (t541.length : Int) then ((headgatekit_SameInts.f kj3 (t541.drop 1) t507).bind fun t563 => (if t563 = true then ((headgatelaw07_bits.f kj3 t541 t544 t547 t507 t510 t513 t550).bind fun t564 => (if t564 = true then (if ((t527 == 0) == (decide ((t507.length : Int) > 0))) = true then (if ((t551 == 0) == (decide ((t510.length : Int) > 0))) = true then ((headgatelaw07_awake.f).bind fun t565 => (some t565)) else (some false)) else (some false)) else (some false))) else (some false))) else (none)) = some r := by rw [if_pos rfl] at H; exact H
           clear H
           have H := H1
           clear H1
           by_cases c52 : 1 ≤ (t541.length : Int)
           ·
            rw [if_pos c52] at H
            have c52b0 := eq_true c52
            have c52b1 : decide (1 ≤ (t541.length : Int)) = true := decide_eq_true c52
            clear c52
            obtain ⟨y559, hy559⟩ : ∃ y_ : List Int, y_ = (t541.drop 1) := ⟨_, rfl⟩
            replace H : ((headgatekit_SameInts.f kj3 y559 t507).bind fun t563 => (if t563 = true then ((headgatelaw07_bits.f kj3 t541 t544 t547 t507 t510 t513 t550).bind fun t564 => (if t564 = true then (if ((t527 == 0) == (decide ((t507.length : Int) > 0))) = true then (if ((t551 == 0) == (decide ((t510.length : Int) > 0))) = true then ((headgatelaw07_awake.f).bind fun t565 => (some t565)) else (some false)) else (some false)) else (some false))) else (some false))) = some r := by first | (rw [hy559]; with_reducible exact H) | (have H2_ := (Option.bind_some _ _).symm.trans H; rw [hy559]; with_reducible exact H2_) | (have H2_ := (Option.bind_some _ _).symm.trans H; with_reducible exact H2_) | with_reducible exact H | (rw [hy559]; exact H) | exact H
            have Ny559 := Aside0.mk hy559
            clear hy559
            replace H := Option.bind_eq_some_iff.mp H
            obtain ⟨t563, A530, H⟩ := H
            replace H : (if t563 = true then ((headgatelaw07_bits.f kj3 t541 t544 t547 t507 t510 t513 t550).bind fun t564 => (if t564 = true then (if ((t527 == 0) == (decide ((t507.length : Int) > 0))) = true then (if ((t551 == 0) == (decide ((t510.length : Int) > 0))) = true then ((headgatelaw07_awake.f).bind fun t565 => (some t565)) else (some false)) else (some false)) else (some false))) else (some false)) = some r := H
            have A53 := Aside0.mk A530
            clear A530
            by_cases c54 : t563 = true
            ·
             subst c54
             have H1 : ((headgatelaw07_bits.f kj3 t541 t544 t547 t507 t510 t513 t550).bind fun t564 => (if t564 = true then (if ((t527 == 0) == (decide ((t507.length : Int) > 0))) = true then (if ((t551 == 0) == (decide ((t510.length : Int) > 0))) = true then ((headgatelaw07_awake.f).bind fun t565 => (some t565)) else (some false)) else (some false)) else (some false))) = some r := by rw [if_pos rfl] at H; exact H
             clear H
             have H := H1
             clear H1
             replace H := Option.bind_eq_some_iff.mp H
             obtain ⟨t564, A550, H⟩ := H
             replace H : (if t564 = true then (if ((t527 == 0) == (decide ((t507.length : Int) > 0))) = true then (if ((t551 == 0) == (decide ((t510.length : Int) > 0))) = true then ((headgatelaw07_awake.f).bind fun t565 => (some t565)) else (some false)) else (some false)) else (some false)) = some r := H
             have A55 := Aside0.mk A550
             clear A550
             by_cases c56 : t564 = true
             ·
              subst c56
              have H1 : (if ((t527 == 0) == (decide ((t507.length : Int) > 0))) = true then (if ((t551 == 0) == (decide ((t510.length : Int) > 0))) = true then ((headgatelaw07_awake.f).bind fun t565 => (some t565)) else (some false)) else (some false)) = some r := by rw [if_pos rfl] at H; exact H
              clear H
              have H := H1
              clear H1
              by_cases c57 : ((t527 == 0) == (decide ((t507.length : Int) > 0))) = true
              ·
               rw [if_pos c57] at H
               have c57b0 : ((t527 == 0) == (decide ((t507.length : Int) > 0))) = true := c57
               (try (have c57ba : ((t527 == 0) = decide (0 < t507.length)) = True := eq_true (by simpa using c57b0)))
               (try (have c57bb : (0 < t507.length) = True := eq_true (by have h_ := c57b0; rw [show (t527 == 0) = true by assumption] at h_; simpa using h_)))
               (try (have c57bc : (t507 = []) = True := eq_true (by have h_ := c57b0; rw [show (t527 == 0) = false by assumption] at h_; simpa using h_)))
               (try (have c57b1 : decide ((t527 == 0) = (decide ((t507.length : Int) > 0))) = true := by simpa using c57))
               (try (have c57b2 : ((t527 == 0) == (decide ((t507.length : Int) > 0))) = true := by simpa using c57))
               clear c57
               by_cases c58 : ((t551 == 0) == (decide ((t510.length : Int) > 0))) = true
               · as_aux_lemma =>
                rw [if_pos c58] at H
                have c58b0 : ((t551 == 0) == (decide ((t510.length : Int) > 0))) = true := c58
                (try (have c58ba : ((t551 == 0) = decide (0 < t510.length)) = True := eq_true (by simpa using c58b0)))
                (try (have c58bb : (0 < t510.length) = True := eq_true (by have h_ := c58b0; rw [show (t551 == 0) = true by assumption] at h_; simpa using h_)))
                (try (have c58bc : (t510 = []) = True := eq_true (by have h_ := c58b0; rw [show (t551 == 0) = false by assumption] at h_; simpa using h_)))
                (try (have c58b1 : decide ((t551 == 0) = (decide ((t510.length : Int) > 0))) = true := by simpa using c58))
                (try (have c58b2 : ((t551 == 0) == (decide ((t510.length : Int) > 0))) = true := by simpa using c58))
                clear c58
                replace H := Option.bind_eq_some_iff.mp H
                obtain ⟨t565, A590, H⟩ := H
                replace H : (some t565) = some r := H
                have A59 := Aside0.mk A590
                clear A590
                obtain rfl := Option.some.inj H
                have hnb60 := NB516_528.out
                have hnc60 := NB528_516.out
                have hcz61_0 : wc.cell? ⟨gb516, 0, none⟩ = some (.slice Ao7 t507.length co7) := (blk_cell BK516.out 0).trans rfl
                have hcz61_1 : wc.cell? ⟨gb516, 1, none⟩ = some (.slice Ao9 t510.length co9) := (blk_cell BK516.out 1).trans rfl
                have hcz61_2 : wc.cell? ⟨gb516, 2, none⟩ = some (.slice Ao10 t513.length co10) := (blk_cell BK516.out 2).trans rfl
                have hfz61_0 := blk_frozen BK516.out 0
                have hfz61_1 := blk_frozen BK516.out 1
                have hfz61_2 := blk_frozen BK516.out 2
                try go_wp2_with (first | ((with_reducible refine gate_callee (f := 33) rfl ?_); refine goesL_ (some 72) rfl rfl Try.func33 (by kernel_rfl) rfl #[.agg #[.slice Ao7 t507.length co7, .slice Ao9 t510.length co9, .slice Ao10 t513.length co10]] rfl (by (try simp only [List.map_toArray, List.map_cons, List.map_nil]); first | done | rfl | (simp only [List.length_drop, List.length_take]; rfl)) ?_; (with_reducible refine (lru_Promote.calls _ _ t507 _ _ t510 _ _ t513 t541 t544 t547 t550 t551 _ ?side1 ?side2 ?side3 ?side4 ?side5 ?side6 A40.out).mono ?_); (case side1 => repeat (first | exact (Kd.R_reads' HO_517000.out).2.2 | (with_reducible refine Kd.C_alloc ?_ _) | (with_reducible refine Kd.C_drewN ?_ _) | (with_reducible refine Kd.C_drew ?_))); (case side2 => exact (Kd.R_reads' HO_517000.out).2.1); (case side3 => repeat (first | exact (Kd.R_reads' HO_517001.out).2.2 | (with_reducible refine Kd.C_alloc ?_ _) | (with_reducible refine Kd.C_drewN ?_ _) | (with_reducible refine Kd.C_drew ?_))); (case side4 => exact (Kd.R_reads' HO_517001.out).2.1); (case side5 => repeat (first | exact (Kd.R_reads' HO_517002.out).2.2 | (with_reducible refine Kd.C_alloc ?_ _) | (with_reducible refine Kd.C_drewN ?_ _) | (with_reducible refine Kd.C_drew ?_))); (case side6 => exact (Kd.R_reads' HO_517002.out).2.1); rintro e w62 ⟨v542, v545, v548, rfl, ho0, ho1, ho2, hb⟩; refine ⟨_, rfl, ?_⟩; have n0_ := Aside0.mk (Kd.R_mono (Kd.R_told (Kd.R_told (Kd.R_old (by (with_reducible repeat (first | apply Kd.R_alloc | apply Kd.R_drewN | apply Kd.R_drew)); exact HO_517000.out) hb) (Kd.R_base ho0)) (Kd.R_base ho1)) (fun _ h_ => h_.1)); have n1_ := Aside0.mk (Kd.R_mono (Kd.R_told (Kd.R_told (Kd.R_old (by (with_reducible repeat (first | apply Kd.R_alloc | apply Kd.R_drewN | apply Kd.R_drew)); exact HO_517001.out) hb) (Kd.R_base ho0)) (Kd.R_base ho1)) (fun _ h_ => h_.1)); have n2_ := Aside0.mk (Kd.R_elder' (by (with_reducible repeat (first | apply Kd.R_alloc | apply Kd.R_drewN | apply Kd.R_drew)); exact HO_517002.out) (Kd.R_base ho2) hb); have n3_ := Aside0.mk (Kd.R_mono (Kd.R_told (Kd.R_told (Kd.R_old (by (with_reducible repeat (first | apply Kd.R_alloc | apply Kd.R_drewN | apply Kd.R_drew)); exact HO_529000.out) hb) (Kd.R_base ho0)) (Kd.R_base ho1)) (fun _ h_ => h_.1)); have n4_ := Aside0.mk (Kd.R_mono (Kd.R_told (Kd.R_told (Kd.R_old (by (with_reducible repeat (first | apply Kd.R_alloc | apply Kd.R_drewN | apply Kd.R_drew)); exact HO_529001.out) hb) (Kd.R_base ho0)) (Kd.R_base ho1)) (fun _ h_ => h_.1)); have n5_ := Aside0.mk (Kd.R_elder' (by (with_reducible repeat (first | apply Kd.R_alloc | apply Kd.R_drewN | apply Kd.R_drew)); exact HO_529002.out) (Kd.R_base ho2) hb); have n6_ := Aside0.mk (Kd.R_lower (Kd.R_new' (Kd.R_new' (Kd.R_new' (Kd.R_new' ho0 (Kd.R_lt (by (with_reducible repeat (first | apply Kd.R_alloc | apply Kd.R_drewN | apply Kd.R_drew)); exact HO_517000.out))) (Kd.R_lt (by (with_reducible repeat (first | apply Kd.R_alloc | apply Kd.R_drewN | apply Kd.R_drew)); exact HO_517001.out))) (Kd.R_lt (by (with_reducible repeat (first | apply Kd.R_alloc | apply Kd.R_drewN | apply Kd.R_drew)); exact HO_529000.out))) (Kd.R_lt (by (with_reducible repeat (first | apply Kd.R_alloc | apply Kd.R_drewN | apply Kd.R_drew)); exact HO_529001.out))) (below_size (by repeat (first | (with_reducible first | exact HB.out | apply below_alloc | apply pw_below_drewN | apply below_drew1 | refine below_set ?_ GE516.out | refine below_set ?_ GE528.out) | exact HB.out)))); have n7_ := Aside0.mk (Kd.R_lower (Kd.R_new' (Kd.R_new' (Kd.R_new' (Kd.R_new' ho1 (Kd.R_lt (by (with_reducible repeat (first | apply Kd.R_alloc | apply Kd.R_drewN | apply Kd.R_drew)); exact HO_517000.out))) (Kd.R_lt (by (with_reducible repeat (first | apply Kd.R_alloc | apply Kd.R_drewN | apply Kd.R_drew)); exact HO_517001.out))) (Kd.R_lt (by (with_reducible repeat (first | apply Kd.R_alloc | apply Kd.R_drewN | apply Kd.R_drew)); exact HO_529000.out))) (Kd.R_lt (by (with_reducible repeat (first | apply Kd.R_alloc | apply Kd.R_drewN | apply Kd.R_drew)); exact HO_529001.out))) (below_size (by repeat (first | (with_reducible first | exact HB.out | apply below_alloc | apply pw_below_drewN | apply below_drew1 | refine below_set ?_ GE516.out | refine below_set ?_ GE528.out) | exact HB.out)))); have n8_ := Aside0.mk (Kd.R_lower (Kd.R_new' (Kd.R_new' ho2 (Kd.R_lt (by (with_reducible repeat (first | apply Kd.R_alloc | apply Kd.R_drewN | apply Kd.R_drew)); exact HO_517002.out))) (Kd.R_lt (by (with_reducible repeat (first | apply Kd.R_alloc | apply Kd.R_drewN | apply Kd.R_drew)); exact HO_529002.out))) (below_size (by repeat (first | (with_reducible first | exact HB.out | apply below_alloc | apply pw_below_drewN | apply below_drew1 | refine below_set ?_ GE516.out | refine below_set ?_ GE528.out) | exact HB.out)))); have n9_ := Aside0.mk (blk_below (g := gb516) (o := .cells #[.slice Ao7 t507.length co7, .slice Ao9 t510.length co9, .slice Ao10 t513.length co10] 25 (0, 0)) (by (with_reducible repeat (first | refine blk_drewN ?_ _ | refine blk_drew ?_ | refine blk_alloc ?_ _)); exact BK516.out) hb); have n10_ := Aside0.mk (blk_below (g := gb528) (o := .cells #[.slice Ao13 t517.length co13, .slice Ao16 t520.length co16, .slice Ao17 t523.length co17] 25 (0, 0)) (by (with_reducible repeat (first | refine blk_drewN ?_ _ | refine blk_drew ?_ | refine blk_alloc ?_ _)); exact BK528.out) hb); have n11_ := Aside0.mk (below_step (by repeat (first | (with_reducible first | exact HB.out | apply below_alloc | apply pw_below_drewN | apply below_drew1 | refine below_set ?_ GE516.out | refine below_set ?_ GE528.out) | exact HB.out)) hb); clear HO_517000; clear HO_517001; clear HO_517002; clear HO_529000; clear HO_529001; clear HO_529002; clear BK516; clear BK528; clear HB; have HO_517000 := n0_; have HO_517001 := n1_; have HO_517002 := n2_; have HO_529000 := n3_; have HO_529001 := n4_; have HO_529002 := n5_; have HO543 := n6_; have HO546 := n7_; have HO549 := n8_; have BK516 := n9_; have BK528 := n10_; have HB := n11_; clear n0_ n1_ n2_ n3_ n4_ n5_ n6_ n7_ n8_ n9_ n10_ n11_; (try clear hb); (try clear hb2); (try clear hk); (try clear hi); (try clear ho0); (try clear ho1); (try clear ho2)) | ((with_reducible refine gate_dst (N := 7) rfl ?_); (try (refine gate_guard (by rfl) ?_; dsimp only)); refine box_event ?hg (N := 7) ?hd (cs := #[.slice none 0 0, .slice none 0 0, .slice none 0 0]) (t := 25) ?hr ?_; (case hd => rfl); (case hg => rfl); (case hr => first | (go_simp; done) | (go_simp; rfl)); intro gb552 hg w63 hbox hb; have n0_ := Aside0.mk (Kd.R_below (by (with_reducible repeat (first | apply Kd.R_alloc | apply Kd.R_drewN | apply Kd.R_drew)); exact HO_517000.out) hb); have n1_ := Aside0.mk (Kd.R_below (by (with_reducible repeat (first | apply Kd.R_alloc | apply Kd.R_drewN | apply Kd.R_drew)); exact HO_517001.out) hb); have n2_ := Aside0.mk (Kd.R_below (by (with_reducible repeat (first | apply Kd.R_alloc | apply Kd.R_drewN | apply Kd.R_drew)); exact HO_517002.out) hb); have n3_ := Aside0.mk (Kd.R_below (by (with_reducible repeat (first | apply Kd.R_alloc | apply Kd.R_drewN | apply Kd.R_drew)); exact HO_529000.out) hb); have n4_ := Aside0.mk (Kd.R_below (by (with_reducible repeat (first | apply Kd.R_alloc | apply Kd.R_drewN | apply Kd.R_drew)); exact HO_529001.out) hb); have n5_ := Aside0.mk (Kd.R_below (by (with_reducible repeat (first | apply Kd.R_alloc | apply Kd.R_drewN | apply Kd.R_drew)); exact HO_529002.out) hb); have n6_ := Aside0.mk (Kd.R_below (by (with_reducible repeat (first | apply Kd.R_alloc | apply Kd.R_drewN | apply Kd.R_drew)); exact HO543.out) hb); have n7_ := Aside0.mk (Kd.R_below (by (with_reducible repeat (first | apply Kd.R_alloc | apply Kd.R_drewN | apply Kd.R_drew)); exact HO546.out) hb); have n8_ := Aside0.mk (Kd.R_below (by (with_reducible repeat (first | apply Kd.R_alloc | apply Kd.R_drewN | apply Kd.R_drew)); exact HO549.out) hb); have n9_ := Aside0.mk (blk_below (g := gb516) (o := .cells #[.slice Ao7 t507.length co7, .slice Ao9 t510.length co9, .slice Ao10 t513.length co10] 25 (0, 0)) (by (with_reducible repeat (first | refine blk_drewN ?_ _ | refine blk_drew ?_ | refine blk_alloc ?_ _)); exact BK516.out) hb); have n10_ := Aside0.mk (blk_below (g := gb528) (o := .cells #[.slice Ao13 t517.length co13, .slice Ao16 t520.length co16, .slice Ao17 t523.length co17] 25 (0, 0)) (by (with_reducible repeat (first | refine blk_drewN ?_ _ | refine blk_drew ?_ | refine blk_alloc ?_ _)); exact BK528.out) hb); have n11_ := Aside0.mk (below_step (by repeat (first | (with_reducible first | exact HB.out | apply below_alloc | apply pw_below_drewN | apply below_drew1 | refine below_set ?_ GE516.out | refine below_set ?_ GE528.out) | exact HB.out)) hb); have n12_ := Aside0.mk (hbox); have n13_ := Aside0.mk ((by rw [hg]; exact (below_size (by repeat (first | (with_reducible first | exact HB.out | apply below_alloc | apply pw_below_drewN | apply below_drew1 | refine below_set ?_ GE516.out | refine below_set ?_ GE528.out) | exact HB.out))) : w.heap.size ≤ gb552)); have n14_ := Aside0.mk ((by rw [hg]; exact (below_size (by repeat (first | (with_reducible first | exact HB.out | apply below_alloc | apply pw_below_drewN | apply below_drew1 | refine below_set ?_ GE516.out | refine below_set ?_ GE528.out) | exact HB.out))) : w.heap.size ≤ gb552)); have n15_ := Aside0.mk ((by rw [hg]; exact Nat.ne_of_lt (blk_lt (g := gb516) (o := .cells #[.slice Ao7 t507.length co7, .slice Ao9 t510.length co9, .slice Ao10 t513.length co10] 25 (0, 0)) (by (with_reducible repeat (first | refine blk_drewN ?_ _ | refine blk_drew ?_ | refine blk_alloc ?_ _)); exact BK516.out)) : gb516 ≠ gb552)); have n16_ := Aside0.mk ((by rw [hg]; exact Nat.ne_of_gt (blk_lt (g := gb516) (o := .cells #[.slice Ao7 t507.length co7, .slice Ao9 t510.length co9, .slice Ao10 t513.length co10] 25 (0, 0)) (by (with_reducible repeat (first | refine blk_drewN ?_ _ | refine blk_drew ?_ | refine blk_alloc ?_ _)); exact BK516.out)) : gb552 ≠ gb516)); have n17_ := Aside0.mk ((by rw [hg]; exact Nat.ne_of_lt (blk_lt (g := gb528) (o := .cells #[.slice Ao13 t517.length co13, .slice Ao16 t520.length co16, .slice Ao17 t523.length co17] 25 (0, 0)) (by (with_reducible repeat (first | refine blk_drewN ?_ _ | refine blk_drew ?_ | refine blk_alloc ?_ _)); exact BK528.out)) : gb528 ≠ gb552)); have n18_ := Aside0.mk ((by rw [hg]; exact Nat.ne_of_gt (blk_lt (g := gb528) (o := .cells #[.slice Ao13 t517.length co13, .slice Ao16 t520.length co16, .slice Ao17 t523.length co17] 25 (0, 0)) (by (with_reducible repeat (first | refine blk_drewN ?_ _ | refine blk_drew ?_ | refine blk_alloc ?_ _)); exact BK528.out)) : gb552 ≠ gb528)); clear HO_517000; clear HO_517001; clear HO_517002; clear HO_529000; clear HO_529001; clear HO_529002; clear HO543; clear HO546; clear HO549; clear BK516; clear BK528; clear HB; have HO_517000 := n0_; have HO_517001 := n1_; have HO_517002 := n2_; have HO_529000 := n3_; have HO_529001 := n4_; have HO_529002 := n5_; have HO543 := n6_; have HO546 := n7_; have HO549 := n8_; have BK516 := n9_; have BK528 := n10_; have HB := n11_; have BK552 := n12_; have GW552 := n13_; have GE552 := n14_; have NB516_552 := n15_; have NB552_516 := n16_; have NB528_552 := n17_; have NB552_528 := n18_; clear n0_ n1_ n2_ n3_ n4_ n5_ n6_ n7_ n8_ n9_ n10_ n11_ n12_ n13_ n14_ n15_ n16_ n17_ n18_; clear hb hbox hg; obtain ⟨Ao64, co64, eo64⟩ := Kd.R_slice HO543.out; subst eo64; have hnb65 := NB552_516.out; have hnc65 := NB516_552.out; have hnb66 := NB552_528.out; have hnc66 := NB528_552.out; have hcz67_0 : w63.cell? ⟨gb552, 0, none⟩ = some (.slice none 0 0) := (blk_cell BK552.out 0).trans rfl; have hcz67_1 : w63.cell? ⟨gb552, 1, none⟩ = some (.slice none 0 0) := (blk_cell BK552.out 1).trans rfl; have hcz67_2 : w63.cell? ⟨gb552, 2, none⟩ = some (.slice none 0 0) := (blk_cell BK552.out 2).trans rfl; have hfz67_0 := blk_frozen BK552.out 0; have hfz67_1 := blk_frozen BK552.out 1; have hfz67_2 := blk_frozen BK552.out 2; obtain ⟨Ao68, co68, eo68⟩ := Kd.R_slice HO546.out; subst eo68; obtain ⟨Ao69, co69, eo69⟩ := Kd.R_slice HO549.out; subst eo69))
                have n0_ : Aside0 (Kd.R (Kd.int .i64) 3 (((w63.setCell ⟨gb552, 0, none⟩ (.slice Ao64 t541.length co64)).setCell ⟨gb552, 1, none⟩ (.slice Ao68 t544.length co68)).setCell ⟨gb552, 2, none⟩ (.slice Ao69 t547.length co69)) w.heap.size (fun k_ => some k_ ≠ (.slice Ao9 t510.length co9 : Value).ownBlock ∧ some k_ ≠ (.slice Ao13 t517.length co13 : Value).ownBlock ∧ some k_ ≠ (.slice Ao16 t520.length co16 : Value).ownBlock ∧ some k_ ≠ (.slice Ao64 t541.length co64 : Value).ownBlock ∧ some k_ ≠ (.slice Ao68 t544.length co68 : Value).ownBlock) (.slice Ao7 t507.length co7) t507) := ⟨by (with_reducible repeat (first | apply Kd.R_alloc | apply Kd.R_drewN | apply Kd.R_drew)); exact Kd.R_mono (Kd.R_far (p := ⟨gb552, 2, none⟩) (Kd.R_far (p := ⟨gb552, 1, none⟩) (Kd.R_far (p := ⟨gb552, 0, none⟩) (Kd.R_types HO_517000.out BK552.out (by decide)) (fun _ hk => hk.2) (.slice Ao64 t541.length co64)) (fun _ hk => hk.2) (.slice Ao68 t544.length co68)) (fun _ hk => hk.2) (.slice Ao69 t547.length co69)) (fun _ hk => ⟨hk.1.1.1.1, ⟨hk.1.1.1.2.1, ⟨hk.1.1.1.2.2, ⟨hk.1.1.2, hk.1.2⟩⟩⟩⟩)⟩
                have n1_ : Aside0 (Kd.R (Kd.int .i64) 3 (((w63.setCell ⟨gb552, 0, none⟩ (.slice Ao64 t541.length co64)).setCell ⟨gb552, 1, none⟩ (.slice Ao68 t544.length co68)).setCell ⟨gb552, 2, none⟩ (.slice Ao69 t547.length co69)) w.heap.size (fun k_ => some k_ ≠ (.slice Ao7 t507.length co7 : Value).ownBlock ∧ some k_ ≠ (.slice Ao13 t517.length co13 : Value).ownBlock ∧ some k_ ≠ (.slice Ao16 t520.length co16 : Value).ownBlock ∧ some k_ ≠ (.slice Ao64 t541.length co64 : Value).ownBlock ∧ some k_ ≠ (.slice Ao68 t544.length co68 : Value).ownBlock) (.slice Ao9 t510.length co9) t510) := ⟨by (with_reducible repeat (first | apply Kd.R_alloc | apply Kd.R_drewN | apply Kd.R_drew)); exact Kd.R_mono (Kd.R_far (p := ⟨gb552, 2, none⟩) (Kd.R_far (p := ⟨gb552, 1, none⟩) (Kd.R_far (p := ⟨gb552, 0, none⟩) (Kd.R_types HO_517001.out BK552.out (by decide)) (fun _ hk => hk.2) (.slice Ao64 t541.length co64)) (fun _ hk => hk.2) (.slice Ao68 t544.length co68)) (fun _ hk => hk.2) (.slice Ao69 t547.length co69)) (fun _ hk => ⟨hk.1.1.1.1, ⟨hk.1.1.1.2.1, ⟨hk.1.1.1.2.2, ⟨hk.1.1.2, hk.1.2⟩⟩⟩⟩)⟩
                have n2_ : Aside0 (Kd.R Kd.bool 4 (((w63.setCell ⟨gb552, 0, none⟩ (.slice Ao64 t541.length co64)).setCell ⟨gb552, 1, none⟩ (.slice Ao68 t544.length co68)).setCell ⟨gb552, 2, none⟩ (.slice Ao69 t547.length co69)) w.heap.size (fun k_ => some k_ ≠ (.slice Ao17 t523.length co17 : Value).ownBlock ∧ some k_ ≠ (.slice Ao69 t547.length co69 : Value).ownBlock) (.slice Ao10 t513.length co10) t513) := ⟨by (with_reducible repeat (first | apply Kd.R_alloc | apply Kd.R_drewN | apply Kd.R_drew)); exact Kd.R_mono (Kd.R_far (p := ⟨gb552, 2, none⟩) (Kd.R_far (p := ⟨gb552, 1, none⟩) (Kd.R_far (p := ⟨gb552, 0, none⟩) (Kd.R_types HO_517002.out BK552.out (by decide)) (fun _ hk => hk.2) (.slice Ao64 t541.length co64)) (fun _ hk => hk.2) (.slice Ao68 t544.length co68)) (fun _ hk => hk.2) (.slice Ao69 t547.length co69)) (fun _ hk => ⟨hk.1.1, hk.1.2⟩)⟩
                have n3_ : Aside0 (Kd.R (Kd.int .i64) 3 (((w63.setCell ⟨gb552, 0, none⟩ (.slice Ao64 t541.length co64)).setCell ⟨gb552, 1, none⟩ (.slice Ao68 t544.length co68)).setCell ⟨gb552, 2, none⟩ (.slice Ao69 t547.length co69)) w.heap.size (fun k_ => some k_ ≠ (.slice Ao7 t507.length co7 : Value).ownBlock ∧ some k_ ≠ (.slice Ao9 t510.length co9 : Value).ownBlock ∧ some k_ ≠ (.slice Ao16 t520.length co16 : Value).ownBlock ∧ some k_ ≠ (.slice Ao64 t541.length co64 : Value).ownBlock ∧ some k_ ≠ (.slice Ao68 t544.length co68 : Value).ownBlock) (.slice Ao13 t517.length co13) t517) := ⟨by (with_reducible repeat (first | apply Kd.R_alloc | apply Kd.R_drewN | apply Kd.R_drew)); exact Kd.R_mono (Kd.R_far (p := ⟨gb552, 2, none⟩) (Kd.R_far (p := ⟨gb552, 1, none⟩) (Kd.R_far (p := ⟨gb552, 0, none⟩) (Kd.R_types HO_529000.out BK552.out (by decide)) (fun _ hk => hk.2) (.slice Ao64 t541.length co64)) (fun _ hk => hk.2) (.slice Ao68 t544.length co68)) (fun _ hk => hk.2) (.slice Ao69 t547.length co69)) (fun _ hk => ⟨hk.1.1.1.1, ⟨hk.1.1.1.2.1, ⟨hk.1.1.1.2.2, ⟨hk.1.1.2, hk.1.2⟩⟩⟩⟩)⟩
                have n4_ : Aside0 (Kd.R (Kd.int .i64) 3 (((w63.setCell ⟨gb552, 0, none⟩ (.slice Ao64 t541.length co64)).setCell ⟨gb552, 1, none⟩ (.slice Ao68 t544.length co68)).setCell ⟨gb552, 2, none⟩ (.slice Ao69 t547.length co69)) w.heap.size (fun k_ => some k_ ≠ (.slice Ao7 t507.length co7 : Value).ownBlock ∧ some k_ ≠ (.slice Ao9 t510.length co9 : Value).ownBlock ∧ some k_ ≠ (.slice Ao13 t517.length co13 : Value).ownBlock ∧ some k_ ≠ (.slice Ao64 t541.length co64 : Value).ownBlock ∧ some k_ ≠ (.slice Ao68 t544.length co68 : Value).ownBlock) (.slice Ao16 t520.length co16) t520) := ⟨by (with_reducible repeat (first | apply Kd.R_alloc | apply Kd.R_drewN | apply Kd.R_drew)); exact Kd.R_mono (Kd.R_far (p := ⟨gb552, 2, none⟩) (Kd.R_far (p := ⟨gb552, 1, none⟩) (Kd.R_far (p := ⟨gb552, 0, none⟩) (Kd.R_types HO_529001.out BK552.out (by decide)) (fun _ hk => hk.2) (.slice Ao64 t541.length co64)) (fun _ hk => hk.2) (.slice Ao68 t544.length co68)) (fun _ hk => hk.2) (.slice Ao69 t547.length co69)) (fun _ hk => ⟨hk.1.1.1.1, ⟨hk.1.1.1.2.1, ⟨hk.1.1.1.2.2, ⟨hk.1.1.2, hk.1.2⟩⟩⟩⟩)⟩
                have n5_ : Aside0 (Kd.R Kd.bool 4 (((w63.setCell ⟨gb552, 0, none⟩ (.slice Ao64 t541.length co64)).setCell ⟨gb552, 1, none⟩ (.slice Ao68 t544.length co68)).setCell ⟨gb552, 2, none⟩ (.slice Ao69 t547.length co69)) w.heap.size (fun k_ => some k_ ≠ (.slice Ao10 t513.length co10 : Value).ownBlock ∧ some k_ ≠ (.slice Ao69 t547.length co69 : Value).ownBlock) (.slice Ao17 t523.length co17) t523) := ⟨by (with_reducible repeat (first | apply Kd.R_alloc | apply Kd.R_drewN | apply Kd.R_drew)); exact Kd.R_mono (Kd.R_far (p := ⟨gb552, 2, none⟩) (Kd.R_far (p := ⟨gb552, 1, none⟩) (Kd.R_far (p := ⟨gb552, 0, none⟩) (Kd.R_types HO_529002.out BK552.out (by decide)) (fun _ hk => hk.2) (.slice Ao64 t541.length co64)) (fun _ hk => hk.2) (.slice Ao68 t544.length co68)) (fun _ hk => hk.2) (.slice Ao69 t547.length co69)) (fun _ hk => ⟨hk.1.1, hk.1.2⟩)⟩
                have n6_ : Aside0 (Kd.R (Kd.int .i64) 3 (((w63.setCell ⟨gb552, 0, none⟩ (.slice Ao64 t541.length co64)).setCell ⟨gb552, 1, none⟩ (.slice Ao68 t544.length co68)).setCell ⟨gb552, 2, none⟩ (.slice Ao69 t547.length co69)) w.heap.size (fun k_ => some k_ ≠ (.slice Ao7 t507.length co7 : Value).ownBlock ∧ some k_ ≠ (.slice Ao9 t510.length co9 : Value).ownBlock ∧ some k_ ≠ (.slice Ao13 t517.length co13 : Value).ownBlock ∧ some k_ ≠ (.slice Ao16 t520.length co16 : Value).ownBlock ∧ some k_ ≠ (.slice Ao68 t544.length co68 : Value).ownBlock) (.slice Ao64 t541.length co64) t541) := ⟨by (with_reducible repeat (first | apply Kd.R_alloc | apply Kd.R_drewN | apply Kd.R_drew)); exact Kd.R_mono (Kd.R_far (p := ⟨gb552, 2, none⟩) (Kd.R_far (p := ⟨gb552, 1, none⟩) (Kd.R_far (p := ⟨gb552, 0, none⟩) (Kd.R_types HO543.out BK552.out (by decide)) (fun _ hk => hk.2) (.slice Ao64 t541.length co64)) (fun _ hk => hk.2) (.slice Ao68 t544.length co68)) (fun _ hk => hk.2) (.slice Ao69 t547.length co69)) (fun _ hk => ⟨hk.1.1.1.1.2, ⟨hk.1.1.1.2, ⟨hk.1.1.2, ⟨hk.1.2, hk.1.1.1.1.1⟩⟩⟩⟩)⟩
                have n7_ : Aside0 (Kd.R (Kd.int .i64) 3 (((w63.setCell ⟨gb552, 0, none⟩ (.slice Ao64 t541.length co64)).setCell ⟨gb552, 1, none⟩ (.slice Ao68 t544.length co68)).setCell ⟨gb552, 2, none⟩ (.slice Ao69 t547.length co69)) w.heap.size (fun k_ => some k_ ≠ (.slice Ao7 t507.length co7 : Value).ownBlock ∧ some k_ ≠ (.slice Ao9 t510.length co9 : Value).ownBlock ∧ some k_ ≠ (.slice Ao13 t517.length co13 : Value).ownBlock ∧ some k_ ≠ (.slice Ao16 t520.length co16 : Value).ownBlock ∧ some k_ ≠ (.slice Ao64 t541.length co64 : Value).ownBlock) (.slice Ao68 t544.length co68) t544) := ⟨by (with_reducible repeat (first | apply Kd.R_alloc | apply Kd.R_drewN | apply Kd.R_drew)); exact Kd.R_mono (Kd.R_far (p := ⟨gb552, 2, none⟩) (Kd.R_far (p := ⟨gb552, 1, none⟩) (Kd.R_far (p := ⟨gb552, 0, none⟩) (Kd.R_types HO546.out BK552.out (by decide)) (fun _ hk => hk.2) (.slice Ao64 t541.length co64)) (fun _ hk => hk.2) (.slice Ao68 t544.length co68)) (fun _ hk => hk.2) (.slice Ao69 t547.length co69)) (fun _ hk => ⟨hk.1.1.1.1.2, ⟨hk.1.1.1.2, ⟨hk.1.1.2, ⟨hk.1.2, hk.1.1.1.1.1⟩⟩⟩⟩)⟩
                have n8_ : Aside0 (Kd.R Kd.bool 4 (((w63.setCell ⟨gb552, 0, none⟩ (.slice Ao64 t541.length co64)).setCell ⟨gb552, 1, none⟩ (.slice Ao68 t544.length co68)).setCell ⟨gb552, 2, none⟩ (.slice Ao69 t547.length co69)) w.heap.size (fun k_ => some k_ ≠ (.slice Ao10 t513.length co10 : Value).ownBlock ∧ some k_ ≠ (.slice Ao17 t523.length co17 : Value).ownBlock) (.slice Ao69 t547.length co69) t547) := ⟨by (with_reducible repeat (first | apply Kd.R_alloc | apply Kd.R_drewN | apply Kd.R_drew)); exact Kd.R_mono (Kd.R_far (p := ⟨gb552, 2, none⟩) (Kd.R_far (p := ⟨gb552, 1, none⟩) (Kd.R_far (p := ⟨gb552, 0, none⟩) (Kd.R_types HO549.out BK552.out (by decide)) (fun _ hk => hk.2) (.slice Ao64 t541.length co64)) (fun _ hk => hk.2) (.slice Ao68 t544.length co68)) (fun _ hk => hk.2) (.slice Ao69 t547.length co69)) (fun _ hk => ⟨hk.1.1.2, hk.1.2⟩)⟩
                have n9_ : Aside0 ((((w63.setCell ⟨gb552, 0, none⟩ (.slice Ao64 t541.length co64)).setCell ⟨gb552, 1, none⟩ (.slice Ao68 t544.length co68)).setCell ⟨gb552, 2, none⟩ (.slice Ao69 t547.length co69)).heap[gb516]? = some (.cells #[.slice Ao7 t507.length co7, .slice Ao9 t510.length co9, .slice Ao10 t513.length co10] 25 (0, 0))) := ⟨by (with_reducible repeat (first | refine blk_drewN ?_ _ | refine blk_drew ?_ | refine blk_alloc ?_ _)); refine blk_far ?_ NB516_552.out _; (with_reducible repeat (first | refine blk_drewN ?_ _ | refine blk_drew ?_ | refine blk_alloc ?_ _)); refine blk_far ?_ NB516_552.out _; (with_reducible repeat (first | refine blk_drewN ?_ _ | refine blk_drew ?_ | refine blk_alloc ?_ _)); refine blk_far ?_ NB516_552.out _; (with_reducible repeat (first | refine blk_drewN ?_ _ | refine blk_drew ?_ | refine blk_alloc ?_ _)); exact BK516.out⟩
                have n10_ : Aside0 ((((w63.setCell ⟨gb552, 0, none⟩ (.slice Ao64 t541.length co64)).setCell ⟨gb552, 1, none⟩ (.slice Ao68 t544.length co68)).setCell ⟨gb552, 2, none⟩ (.slice Ao69 t547.length co69)).heap[gb528]? = some (.cells #[.slice Ao13 t517.length co13, .slice Ao16 t520.length co16, .slice Ao17 t523.length co17] 25 (0, 0))) := ⟨by (with_reducible repeat (first | refine blk_drewN ?_ _ | refine blk_drew ?_ | refine blk_alloc ?_ _)); refine blk_far ?_ NB528_552.out _; (with_reducible repeat (first | refine blk_drewN ?_ _ | refine blk_drew ?_ | refine blk_alloc ?_ _)); refine blk_far ?_ NB528_552.out _; (with_reducible repeat (first | refine blk_drewN ?_ _ | refine blk_drew ?_ | refine blk_alloc ?_ _)); refine blk_far ?_ NB528_552.out _; (with_reducible repeat (first | refine blk_drewN ?_ _ | refine blk_drew ?_ | refine blk_alloc ?_ _)); exact BK528.out⟩
                have n11_ : Aside0 ((((w63.setCell ⟨gb552, 0, none⟩ (.slice Ao64 t541.length co64)).setCell ⟨gb552, 1, none⟩ (.slice Ao68 t544.length co68)).setCell ⟨gb552, 2, none⟩ (.slice Ao69 t547.length co69)).heap[gb552]? = some (.cells #[.slice Ao64 t541.length co64, .slice Ao68 t544.length co68, .slice Ao69 t547.length co69] 25 (0, 0))) := ⟨by (with_reducible repeat (first | refine blk_drewN ?_ _ | refine blk_drew ?_ | refine blk_alloc ?_ _)); refine blk_put (cs := #[.slice Ao64 t541.length co64, .slice Ao68 t544.length co68, .slice none 0 0]) ?_ 2 _ rfl; (with_reducible repeat (first | refine blk_drewN ?_ _ | refine blk_drew ?_ | refine blk_alloc ?_ _)); refine blk_put (cs := #[.slice Ao64 t541.length co64, .slice none 0 0, .slice none 0 0]) ?_ 1 _ rfl; (with_reducible repeat (first | refine blk_drewN ?_ _ | refine blk_drew ?_ | refine blk_alloc ?_ _)); refine blk_put (cs := #[.slice none 0 0, .slice none 0 0, .slice none 0 0]) ?_ 0 _ rfl; (with_reducible repeat (first | refine blk_drewN ?_ _ | refine blk_drew ?_ | refine blk_alloc ?_ _)); exact BK552.out⟩
                have n12_ : Aside0 (Below w.heap.size w (((w63.setCell ⟨gb552, 0, none⟩ (.slice Ao64 t541.length co64)).setCell ⟨gb552, 1, none⟩ (.slice Ao68 t544.length co68)).setCell ⟨gb552, 2, none⟩ (.slice Ao69 t547.length co69))) := ⟨by repeat (first | (with_reducible first | exact HB.out | apply below_alloc | apply pw_below_drewN | apply below_drew1 | refine below_set ?_ GE516.out | refine below_set ?_ GE528.out | refine below_set ?_ GE552.out) | exact HB.out)⟩
                (try clear HO_517000)
                (try clear HO_517001)
                (try clear HO_517002)
                (try clear HO_529000)
                (try clear HO_529001)
                (try clear HO_529002)
                (try clear HO543)
                (try clear HO546)
                (try clear HO549)
                (try clear BK516)
                (try clear BK528)
                (try clear BK552)
                (try clear HB)
                generalize (((w63.setCell ⟨gb552, 0, none⟩ (.slice Ao64 t541.length co64)).setCell ⟨gb552, 1, none⟩ (.slice Ao68 t544.length co68)).setCell ⟨gb552, 2, none⟩ (.slice Ao69 t547.length co69)) = w70 at n0_ n1_ n2_ n3_ n4_ n5_ n6_ n7_ n8_ n9_ n10_ n11_ n12_ ⊢
                have HO_517000 := n0_
                have HO_517001 := n1_
                have HO_517002 := n2_
                have HO_529000 := n3_
                have HO_529001 := n4_
                have HO_529002 := n5_
                have HO543 := n6_
                have HO546 := n7_
                have HO549 := n8_
                have BK516 := n9_
                have BK528 := n10_
                have BK552 := n11_
                have HB := n12_
                clear n0_ n1_ n2_ n3_ n4_ n5_ n6_ n7_ n8_ n9_ n10_ n11_ n12_
                have n0_ := Aside0.mk (Kd.R_drew HO_517000.out)
                have n1_ := Aside0.mk (Kd.R_drew HO_517001.out)
                have n2_ := Aside0.mk (Kd.R_drew HO_517002.out)
                have n3_ := Aside0.mk (Kd.R_drew HO_529000.out)
                have n4_ := Aside0.mk (Kd.R_drew HO_529001.out)
                have n5_ := Aside0.mk (Kd.R_drew HO_529002.out)
                have n6_ := Aside0.mk (Kd.R_drew HO543.out)
                have n7_ := Aside0.mk (Kd.R_drew HO546.out)
                have n8_ := Aside0.mk (Kd.R_drew HO549.out)
                have n9_ := Aside0.mk (blk_drew BK516.out)
                have n10_ := Aside0.mk (blk_drew BK528.out)
                have n11_ := Aside0.mk (blk_drew BK552.out)
                have n12_ := Aside0.mk (below_drew1 HB.out)
                clear HO_517000
                clear HO_517001
                clear HO_517002
                clear HO_529000
                clear HO_529001
                clear HO_529002
                clear HO543
                clear HO546
                clear HO549
                clear BK516
                clear BK528
                clear BK552
                clear HB
                have HO_517000 := n0_
                have HO_517001 := n1_
                have HO_517002 := n2_
                have HO_529000 := n3_
                have HO_529001 := n4_
                have HO_529002 := n5_
                have HO543 := n6_
                have HO546 := n7_
                have HO549 := n8_
                have BK516 := n9_
                have BK528 := n10_
                have BK552 := n11_
                have HB := n12_
                clear n0_ n1_ n2_ n3_ n4_ n5_ n6_ n7_ n8_ n9_ n10_ n11_ n12_
                have p553 : 0 ≤ (0 : Int) := (by omega)
                have q553 : 0 < (t541.length : Int) := of_decide_eq_true (by first | (with_reducible assumption) | assumption)
                obtain ⟨ad553, e553, hx553_0⟩ := Kd.at_int (Kd.R_reads' HO543.out).2.2 0 p553 q553
                cases e553
                have qi553 : (0 < t541.length) = True := eq_true (by omega)
                (try rw [show ((0 : Int)).toNat = 0 from rfl] at hx553_0)
                (try rw [Addr.add_zero'] at hx553_0)
                replace p553 := eq_true p553
                replace q553 := eq_true q553
                have p554 : 0 ≤ ((ji45) : Int) := of_decide_eq_true (by first | (with_reducible assumption) | assumption)
                have q554 : (ji45) < (t510.length : Int) := of_decide_eq_true (by first | (with_reducible assumption) | assumption)
                obtain ⟨ad554, e554, hx554_0⟩ := Kd.at_int (Kd.R_reads' HO_517001.out).2.2 (ji45) p554 q554
                cases e554
                replace p554 := eq_true p554
                replace q554 := eq_true q554
                refine start_ (n := 50) (S := fun w' => w'.cell? ⟨gb552, 0, none⟩ = some (.slice (some ad553) t541.length co64) ∧ w'.cell? ⟨gb552, 1, none⟩ = some (.slice Ao68 t544.length co68) ∧ w'.cell? ⟨gb552, 2, none⟩ = some (.slice Ao69 t547.length co69) ∧ w'.cell? ⟨gb516, 0, none⟩ = some (.slice Ao7 t507.length co7) ∧ w'.cell? ⟨gb516, 1, none⟩ = some (.slice (some ad554) t510.length co9) ∧ w'.cell? ⟨gb516, 2, none⟩ = some (.slice Ao10 t513.length co10) ∧ w'.cell? ad553 = some (.int .i64 (rd t541 0)) ∧ w'.cell? (ad554.add ((ji45)).toNat) = some (.int .i64 (rd t510 (ji45)))) (ds := []) #[false, false, false, false, false, false, false, false, false, false, false, false, false, false, false, false, false, false, false, false, false, false, false, false, false, false, false, false, false, false, false, false, false, false, false, false, false, false, false, false, false, false, false, false, false, false, false, false, false, false] (by kernel_rfl) rfl rfl ⟨(blk_cell BK552.out 0).trans rfl, (blk_cell BK552.out 1).trans rfl, (blk_cell BK552.out 2).trans rfl, (blk_cell BK516.out 0).trans rfl, (blk_cell BK516.out 1).trans rfl, (blk_cell BK516.out 2).trans rfl, hx553_0, hx554_0⟩ (fun hHeld => ?_); refine with_tabW headgatelaw07_LruMoves.tab8 headgatelaw07_LruMoves.bits8 (fun HT_ HW_ => ?_)
                generalize w70.drew = w71 at HO_517000 HO_517001 HO_517002 HO_529000 HO_529001 HO_529002 HO543 HO546 HO549 BK516 BK528 BK552 HB hx553_0 hx554_0 hHeld ⊢
                refine pure_ (i := 0) (N := some 78) (v := ?_) (a' := ?_) #[true, false, false, false, false, false, false, false, false, false, false, false, false, false, false, false, false, false, false, false, false, false, false, false, false, false, false, false, false, false, false, false, false, false, false, false, false, false, false, false, false, false, false, false, false, false, false, false, false, false] rfl rfl (any_of HT_.out (by kernel_rfl)) (fun _ _ _ h => h) (Or.inl ⟨by rfl, ?_⟩) ?_ ?_
                rotate_left
                ·
                 intro w'
                 go_simp
                 with_reducible rfl
                rotate_left
                ·
                 simp only [Act.put, List.setIfInBounds_toArray, List.set_cons_zero, List.set_cons_succ, i64_w, i32_w]
                 rfl
                refine take_ (i := 1) (N := some 79) (v := ?_) (a' := ?_) #[true, true, false, false, false, false, false, false, false, false, false, false, false, false, false, false, false, false, false, false, false, false, false, false, false, false, false, false, false, false, false, false, false, false, false, false, false, false, false, false, false, false, false, false, false, false, false, false, false, false] rfl rfl (take_ofW HT_.out HW_.out (by kernel_rfl)) (fun _ _ _ h => h) (Or.inl ⟨by rfl, ?_⟩) hHeld ?_ ?_
                rotate_left
                ·
                 rintro w' ⟨s0, s1, s2, s3, s4, s5, s6, s7⟩
                 go_simp
                 with_reducible rfl
                rotate_left
                ·
                 simp only [Act.put, List.setIfInBounds_toArray, List.set_cons_zero, List.set_cons_succ, i64_w, i32_w]
                 rfl
                refine pure_ (i := 2) (N := some 80) (v := ?_) (a' := ?_) #[true, true, true, false, false, false, false, false, false, false, false, false, false, false, false, false, false, false, false, false, false, false, false, false, false, false, false, false, false, false, false, false, false, false, false, false, false, false, false, false, false, false, false, false, false, false, false, false, false, false] rfl rfl (any_of HT_.out (by kernel_rfl)) (fun _ _ _ h => h) (Or.inl ⟨by rfl, ?_⟩) ?_ ?_
                rotate_left
                ·
                 intro w'
                 go_simp
                 with_reducible rfl
                rotate_left
                ·
                 simp only [Act.put, List.setIfInBounds_toArray, List.set_cons_zero, List.set_cons_succ, i64_w, i32_w]
                 rfl
                refine pure_ (i := 3) (N := some 81) (v := ?_) (a' := ?_) #[true, true, true, true, false, false, false, false, false, false, false, false, false, false, false, false, false, false, false, false, false, false, false, false, false, false, false, false, false, false, false, false, false, false, false, false, false, false, false, false, false, false, false, false, false, false, false, false, false, false] rfl rfl (any_of HT_.out (by kernel_rfl)) (fun _ _ _ h => h) (Or.inl ⟨by rfl, ?_⟩) ?_ ?_
                rotate_left
                ·
                 intro w'
                 go_simp
                 with_reducible rfl
                rotate_left
                ·
                 simp only [Act.put, List.setIfInBounds_toArray, List.set_cons_zero, List.set_cons_succ, i64_w, i32_w]
                 rfl
                refine pure_ (i := 4) (N := some 82) (v := ?_) (a' := ?_) #[true, true, true, true, true, false, false, false, false, false, false, false, false, false, false, false, false, false, false, false, false, false, false, false, false, false, false, false, false, false, false, false, false, false, false, false, false, false, false, false, false, false, false, false, false, false, false, false, false, false] rfl rfl (any_of HT_.out (by kernel_rfl)) (fun _ _ _ h => h) (Or.inl ⟨by rfl, ?_⟩) ?_ ?_
                rotate_left
                ·
                 intro w'
                 go_simp
                 with_reducible rfl
                rotate_left
                ·
                 simp only [Act.put, List.setIfInBounds_toArray, List.set_cons_zero, List.set_cons_succ, i64_w, i32_w]
                 rfl
                refine pure_ (i := 5) (N := some 83) (v := ?_) (a' := ?_) #[true, true, true, true, true, true, false, false, false, false, false, false, false, false, false, false, false, false, false, false, false, false, false, false, false, false, false, false, false, false, false, false, false, false, false, false, false, false, false, false, false, false, false, false, false, false, false, false, false, false] rfl rfl (any_of HT_.out (by kernel_rfl)) (fun _ _ _ h => h) (Or.inl ⟨by rfl, ?_⟩) ?_ ?_
                rotate_left
                ·
                 intro w'
                 go_simp
                 with_reducible rfl
                rotate_left
                ·
                 simp only [Act.put, List.setIfInBounds_toArray, List.set_cons_zero, List.set_cons_succ, i64_w, i32_w]
                 rfl
                refine pure_ (i := 9) (N := some 87) (v := ?_) (a' := ?_) #[true, true, true, true, true, true, false, false, false, true, false, false, false, false, false, false, false, false, false, false, false, false, false, false, false, false, false, false, false, false, false, false, false, false, false, false, false, false, false, false, false, false, false, false, false, false, false, false, false, false] rfl rfl (any_of HT_.out (by kernel_rfl)) (fun _ _ _ h => h) (Or.inl ⟨by rfl, ?_⟩) ?_ ?_
                rotate_left
                ·
                 intro w'
                 go_simp
                 with_reducible rfl
                rotate_left
                ·
                 simp only [Act.put, List.setIfInBounds_toArray, List.set_cons_zero, List.set_cons_succ, i64_w, i32_w]
                 rfl
                refine take_ (i := 6) (N := some 84) (v := ?_) (a' := ?_) #[true, true, true, true, true, true, true, false, false, true, false, false, false, false, false, false, false, false, false, false, false, false, false, false, false, false, false, false, false, false, false, false, false, false, false, false, false, false, false, false, false, false, false, false, false, false, false, false, false, false] rfl rfl (take_ofW HT_.out HW_.out (by kernel_rfl)) (fun _ _ _ h => h) (Or.inl ⟨by rfl, ?_⟩) hHeld ?_ ?_
                rotate_left
                ·
                 rintro w' ⟨s0, s1, s2, s3, s4, s5, s6, s7⟩
                 go_simp
                 with_reducible rfl
                rotate_left
                ·
                 simp only [Act.put, List.setIfInBounds_toArray, List.set_cons_zero, List.set_cons_succ, i64_w, i32_w]
                 rfl
                refine pure_ (i := 7) (N := some 85) (v := ?_) (a' := ?_) #[true, true, true, true, true, true, true, true, false, true, false, false, false, false, false, false, false, false, false, false, false, false, false, false, false, false, false, false, false, false, false, false, false, false, false, false, false, false, false, false, false, false, false, false, false, false, false, false, false, false] rfl rfl (any_of HT_.out (by kernel_rfl)) (fun _ _ _ h => h) (Or.inl ⟨by rfl, ?_⟩) ?_ ?_
                rotate_left
                ·
                 intro w'
                 go_simp
                 with_reducible rfl
                rotate_left
                ·
                 simp only [Act.put, List.setIfInBounds_toArray, List.set_cons_zero, List.set_cons_succ, i64_w, i32_w]
                 rfl
                refine take_ (i := 8) (N := some 86) (v := ?_) (a' := ?_) #[true, true, true, true, true, true, true, true, true, true, false, false, false, false, false, false, false, false, false, false, false, false, false, false, false, false, false, false, false, false, false, false, false, false, false, false, false, false, false, false, false, false, false, false, false, false, false, false, false, false] rfl rfl (take_ofW HT_.out HW_.out (by kernel_rfl)) (fun _ _ _ h => h) (Or.inl ⟨by rfl, ?_⟩) hHeld ?_ ?_
                rotate_left
                ·
                 rintro w' ⟨s0, s1, s2, s3, s4, s5, s6, s7⟩
                 go_simp
                 with_reducible rfl
                rotate_left
                ·
                 simp only [Act.put, List.setIfInBounds_toArray, List.set_cons_zero, List.set_cons_succ, i64_w, i32_w]
                 rfl
                refine pure_ (i := 10) (N := some 88) (v := ?_) (a' := ?_) #[true, true, true, true, true, true, true, true, true, true, true, false, false, false, false, false, false, false, false, false, false, false, false, false, false, false, false, false, false, false, false, false, false, false, false, false, false, false, false, false, false, false, false, false, false, false, false, false, false, false] rfl rfl (any_of HT_.out (by kernel_rfl)) (fun _ _ _ h => h) (Or.inl ⟨by rfl, ?_⟩) ?_ ?_
                rotate_left
                ·
                 intro w'
                 go_simp
                 with_reducible rfl
                rotate_left
                ·
                 simp only [Act.put, List.setIfInBounds_toArray, List.set_cons_zero, List.set_cons_succ, i64_w, i32_w]
                 rfl
                refine pure_ (i := 11) (N := some 89) (v := ?_) (a' := ?_) #[true, true, true, true, true, true, true, true, true, true, true, true, false, false, false, false, false, false, false, false, false, false, false, false, false, false, false, false, false, false, false, false, false, false, false, false, false, false, false, false, false, false, false, false, false, false, false, false, false, false] rfl rfl (any_of HT_.out (by kernel_rfl)) (fun _ _ _ h => h) (Or.inl ⟨by rfl, ?_⟩) ?_ ?_
                rotate_left
                ·
                 intro w'
                 go_simp
                 with_reducible rfl
                rotate_left
                ·
                 simp only [Act.put, List.setIfInBounds_toArray, List.set_cons_zero, List.set_cons_succ, i64_w, i32_w]
                 rfl
                refine pure_ (i := 12) (N := some 90) (v := ?_) (a' := ?_) #[true, true, true, true, true, true, true, true, true, true, true, true, true, false, false, false, false, false, false, false, false, false, false, false, false, false, false, false, false, false, false, false, false, false, false, false, false, false, false, false, false, false, false, false, false, false, false, false, false, false] rfl rfl (any_of HT_.out (by kernel_rfl)) (fun _ _ _ h => h) (Or.inl ⟨by rfl, ?_⟩) ?_ ?_
                rotate_left
                ·
                 intro w'
                 go_simp
                 with_reducible rfl
                rotate_left
                ·
                 simp only [Act.put, List.setIfInBounds_toArray, List.set_cons_zero, List.set_cons_succ, i64_w, i32_w]
                 rfl
                refine pure_ (i := 13) (N := some 91) (v := ?_) (a' := ?_) #[true, true, true, true, true, true, true, true, true, true, true, true, true, true, false, false, false, false, false, false, false, false, false, false, false, false, false, false, false, false, false, false, false, false, false, false, false, false, false, false, false, false, false, false, false, false, false, false, false, false] rfl rfl (any_of HT_.out (by kernel_rfl)) (fun _ _ _ h => h) (Or.inl ⟨by rfl, ?_⟩) ?_ ?_
                rotate_left
                ·
                 intro w'
                 go_simp
                 with_reducible rfl
                rotate_left
                ·
                 simp only [Act.put, List.setIfInBounds_toArray, List.set_cons_zero, List.set_cons_succ, i64_w, i32_w]
                 rfl
                refine pure_ (i := 14) (N := some 92) (v := ?_) (a' := ?_) #[true, true, true, true, true, true, true, true, true, true, true, true, true, true, true, false, false, false, false, false, false, false, false, false, false, false, false, false, false, false, false, false, false, false, false, false, false, false, false, false, false, false, false, false, false, false, false, false, false, false] rfl rfl (any_of HT_.out (by kernel_rfl)) (fun _ _ _ h => h) (Or.inl ⟨by rfl, ?_⟩) ?_ ?_
                rotate_left
                ·
                 intro w'
                 go_simp
                 with_reducible rfl
                rotate_left
                ·
                 simp only [Act.put, List.setIfInBounds_toArray, List.set_cons_zero, List.set_cons_succ, i64_w, i32_w]
                 rfl
                refine pure_ (i := 16) (N := some 94) (v := ?_) (a' := ?_) #[true, true, true, true, true, true, true, true, true, true, true, true, true, true, true, false, true, false, false, false, false, false, false, false, false, false, false, false, false, false, false, false, false, false, false, false, false, false, false, false, false, false, false, false, false, false, false, false, false, false] rfl rfl (any_of HT_.out (by kernel_rfl)) (fun _ _ _ h => h) (Or.inl ⟨by rfl, ?_⟩) ?_ ?_
                rotate_left
                ·
                 intro w'
                 go_simp
                 with_reducible rfl
                rotate_left
                ·
                 simp only [Act.put, List.setIfInBounds_toArray, List.set_cons_zero, List.set_cons_succ, i64_w, i32_w]
                 rfl
                refine take_ (i := 15) (N := some 93) (v := ?_) (a' := ?_) #[true, true, true, true, true, true, true, true, true, true, true, true, true, true, true, true, true, false, false, false, false, false, false, false, false, false, false, false, false, false, false, false, false, false, false, false, false, false, false, false, false, false, false, false, false, false, false, false, false, false] rfl rfl (take_ofW HT_.out HW_.out (by kernel_rfl)) (fun _ _ _ h => h) (Or.inl ⟨by rfl, ?_⟩) hHeld ?_ ?_
                rotate_left
                ·
                 rintro w' ⟨s0, s1, s2, s3, s4, s5, s6, s7⟩
                 go_simp
                 with_reducible rfl
                rotate_left
                ·
                 simp only [Act.put, List.setIfInBounds_toArray, List.set_cons_zero, List.set_cons_succ, i64_w, i32_w]
                 rfl
                refine take_ (i := 17) (N := some 95) (v := ?_) (a' := ?_) #[true, true, true, true, true, true, true, true, true, true, true, true, true, true, true, true, true, true, false, false, false, false, false, false, false, false, false, false, false, false, false, false, false, false, false, false, false, false, false, false, false, false, false, false, false, false, false, false, false, false] rfl rfl (take_ofW HT_.out HW_.out (by kernel_rfl)) (fun _ _ _ h => h) (Or.inl ⟨by rfl, ?_⟩) hHeld ?_ ?_
                rotate_left
                ·
                 rintro w' ⟨s0, s1, s2, s3, s4, s5, s6, s7⟩
                 go_simp
                 with_reducible rfl
                rotate_left
                ·
                 simp only [Act.put, List.setIfInBounds_toArray, List.set_cons_zero, List.set_cons_succ, i64_w, i32_w]
                 rfl
                refine pure_ (i := 18) (N := some 96) (v := ?_) (a' := ?_) #[true, true, true, true, true, true, true, true, true, true, true, true, true, true, true, true, true, true, true, false, false, false, false, false, false, false, false, false, false, false, false, false, false, false, false, false, false, false, false, false, false, false, false, false, false, false, false, false, false, false] rfl rfl (any_of HT_.out (by kernel_rfl)) (fun _ _ _ h => h) (Or.inl ⟨by rfl, ?_⟩) ?_ ?_
                rotate_left
                ·
                 intro w'
                 go_simp
                 with_reducible rfl
                rotate_left
                ·
                 simp only [Act.put, List.setIfInBounds_toArray, List.set_cons_zero, List.set_cons_succ, i64_w, i32_w]
                 rfl
                refine pure_ (i := 19) (N := some 97) (v := ?_) (a' := ?_) #[true, true, true, true, true, true, true, true, true, true, true, true, true, true, true, true, true, true, true, true, false, false, false, false, false, false, false, false, false, false, false, false, false, false, false, false, false, false, false, false, false, false, false, false, false, false, false, false, false, false] rfl rfl (any_of HT_.out (by kernel_rfl)) (fun _ _ _ h => h) (Or.inl ⟨by rfl, ?_⟩) ?_ ?_
                rotate_left
                ·
                 intro w'
                 go_simp
                 with_reducible rfl
                rotate_left
                ·
                 simp only [Act.put, List.setIfInBounds_toArray, List.set_cons_zero, List.set_cons_succ, i64_w, i32_w]
                 rfl
                refine pure_ (i := 20) (N := some 98) (v := ?_) (a' := ?_) #[true, true, true, true, true, true, true, true, true, true, true, true, true, true, true, true, true, true, true, true, true, false, false, false, false, false, false, false, false, false, false, false, false, false, false, false, false, false, false, false, false, false, false, false, false, false, false, false, false, false] rfl rfl (any_of HT_.out (by kernel_rfl)) (fun _ _ _ h => h) (Or.inl ⟨by rfl, ?_⟩) ?_ ?_
                rotate_left
                ·
                 intro w'
                 go_simp
                 with_reducible rfl
                rotate_left
                ·
                 simp only [Act.put, List.setIfInBounds_toArray, List.set_cons_zero, List.set_cons_succ, i64_w, i32_w]
                 rfl
                refine take_ (i := 21) (N := some 99) (v := ?_) (a' := ?_) #[true, true, true, true, true, true, true, true, true, true, true, true, true, true, true, true, true, true, true, true, true, true, false, false, false, false, false, false, false, false, false, false, false, false, false, false, false, false, false, false, false, false, false, false, false, false, false, false, false, false] rfl rfl (take_ofW HT_.out HW_.out (by kernel_rfl)) (fun _ _ _ h => h) (Or.inl ⟨by rfl, ?_⟩) hHeld ?_ ?_
                rotate_left
                ·
                 rintro w' ⟨s0, s1, s2, s3, s4, s5, s6, s7⟩
                 go_simp
                 with_reducible rfl
                rotate_left
                ·
                 simp only [Act.put, List.setIfInBounds_toArray, List.set_cons_zero, List.set_cons_succ, i64_w, i32_w]
                 rfl
                refine pure_ (i := 22) (N := some 100) (v := ?_) (a' := ?_) #[true, true, true, true, true, true, true, true, true, true, true, true, true, true, true, true, true, true, true, true, true, true, true, false, false, false, false, false, false, false, false, false, false, false, false, false, false, false, false, false, false, false, false, false, false, false, false, false, false, false] rfl rfl (any_of HT_.out (by kernel_rfl)) (fun _ _ _ h => h) (Or.inl ⟨by rfl, ?_⟩) ?_ ?_
                rotate_left
                ·
                 intro w'
                 go_simp
                 with_reducible rfl
                rotate_left
                ·
                 simp only [Act.put, List.setIfInBounds_toArray, List.set_cons_zero, List.set_cons_succ, i64_w, i32_w]
                 rfl
                refine pure_ (i := 23) (N := some 101) (v := ?_) (a' := ?_) #[true, true, true, true, true, true, true, true, true, true, true, true, true, true, true, true, true, true, true, true, true, true, true, true, false, false, false, false, false, false, false, false, false, false, false, false, false, false, false, false, false, false, false, false, false, false, false, false, false, false] rfl rfl (any_of HT_.out (by kernel_rfl)) (fun _ _ _ h => h) (Or.inl ⟨by rfl, ?_⟩) ?_ ?_
                rotate_left
                ·
                 intro w'
                 go_simp
                 with_reducible rfl
                rotate_left
                ·
                 simp only [Act.put, List.setIfInBounds_toArray, List.set_cons_zero, List.set_cons_succ, i64_w, i32_w]
                 rfl
                refine pure_ (i := 24) (N := some 102) (v := ?_) (a' := ?_) #[true, true, true, true, true, true, true, true, true, true, true, true, true, true, true, true, true, true, true, true, true, true, true, true, true, false, false, false, false, false, false, false, false, false, false, false, false, false, false, false, false, false, false, false, false, false, false, false, false, false] rfl rfl (any_of HT_.out (by kernel_rfl)) (fun _ _ _ h => h) (Or.inl ⟨by rfl, ?_⟩) ?_ ?_
                rotate_left
                ·
                 intro w'
                 go_simp
                 with_reducible rfl
                rotate_left
                ·
                 simp only [Act.put, List.setIfInBounds_toArray, List.set_cons_zero, List.set_cons_succ, i64_w, i32_w]
                 rfl
                refine pure_ (i := 25) (N := some 103) (v := ?_) (a' := ?_) #[true, true, true, true, true, true, true, true, true, true, true, true, true, true, true, true, true, true, true, true, true, true, true, true, true, true, false, false, false, false, false, false, false, false, false, false, false, false, false, false, false, false, false, false, false, false, false, false, false, false] rfl rfl (any_of HT_.out (by kernel_rfl)) (fun _ _ _ h => h) (Or.inl ⟨by rfl, ?_⟩) ?_ ?_
                rotate_left
                ·
                 intro w'
                 go_simp
                 with_reducible rfl
                rotate_left
                ·
                 simp only [Act.put, List.setIfInBounds_toArray, List.set_cons_zero, List.set_cons_succ, i64_w, i32_w]
                 rfl
                refine pure_ (i := 27) (N := some 105) (v := ?_) (a' := ?_) #[true, true, true, true, true, true, true, true, true, true, true, true, true, true, true, true, true, true, true, true, true, true, true, true, true, true, false, true, false, false, false, false, false, false, false, false, false, false, false, false, false, false, false, false, false, false, false, false, false, false] rfl rfl (any_of HT_.out (by kernel_rfl)) (fun _ _ _ h => h) (Or.inl ⟨by rfl, ?_⟩) ?_ ?_
                rotate_left
                ·
                 intro w'
                 go_simp
                 with_reducible rfl
                rotate_left
                ·
                 simp only [Act.put, List.setIfInBounds_toArray, List.set_cons_zero, List.set_cons_succ, i64_w, i32_w]
                 rfl
                refine pure_ (i := 29) (N := some 107) (v := ?_) (a' := ?_) #[true, true, true, true, true, true, true, true, true, true, true, true, true, true, true, true, true, true, true, true, true, true, true, true, true, true, false, true, false, true, false, false, false, false, false, false, false, false, false, false, false, false, false, false, false, false, false, false, false, false] rfl rfl (any_of HT_.out (by kernel_rfl)) (fun _ _ _ h => h) (Or.inl ⟨by rfl, ?_⟩) ?_ ?_
                rotate_left
                ·
                 intro w'
                 go_simp
                 with_reducible rfl
                rotate_left
                ·
                 simp only [Act.put, List.setIfInBounds_toArray, List.set_cons_zero, List.set_cons_succ, i64_w, i32_w]
                 rfl
                refine take_ (i := 26) (N := some 104) (v := ?_) (a' := ?_) #[true, true, true, true, true, true, true, true, true, true, true, true, true, true, true, true, true, true, true, true, true, true, true, true, true, true, true, true, false, true, false, false, false, false, false, false, false, false, false, false, false, false, false, false, false, false, false, false, false, false] rfl rfl (take_ofW HT_.out HW_.out (by kernel_rfl)) (fun _ _ _ h => h) (Or.inl ⟨by rfl, ?_⟩) hHeld ?_ ?_
                rotate_left
                ·
                 rintro w' ⟨s0, s1, s2, s3, s4, s5, s6, s7⟩
                 go_simp
                 with_reducible rfl
                rotate_left
                ·
                 simp only [Act.put, List.setIfInBounds_toArray, List.set_cons_zero, List.set_cons_succ, i64_w, i32_w]
                 rfl
                refine take_ (i := 28) (N := some 106) (v := ?_) (a' := ?_) #[true, true, true, true, true, true, true, true, true, true, true, true, true, true, true, true, true, true, true, true, true, true, true, true, true, true, true, true, true, true, false, false, false, false, false, false, false, false, false, false, false, false, false, false, false, false, false, false, false, false] rfl rfl (take_ofW HT_.out HW_.out (by kernel_rfl)) (fun _ _ _ h => h) (Or.inl ⟨by rfl, ?_⟩) hHeld ?_ ?_
                rotate_left
                ·
                 rintro w' ⟨s0, s1, s2, s3, s4, s5, s6, s7⟩
                 go_simp
                 with_reducible rfl
                rotate_left
                ·
                 simp only [Act.put, List.setIfInBounds_toArray, List.set_cons_zero, List.set_cons_succ, i64_w, i32_w]
                 rfl
                refine one_ (i := 30) (N := some 108) #[true, true, true, true, true, true, true, true, true, true, true, true, true, true, true, true, true, true, true, true, true, true, true, true, true, true, true, true, true, true, true, false, false, false, false, false, false, false, false, false, false, false, false, false, false, false, false, false, false, false] rfl rfl (one_of HT_.out (by kernel_rfl)) (by decide) (fun K hK => ?_)
                refine goes_ Try.func31 (by kernel_rfl) rfl #[.slice (some ad554) t510.length co9, .int .i64 t550] (by rfl) rfl rfl (by (try simp only [List.map_toArray, List.map_cons, List.map_nil]); first | done | rfl | (simp only [List.length_drop, List.length_take]; rfl)) ?_
                with_reducible refine (headgatelaw07_without.calls kj3 _ _ t510 t550 t555 _ ?side1 ?side2 A49.out).mono ?_
                (case side1 => repeat (first | exact (Kd.R_reads' HO_517001.out).2.2 | (with_reducible refine Kd.C_alloc ?_ _) | (with_reducible refine Kd.C_drewN ?_ _) | (with_reducible refine Kd.C_drew ?_)))
                (case side2 => exact (Kd.R_reads' HO_517001.out).2.1)
                rintro e w72 ⟨v556, rfl, ho0, hb⟩
                have HS6_ := (hb.cell (World.block_lt_of_cell? _ _ (hHeld.2.2.2.2.2.2.1))).trans (hHeld.2.2.2.2.2.2.1)
                have HS7_ := (hb.cell (World.block_lt_of_cell? _ _ (hHeld.2.2.2.2.2.2.2))).trans (hHeld.2.2.2.2.2.2.2)
                refine ⟨_, rfl, ?_⟩
                have n0_ := Aside0.mk (Kd.R_elder' (by (with_reducible repeat (first | apply Kd.R_alloc | apply Kd.R_drewN | apply Kd.R_drew)); exact HO_517000.out) (Kd.R_base ho0) hb)
                have n1_ := Aside0.mk (Kd.R_elder' (by (with_reducible repeat (first | apply Kd.R_alloc | apply Kd.R_drewN | apply Kd.R_drew)); exact HO_517001.out) (Kd.R_base ho0) hb)
                have n2_ := Aside0.mk (Kd.R_below (by (with_reducible repeat (first | apply Kd.R_alloc | apply Kd.R_drewN | apply Kd.R_drew)); exact HO_517002.out) hb)
                have n3_ := Aside0.mk (Kd.R_elder' (by (with_reducible repeat (first | apply Kd.R_alloc | apply Kd.R_drewN | apply Kd.R_drew)); exact HO_529000.out) (Kd.R_base ho0) hb)
                have n4_ := Aside0.mk (Kd.R_elder' (by (with_reducible repeat (first | apply Kd.R_alloc | apply Kd.R_drewN | apply Kd.R_drew)); exact HO_529001.out) (Kd.R_base ho0) hb)
                have n5_ := Aside0.mk (Kd.R_below (by (with_reducible repeat (first | apply Kd.R_alloc | apply Kd.R_drewN | apply Kd.R_drew)); exact HO_529002.out) hb)
                have n6_ := Aside0.mk (Kd.R_elder' (by (with_reducible repeat (first | apply Kd.R_alloc | apply Kd.R_drewN | apply Kd.R_drew)); exact HO543.out) (Kd.R_base ho0) hb)
                have n7_ := Aside0.mk (Kd.R_elder' (by (with_reducible repeat (first | apply Kd.R_alloc | apply Kd.R_drewN | apply Kd.R_drew)); exact HO546.out) (Kd.R_base ho0) hb)
                have n8_ := Aside0.mk (Kd.R_below (by (with_reducible repeat (first | apply Kd.R_alloc | apply Kd.R_drewN | apply Kd.R_drew)); exact HO549.out) hb)
                have n9_ := Aside0.mk (Kd.R_lower (Kd.R_new' (Kd.R_new' (Kd.R_new' (Kd.R_new' (Kd.R_new' (Kd.R_new' ho0 (Kd.R_lt (by (with_reducible repeat (first | apply Kd.R_alloc | apply Kd.R_drewN | apply Kd.R_drew)); exact HO_517000.out))) (Kd.R_lt (by (with_reducible repeat (first | apply Kd.R_alloc | apply Kd.R_drewN | apply Kd.R_drew)); exact HO_517001.out))) (Kd.R_lt (by (with_reducible repeat (first | apply Kd.R_alloc | apply Kd.R_drewN | apply Kd.R_drew)); exact HO_529000.out))) (Kd.R_lt (by (with_reducible repeat (first | apply Kd.R_alloc | apply Kd.R_drewN | apply Kd.R_drew)); exact HO_529001.out))) (Kd.R_lt (by (with_reducible repeat (first | apply Kd.R_alloc | apply Kd.R_drewN | apply Kd.R_drew)); exact HO543.out))) (Kd.R_lt (by (with_reducible repeat (first | apply Kd.R_alloc | apply Kd.R_drewN | apply Kd.R_drew)); exact HO546.out))) (below_size (by repeat (first | (with_reducible first | exact HB.out | apply below_alloc | apply pw_below_drewN | apply below_drew1 | refine below_set ?_ GE516.out | refine below_set ?_ GE528.out | refine below_set ?_ GE552.out) | exact HB.out))))
                have n10_ := Aside0.mk (blk_below (g := gb516) (o := .cells #[.slice Ao7 t507.length co7, .slice (some ad554) t510.length co9, .slice Ao10 t513.length co10] 25 (0, 0)) (by (with_reducible repeat (first | refine blk_drewN ?_ _ | refine blk_drew ?_ | refine blk_alloc ?_ _)); exact BK516.out) hb)
                have n11_ := Aside0.mk (blk_below (g := gb528) (o := .cells #[.slice Ao13 t517.length co13, .slice Ao16 t520.length co16, .slice Ao17 t523.length co17] 25 (0, 0)) (by (with_reducible repeat (first | refine blk_drewN ?_ _ | refine blk_drew ?_ | refine blk_alloc ?_ _)); exact BK528.out) hb)
                have n12_ := Aside0.mk (blk_below (g := gb552) (o := .cells #[.slice (some ad553) t541.length co64, .slice Ao68 t544.length co68, .slice Ao69 t547.length co69] 25 (0, 0)) (by (with_reducible repeat (first | refine blk_drewN ?_ _ | refine blk_drew ?_ | refine blk_alloc ?_ _)); exact BK552.out) hb)
                have n13_ := Aside0.mk (below_step (by repeat (first | (with_reducible first | exact HB.out | apply below_alloc | apply pw_below_drewN | apply below_drew1 | refine below_set ?_ GE516.out | refine below_set ?_ GE528.out | refine below_set ?_ GE552.out) | exact HB.out)) hb)
                clear HO_517000
                clear HO_517001
                clear HO_517002
                clear HO_529000
                clear HO_529001
                clear HO_529002
                clear HO543
                clear HO546
                clear HO549
                clear BK516
                clear BK528
                clear BK552
                clear HB
                have HO_517000 := n0_
                have HO_517001 := n1_
                have HO_517002 := n2_
                have HO_529000 := n3_
                have HO_529001 := n4_
                have HO_529002 := n5_
                have HO543 := n6_
                have HO546 := n7_
                have HO549 := n8_
                have HO557 := n9_
                have BK516 := n10_
                have BK528 := n11_
                have BK552 := n12_
                have HB := n13_
                clear n0_ n1_ n2_ n3_ n4_ n5_ n6_ n7_ n8_ n9_ n10_ n11_ n12_ n13_
                (try clear hb)
                (try clear hb2)
                (try clear hk)
                (try clear hi)
                (try clear ho0)
                obtain ⟨Ao73, co73, eo73⟩ := Kd.R_slice HO557.out
                (first | subst eo73 | (injection eo73 with f1_ f2_ f3_; have f4_ := f1_.symm; have f5_ := f3_.symm; clear f1_ f2_ f3_; subst f4_; subst f5_))
                refine hK.out _ _ ⟨(blk_cell BK552.out 0).trans rfl, (blk_cell BK552.out 1).trans rfl, (blk_cell BK552.out 2).trans rfl, (blk_cell BK516.out 0).trans rfl, (blk_cell BK516.out 1).trans rfl, (blk_cell BK516.out 2).trans rfl, HS6_, HS7_⟩ (fun hHeld => ?_)
                clear hK K
                refine norm_ (a' := ?_) ?_ ?_
                rotate_left
                ·
                 show Act.put _ (some 108) _ = _
                 simp only [Act.put, List.setIfInBounds_toArray, List.set_cons_zero, List.set_cons_succ, i64_w, i32_w]
                 rfl
                refine one_ (i := 31) (N := some 109) #[true, true, true, true, true, true, true, true, true, true, true, true, true, true, true, true, true, true, true, true, true, true, true, true, true, true, true, true, true, true, true, true, false, false, false, false, false, false, false, false, false, false, false, false, false, false, false, false, false, false] rfl rfl (one_of HT_.out (by kernel_rfl)) (by decide) (fun K hK => ?_)
                refine goes_ Try.func30 (by kernel_rfl) rfl #[.slice Ao68 t544.length co68, .slice Ao73 t555.length co73] (by rfl) rfl rfl (by (try simp only [List.map_toArray, List.map_cons, List.map_nil]); first | done | rfl | (simp only [List.length_drop, List.length_take]; rfl)) ?_
                with_reducible refine (headgatekit_SameInts.calls kj3 _ _ t544 _ _ t555 true _ ?side1 ?side2 ?side3 ?side4 A50.out).mono ?_
                (case side1 => repeat (first | exact (Kd.R_reads' HO546.out).2.2 | (with_reducible refine Kd.C_alloc ?_ _) | (with_reducible refine Kd.C_drewN ?_ _) | (with_reducible refine Kd.C_drew ?_)))
                (case side2 => exact (Kd.R_reads' HO546.out).2.1)
                (case side3 => repeat (first | exact (Kd.R_reads' HO557.out).2.2 | (with_reducible refine Kd.C_alloc ?_ _) | (with_reducible refine Kd.C_drewN ?_ _) | (with_reducible refine Kd.C_drew ?_)))
                (case side4 => exact (Kd.R_reads' HO557.out).2.1)
                rintro e w' ⟨rfl, ⟨nd, rfl⟩⟩
                refine ⟨_, rfl, ?_⟩
                have q74 : (1 : Int) ≤ ((t541.length : Int) : Int) := of_decide_eq_true (by first | (with_reducible assumption) | assumption)
                obtain ⟨i074, hi074, _, hsz74, _⟩ := info_parts info3
                have hroom74 : t541.length ≤ co64 := (Kd.R_reads' HO543.out).2.1
                have hC74 : Kd.C (Kd.int .i64) _ (some ad553) t541.length t541 := (Kd.R_reads' HO543.out).2.2
                have hcut74 := cut_from (P := Try.prog) 22 3 .i64 Try.underlying22 hi074 1 hsz74 (some ad553) t541.length co64 1 (by omega) q74
                have hr74 := Kd.C_drop (m := (1 : Int).toNat) (c := co64) hC74 (by omega) hroom74
                obtain ⟨A74, hA74⟩ : ∃ A1, A1 = (if co64 = (1 : Int).toNat then (some ad553) else ((some ad553) : Option Addr).map (·.add ((1 : Int).toNat * 1))) := ⟨_, rfl⟩
                obtain ⟨c74, hc74⟩ : ∃ c1, c1 = co64 - (1 : Int).toNat := ⟨_, rfl⟩
                have hy74 : y559.length = t541.length - (1 : Int).toNat := (by rw [Ny559.out, List.length_drop] <;> omega)
                rw [show (t541).drop (1 : Int).toNat = y559 from Ny559.out.symm] at hr74
                replace hr74 : Kd.C (Kd.int .i64) _ A74 y559.length y559 := (by rw [hA74]; exact hr74)
                rw [← hy74, ← hA74, ← hc74] at hcut74
                have HR562 := Aside0.mk hr74
                have HC562 := Aside0.mk (show y559.length ≤ c74 from by rw [hy74, hc74]; exact Nat.sub_le_sub_right hroom74 _)
                clear hr74 hC74 hroom74 hi074 hsz74 hc74
                have KY74 := Aside0.mk hy74
                have KA74 := Aside0.mk hA74
                clear hy74 hA74
                have KL74 := Aside0.mk (show 1 ≤ t541.length from by omega)
                replace q74 := eq_true q74
                refine hK.out _ _ ⟨(blk_cell BK552.out 0).trans rfl, (blk_cell BK552.out 1).trans rfl, (blk_cell BK552.out 2).trans rfl, (blk_cell BK516.out 0).trans rfl, (blk_cell BK516.out 1).trans rfl, (blk_cell BK516.out 2).trans rfl, hHeld.2.2.2.2.2.2.1, hHeld.2.2.2.2.2.2.2⟩ (fun hHeld => ?_)
                clear hK K
                refine norm_ (a' := ?_) ?_ ?_
                rotate_left
                ·
                 show Act.put _ (some 109) _ = _
                 simp only [Act.put, List.setIfInBounds_toArray, List.set_cons_zero, List.set_cons_succ, i64_w, i32_w]
                 rfl
                refine pure_ (i := 32) (N := some 110) (v := ?_) (a' := ?_) #[true, true, true, true, true, true, true, true, true, true, true, true, true, true, true, true, true, true, true, true, true, true, true, true, true, true, true, true, true, true, true, true, true, false, false, false, false, false, false, false, false, false, false, false, false, false, false, false, false, false] rfl rfl (any_of HT_.out (by kernel_rfl)) (fun _ _ _ h => h) (Or.inl ⟨by rfl, ?_⟩) ?_ ?_
                rotate_left
                ·
                 intro w'
                 go_simp
                 with_reducible rfl
                rotate_left
                ·
                 simp only [Act.put, List.setIfInBounds_toArray, List.set_cons_zero, List.set_cons_succ, i64_w, i32_w]
                 rfl
                refine pure_ (i := 33) (N := some 111) (v := ?_) (a' := ?_) #[true, true, true, true, true, true, true, true, true, true, true, true, true, true, true, true, true, true, true, true, true, true, true, true, true, true, true, true, true, true, true, true, true, true, false, false, false, false, false, false, false, false, false, false, false, false, false, false, false, false] rfl rfl (any_of HT_.out (by kernel_rfl)) (fun _ _ _ h => h) (Or.inl ⟨by rfl, ?_⟩) ?_ ?_
                rotate_left
                ·
                 intro w'
                 go_simp
                 with_reducible rfl
                rotate_left
                ·
                 simp only [Act.put, List.setIfInBounds_toArray, List.set_cons_zero, List.set_cons_succ, i64_w, i32_w]
                 rfl
                refine pure_ (i := 34) (N := some 112) (v := ?_) (a' := ?_) #[true, true, true, true, true, true, true, true, true, true, true, true, true, true, true, true, true, true, true, true, true, true, true, true, true, true, true, true, true, true, true, true, true, true, true, false, false, false, false, false, false, false, false, false, false, false, false, false, false, false] rfl rfl (any_of HT_.out (by kernel_rfl)) (fun _ _ _ h => h) (Or.inl ⟨by rfl, ?_⟩) ?_ ?_
                rotate_left
                ·
                 intro w'
                 go_simp
                 with_reducible rfl
                rotate_left
                ·
                 simp only [Act.put, List.setIfInBounds_toArray, List.set_cons_zero, List.set_cons_succ, i64_w, i32_w]
                 rfl
                refine pure_ (i := 35) (N := some 113) (v := ?_) (a' := ?_) #[true, true, true, true, true, true, true, true, true, true, true, true, true, true, true, true, true, true, true, true, true, true, true, true, true, true, true, true, true, true, true, true, true, true, true, true, false, false, false, false, false, false, false, false, false, false, false, false, false, false] rfl rfl (any_of HT_.out (by kernel_rfl)) (fun _ _ _ h => h) (Or.inl ⟨by rfl, ?_⟩) ?_ ?_
                rotate_left
                ·
                 intro w'
                 go_simp
                 with_reducible rfl
                rotate_left
                ·
                 simp only [Act.put, List.setIfInBounds_toArray, List.set_cons_zero, List.set_cons_succ, i64_w, i32_w]
                 rfl
                refine pure_ (i := 38) (N := some 116) (v := ?_) (a' := ?_) #[true, true, true, true, true, true, true, true, true, true, true, true, true, true, true, true, true, true, true, true, true, true, true, true, true, true, true, true, true, true, true, true, true, true, true, true, false, false, true, false, false, false, false, false, false, false, false, false, false, false] rfl rfl (any_of HT_.out (by kernel_rfl)) (fun _ _ _ h => h) (Or.inl ⟨by rfl, ?_⟩) ?_ ?_
                rotate_left
                ·
                 intro w'
                 go_simp
                 with_reducible rfl
                rotate_left
                ·
                 simp only [Act.put, List.setIfInBounds_toArray, List.set_cons_zero, List.set_cons_succ, i64_w, i32_w]
                 rfl
                refine take_ (i := 36) (N := some 114) (v := ?_) (a' := ?_) #[true, true, true, true, true, true, true, true, true, true, true, true, true, true, true, true, true, true, true, true, true, true, true, true, true, true, true, true, true, true, true, true, true, true, true, true, true, false, true, false, false, false, false, false, false, false, false, false, false, false] rfl rfl (take_ofW HT_.out HW_.out (by kernel_rfl)) (fun _ _ _ h => h) (Or.inl ⟨by rfl, ?_⟩) hHeld ?_ ?_
                rotate_left
                ·
                 rintro w' ⟨s0, s1, s2, s3, s4, s5, s6, s7⟩
                 go_simp
                 with_reducible rfl
                rotate_left
                ·
                 simp only [Act.put, List.setIfInBounds_toArray, List.set_cons_zero, List.set_cons_succ, i64_w, i32_w]
                 rfl
                refine pure_ (i := 37) (N := some 115) (v := ?_) (a' := ?_) #[true, true, true, true, true, true, true, true, true, true, true, true, true, true, true, true, true, true, true, true, true, true, true, true, true, true, true, true, true, true, true, true, true, true, true, true, true, true, true, false, false, false, false, false, false, false, false, false, false, false] rfl rfl (any_of HT_.out (by kernel_rfl)) (fun _ _ _ h => h) (Or.inl ⟨by rfl, ?_⟩) ?_ ?_
                rotate_left
                ·
                 intro w'
                 go_simp
                 with_reducible rfl
                rotate_left
                ·
                 simp only [Act.put, List.setIfInBounds_toArray, List.set_cons_zero, List.set_cons_succ, i64_w, i32_w]
                 rfl
                refine take_ (i := 39) (N := some 117) (v := ?_) (a' := ?_) #[true, true, true, true, true, true, true, true, true, true, true, true, true, true, true, true, true, true, true, true, true, true, true, true, true, true, true, true, true, true, true, true, true, true, true, true, true, true, true, true, false, false, false, false, false, false, false, false, false, false] rfl rfl (take_ofW HT_.out HW_.out (by kernel_rfl)) (fun _ _ _ h => h) (Or.inl ⟨by rfl, ?_⟩) hHeld ?_ ?_
                rotate_left
                ·
                 rintro w' ⟨s0, s1, s2, s3, s4, s5, s6, s7⟩
                 go_simp
                 with_reducible rfl
                rotate_left
                ·
                 simp only [Act.put, List.setIfInBounds_toArray, List.set_cons_zero, List.set_cons_succ, i64_w, i32_w]
                 rfl
                refine one_ (i := 40) (N := some 118) #[true, true, true, true, true, true, true, true, true, true, true, true, true, true, true, true, true, true, true, true, true, true, true, true, true, true, true, true, true, true, true, true, true, true, true, true, true, true, true, true, true, false, false, false, false, false, false, false, false, false] rfl rfl (one_of HT_.out (by kernel_rfl)) (by decide) (fun K hK => ?_)
                refine goes_ Try.func30 (by kernel_rfl) rfl #[.slice A74 y559.length c74, .slice Ao7 t507.length co7] (by rfl) rfl rfl (by (try simp only [List.map_toArray, List.map_cons, List.map_nil]); first | done | rfl | (simp only [List.length_drop, List.length_take]; rfl)) ?_
                with_reducible refine (headgatekit_SameInts.calls kj3 _ _ y559 _ _ t507 true _ ?side1 ?side2 ?side3 ?side4 A53.out).mono ?_
                (case side1 => repeat (first | exact (by repeat (first | (with_reducible exact HR562.out) | (with_reducible refine Kd.C_alloc ?_ _) | (with_reducible refine Kd.C_drewN ?_ _) | (with_reducible refine Kd.C_drew ?_) | exact HR562.out)) | (with_reducible refine Kd.C_alloc ?_ _) | (with_reducible refine Kd.C_drewN ?_ _) | (with_reducible refine Kd.C_drew ?_)))
                (case side2 => exact HC562.out)
                (case side3 => repeat (first | exact (Kd.R_reads' HO_517000.out).2.2 | (with_reducible refine Kd.C_alloc ?_ _) | (with_reducible refine Kd.C_drewN ?_ _) | (with_reducible refine Kd.C_drew ?_)))
                (case side4 => exact (Kd.R_reads' HO_517000.out).2.1)
                rintro e w' ⟨rfl, ⟨nd, rfl⟩⟩
                refine ⟨_, rfl, ?_⟩
                refine hK.out _ _ ⟨(blk_cell BK552.out 0).trans rfl, (blk_cell BK552.out 1).trans rfl, (blk_cell BK552.out 2).trans rfl, (blk_cell BK516.out 0).trans rfl, (blk_cell BK516.out 1).trans rfl, (blk_cell BK516.out 2).trans rfl, hHeld.2.2.2.2.2.2.1, hHeld.2.2.2.2.2.2.2⟩ (fun hHeld => ?_)
                clear hK K
                refine norm_ (a' := ?_) ?_ ?_
                rotate_left
                ·
                 show Act.put _ (some 118) _ = _
                 simp only [Act.put, List.setIfInBounds_toArray, List.set_cons_zero, List.set_cons_succ, i64_w, i32_w]
                 rfl
                refine pure_ (i := 41) (N := some 119) (v := ?_) (a' := ?_) #[true, true, true, true, true, true, true, true, true, true, true, true, true, true, true, true, true, true, true, true, true, true, true, true, true, true, true, true, true, true, true, true, true, true, true, true, true, true, true, true, true, true, false, false, false, false, false, false, false, false] rfl rfl (any_of HT_.out (by kernel_rfl)) (fun _ _ _ h => h) (Or.inl ⟨by rfl, ?_⟩) ?_ ?_
                rotate_left
                ·
                 intro w'
                 go_simp
                 with_reducible rfl
                rotate_left
                ·
                 simp only [Act.put, List.setIfInBounds_toArray, List.set_cons_zero, List.set_cons_succ, i64_w, i32_w]
                 rfl
                refine pure_ (i := 42) (N := some 120) (v := ?_) (a' := ?_) #[true, true, true, true, true, true, true, true, true, true, true, true, true, true, true, true, true, true, true, true, true, true, true, true, true, true, true, true, true, true, true, true, true, true, true, true, true, true, true, true, true, true, true, false, false, false, false, false, false, false] rfl rfl (any_of HT_.out (by kernel_rfl)) (fun _ _ _ h => h) (Or.inl ⟨by rfl, ?_⟩) ?_ ?_
                rotate_left
                ·
                 intro w'
                 go_simp
                 with_reducible rfl
                rotate_left
                ·
                 simp only [Act.put, List.setIfInBounds_toArray, List.set_cons_zero, List.set_cons_succ, i64_w, i32_w]
                 rfl
                refine pure_ (i := 43) (N := some 121) (v := ?_) (a' := ?_) #[true, true, true, true, true, true, true, true, true, true, true, true, true, true, true, true, true, true, true, true, true, true, true, true, true, true, true, true, true, true, true, true, true, true, true, true, true, true, true, true, true, true, true, true, false, false, false, false, false, false] rfl rfl (any_of HT_.out (by kernel_rfl)) (fun _ _ _ h => h) (Or.inl ⟨by rfl, ?_⟩) ?_ ?_
                rotate_left
                ·
                 intro w'
                 go_simp
                 with_reducible rfl
                rotate_left
                ·
                 simp only [Act.put, List.setIfInBounds_toArray, List.set_cons_zero, List.set_cons_succ, i64_w, i32_w]
                 rfl
                refine pure_ (i := 46) (N := some 124) (v := ?_) (a' := ?_) #[true, true, true, true, true, true, true, true, true, true, true, true, true, true, true, true, true, true, true, true, true, true, true, true, true, true, true, true, true, true, true, true, true, true, true, true, true, true, true, true, true, true, true, true, false, false, true, false, false, false] rfl rfl (any_of HT_.out (by kernel_rfl)) (fun _ _ _ h => h) (Or.inl ⟨by rfl, ?_⟩) ?_ ?_
                rotate_left
                ·
                 intro w'
                 go_simp
                 with_reducible rfl
                rotate_left
                ·
                 simp only [Act.put, List.setIfInBounds_toArray, List.set_cons_zero, List.set_cons_succ, i64_w, i32_w]
                 rfl
                refine take_ (i := 44) (N := some 122) (v := ?_) (a' := ?_) #[true, true, true, true, true, true, true, true, true, true, true, true, true, true, true, true, true, true, true, true, true, true, true, true, true, true, true, true, true, true, true, true, true, true, true, true, true, true, true, true, true, true, true, true, true, false, true, false, false, false] rfl rfl (take_ofW HT_.out HW_.out (by kernel_rfl)) (fun _ _ _ h => h) (Or.inl ⟨by rfl, ?_⟩) hHeld ?_ ?_
                rotate_left
                ·
                 rintro w' ⟨s0, s1, s2, s3, s4, s5, s6, s7⟩
                 go_simp
                 with_reducible rfl
                rotate_left
                ·
                 simp only [Act.put, List.setIfInBounds_toArray, List.set_cons_zero, List.set_cons_succ, i64_w, i32_w]
                 rfl
                refine take_ (i := 45) (N := some 123) (v := ?_) (a' := ?_) #[true, true, true, true, true, true, true, true, true, true, true, true, true, true, true, true, true, true, true, true, true, true, true, true, true, true, true, true, true, true, true, true, true, true, true, true, true, true, true, true, true, true, true, true, true, true, true, false, false, false] rfl rfl (take_ofW HT_.out HW_.out (by kernel_rfl)) (fun _ _ _ h => h) (Or.inl ⟨by rfl, ?_⟩) hHeld ?_ ?_
                rotate_left
                ·
                 rintro w' ⟨s0, s1, s2, s3, s4, s5, s6, s7⟩
                 go_simp
                 with_reducible rfl
                rotate_left
                ·
                 simp only [Act.put, List.setIfInBounds_toArray, List.set_cons_zero, List.set_cons_succ, i64_w, i32_w]
                 rfl
                refine one_ (i := 47) (N := some 125) #[true, true, true, true, true, true, true, true, true, true, true, true, true, true, true, true, true, true, true, true, true, true, true, true, true, true, true, true, true, true, true, true, true, true, true, true, true, true, true, true, true, true, true, true, true, true, true, true, false, false] rfl rfl (one_of HT_.out (by kernel_rfl)) (by decide) (fun K hK => ?_)
                refine goes_ Try.func32 (by kernel_rfl) rfl #[.agg #[.slice (some ad553) t541.length co64, .slice Ao68 t544.length co68, .slice Ao69 t547.length co69], .agg #[.slice Ao7 t507.length co7, .slice (some ad554) t510.length co9, .slice Ao10 t513.length co10], .int .i64 t550] (by rfl) rfl rfl (by (try simp only [List.map_toArray, List.map_cons, List.map_nil]); first | done | rfl | (simp only [List.length_drop, List.length_take]; rfl)) ?_
                with_reducible refine (headgatelaw07_bits.calls kj3 _ _ t541 _ _ t544 _ _ t547 _ _ t507 _ _ t510 _ _ t513 t550 true _ ?side1 ?side2 ?side3 ?side4 ?side5 ?side6 ?side7 ?side8 ?side9 ?side10 ?side11 ?side12 A55.out).mono ?_
                (case side1 => repeat (first | exact (Kd.R_reads' HO543.out).2.2 | (with_reducible refine Kd.C_alloc ?_ _) | (with_reducible refine Kd.C_drewN ?_ _) | (with_reducible refine Kd.C_drew ?_)))
                (case side2 => exact (Kd.R_reads' HO543.out).2.1)
                (case side3 => repeat (first | exact (Kd.R_reads' HO546.out).2.2 | (with_reducible refine Kd.C_alloc ?_ _) | (with_reducible refine Kd.C_drewN ?_ _) | (with_reducible refine Kd.C_drew ?_)))
                (case side4 => exact (Kd.R_reads' HO546.out).2.1)
                (case side5 => repeat (first | exact (Kd.R_reads' HO549.out).2.2 | (with_reducible refine Kd.C_alloc ?_ _) | (with_reducible refine Kd.C_drewN ?_ _) | (with_reducible refine Kd.C_drew ?_)))
                (case side6 => exact (Kd.R_reads' HO549.out).2.1)
                (case side7 => repeat (first | exact (Kd.R_reads' HO_517000.out).2.2 | (with_reducible refine Kd.C_alloc ?_ _) | (with_reducible refine Kd.C_drewN ?_ _) | (with_reducible refine Kd.C_drew ?_)))
                (case side8 => exact (Kd.R_reads' HO_517000.out).2.1)
                (case side9 => repeat (first | exact (Kd.R_reads' HO_517001.out).2.2 | (with_reducible refine Kd.C_alloc ?_ _) | (with_reducible refine Kd.C_drewN ?_ _) | (with_reducible refine Kd.C_drew ?_)))
                (case side10 => exact (Kd.R_reads' HO_517001.out).2.1)
                (case side11 => repeat (first | exact (Kd.R_reads' HO_517002.out).2.2 | (with_reducible refine Kd.C_alloc ?_ _) | (with_reducible refine Kd.C_drewN ?_ _) | (with_reducible refine Kd.C_drew ?_)))
                (case side12 => exact (Kd.R_reads' HO_517002.out).2.1)
                rintro e w75 ⟨rfl, hb⟩
                have HS6_ := (hb.cell (World.block_lt_of_cell? _ _ (hHeld.2.2.2.2.2.2.1))).trans (hHeld.2.2.2.2.2.2.1)
                have HS7_ := (hb.cell (World.block_lt_of_cell? _ _ (hHeld.2.2.2.2.2.2.2))).trans (hHeld.2.2.2.2.2.2.2)
                refine ⟨_, rfl, ?_⟩
                have n0_ := Aside0.mk (Kd.R_below (by (with_reducible repeat (first | apply Kd.R_alloc | apply Kd.R_drewN | apply Kd.R_drew)); exact HO_517000.out) hb)
                have n1_ := Aside0.mk (Kd.R_below (by (with_reducible repeat (first | apply Kd.R_alloc | apply Kd.R_drewN | apply Kd.R_drew)); exact HO_517001.out) hb)
                have n2_ := Aside0.mk (Kd.R_below (by (with_reducible repeat (first | apply Kd.R_alloc | apply Kd.R_drewN | apply Kd.R_drew)); exact HO_517002.out) hb)
                have n3_ := Aside0.mk (Kd.R_below (by (with_reducible repeat (first | apply Kd.R_alloc | apply Kd.R_drewN | apply Kd.R_drew)); exact HO_529000.out) hb)
                have n4_ := Aside0.mk (Kd.R_below (by (with_reducible repeat (first | apply Kd.R_alloc | apply Kd.R_drewN | apply Kd.R_drew)); exact HO_529001.out) hb)
                have n5_ := Aside0.mk (Kd.R_below (by (with_reducible repeat (first | apply Kd.R_alloc | apply Kd.R_drewN | apply Kd.R_drew)); exact HO_529002.out) hb)
                have n6_ := Aside0.mk (Kd.R_below (by (with_reducible repeat (first | apply Kd.R_alloc | apply Kd.R_drewN | apply Kd.R_drew)); exact HO543.out) hb)
                have n7_ := Aside0.mk (Kd.R_below (by (with_reducible repeat (first | apply Kd.R_alloc | apply Kd.R_drewN | apply Kd.R_drew)); exact HO546.out) hb)
                have n8_ := Aside0.mk (Kd.R_below (by (with_reducible repeat (first | apply Kd.R_alloc | apply Kd.R_drewN | apply Kd.R_drew)); exact HO549.out) hb)
                have n9_ := Aside0.mk (Kd.R_below (by (with_reducible repeat (first | apply Kd.R_alloc | apply Kd.R_drewN | apply Kd.R_drew)); exact HO557.out) hb)
                have n10_ := Aside0.mk (blk_below (g := gb516) (o := .cells #[.slice Ao7 t507.length co7, .slice (some ad554) t510.length co9, .slice Ao10 t513.length co10] 25 (0, 0)) (by (with_reducible repeat (first | refine blk_drewN ?_ _ | refine blk_drew ?_ | refine blk_alloc ?_ _)); exact BK516.out) hb)
                have n11_ := Aside0.mk (blk_below (g := gb528) (o := .cells #[.slice Ao13 t517.length co13, .slice Ao16 t520.length co16, .slice Ao17 t523.length co17] 25 (0, 0)) (by (with_reducible repeat (first | refine blk_drewN ?_ _ | refine blk_drew ?_ | refine blk_alloc ?_ _)); exact BK528.out) hb)
                have n12_ := Aside0.mk (blk_below (g := gb552) (o := .cells #[.slice (some ad553) t541.length co64, .slice Ao68 t544.length co68, .slice Ao69 t547.length co69] 25 (0, 0)) (by (with_reducible repeat (first | refine blk_drewN ?_ _ | refine blk_drew ?_ | refine blk_alloc ?_ _)); exact BK552.out) hb)
                have n13_ := Aside0.mk (Kd.C_below (by repeat (first | (with_reducible exact HR562.out) | (with_reducible refine Kd.C_alloc ?_ _) | (with_reducible refine Kd.C_drewN ?_ _) | (with_reducible refine Kd.C_drew ?_) | exact HR562.out)) hb)
                have n14_ := Aside0.mk (below_step (by repeat (first | (with_reducible first | exact HB.out | apply below_alloc | apply pw_below_drewN | apply below_drew1 | refine below_set ?_ GE516.out | refine below_set ?_ GE528.out | refine below_set ?_ GE552.out) | exact HB.out)) hb)
                clear HO_517000
                clear HO_517001
                clear HO_517002
                clear HO_529000
                clear HO_529001
                clear HO_529002
                clear HO543
                clear HO546
                clear HO549
                clear HO557
                clear BK516
                clear BK528
                clear BK552
                clear HR562
                clear HB
                have HO_517000 := n0_
                have HO_517001 := n1_
                have HO_517002 := n2_
                have HO_529000 := n3_
                have HO_529001 := n4_
                have HO_529002 := n5_
                have HO543 := n6_
                have HO546 := n7_
                have HO549 := n8_
                have HO557 := n9_
                have BK516 := n10_
                have BK528 := n11_
                have BK552 := n12_
                have HR562 := n13_
                have HB := n14_
                clear n0_ n1_ n2_ n3_ n4_ n5_ n6_ n7_ n8_ n9_ n10_ n11_ n12_ n13_ n14_
                (try clear hb)
                (try clear hb2)
                (try clear hk)
                (try clear hi)
                refine hK.out _ _ ⟨(blk_cell BK552.out 0).trans rfl, (blk_cell BK552.out 1).trans rfl, (blk_cell BK552.out 2).trans rfl, (blk_cell BK516.out 0).trans rfl, (blk_cell BK516.out 1).trans rfl, (blk_cell BK516.out 2).trans rfl, HS6_, HS7_⟩ (fun hHeld => ?_)
                clear hK K
                refine norm_ (a' := ?_) ?_ ?_
                rotate_left
                ·
                 show Act.put _ (some 125) _ = _
                 simp only [Act.put, List.setIfInBounds_toArray, List.set_cons_zero, List.set_cons_succ, i64_w, i32_w]
                 rfl
                refine pure_ (i := 48) (N := some 126) (v := ?_) (a' := ?_) #[true, true, true, true, true, true, true, true, true, true, true, true, true, true, true, true, true, true, true, true, true, true, true, true, true, true, true, true, true, true, true, true, true, true, true, true, true, true, true, true, true, true, true, true, true, true, true, true, true, false] rfl rfl (any_of HT_.out (by kernel_rfl)) (fun _ _ _ h => h) (Or.inl ⟨by rfl, ?_⟩) ?_ ?_
                rotate_left
                ·
                 intro w'
                 go_simp
                 with_reducible rfl
                rotate_left
                ·
                 simp only [Act.put, List.setIfInBounds_toArray, List.set_cons_zero, List.set_cons_succ, i64_w, i32_w]
                 rfl
                refine pure_ (i := 49) (N := some 127) (v := ?_) (a' := ?_) #[true, true, true, true, true, true, true, true, true, true, true, true, true, true, true, true, true, true, true, true, true, true, true, true, true, true, true, true, true, true, true, true, true, true, true, true, true, true, true, true, true, true, true, true, true, true, true, true, true, true] rfl rfl (any_of HT_.out (by kernel_rfl)) (fun _ _ _ h => h) (Or.inl ⟨by rfl, ?_⟩) ?_ ?_
                rotate_left
                ·
                 intro w'
                 go_simp
                 with_reducible rfl
                rotate_left
                ·
                 simp only [Act.put, List.setIfInBounds_toArray, List.set_cons_zero, List.set_cons_succ, i64_w, i32_w]
                 rfl
                refine done_ (done_of HT_.out (by kernel_rfl)) ?_
                have hcz76_0 : w75.cell? ⟨gb516, 0, none⟩ = some (.slice Ao7 t507.length co7) := (blk_cell BK516.out 0).trans rfl
                have hcz76_1 : w75.cell? ⟨gb516, 1, none⟩ = some (.slice (some ad554) t510.length co9) := (blk_cell BK516.out 1).trans rfl
                have hcz76_2 : w75.cell? ⟨gb516, 2, none⟩ = some (.slice Ao10 t513.length co10) := (blk_cell BK516.out 2).trans rfl
                have hfz76_0 := blk_frozen BK516.out 0
                have hfz76_1 := blk_frozen BK516.out 1
                have hfz76_2 := blk_frozen BK516.out 2
                try go_wp2_with (first | (go_at_call 11; refine calls_of_args (args' := #[]) (by first | rfl) ?_; (with_reducible refine (headgatelaw07_awake.calls  t565 _ A59.out).mono ?_); rintro e w77 ⟨rfl, hb⟩; have n0_ := Aside0.mk (Kd.R_below (by (with_reducible repeat (first | apply Kd.R_alloc | apply Kd.R_drewN | apply Kd.R_drew)); exact HO_517000.out) hb); have n1_ := Aside0.mk (Kd.R_below (by (with_reducible repeat (first | apply Kd.R_alloc | apply Kd.R_drewN | apply Kd.R_drew)); exact HO_517001.out) hb); have n2_ := Aside0.mk (Kd.R_below (by (with_reducible repeat (first | apply Kd.R_alloc | apply Kd.R_drewN | apply Kd.R_drew)); exact HO_517002.out) hb); have n3_ := Aside0.mk (Kd.R_below (by (with_reducible repeat (first | apply Kd.R_alloc | apply Kd.R_drewN | apply Kd.R_drew)); exact HO_529000.out) hb); have n4_ := Aside0.mk (Kd.R_below (by (with_reducible repeat (first | apply Kd.R_alloc | apply Kd.R_drewN | apply Kd.R_drew)); exact HO_529001.out) hb); have n5_ := Aside0.mk (Kd.R_below (by (with_reducible repeat (first | apply Kd.R_alloc | apply Kd.R_drewN | apply Kd.R_drew)); exact HO_529002.out) hb); have n6_ := Aside0.mk (Kd.R_below (by (with_reducible repeat (first | apply Kd.R_alloc | apply Kd.R_drewN | apply Kd.R_drew)); exact HO543.out) hb); have n7_ := Aside0.mk (Kd.R_below (by (with_reducible repeat (first | apply Kd.R_alloc | apply Kd.R_drewN | apply Kd.R_drew)); exact HO546.out) hb); have n8_ := Aside0.mk (Kd.R_below (by (with_reducible repeat (first | apply Kd.R_alloc | apply Kd.R_drewN | apply Kd.R_drew)); exact HO549.out) hb); have n9_ := Aside0.mk (Kd.R_below (by (with_reducible repeat (first | apply Kd.R_alloc | apply Kd.R_drewN | apply Kd.R_drew)); exact HO557.out) hb); have n10_ := Aside0.mk (blk_below (g := gb516) (o := .cells #[.slice Ao7 t507.length co7, .slice (some ad554) t510.length co9, .slice Ao10 t513.length co10] 25 (0, 0)) (by (with_reducible repeat (first | refine blk_drewN ?_ _ | refine blk_drew ?_ | refine blk_alloc ?_ _)); exact BK516.out) hb); have n11_ := Aside0.mk (blk_below (g := gb528) (o := .cells #[.slice Ao13 t517.length co13, .slice Ao16 t520.length co16, .slice Ao17 t523.length co17] 25 (0, 0)) (by (with_reducible repeat (first | refine blk_drewN ?_ _ | refine blk_drew ?_ | refine blk_alloc ?_ _)); exact BK528.out) hb); have n12_ := Aside0.mk (blk_below (g := gb552) (o := .cells #[.slice (some ad553) t541.length co64, .slice Ao68 t544.length co68, .slice Ao69 t547.length co69] 25 (0, 0)) (by (with_reducible repeat (first | refine blk_drewN ?_ _ | refine blk_drew ?_ | refine blk_alloc ?_ _)); exact BK552.out) hb); have n13_ := Aside0.mk (Kd.C_below (by repeat (first | (with_reducible exact HR562.out) | (with_reducible refine Kd.C_alloc ?_ _) | (with_reducible refine Kd.C_drewN ?_ _) | (with_reducible refine Kd.C_drew ?_) | exact HR562.out)) hb); have n14_ := Aside0.mk (below_step (by repeat (first | (with_reducible first | exact HB.out | apply below_alloc | apply pw_below_drewN | apply below_drew1 | refine below_set ?_ GE516.out | refine below_set ?_ GE528.out | refine below_set ?_ GE552.out) | exact HB.out)) hb); clear HO_517000; clear HO_517001; clear HO_517002; clear HO_529000; clear HO_529001; clear HO_529002; clear HO543; clear HO546; clear HO549; clear HO557; clear BK516; clear BK528; clear BK552; clear HR562; clear HB; have HO_517000 := n0_; have HO_517001 := n1_; have HO_517002 := n2_; have HO_529000 := n3_; have HO_529001 := n4_; have HO_529002 := n5_; have HO543 := n6_; have HO546 := n7_; have HO549 := n8_; have HO557 := n9_; have BK516 := n10_; have BK528 := n11_; have BK552 := n12_; have HR562 := n13_; have HB := n14_; clear n0_ n1_ n2_ n3_ n4_ n5_ n6_ n7_ n8_ n9_ n10_ n11_ n12_ n13_ n14_; (try clear hb); (try clear hb2); (try clear hk); (try clear hi)))
                go_ret
                exact ⟨by first | rfl | (simp [errW_none, errW_some] <;> rfl) | (simp only [← hji45]; first | rfl | (simp [errW_none, errW_some] <;> rfl)) | (simp [*, errW_none, errW_some] <;> rfl), by repeat (first | (with_reducible first | exact HB.out | apply below_alloc | apply pw_below_drewN | apply below_drew1 | refine below_set ?_ GE516.out | refine below_set ?_ GE528.out | refine below_set ?_ GE552.out) | exact HB.out)⟩
               ·
                rw [if_neg c58] at H
                have c58b0 : ((t551 == 0) == (decide ((t510.length : Int) > 0))) = false := by simpa using c58
                (try (have c58b1 : decide ((t551 == 0) = (decide ((t510.length : Int) > 0))) = false := by simpa using c58))
                (try (have c58b2 : ((t551 == 0) == (decide ((t510.length : Int) > 0))) = false := by simpa using c58))
                (try (have c58b3 : ¬ ((t551 == 0) = (decide ((t510.length : Int) > 0))) := by simpa using c58))
                clear c58
                exact absurd H (by rw [HT.out]; simp)
              ·
               rw [if_neg c57] at H
               have c57b0 : ((t527 == 0) == (decide ((t507.length : Int) > 0))) = false := by simpa using c57
               (try (have c57b1 : decide ((t527 == 0) = (decide ((t507.length : Int) > 0))) = false := by simpa using c57))
               (try (have c57b2 : ((t527 == 0) == (decide ((t507.length : Int) > 0))) = false := by simpa using c57))
               (try (have c57b3 : ¬ ((t527 == 0) = (decide ((t507.length : Int) > 0))) := by simpa using c57))
               clear c57
               exact absurd H (by rw [HT.out]; simp)
             ·
              replace c56 := Bool.eq_false_iff.mpr c56
              subst c56
              have H1 : (some false) = some r := by rw [if_neg (show ¬ (false = true) by decide)] at H; exact H
              clear H
              have H := H1
              clear H1
              exact absurd H (by rw [HT.out]; simp)
            ·
             replace c54 := Bool.eq_false_iff.mpr c54
             subst c54
             have H1 : (some false) = some r := by rw [if_neg (show ¬ (false = true) by decide)] at H; exact H
             clear H
             have H := H1
             clear H1
             exact absurd H (by rw [HT.out]; simp)
           ·
            rw [if_neg c52] at H
            exact absurd H (by simp)
          ·
           replace c51 := Bool.eq_false_iff.mpr c51
           subst c51
           have H1 : (some false) = some r := by rw [if_neg (show ¬ (false = true) by decide)] at H; exact H
           clear H
           have H := H1
           clear H1
           exact absurd H (by rw [HT.out]; simp)
         ·
          rw [if_neg c48] at H
          have c48b0 : (t550 == (rd t510 (ji45))) = false := beq_eq_false_iff_ne.mpr c48
          have c48b1 : (t550 != (rd t510 (ji45))) = true := bne_iff_ne.mpr c48
          exact absurd H (by rw [HT.out]; simp)
        ·
         rw [if_neg c47] at H
         exact absurd H (by simp)
       ·
        rw [if_neg c46] at H
        exact absurd H (by simp)
      ·
       rw [if_neg c44] at H
       have c44b0 : ((rd t541 0) == t550) = false := beq_eq_false_iff_ne.mpr c44
       have c44b1 : ((rd t541 0) != t550) = true := bne_iff_ne.mpr c44
       exact absurd H (by rw [HT.out]; simp)
     ·
      rw [if_neg c43] at H
      exact absurd H (by simp)
   ·
    rw [if_neg c41] at H
    have c41b0 : (t551 == 0) = false := beq_eq_false_iff_ne.mpr c41
    have c41b1 : (t551 != 0) = true := bne_iff_ne.mpr c41
    by_cases c78 : ((t527 == 0) == (decide ((t507.length : Int) > 0))) = true
    ·
     rw [if_pos c78] at H
     have c78b0 : ((t527 == 0) == (decide ((t507.length : Int) > 0))) = true := c78
     (try (have c78ba : ((t527 == 0) = decide (0 < t507.length)) = True := eq_true (by simpa using c78b0)))
     (try (have c78bb : (0 < t507.length) = True := eq_true (by have h_ := c78b0; rw [show (t527 == 0) = true by assumption] at h_; simpa using h_)))
     (try (have c78bc : (t507 = []) = True := eq_true (by have h_ := c78b0; rw [show (t527 == 0) = false by assumption] at h_; simpa using h_)))
     (try (have c78b1 : decide ((t527 == 0) = (decide ((t507.length : Int) > 0))) = true := by simpa using c78))
     (try (have c78b2 : ((t527 == 0) == (decide ((t507.length : Int) > 0))) = true := by simpa using c78))
     clear c78
     by_cases c79 : ((t551 == 0) == (decide ((t510.length : Int) > 0))) = true
     · as_aux_lemma =>
      rw [if_pos c79] at H
      have c79b0 : ((t551 == 0) == (decide ((t510.length : Int) > 0))) = true := c79
      (try (have c79ba : ((t551 == 0) = decide (0 < t510.length)) = True := eq_true (by simpa using c79b0)))
      (try (have c79bb : (0 < t510.length) = True := eq_true (by have h_ := c79b0; rw [show (t551 == 0) = true by assumption] at h_; simpa using h_)))
      (try (have c79bc : (t510 = []) = True := eq_true (by have h_ := c79b0; rw [show (t551 == 0) = false by assumption] at h_; simpa using h_)))
      (try (have c79b1 : decide ((t551 == 0) = (decide ((t510.length : Int) > 0))) = true := by simpa using c79))
      (try (have c79b2 : ((t551 == 0) == (decide ((t510.length : Int) > 0))) = true := by simpa using c79))
      clear c79
      replace H := Option.bind_eq_some_iff.mp H
      obtain ⟨t566, A800, H⟩ := H
      replace H : (some t566) = some r := H
      have A80 := Aside0.mk A800
      clear A800
      obtain rfl := Option.some.inj H
      have hnb81 := NB516_528.out
      have hnc81 := NB528_516.out
      have hcz82_0 : wc.cell? ⟨gb516, 0, none⟩ = some (.slice Ao7 t507.length co7) := (blk_cell BK516.out 0).trans rfl
      have hcz82_1 : wc.cell? ⟨gb516, 1, none⟩ = some (.slice Ao9 t510.length co9) := (blk_cell BK516.out 1).trans rfl
      have hcz82_2 : wc.cell? ⟨gb516, 2, none⟩ = some (.slice Ao10 t513.length co10) := (blk_cell BK516.out 2).trans rfl
      have hfz82_0 := blk_frozen BK516.out 0
      have hfz82_1 := blk_frozen BK516.out 1
      have hfz82_2 := blk_frozen BK516.out 2
      go_wp2_with (first | ((with_reducible refine gate_callee (f := 33) rfl ?_); refine goesL_ (some 72) rfl rfl Try.func33 (by kernel_rfl) rfl #[.agg #[.slice Ao7 t507.length co7, .slice Ao9 t510.length co9, .slice Ao10 t513.length co10]] rfl (by (try simp only [List.map_toArray, List.map_cons, List.map_nil]); first | done | rfl | (simp only [List.length_drop, List.length_take]; rfl)) ?_; (with_reducible refine (lru_Promote.calls _ _ t507 _ _ t510 _ _ t513 t541 t544 t547 t550 t551 _ ?side1 ?side2 ?side3 ?side4 ?side5 ?side6 A40.out).mono ?_); (case side1 => repeat (first | exact (Kd.R_reads' HO_517000.out).2.2 | (with_reducible refine Kd.C_alloc ?_ _) | (with_reducible refine Kd.C_drewN ?_ _) | (with_reducible refine Kd.C_drew ?_))); (case side2 => exact (Kd.R_reads' HO_517000.out).2.1); (case side3 => repeat (first | exact (Kd.R_reads' HO_517001.out).2.2 | (with_reducible refine Kd.C_alloc ?_ _) | (with_reducible refine Kd.C_drewN ?_ _) | (with_reducible refine Kd.C_drew ?_))); (case side4 => exact (Kd.R_reads' HO_517001.out).2.1); (case side5 => repeat (first | exact (Kd.R_reads' HO_517002.out).2.2 | (with_reducible refine Kd.C_alloc ?_ _) | (with_reducible refine Kd.C_drewN ?_ _) | (with_reducible refine Kd.C_drew ?_))); (case side6 => exact (Kd.R_reads' HO_517002.out).2.1); rintro e w83 ⟨v542, v545, v548, rfl, ho0, ho1, ho2, hb⟩; refine ⟨_, rfl, ?_⟩; have n0_ := Aside0.mk (Kd.R_mono (Kd.R_told (Kd.R_told (Kd.R_old (by (with_reducible repeat (first | apply Kd.R_alloc | apply Kd.R_drewN | apply Kd.R_drew)); exact HO_517000.out) hb) (Kd.R_base ho0)) (Kd.R_base ho1)) (fun _ h_ => h_.1)); have n1_ := Aside0.mk (Kd.R_mono (Kd.R_told (Kd.R_told (Kd.R_old (by (with_reducible repeat (first | apply Kd.R_alloc | apply Kd.R_drewN | apply Kd.R_drew)); exact HO_517001.out) hb) (Kd.R_base ho0)) (Kd.R_base ho1)) (fun _ h_ => h_.1)); have n2_ := Aside0.mk (Kd.R_elder' (by (with_reducible repeat (first | apply Kd.R_alloc | apply Kd.R_drewN | apply Kd.R_drew)); exact HO_517002.out) (Kd.R_base ho2) hb); have n3_ := Aside0.mk (Kd.R_mono (Kd.R_told (Kd.R_told (Kd.R_old (by (with_reducible repeat (first | apply Kd.R_alloc | apply Kd.R_drewN | apply Kd.R_drew)); exact HO_529000.out) hb) (Kd.R_base ho0)) (Kd.R_base ho1)) (fun _ h_ => h_.1)); have n4_ := Aside0.mk (Kd.R_mono (Kd.R_told (Kd.R_told (Kd.R_old (by (with_reducible repeat (first | apply Kd.R_alloc | apply Kd.R_drewN | apply Kd.R_drew)); exact HO_529001.out) hb) (Kd.R_base ho0)) (Kd.R_base ho1)) (fun _ h_ => h_.1)); have n5_ := Aside0.mk (Kd.R_elder' (by (with_reducible repeat (first | apply Kd.R_alloc | apply Kd.R_drewN | apply Kd.R_drew)); exact HO_529002.out) (Kd.R_base ho2) hb); have n6_ := Aside0.mk (Kd.R_lower (Kd.R_new' (Kd.R_new' (Kd.R_new' (Kd.R_new' ho0 (Kd.R_lt (by (with_reducible repeat (first | apply Kd.R_alloc | apply Kd.R_drewN | apply Kd.R_drew)); exact HO_517000.out))) (Kd.R_lt (by (with_reducible repeat (first | apply Kd.R_alloc | apply Kd.R_drewN | apply Kd.R_drew)); exact HO_517001.out))) (Kd.R_lt (by (with_reducible repeat (first | apply Kd.R_alloc | apply Kd.R_drewN | apply Kd.R_drew)); exact HO_529000.out))) (Kd.R_lt (by (with_reducible repeat (first | apply Kd.R_alloc | apply Kd.R_drewN | apply Kd.R_drew)); exact HO_529001.out))) (below_size (by repeat (first | (with_reducible first | exact HB.out | apply below_alloc | apply pw_below_drewN | apply below_drew1 | refine below_set ?_ GE516.out | refine below_set ?_ GE528.out) | exact HB.out)))); have n7_ := Aside0.mk (Kd.R_lower (Kd.R_new' (Kd.R_new' (Kd.R_new' (Kd.R_new' ho1 (Kd.R_lt (by (with_reducible repeat (first | apply Kd.R_alloc | apply Kd.R_drewN | apply Kd.R_drew)); exact HO_517000.out))) (Kd.R_lt (by (with_reducible repeat (first | apply Kd.R_alloc | apply Kd.R_drewN | apply Kd.R_drew)); exact HO_517001.out))) (Kd.R_lt (by (with_reducible repeat (first | apply Kd.R_alloc | apply Kd.R_drewN | apply Kd.R_drew)); exact HO_529000.out))) (Kd.R_lt (by (with_reducible repeat (first | apply Kd.R_alloc | apply Kd.R_drewN | apply Kd.R_drew)); exact HO_529001.out))) (below_size (by repeat (first | (with_reducible first | exact HB.out | apply below_alloc | apply pw_below_drewN | apply below_drew1 | refine below_set ?_ GE516.out | refine below_set ?_ GE528.out) | exact HB.out)))); have n8_ := Aside0.mk (Kd.R_lower (Kd.R_new' (Kd.R_new' ho2 (Kd.R_lt (by (with_reducible repeat (first | apply Kd.R_alloc | apply Kd.R_drewN | apply Kd.R_drew)); exact HO_517002.out))) (Kd.R_lt (by (with_reducible repeat (first | apply Kd.R_alloc | apply Kd.R_drewN | apply Kd.R_drew)); exact HO_529002.out))) (below_size (by repeat (first | (with_reducible first | exact HB.out | apply below_alloc | apply pw_below_drewN | apply below_drew1 | refine below_set ?_ GE516.out | refine below_set ?_ GE528.out) | exact HB.out)))); have n9_ := Aside0.mk (blk_below (g := gb516) (o := .cells #[.slice Ao7 t507.length co7, .slice Ao9 t510.length co9, .slice Ao10 t513.length co10] 25 (0, 0)) (by (with_reducible repeat (first | refine blk_drewN ?_ _ | refine blk_drew ?_ | refine blk_alloc ?_ _)); exact BK516.out) hb); have n10_ := Aside0.mk (blk_below (g := gb528) (o := .cells #[.slice Ao13 t517.length co13, .slice Ao16 t520.length co16, .slice Ao17 t523.length co17] 25 (0, 0)) (by (with_reducible repeat (first | refine blk_drewN ?_ _ | refine blk_drew ?_ | refine blk_alloc ?_ _)); exact BK528.out) hb); have n11_ := Aside0.mk (below_step (by repeat (first | (with_reducible first | exact HB.out | apply below_alloc | apply pw_below_drewN | apply below_drew1 | refine below_set ?_ GE516.out | refine below_set ?_ GE528.out) | exact HB.out)) hb); clear HO_517000; clear HO_517001; clear HO_517002; clear HO_529000; clear HO_529001; clear HO_529002; clear BK516; clear BK528; clear HB; have HO_517000 := n0_; have HO_517001 := n1_; have HO_517002 := n2_; have HO_529000 := n3_; have HO_529001 := n4_; have HO_529002 := n5_; have HO543 := n6_; have HO546 := n7_; have HO549 := n8_; have BK516 := n9_; have BK528 := n10_; have HB := n11_; clear n0_ n1_ n2_ n3_ n4_ n5_ n6_ n7_ n8_ n9_ n10_ n11_; (try clear hb); (try clear hb2); (try clear hk); (try clear hi); (try clear ho0); (try clear ho1); (try clear ho2)) | ((with_reducible refine gate_dst (N := 7) rfl ?_); (try (refine gate_guard (by rfl) ?_; dsimp only)); refine box_event ?hg (N := 7) ?hd (cs := #[.slice none 0 0, .slice none 0 0, .slice none 0 0]) (t := 25) ?hr ?_; (case hd => rfl); (case hg => rfl); (case hr => first | (go_simp; done) | (go_simp; rfl)); intro gb552 hg w84 hbox hb; have n0_ := Aside0.mk (Kd.R_below (by (with_reducible repeat (first | apply Kd.R_alloc | apply Kd.R_drewN | apply Kd.R_drew)); exact HO_517000.out) hb); have n1_ := Aside0.mk (Kd.R_below (by (with_reducible repeat (first | apply Kd.R_alloc | apply Kd.R_drewN | apply Kd.R_drew)); exact HO_517001.out) hb); have n2_ := Aside0.mk (Kd.R_below (by (with_reducible repeat (first | apply Kd.R_alloc | apply Kd.R_drewN | apply Kd.R_drew)); exact HO_517002.out) hb); have n3_ := Aside0.mk (Kd.R_below (by (with_reducible repeat (first | apply Kd.R_alloc | apply Kd.R_drewN | apply Kd.R_drew)); exact HO_529000.out) hb); have n4_ := Aside0.mk (Kd.R_below (by (with_reducible repeat (first | apply Kd.R_alloc | apply Kd.R_drewN | apply Kd.R_drew)); exact HO_529001.out) hb); have n5_ := Aside0.mk (Kd.R_below (by (with_reducible repeat (first | apply Kd.R_alloc | apply Kd.R_drewN | apply Kd.R_drew)); exact HO_529002.out) hb); have n6_ := Aside0.mk (Kd.R_below (by (with_reducible repeat (first | apply Kd.R_alloc | apply Kd.R_drewN | apply Kd.R_drew)); exact HO543.out) hb); have n7_ := Aside0.mk (Kd.R_below (by (with_reducible repeat (first | apply Kd.R_alloc | apply Kd.R_drewN | apply Kd.R_drew)); exact HO546.out) hb); have n8_ := Aside0.mk (Kd.R_below (by (with_reducible repeat (first | apply Kd.R_alloc | apply Kd.R_drewN | apply Kd.R_drew)); exact HO549.out) hb); have n9_ := Aside0.mk (blk_below (g := gb516) (o := .cells #[.slice Ao7 t507.length co7, .slice Ao9 t510.length co9, .slice Ao10 t513.length co10] 25 (0, 0)) (by (with_reducible repeat (first | refine blk_drewN ?_ _ | refine blk_drew ?_ | refine blk_alloc ?_ _)); exact BK516.out) hb); have n10_ := Aside0.mk (blk_below (g := gb528) (o := .cells #[.slice Ao13 t517.length co13, .slice Ao16 t520.length co16, .slice Ao17 t523.length co17] 25 (0, 0)) (by (with_reducible repeat (first | refine blk_drewN ?_ _ | refine blk_drew ?_ | refine blk_alloc ?_ _)); exact BK528.out) hb); have n11_ := Aside0.mk (below_step (by repeat (first | (with_reducible first | exact HB.out | apply below_alloc | apply pw_below_drewN | apply below_drew1 | refine below_set ?_ GE516.out | refine below_set ?_ GE528.out) | exact HB.out)) hb); have n12_ := Aside0.mk (hbox); have n13_ := Aside0.mk ((by rw [hg]; exact (below_size (by repeat (first | (with_reducible first | exact HB.out | apply below_alloc | apply pw_below_drewN | apply below_drew1 | refine below_set ?_ GE516.out | refine below_set ?_ GE528.out) | exact HB.out))) : w.heap.size ≤ gb552)); have n14_ := Aside0.mk ((by rw [hg]; exact (below_size (by repeat (first | (with_reducible first | exact HB.out | apply below_alloc | apply pw_below_drewN | apply below_drew1 | refine below_set ?_ GE516.out | refine below_set ?_ GE528.out) | exact HB.out))) : w.heap.size ≤ gb552)); have n15_ := Aside0.mk ((by rw [hg]; exact Nat.ne_of_lt (blk_lt (g := gb516) (o := .cells #[.slice Ao7 t507.length co7, .slice Ao9 t510.length co9, .slice Ao10 t513.length co10] 25 (0, 0)) (by (with_reducible repeat (first | refine blk_drewN ?_ _ | refine blk_drew ?_ | refine blk_alloc ?_ _)); exact BK516.out)) : gb516 ≠ gb552)); have n16_ := Aside0.mk ((by rw [hg]; exact Nat.ne_of_gt (blk_lt (g := gb516) (o := .cells #[.slice Ao7 t507.length co7, .slice Ao9 t510.length co9, .slice Ao10 t513.length co10] 25 (0, 0)) (by (with_reducible repeat (first | refine blk_drewN ?_ _ | refine blk_drew ?_ | refine blk_alloc ?_ _)); exact BK516.out)) : gb552 ≠ gb516)); have n17_ := Aside0.mk ((by rw [hg]; exact Nat.ne_of_lt (blk_lt (g := gb528) (o := .cells #[.slice Ao13 t517.length co13, .slice Ao16 t520.length co16, .slice Ao17 t523.length co17] 25 (0, 0)) (by (with_reducible repeat (first | refine blk_drewN ?_ _ | refine blk_drew ?_ | refine blk_alloc ?_ _)); exact BK528.out)) : gb528 ≠ gb552)); have n18_ := Aside0.mk ((by rw [hg]; exact Nat.ne_of_gt (blk_lt (g := gb528) (o := .cells #[.slice Ao13 t517.length co13, .slice Ao16 t520.length co16, .slice Ao17 t523.length co17] 25 (0, 0)) (by (with_reducible repeat (first | refine blk_drewN ?_ _ | refine blk_drew ?_ | refine blk_alloc ?_ _)); exact BK528.out)) : gb552 ≠ gb528)); clear HO_517000; clear HO_517001; clear HO_517002; clear HO_529000; clear HO_529001; clear HO_529002; clear HO543; clear HO546; clear HO549; clear BK516; clear BK528; clear HB; have HO_517000 := n0_; have HO_517001 := n1_; have HO_517002 := n2_; have HO_529000 := n3_; have HO_529001 := n4_; have HO_529002 := n5_; have HO543 := n6_; have HO546 := n7_; have HO549 := n8_; have BK516 := n9_; have BK528 := n10_; have HB := n11_; have BK552 := n12_; have GW552 := n13_; have GE552 := n14_; have NB516_552 := n15_; have NB552_516 := n16_; have NB528_552 := n17_; have NB552_528 := n18_; clear n0_ n1_ n2_ n3_ n4_ n5_ n6_ n7_ n8_ n9_ n10_ n11_ n12_ n13_ n14_ n15_ n16_ n17_ n18_; clear hb hbox hg; obtain ⟨Ao85, co85, eo85⟩ := Kd.R_slice HO543.out; subst eo85; have hnb86 := NB552_516.out; have hnc86 := NB516_552.out; have hnb87 := NB552_528.out; have hnc87 := NB528_552.out; have hcz88_0 : w84.cell? ⟨gb552, 0, none⟩ = some (.slice none 0 0) := (blk_cell BK552.out 0).trans rfl; have hcz88_1 : w84.cell? ⟨gb552, 1, none⟩ = some (.slice none 0 0) := (blk_cell BK552.out 1).trans rfl; have hcz88_2 : w84.cell? ⟨gb552, 2, none⟩ = some (.slice none 0 0) := (blk_cell BK552.out 2).trans rfl; have hfz88_0 := blk_frozen BK552.out 0; have hfz88_1 := blk_frozen BK552.out 1; have hfz88_2 := blk_frozen BK552.out 2; obtain ⟨Ao89, co89, eo89⟩ := Kd.R_slice HO546.out; subst eo89; obtain ⟨Ao90, co90, eo90⟩ := Kd.R_slice HO549.out; subst eo90; have hcz91_0 : w84.cell? ⟨gb516, 0, none⟩ = some (.slice Ao7 t507.length co7) := (blk_cell BK516.out 0).trans rfl; have hcz91_1 : w84.cell? ⟨gb516, 1, none⟩ = some (.slice Ao9 t510.length co9) := (blk_cell BK516.out 1).trans rfl; have hcz91_2 : w84.cell? ⟨gb516, 2, none⟩ = some (.slice Ao10 t513.length co10) := (blk_cell BK516.out 2).trans rfl; have hfz91_0 := blk_frozen BK516.out 0; have hfz91_1 := blk_frozen BK516.out 1; have hfz91_2 := blk_frozen BK516.out 2) | (go_at_call 11; refine calls_of_args (args' := #[]) (by first | rfl) ?_; (with_reducible refine (headgatelaw07_awake.calls  t566 _ A80.out).mono ?_); rintro e w92 ⟨rfl, hb⟩; have n0_ := Aside0.mk (Kd.R_below (by (with_reducible repeat (first | apply Kd.R_alloc | apply Kd.R_drewN | apply Kd.R_drew)); exact (Kd.R_mono (Kd.R_far (p := ⟨gb552, 2, none⟩) (Kd.R_far (p := ⟨gb552, 1, none⟩) (Kd.R_far (p := ⟨gb552, 0, none⟩) (Kd.R_types HO_517000.out BK552.out (by decide)) (fun _ hk => hk.2) (.slice Ao85 t541.length co85)) (fun _ hk => hk.2) (.slice Ao89 t544.length co89)) (fun _ hk => hk.2) (.slice Ao90 t547.length co90)) (fun _ h_ => h_.1))) hb); have n1_ := Aside0.mk (Kd.R_below (by (with_reducible repeat (first | apply Kd.R_alloc | apply Kd.R_drewN | apply Kd.R_drew)); exact (Kd.R_mono (Kd.R_far (p := ⟨gb552, 2, none⟩) (Kd.R_far (p := ⟨gb552, 1, none⟩) (Kd.R_far (p := ⟨gb552, 0, none⟩) (Kd.R_types HO_517001.out BK552.out (by decide)) (fun _ hk => hk.2) (.slice Ao85 t541.length co85)) (fun _ hk => hk.2) (.slice Ao89 t544.length co89)) (fun _ hk => hk.2) (.slice Ao90 t547.length co90)) (fun _ h_ => h_.1))) hb); have n2_ := Aside0.mk (Kd.R_below (by (with_reducible repeat (first | apply Kd.R_alloc | apply Kd.R_drewN | apply Kd.R_drew)); exact (Kd.R_mono (Kd.R_far (p := ⟨gb552, 2, none⟩) (Kd.R_far (p := ⟨gb552, 1, none⟩) (Kd.R_far (p := ⟨gb552, 0, none⟩) (Kd.R_types HO_517002.out BK552.out (by decide)) (fun _ hk => hk.2) (.slice Ao85 t541.length co85)) (fun _ hk => hk.2) (.slice Ao89 t544.length co89)) (fun _ hk => hk.2) (.slice Ao90 t547.length co90)) (fun _ h_ => h_.1))) hb); have n3_ := Aside0.mk (Kd.R_below (by (with_reducible repeat (first | apply Kd.R_alloc | apply Kd.R_drewN | apply Kd.R_drew)); exact (Kd.R_mono (Kd.R_far (p := ⟨gb552, 2, none⟩) (Kd.R_far (p := ⟨gb552, 1, none⟩) (Kd.R_far (p := ⟨gb552, 0, none⟩) (Kd.R_types HO_529000.out BK552.out (by decide)) (fun _ hk => hk.2) (.slice Ao85 t541.length co85)) (fun _ hk => hk.2) (.slice Ao89 t544.length co89)) (fun _ hk => hk.2) (.slice Ao90 t547.length co90)) (fun _ h_ => h_.1))) hb); have n4_ := Aside0.mk (Kd.R_below (by (with_reducible repeat (first | apply Kd.R_alloc | apply Kd.R_drewN | apply Kd.R_drew)); exact (Kd.R_mono (Kd.R_far (p := ⟨gb552, 2, none⟩) (Kd.R_far (p := ⟨gb552, 1, none⟩) (Kd.R_far (p := ⟨gb552, 0, none⟩) (Kd.R_types HO_529001.out BK552.out (by decide)) (fun _ hk => hk.2) (.slice Ao85 t541.length co85)) (fun _ hk => hk.2) (.slice Ao89 t544.length co89)) (fun _ hk => hk.2) (.slice Ao90 t547.length co90)) (fun _ h_ => h_.1))) hb); have n5_ := Aside0.mk (Kd.R_below (by (with_reducible repeat (first | apply Kd.R_alloc | apply Kd.R_drewN | apply Kd.R_drew)); exact (Kd.R_mono (Kd.R_far (p := ⟨gb552, 2, none⟩) (Kd.R_far (p := ⟨gb552, 1, none⟩) (Kd.R_far (p := ⟨gb552, 0, none⟩) (Kd.R_types HO_529002.out BK552.out (by decide)) (fun _ hk => hk.2) (.slice Ao85 t541.length co85)) (fun _ hk => hk.2) (.slice Ao89 t544.length co89)) (fun _ hk => hk.2) (.slice Ao90 t547.length co90)) (fun _ h_ => h_.1))) hb); have n6_ := Aside0.mk (Kd.R_below (by (with_reducible repeat (first | apply Kd.R_alloc | apply Kd.R_drewN | apply Kd.R_drew)); exact (Kd.R_mono (Kd.R_far (p := ⟨gb552, 2, none⟩) (Kd.R_far (p := ⟨gb552, 1, none⟩) (Kd.R_far (p := ⟨gb552, 0, none⟩) (Kd.R_types HO543.out BK552.out (by decide)) (fun _ hk => hk.2) (.slice Ao85 t541.length co85)) (fun _ hk => hk.2) (.slice Ao89 t544.length co89)) (fun _ hk => hk.2) (.slice Ao90 t547.length co90)) (fun _ h_ => h_.1))) hb); have n7_ := Aside0.mk (Kd.R_below (by (with_reducible repeat (first | apply Kd.R_alloc | apply Kd.R_drewN | apply Kd.R_drew)); exact (Kd.R_mono (Kd.R_far (p := ⟨gb552, 2, none⟩) (Kd.R_far (p := ⟨gb552, 1, none⟩) (Kd.R_far (p := ⟨gb552, 0, none⟩) (Kd.R_types HO546.out BK552.out (by decide)) (fun _ hk => hk.2) (.slice Ao85 t541.length co85)) (fun _ hk => hk.2) (.slice Ao89 t544.length co89)) (fun _ hk => hk.2) (.slice Ao90 t547.length co90)) (fun _ h_ => h_.1))) hb); have n8_ := Aside0.mk (Kd.R_below (by (with_reducible repeat (first | apply Kd.R_alloc | apply Kd.R_drewN | apply Kd.R_drew)); exact (Kd.R_mono (Kd.R_far (p := ⟨gb552, 2, none⟩) (Kd.R_far (p := ⟨gb552, 1, none⟩) (Kd.R_far (p := ⟨gb552, 0, none⟩) (Kd.R_types HO549.out BK552.out (by decide)) (fun _ hk => hk.2) (.slice Ao85 t541.length co85)) (fun _ hk => hk.2) (.slice Ao89 t544.length co89)) (fun _ hk => hk.2) (.slice Ao90 t547.length co90)) (fun _ h_ => h_.1))) hb); have n9_ := Aside0.mk (blk_below (g := gb516) (o := .cells #[.slice Ao7 t507.length co7, .slice Ao9 t510.length co9, .slice Ao10 t513.length co10] 25 (0, 0)) (by (with_reducible repeat (first | refine blk_drewN ?_ _ | refine blk_drew ?_ | refine blk_alloc ?_ _)); refine blk_far ?_ NB516_552.out _; (with_reducible repeat (first | refine blk_drewN ?_ _ | refine blk_drew ?_ | refine blk_alloc ?_ _)); refine blk_far ?_ NB516_552.out _; (with_reducible repeat (first | refine blk_drewN ?_ _ | refine blk_drew ?_ | refine blk_alloc ?_ _)); refine blk_far ?_ NB516_552.out _; (with_reducible repeat (first | refine blk_drewN ?_ _ | refine blk_drew ?_ | refine blk_alloc ?_ _)); exact BK516.out) hb); have n10_ := Aside0.mk (blk_below (g := gb528) (o := .cells #[.slice Ao13 t517.length co13, .slice Ao16 t520.length co16, .slice Ao17 t523.length co17] 25 (0, 0)) (by (with_reducible repeat (first | refine blk_drewN ?_ _ | refine blk_drew ?_ | refine blk_alloc ?_ _)); refine blk_far ?_ NB528_552.out _; (with_reducible repeat (first | refine blk_drewN ?_ _ | refine blk_drew ?_ | refine blk_alloc ?_ _)); refine blk_far ?_ NB528_552.out _; (with_reducible repeat (first | refine blk_drewN ?_ _ | refine blk_drew ?_ | refine blk_alloc ?_ _)); refine blk_far ?_ NB528_552.out _; (with_reducible repeat (first | refine blk_drewN ?_ _ | refine blk_drew ?_ | refine blk_alloc ?_ _)); exact BK528.out) hb); have n11_ := Aside0.mk (blk_below (g := gb552) (o := .cells #[.slice Ao85 t541.length co85, .slice Ao89 t544.length co89, .slice Ao90 t547.length co90] 25 (0, 0)) (by (with_reducible repeat (first | refine blk_drewN ?_ _ | refine blk_drew ?_ | refine blk_alloc ?_ _)); refine blk_put (cs := #[.slice Ao85 t541.length co85, .slice Ao89 t544.length co89, .slice none 0 0]) ?_ 2 _ rfl; (with_reducible repeat (first | refine blk_drewN ?_ _ | refine blk_drew ?_ | refine blk_alloc ?_ _)); refine blk_put (cs := #[.slice Ao85 t541.length co85, .slice none 0 0, .slice none 0 0]) ?_ 1 _ rfl; (with_reducible repeat (first | refine blk_drewN ?_ _ | refine blk_drew ?_ | refine blk_alloc ?_ _)); refine blk_put (cs := #[.slice none 0 0, .slice none 0 0, .slice none 0 0]) ?_ 0 _ rfl; (with_reducible repeat (first | refine blk_drewN ?_ _ | refine blk_drew ?_ | refine blk_alloc ?_ _)); exact BK552.out) hb); have n12_ := Aside0.mk (below_step (by repeat (first | (with_reducible first | exact HB.out | apply below_alloc | apply pw_below_drewN | apply below_drew1 | refine below_set ?_ GE516.out | refine below_set ?_ GE528.out | refine below_set ?_ GE552.out) | exact HB.out)) hb); clear HO_517000; clear HO_517001; clear HO_517002; clear HO_529000; clear HO_529001; clear HO_529002; clear HO543; clear HO546; clear HO549; clear BK516; clear BK528; clear BK552; clear HB; have HO_517000 := n0_; have HO_517001 := n1_; have HO_517002 := n2_; have HO_529000 := n3_; have HO_529001 := n4_; have HO_529002 := n5_; have HO543 := n6_; have HO546 := n7_; have HO549 := n8_; have BK516 := n9_; have BK528 := n10_; have BK552 := n11_; have HB := n12_; clear n0_ n1_ n2_ n3_ n4_ n5_ n6_ n7_ n8_ n9_ n10_ n11_ n12_; (try clear hb); (try clear hb2); (try clear hk); (try clear hi)))
      go_ret
      exact ⟨by first | rfl | (simp [errW_none, errW_some] <;> rfl) | (simp [*, errW_none, errW_some] <;> rfl), by repeat (first | (with_reducible first | exact HB.out | apply below_alloc | apply pw_below_drewN | apply below_drew1 | refine below_set ?_ GE516.out | refine below_set ?_ GE528.out | refine below_set ?_ GE552.out) | exact HB.out)⟩
     ·
      rw [if_neg c79] at H
      have c79b0 : ((t551 == 0) == (decide ((t510.length : Int) > 0))) = false := by simpa using c79
      (try (have c79b1 : decide ((t551 == 0) = (decide ((t510.length : Int) > 0))) = false := by simpa using c79))
      (try (have c79b2 : ((t551 == 0) == (decide ((t510.length : Int) > 0))) = false := by simpa using c79))
      (try (have c79b3 : ¬ ((t551 == 0) = (decide ((t510.length : Int) > 0))) := by simpa using c79))
      clear c79
      exact absurd H (by rw [HT.out]; simp)
    ·
     rw [if_neg c78] at H
     have c78b0 : ((t527 == 0) == (decide ((t507.length : Int) > 0))) = false := by simpa using c78
     (try (have c78b1 : decide ((t527 == 0) = (decide ((t507.length : Int) > 0))) = false := by simpa using c78))
     (try (have c78b2 : ((t527 == 0) == (decide ((t507.length : Int) > 0))) = false := by simpa using c78))
     (try (have c78b3 : ¬ ((t527 == 0) = (decide ((t507.length : Int) > 0))) := by simpa using c78))
     clear c78
     exact absurd H (by rw [HT.out]; simp)

/-- THE ONE PURE STATEMENT of headgatelaw07_LruMoves: yours. -/
def headgatelaw07_LruMoves.Pure : Prop := ∀ (l0 : List Int), l0.length ≤ maxLen → l0.length * 8 ≤ 140737488351232 → (∀ x ∈ l0, (Lit.int .i64 x).wf = true) → ∃ k, headgatelaw07_LruMoves.f k l0 = some true
theorem headgatelaw07_LruMoves.walk (P : headgatelaw07_LruMoves.Pure) (a0 : Option Addr) (len0 cap0 : Nat) (z0 : List Int) (w : World) (w0 : (a0 = none ∧ len0 = 0 ∧ cap0 = 0 ∧ z0 = []) ∨ ∃ x, a0 = some x ∧ len0 ≤ cap0 ∧ cap0 ≤ maxLen ∧ z0.length = cap0 ∧ (∀ i, i < z0.length → w.cell? (x.add i) = some (.int .i64 (z0.getD i 0))) ∧ ∀ n ∈ z0, (Lit.int .i64 n).wf = true) (y0 : len0 * 8 ≤ 140737488351232) :
  Calls Try.prog 5 #[.slice a0 len0 cap0] w fun e w' => e = .returned (.bool true) ∧ Below w.heap.size w w' := by
 obtain ⟨l0, rfl, hr0, hm0, hw0, hc0⟩ := ReadsInt.ofRowC w0
 obtain ⟨k, h⟩ := P l0 hm0 y0 hw0
 refine (headgatelaw07_LruMoves.calls k _ _ l0 true w (Kd.C_of_reads (d := (0 : Int)) (h1 := fun _ => rfl) hr0) hc0 ⟨rfl⟩ h).mono ?_
 rintro e w' ⟨rfl, hd⟩
 exact ⟨rfl, hd⟩

end Go.Proofs.Ytaofihdmgdpenaa.X
