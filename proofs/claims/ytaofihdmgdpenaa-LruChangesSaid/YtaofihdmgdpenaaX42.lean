/- What Go functions of this seat compute, told as Lean functions, and that each call of the Go code comes to that answer; for a law: its row, for every input. Written by a program of the session. -/
import Derived.Test.YtaofihdmgdpenaaX42D
import Derived.Test.YtaofihdmgdpenaaX0
import Derived.Test.YtaofihdmgdpenaaX1
import Derived.Test.YtaofihdmgdpenaaX2
import Derived.Test.YtaofihdmgdpenaaX17
import Derived.Test.YtaofihdmgdpenaaX23
import Derived.Test.YtaofihdmgdpenaaX27
import Derived.Test.YtaofihdmgdpenaaX31
import Derived.Test.YtaofihdmgdpenaaX35
import Derived.Test.YtaofihdmgdpenaaX38
import Derived.Test.YtaofihdmgdpenaaX40
namespace Go.Proofs.Ytaofihdmgdpenaa.X
open Go.RowKit Go.Proofs.YtaofihdmgdpenaaW.PrintWords Go.Proofs.YtaofihdmgdpenaaW.PrintLast Go.Proofs.YtaofihdmgdpenaaW.PrintMore
attribute [local go_sem] max2_int min2_int max_two min_two max_three min_three max_four min_four   -- for this text's walks alone
set_option linter.unusedVariables false
set_option linter.unusedSimpArgs false


set_option maxHeartbeats 2000000 in
set_option maxRecDepth 100000 in
theorem headgatelaw07_LruChanges.calls (k : Nat) (A0_0 : Option Addr) (c0_0 : Nat) (l0_0 : List Int) (A0_1 : Option Addr) (c0_1 : Nat) (l0_1 : List Int) (A0_2 : Option Addr) (c0_2 : Nat) (l0_2 : List Bool) (a1 : Int) (a2 : Int) (r : Bool) (w : World) (hr0_0 : Kd.C (Kd.int .i64) w A0_0 l0_0.length l0_0) (hc0_0 : l0_0.length ≤ c0_0) (hr0_1 : Kd.C (Kd.int .i64) w A0_1 l0_1.length l0_1) (hc0_1 : l0_1.length ≤ c0_1) (hr0_2 : Kd.C Kd.bool w A0_2 l0_2.length l0_2) (hc0_2 : l0_2.length ≤ c0_2) (HT : Aside0 (r = true)) (h : headgatelaw07_LruChanges.f k l0_0 l0_1 l0_2 a1 a2 = some r) :
  Calls Try.prog 3 #[.agg #[.slice A0_0 l0_0.length c0_0, .slice A0_1 l0_1.length c0_1, .slice A0_2 l0_2.length c0_2], .int .i64 a1, .int .i64 a2] w fun e w' => e = .returned (.bool r) ∧ Below w.heap.size w w' := by
 have hu25 := Try.underlying25
 have HR0_0 := Aside0.mk hr0_0
 have HC0_0 := Aside0.mk hc0_0
 clear hr0_0 hc0_0
 have HR0_1 := Aside0.mk hr0_1
 have HC0_1 := Aside0.mk hc0_1
 clear hr0_1 hc0_1
 have HR0_2 := Aside0.mk hr0_2
 have HC0_2 := Aside0.mk hc0_2
 clear hr0_2 hc0_2
 have HB := Aside0.mk (Below.refl w.heap.size w)
 have H : ((headgatelaw07_light.f l0_0 l0_1 l0_2).bind fun t291 => (if t291 = true then ((headgatekit_OwnLists.f l0_0 l0_1 l0_2).bind fun bt293 => ((lru_New.f a2).bind fun bt303 => ((headgateref07_New.f a2).bind fun bt314 => ((headgatekit_SameLists.f k bt303.1 bt303.2.1 bt303.2.2.1 bt314.1 bt314.2.1 bt314.2.2.1).bind fun t325 => (if t325 = true then (if bt303.2.2.2 = bt314.2.2.2 then ((lru_Check.f bt293.1 bt293.2.1 bt293.2.2).bind fun t326 => ((headgateref07_Check.f l0_0 l0_1 l0_2).bind fun t327 => (headgatelaw07_LruChanges.j0 k a1 (t326 != t327) l0_0 l0_1 l0_2 bt293.1 bt293.2.1 bt293.2.2))) else (headgatelaw07_LruChanges.j0 k a1 true l0_0 l0_1 l0_2 bt293.1 bt293.2.1 bt293.2.2)) else (headgatelaw07_LruChanges.j0 k a1 true l0_0 l0_1 l0_2 bt293.1 bt293.2.1 bt293.2.2)))))) else ((headgatelaw07_awake.f).bind fun t292 => (some t292)))) = some r := h
 clear h
 replace H := Option.bind_eq_some_iff.mp H
 obtain ⟨t291, A40, H⟩ := H
 replace H : (if t291 = true then ((headgatekit_OwnLists.f l0_0 l0_1 l0_2).bind fun bt293 => ((lru_New.f a2).bind fun bt303 => ((headgateref07_New.f a2).bind fun bt314 => ((headgatekit_SameLists.f k bt303.1 bt303.2.1 bt303.2.2.1 bt314.1 bt314.2.1 bt314.2.2.1).bind fun t325 => (if t325 = true then (if bt303.2.2.2 = bt314.2.2.2 then ((lru_Check.f bt293.1 bt293.2.1 bt293.2.2).bind fun t326 => ((headgateref07_Check.f l0_0 l0_1 l0_2).bind fun t327 => (headgatelaw07_LruChanges.j0 k a1 (t326 != t327) l0_0 l0_1 l0_2 bt293.1 bt293.2.1 bt293.2.2))) else (headgatelaw07_LruChanges.j0 k a1 true l0_0 l0_1 l0_2 bt293.1 bt293.2.1 bt293.2.2)) else (headgatelaw07_LruChanges.j0 k a1 true l0_0 l0_1 l0_2 bt293.1 bt293.2.1 bt293.2.2)))))) else ((headgatelaw07_awake.f).bind fun t292 => (some t292))) = some r := H
 have A4 := Aside0.mk A40
 clear A40
 by_cases c5 : t291 = true
 · as_aux_lemma =>
  subst c5
  have H1 : ((headgatekit_OwnLists.f l0_0 l0_1 l0_2).bind fun bt293 => ((lru_New.f a2).bind fun bt303 => ((headgateref07_New.f a2).bind fun bt314 => ((headgatekit_SameLists.f k bt303.1 bt303.2.1 bt303.2.2.1 bt314.1 bt314.2.1 bt314.2.2.1).bind fun t325 => (if t325 = true then (if bt303.2.2.2 = bt314.2.2.2 then ((lru_Check.f bt293.1 bt293.2.1 bt293.2.2).bind fun t326 => ((headgateref07_Check.f l0_0 l0_1 l0_2).bind fun t327 => (headgatelaw07_LruChanges.j0 k a1 (t326 != t327) l0_0 l0_1 l0_2 bt293.1 bt293.2.1 bt293.2.2))) else (headgatelaw07_LruChanges.j0 k a1 true l0_0 l0_1 l0_2 bt293.1 bt293.2.1 bt293.2.2)) else (headgatelaw07_LruChanges.j0 k a1 true l0_0 l0_1 l0_2 bt293.1 bt293.2.1 bt293.2.2)))))) = some r := by rw [if_pos rfl] at H; exact H
  clear H
  have H := H1
  clear H1
  replace H := Option.bind_eq_some_iff.mp H
  obtain ⟨⟨t293, t296, t299⟩, A60, H⟩ := H
  replace H : ((lru_New.f a2).bind fun bt303 => ((headgateref07_New.f a2).bind fun bt314 => ((headgatekit_SameLists.f k bt303.1 bt303.2.1 bt303.2.2.1 bt314.1 bt314.2.1 bt314.2.2.1).bind fun t325 => (if t325 = true then (if bt303.2.2.2 = bt314.2.2.2 then ((lru_Check.f t293 t296 t299).bind fun t326 => ((headgateref07_Check.f l0_0 l0_1 l0_2).bind fun t327 => (headgatelaw07_LruChanges.j0 k a1 (t326 != t327) l0_0 l0_1 l0_2 t293 t296 t299))) else (headgatelaw07_LruChanges.j0 k a1 true l0_0 l0_1 l0_2 t293 t296 t299)) else (headgatelaw07_LruChanges.j0 k a1 true l0_0 l0_1 l0_2 t293 t296 t299))))) = some r := H
  have A6 := Aside0.mk A60
  clear A60
  replace H := Option.bind_eq_some_iff.mp H
  obtain ⟨⟨t303, t306, t309, t312⟩, A70, H⟩ := H
  replace H : ((headgateref07_New.f a2).bind fun bt314 => ((headgatekit_SameLists.f k t303 t306 t309 bt314.1 bt314.2.1 bt314.2.2.1).bind fun t325 => (if t325 = true then (if t312 = bt314.2.2.2 then ((lru_Check.f t293 t296 t299).bind fun t326 => ((headgateref07_Check.f l0_0 l0_1 l0_2).bind fun t327 => (headgatelaw07_LruChanges.j0 k a1 (t326 != t327) l0_0 l0_1 l0_2 t293 t296 t299))) else (headgatelaw07_LruChanges.j0 k a1 true l0_0 l0_1 l0_2 t293 t296 t299)) else (headgatelaw07_LruChanges.j0 k a1 true l0_0 l0_1 l0_2 t293 t296 t299)))) = some r := H
  have A7 := Aside0.mk A70
  clear A70
  replace H := Option.bind_eq_some_iff.mp H
  obtain ⟨⟨t314, t317, t320, t323⟩, A80, H⟩ := H
  replace H : ((headgatekit_SameLists.f k t303 t306 t309 t314 t317 t320).bind fun t325 => (if t325 = true then (if t312 = t323 then ((lru_Check.f t293 t296 t299).bind fun t326 => ((headgateref07_Check.f l0_0 l0_1 l0_2).bind fun t327 => (headgatelaw07_LruChanges.j0 k a1 (t326 != t327) l0_0 l0_1 l0_2 t293 t296 t299))) else (headgatelaw07_LruChanges.j0 k a1 true l0_0 l0_1 l0_2 t293 t296 t299)) else (headgatelaw07_LruChanges.j0 k a1 true l0_0 l0_1 l0_2 t293 t296 t299))) = some r := H
  have A8 := Aside0.mk A80
  clear A80
  have HC9 := Aside0.mk H
  clear H
  go_enter Try.func3, Try.ntmps3
  go_upto_region 6 with (first | ((with_reducible refine gate_dst (N := 3) rfl ?_); refine box_event ?hg (N := 3) ?hd (cs := #[.slice A0_0 l0_0.length c0_0, .slice A0_1 l0_1.length c0_1, .slice A0_2 l0_2.length c0_2]) (t := 25) ?hr ?_; (case hd => rfl); (case hg => rfl); (case hr => first | (go_simp; done) | (go_simp; rfl)); intro gb290 hg w10 hbox hb; have n0_ := Aside0.mk (below_step (upH HB) hb); have n1_ := Aside0.mk (hbox); have n2_ := Aside0.mk ((by rw [hg]; exact (below_size (upH HB)) : w.heap.size ≤ gb290)); have n3_ := Aside0.mk ((by rw [hg]; exact (below_size (upH HB)) : w.heap.size ≤ gb290)); clear HB; have HB := n0_; have BK290 := n1_; have GW290 := n2_; have GE290 := n3_; clear n0_ n1_ n2_ n3_; clear hb hbox hg; have hcz11_0 := cell0 BK290; have hcz11_1 := cell1 BK290; have hcz11_2 := cell2 BK290; have hfz11_0 := blk_frozen BK290.out 0; have hfz11_1 := blk_frozen BK290.out 1; have hfz11_2 := blk_frozen BK290.out 2) | ((with_reducible refine gate_callee (f := 10) rfl ?_); refine goesL_ (some 17) rfl rfl Try.func10 (by kernel_rfl) rfl #[.agg #[.slice A0_0 l0_0.length c0_0, .slice A0_1 l0_1.length c0_1, .slice A0_2 l0_2.length c0_2]] rfl (args_ (p := _)) ?_; (with_reducible refine (headgatelaw07_light.calls _ _ l0_0 _ _ l0_1 _ _ l0_2 true _ ?side1 ?side2 ?side3 ?side4 ?side5 ?side6 A4.out).mono ?_); (case side1 => exact upc (Kd.C_below HR0_0.out HB.out)); (case side2 => exact HC0_0.out); (case side3 => exact upc (Kd.C_below HR0_1.out HB.out)); (case side4 => exact HC0_1.out); (case side5 => exact upc (Kd.C_below HR0_2.out HB.out)); (case side6 => exact HC0_2.out); rintro e w12 ⟨rfl, hb⟩; refine ⟨_, rfl, ?_⟩; have n0_ := Aside0.mk (blkB BK290 hb); have n1_ := Aside0.mk (below_step (upH HB) hb); clear BK290; clear HB; have BK290 := n0_; have HB := n1_; clear n0_ n1_; (try clear hb); (try clear hb2); (try clear hk); (try clear hi); have hcz13_0 := cell0 BK290; have hcz13_1 := cell1 BK290; have hcz13_2 := cell2 BK290; have hfz13_0 := blk_frozen BK290.out 0; have hfz13_1 := blk_frozen BK290.out 1; have hfz13_2 := blk_frozen BK290.out 2) | ((with_reducible refine gate_callee (f := 12) rfl ?_); refine goesL_ (some 21) rfl rfl Try.func12 (by kernel_rfl) rfl #[.agg #[.slice A0_0 l0_0.length c0_0, .slice A0_1 l0_1.length c0_1, .slice A0_2 l0_2.length c0_2]] rfl (args_ (p := _)) ?_; (with_reducible refine (headgatekit_OwnLists.calls _ _ l0_0 _ _ l0_1 _ _ l0_2 t293 t296 t299 _ ?side1 ?side2 ?side3 ?side4 ?side5 ?side6 A6.out).mono ?_); (case side1 => exact upc (Kd.C_below HR0_0.out HB.out)); (case side2 => exact HC0_0.out); (case side3 => exact upc (Kd.C_below HR0_1.out HB.out)); (case side4 => exact HC0_1.out); (case side5 => exact upc (Kd.C_below HR0_2.out HB.out)); (case side6 => exact HC0_2.out); rintro e w14 ⟨v294, v297, v300, rfl, ho0, ho1, ho2, hb⟩; refine ⟨_, rfl, ?_⟩; have n0_ := Aside0.mk (Kd.R_lower ho0 (below_size (upH HB))); have n1_ := Aside0.mk (Kd.R_lower ho1 (below_size (upH HB))); have n2_ := Aside0.mk (Kd.R_lower ho2 (below_size (upH HB))); have n3_ := Aside0.mk (blkB BK290 hb); have n4_ := Aside0.mk (below_step (upH HB) hb); clear BK290; clear HB; have HO295 := n0_; have HO298 := n1_; have HO301 := n2_; have BK290 := n3_; have HB := n4_; clear n0_ n1_ n2_ n3_ n4_; (try clear hb); (try clear hb2); (try clear hk); (try clear hi); (try clear ho0); (try clear ho1); (try clear ho2)) | ((with_reducible refine gate_dst (N := 7) rfl ?_); refine box_event ?hg (N := 7) ?hd (cs := #[.slice none 0 0, .slice none 0 0, .slice none 0 0]) (t := 25) ?hr ?_; (case hd => rfl); (case hg => rfl); (case hr => first | (go_simp; done) | (go_simp; rfl)); intro gb302 hg w15 hbox hb; have n0_ := Aside0.mk (Kd.R_below (upR HO295.out) hb); have n1_ := Aside0.mk (Kd.R_below (upR HO298.out) hb); have n2_ := Aside0.mk (Kd.R_below (upR HO301.out) hb); have n3_ := Aside0.mk (blkB BK290 hb); have n4_ := Aside0.mk (below_step (upH HB) hb); have n5_ := Aside0.mk (hbox); have n6_ := Aside0.mk ((by rw [hg]; exact (below_size (upH HB)) : w.heap.size ≤ gb302)); have n7_ := Aside0.mk ((by rw [hg]; exact (below_size (upH HB)) : w.heap.size ≤ gb302)); have n8_ := Aside0.mk ((by rw [hg]; exact Nat.ne_of_lt (blk_lt (g := gb290) (o := .cells #[.slice A0_0 l0_0.length c0_0, .slice A0_1 l0_1.length c0_1, .slice A0_2 l0_2.length c0_2] 25 (0, 0)) (upB BK290)) : gb290 ≠ gb302)); have n9_ := Aside0.mk ((by rw [hg]; exact Nat.ne_of_gt (blk_lt (g := gb290) (o := .cells #[.slice A0_0 l0_0.length c0_0, .slice A0_1 l0_1.length c0_1, .slice A0_2 l0_2.length c0_2] 25 (0, 0)) (upB BK290)) : gb302 ≠ gb290)); clear HO295; clear HO298; clear HO301; clear BK290; clear HB; have HO295 := n0_; have HO298 := n1_; have HO301 := n2_; have BK290 := n3_; have HB := n4_; have BK302 := n5_; have GW302 := n6_; have GE302 := n7_; have NB290_302 := n8_; have NB302_290 := n9_; clear n0_ n1_ n2_ n3_ n4_ n5_ n6_ n7_ n8_ n9_; clear hb hbox hg; obtain ⟨Ao16, co16, eo16⟩ := Kd.R_slice HO295.out; subst eo16; have hnb17 := NB302_290.out; have hnc17 := NB290_302.out; have hcz18_0 := cell0 BK302; have hcz18_1 := cell1 BK302; have hcz18_2 := cell2 BK302; have hfz18_0 := blk_frozen BK302.out 0; have hfz18_1 := blk_frozen BK302.out 1; have hfz18_2 := blk_frozen BK302.out 2; obtain ⟨Ao19, co19, eo19⟩ := Kd.R_slice HO298.out; subst eo19; obtain ⟨Ao20, co20, eo20⟩ := Kd.R_slice HO301.out; subst eo20) | ((with_reducible refine gate_callee (f := 13) rfl ?_); refine goesL_ (some 24) rfl rfl Try.func13 (by kernel_rfl) rfl #[.int .i64 a2] rfl (args_ (p := _)) ?_; (with_reducible refine (lru_New.calls a2 t303 t306 t309 t312 _ A7.out).mono ?_); rintro e w21 ⟨v304, v307, v310, rfl, ho0, ho1, ho2, hb⟩; refine ⟨_, rfl, ?_⟩; have n0_ := Aside0.mk (Kd.R_mono (Kd.R_told (Kd.R_told (Kd.R_old (upR (Kd.R_mono (far3 HO295.out BK302) (fun _ h_ => h_.1))) hb) (Kd.R_base ho0)) (Kd.R_base ho1)) (fun _ h_ => h_.1)); have n1_ := Aside0.mk (Kd.R_mono (Kd.R_told (Kd.R_told (Kd.R_old (upR (Kd.R_mono (far3 HO298.out BK302) (fun _ h_ => h_.1))) hb) (Kd.R_base ho0)) (Kd.R_base ho1)) (fun _ h_ => h_.1)); have n2_ := Aside0.mk (Kd.R_elder' (upR (Kd.R_mono (far3 HO301.out BK302) (fun _ h_ => h_.1))) (Kd.R_base ho2) hb); have n3_ := Aside0.mk (Kd.R_lower (Kd.R_new' (Kd.R_new' ho0 (Kd.R_lt (upR (Kd.R_mono (far3 HO295.out BK302) (fun _ h_ => h_.1))))) (Kd.R_lt (upR (Kd.R_mono (far3 HO298.out BK302) (fun _ h_ => h_.1))))) (below_size (upH HB))); have n4_ := Aside0.mk (Kd.R_lower (Kd.R_new' (Kd.R_new' ho1 (Kd.R_lt (upR (Kd.R_mono (far3 HO295.out BK302) (fun _ h_ => h_.1))))) (Kd.R_lt (upR (Kd.R_mono (far3 HO298.out BK302) (fun _ h_ => h_.1))))) (below_size (upH HB))); have n5_ := Aside0.mk (Kd.R_lower (Kd.R_new' ho2 (Kd.R_lt (upR (Kd.R_mono (far3 HO301.out BK302) (fun _ h_ => h_.1))))) (below_size (upH HB))); have n6_ := Aside0.mk (blk_below (g := gb290) (o := .cells #[.slice A0_0 l0_0.length c0_0, .slice A0_1 l0_1.length c0_1, .slice A0_2 l0_2.length c0_2] 25 (0, 0)) (by (with_reducible repeat (first | refine blk_drewN ?_ _ | refine blk_drew ?_ | refine blk_alloc ?_ _)); refine blk_far ?_ NB290_302.out _; (with_reducible repeat (first | refine blk_drewN ?_ _ | refine blk_drew ?_ | refine blk_alloc ?_ _)); refine blk_far ?_ NB290_302.out _; (with_reducible repeat (first | refine blk_drewN ?_ _ | refine blk_drew ?_ | refine blk_alloc ?_ _)); refine blk_far ?_ NB290_302.out _; (with_reducible repeat (first | refine blk_drewN ?_ _ | refine blk_drew ?_ | refine blk_alloc ?_ _)); exact BK290.out) hb); have n7_ := Aside0.mk (blk_below (g := gb302) (o := .cells #[.slice Ao16 t293.length co16, .slice Ao19 t296.length co19, .slice Ao20 t299.length co20] 25 (0, 0)) (by (with_reducible repeat (first | refine blk_drewN ?_ _ | refine blk_drew ?_ | refine blk_alloc ?_ _)); refine blk_put (cs := #[.slice Ao16 t293.length co16, .slice Ao19 t296.length co19, .slice none 0 0]) ?_ 2 _ rfl; (with_reducible repeat (first | refine blk_drewN ?_ _ | refine blk_drew ?_ | refine blk_alloc ?_ _)); refine blk_put (cs := #[.slice Ao16 t293.length co16, .slice none 0 0, .slice none 0 0]) ?_ 1 _ rfl; (with_reducible repeat (first | refine blk_drewN ?_ _ | refine blk_drew ?_ | refine blk_alloc ?_ _)); refine blk_put (cs := #[.slice none 0 0, .slice none 0 0, .slice none 0 0]) ?_ 0 _ rfl; (with_reducible repeat (first | refine blk_drewN ?_ _ | refine blk_drew ?_ | refine blk_alloc ?_ _)); exact BK302.out) hb); have n8_ := Aside0.mk (below_step (upH HB) hb); clear HO295; clear HO298; clear HO301; clear BK290; clear BK302; clear HB; have HO295 := n0_; have HO298 := n1_; have HO301 := n2_; have HO305 := n3_; have HO308 := n4_; have HO311 := n5_; have BK290 := n6_; have BK302 := n7_; have HB := n8_; clear n0_ n1_ n2_ n3_ n4_ n5_ n6_ n7_ n8_; (try clear hb); (try clear hb2); (try clear hk); (try clear hi); (try clear ho0); (try clear ho1); (try clear ho2)) | ((with_reducible refine gate_dst (N := 8) rfl ?_); refine box_event ?hg (N := 8) ?hd (cs := #[.slice none 0 0, .slice none 0 0, .slice none 0 0]) (t := 25) ?hr ?_; (case hd => rfl); (case hg => rfl); (case hr => first | (go_simp; done) | (go_simp; rfl)); intro gb313 hg w22 hbox hb; have n0_ := Aside0.mk (Kd.R_below (upR HO295.out) hb); have n1_ := Aside0.mk (Kd.R_below (upR HO298.out) hb); have n2_ := Aside0.mk (Kd.R_below (upR HO301.out) hb); have n3_ := Aside0.mk (Kd.R_below (upR HO305.out) hb); have n4_ := Aside0.mk (Kd.R_below (upR HO308.out) hb); have n5_ := Aside0.mk (Kd.R_below (upR HO311.out) hb); have n6_ := Aside0.mk (blkB BK290 hb); have n7_ := Aside0.mk (blkB BK302 hb); have n8_ := Aside0.mk (below_step (upH HB) hb); have n9_ := Aside0.mk (hbox); have n10_ := Aside0.mk ((by rw [hg]; exact (below_size (upH HB)) : w.heap.size ≤ gb313)); have n11_ := Aside0.mk ((by rw [hg]; exact (below_size (upH HB)) : w.heap.size ≤ gb313)); have n12_ := Aside0.mk ((by rw [hg]; exact Nat.ne_of_lt (blk_lt (g := gb290) (o := .cells #[.slice A0_0 l0_0.length c0_0, .slice A0_1 l0_1.length c0_1, .slice A0_2 l0_2.length c0_2] 25 (0, 0)) (upB BK290)) : gb290 ≠ gb313)); have n13_ := Aside0.mk ((by rw [hg]; exact Nat.ne_of_gt (blk_lt (g := gb290) (o := .cells #[.slice A0_0 l0_0.length c0_0, .slice A0_1 l0_1.length c0_1, .slice A0_2 l0_2.length c0_2] 25 (0, 0)) (upB BK290)) : gb313 ≠ gb290)); have n14_ := Aside0.mk ((by rw [hg]; exact Nat.ne_of_lt (blk_lt (g := gb302) (o := .cells #[.slice Ao16 t293.length co16, .slice Ao19 t296.length co19, .slice Ao20 t299.length co20] 25 (0, 0)) (upB BK302)) : gb302 ≠ gb313)); have n15_ := Aside0.mk ((by rw [hg]; exact Nat.ne_of_gt (blk_lt (g := gb302) (o := .cells #[.slice Ao16 t293.length co16, .slice Ao19 t296.length co19, .slice Ao20 t299.length co20] 25 (0, 0)) (upB BK302)) : gb313 ≠ gb302)); clear HO295; clear HO298; clear HO301; clear HO305; clear HO308; clear HO311; clear BK290; clear BK302; clear HB; have HO295 := n0_; have HO298 := n1_; have HO301 := n2_; have HO305 := n3_; have HO308 := n4_; have HO311 := n5_; have BK290 := n6_; have BK302 := n7_; have HB := n8_; have BK313 := n9_; have GW313 := n10_; have GE313 := n11_; have NB290_313 := n12_; have NB313_290 := n13_; have NB302_313 := n14_; have NB313_302 := n15_; clear n0_ n1_ n2_ n3_ n4_ n5_ n6_ n7_ n8_ n9_ n10_ n11_ n12_ n13_ n14_ n15_; clear hb hbox hg; obtain ⟨Ao23, co23, eo23⟩ := Kd.R_slice HO305.out; subst eo23; have hnb24 := NB313_290.out; have hnc24 := NB290_313.out; have hnb25 := NB313_302.out; have hnc25 := NB302_313.out; have hcz26_0 := cell0 BK313; have hcz26_1 := cell1 BK313; have hcz26_2 := cell2 BK313; have hfz26_0 := blk_frozen BK313.out 0; have hfz26_1 := blk_frozen BK313.out 1; have hfz26_2 := blk_frozen BK313.out 2; obtain ⟨Ao27, co27, eo27⟩ := Kd.R_slice HO308.out; subst eo27; obtain ⟨Ao28, co28, eo28⟩ := Kd.R_slice HO311.out; subst eo28) | ((with_reducible refine gate_callee (f := 14) rfl ?_); refine goesL_ (some 29) rfl rfl Try.func14 (by kernel_rfl) rfl #[.int .i64 a2] rfl (args_ (p := _)) ?_; (with_reducible refine (headgateref07_New.calls a2 t314 t317 t320 t323 _ A8.out).mono ?_); rintro e w29 ⟨v315, v318, v321, rfl, ho0, ho1, ho2, hb⟩; refine ⟨_, rfl, ?_⟩; have n0_ := Aside0.mk (Kd.R_mono (Kd.R_told (Kd.R_told (Kd.R_old (upR (Kd.R_mono (far3 HO295.out BK313) (fun _ h_ => h_.1))) hb) (Kd.R_base ho0)) (Kd.R_base ho1)) (fun _ h_ => h_.1)); have n1_ := Aside0.mk (Kd.R_mono (Kd.R_told (Kd.R_told (Kd.R_old (upR (Kd.R_mono (far3 HO298.out BK313) (fun _ h_ => h_.1))) hb) (Kd.R_base ho0)) (Kd.R_base ho1)) (fun _ h_ => h_.1)); have n2_ := Aside0.mk (Kd.R_elder' (upR (Kd.R_mono (far3 HO301.out BK313) (fun _ h_ => h_.1))) (Kd.R_base ho2) hb); have n3_ := Aside0.mk (Kd.R_mono (Kd.R_told (Kd.R_told (Kd.R_old (upR (Kd.R_mono (far3 HO305.out BK313) (fun _ h_ => h_.1))) hb) (Kd.R_base ho0)) (Kd.R_base ho1)) (fun _ h_ => h_.1)); have n4_ := Aside0.mk (Kd.R_mono (Kd.R_told (Kd.R_told (Kd.R_old (upR (Kd.R_mono (far3 HO308.out BK313) (fun _ h_ => h_.1))) hb) (Kd.R_base ho0)) (Kd.R_base ho1)) (fun _ h_ => h_.1)); have n5_ := Aside0.mk (Kd.R_elder' (upR (Kd.R_mono (far3 HO311.out BK313) (fun _ h_ => h_.1))) (Kd.R_base ho2) hb); have n6_ := Aside0.mk (Kd.R_lower (Kd.R_new' (Kd.R_new' (Kd.R_new' (Kd.R_new' ho0 (Kd.R_lt (upR (Kd.R_mono (far3 HO295.out BK313) (fun _ h_ => h_.1))))) (Kd.R_lt (upR (Kd.R_mono (far3 HO298.out BK313) (fun _ h_ => h_.1))))) (Kd.R_lt (upR (Kd.R_mono (far3 HO305.out BK313) (fun _ h_ => h_.1))))) (Kd.R_lt (upR (Kd.R_mono (far3 HO308.out BK313) (fun _ h_ => h_.1))))) (below_size (upH HB))); have n7_ := Aside0.mk (Kd.R_lower (Kd.R_new' (Kd.R_new' (Kd.R_new' (Kd.R_new' ho1 (Kd.R_lt (upR (Kd.R_mono (far3 HO295.out BK313) (fun _ h_ => h_.1))))) (Kd.R_lt (upR (Kd.R_mono (far3 HO298.out BK313) (fun _ h_ => h_.1))))) (Kd.R_lt (upR (Kd.R_mono (far3 HO305.out BK313) (fun _ h_ => h_.1))))) (Kd.R_lt (upR (Kd.R_mono (far3 HO308.out BK313) (fun _ h_ => h_.1))))) (below_size (upH HB))); have n8_ := Aside0.mk (Kd.R_lower (Kd.R_new' (Kd.R_new' ho2 (Kd.R_lt (upR (Kd.R_mono (far3 HO301.out BK313) (fun _ h_ => h_.1))))) (Kd.R_lt (upR (Kd.R_mono (far3 HO311.out BK313) (fun _ h_ => h_.1))))) (below_size (upH HB))); have n9_ := Aside0.mk (blk_below (g := gb290) (o := .cells #[.slice A0_0 l0_0.length c0_0, .slice A0_1 l0_1.length c0_1, .slice A0_2 l0_2.length c0_2] 25 (0, 0)) (by (with_reducible repeat (first | refine blk_drewN ?_ _ | refine blk_drew ?_ | refine blk_alloc ?_ _)); refine blk_far ?_ NB290_313.out _; (with_reducible repeat (first | refine blk_drewN ?_ _ | refine blk_drew ?_ | refine blk_alloc ?_ _)); refine blk_far ?_ NB290_313.out _; (with_reducible repeat (first | refine blk_drewN ?_ _ | refine blk_drew ?_ | refine blk_alloc ?_ _)); refine blk_far ?_ NB290_313.out _; (with_reducible repeat (first | refine blk_drewN ?_ _ | refine blk_drew ?_ | refine blk_alloc ?_ _)); exact BK290.out) hb); have n10_ := Aside0.mk (blk_below (g := gb302) (o := .cells #[.slice Ao16 t293.length co16, .slice Ao19 t296.length co19, .slice Ao20 t299.length co20] 25 (0, 0)) (by (with_reducible repeat (first | refine blk_drewN ?_ _ | refine blk_drew ?_ | refine blk_alloc ?_ _)); refine blk_far ?_ NB302_313.out _; (with_reducible repeat (first | refine blk_drewN ?_ _ | refine blk_drew ?_ | refine blk_alloc ?_ _)); refine blk_far ?_ NB302_313.out _; (with_reducible repeat (first | refine blk_drewN ?_ _ | refine blk_drew ?_ | refine blk_alloc ?_ _)); refine blk_far ?_ NB302_313.out _; (with_reducible repeat (first | refine blk_drewN ?_ _ | refine blk_drew ?_ | refine blk_alloc ?_ _)); exact BK302.out) hb); have n11_ := Aside0.mk (blk_below (g := gb313) (o := .cells #[.slice Ao23 t303.length co23, .slice Ao27 t306.length co27, .slice Ao28 t309.length co28] 25 (0, 0)) (by (with_reducible repeat (first | refine blk_drewN ?_ _ | refine blk_drew ?_ | refine blk_alloc ?_ _)); refine blk_put (cs := #[.slice Ao23 t303.length co23, .slice Ao27 t306.length co27, .slice none 0 0]) ?_ 2 _ rfl; (with_reducible repeat (first | refine blk_drewN ?_ _ | refine blk_drew ?_ | refine blk_alloc ?_ _)); refine blk_put (cs := #[.slice Ao23 t303.length co23, .slice none 0 0, .slice none 0 0]) ?_ 1 _ rfl; (with_reducible repeat (first | refine blk_drewN ?_ _ | refine blk_drew ?_ | refine blk_alloc ?_ _)); refine blk_put (cs := #[.slice none 0 0, .slice none 0 0, .slice none 0 0]) ?_ 0 _ rfl; (with_reducible repeat (first | refine blk_drewN ?_ _ | refine blk_drew ?_ | refine blk_alloc ?_ _)); exact BK313.out) hb); have n12_ := Aside0.mk (below_step (upH HB) hb); clear HO295; clear HO298; clear HO301; clear HO305; clear HO308; clear HO311; clear BK290; clear BK302; clear BK313; clear HB; have HO295 := n0_; have HO298 := n1_; have HO301 := n2_; have HO305 := n3_; have HO308 := n4_; have HO311 := n5_; have HO316 := n6_; have HO319 := n7_; have HO322 := n8_; have BK290 := n9_; have BK302 := n10_; have BK313 := n11_; have HB := n12_; clear n0_ n1_ n2_ n3_ n4_ n5_ n6_ n7_ n8_ n9_ n10_ n11_ n12_; (try clear hb); (try clear hb2); (try clear hk); (try clear hi); (try clear ho0); (try clear ho1); (try clear ho2)) | ((with_reducible refine gate_dst (N := 10) rfl ?_); refine box_event ?hg (N := 10) ?hd (cs := #[.slice none 0 0, .slice none 0 0, .slice none 0 0]) (t := 25) ?hr ?_; (case hd => rfl); (case hg => rfl); (case hr => first | (go_simp; done) | (go_simp; rfl)); intro gb324 hg w30 hbox hb; have n0_ := Aside0.mk (Kd.R_below (upR HO295.out) hb); have n1_ := Aside0.mk (Kd.R_below (upR HO298.out) hb); have n2_ := Aside0.mk (Kd.R_below (upR HO301.out) hb); have n3_ := Aside0.mk (Kd.R_below (upR HO305.out) hb); have n4_ := Aside0.mk (Kd.R_below (upR HO308.out) hb); have n5_ := Aside0.mk (Kd.R_below (upR HO311.out) hb); have n6_ := Aside0.mk (Kd.R_below (upR HO316.out) hb); have n7_ := Aside0.mk (Kd.R_below (upR HO319.out) hb); have n8_ := Aside0.mk (Kd.R_below (upR HO322.out) hb); have n9_ := Aside0.mk (blkB BK290 hb); have n10_ := Aside0.mk (blkB BK302 hb); have n11_ := Aside0.mk (blkB BK313 hb); have n12_ := Aside0.mk (below_step (upH HB) hb); have n13_ := Aside0.mk (hbox); have n14_ := Aside0.mk ((by rw [hg]; exact (below_size (upH HB)) : w.heap.size ≤ gb324)); have n15_ := Aside0.mk ((by rw [hg]; exact (below_size (upH HB)) : w.heap.size ≤ gb324)); have n16_ := Aside0.mk ((by rw [hg]; exact Nat.ne_of_lt (blk_lt (g := gb290) (o := .cells #[.slice A0_0 l0_0.length c0_0, .slice A0_1 l0_1.length c0_1, .slice A0_2 l0_2.length c0_2] 25 (0, 0)) (upB BK290)) : gb290 ≠ gb324)); have n17_ := Aside0.mk ((by rw [hg]; exact Nat.ne_of_gt (blk_lt (g := gb290) (o := .cells #[.slice A0_0 l0_0.length c0_0, .slice A0_1 l0_1.length c0_1, .slice A0_2 l0_2.length c0_2] 25 (0, 0)) (upB BK290)) : gb324 ≠ gb290)); have n18_ := Aside0.mk ((by rw [hg]; exact Nat.ne_of_lt (blk_lt (g := gb302) (o := .cells #[.slice Ao16 t293.length co16, .slice Ao19 t296.length co19, .slice Ao20 t299.length co20] 25 (0, 0)) (upB BK302)) : gb302 ≠ gb324)); have n19_ := Aside0.mk ((by rw [hg]; exact Nat.ne_of_gt (blk_lt (g := gb302) (o := .cells #[.slice Ao16 t293.length co16, .slice Ao19 t296.length co19, .slice Ao20 t299.length co20] 25 (0, 0)) (upB BK302)) : gb324 ≠ gb302)); have n20_ := Aside0.mk ((by rw [hg]; exact Nat.ne_of_lt (blk_lt (g := gb313) (o := .cells #[.slice Ao23 t303.length co23, .slice Ao27 t306.length co27, .slice Ao28 t309.length co28] 25 (0, 0)) (upB BK313)) : gb313 ≠ gb324)); have n21_ := Aside0.mk ((by rw [hg]; exact Nat.ne_of_gt (blk_lt (g := gb313) (o := .cells #[.slice Ao23 t303.length co23, .slice Ao27 t306.length co27, .slice Ao28 t309.length co28] 25 (0, 0)) (upB BK313)) : gb324 ≠ gb313)); clear HO295; clear HO298; clear HO301; clear HO305; clear HO308; clear HO311; clear HO316; clear HO319; clear HO322; clear BK290; clear BK302; clear BK313; clear HB; have HO295 := n0_; have HO298 := n1_; have HO301 := n2_; have HO305 := n3_; have HO308 := n4_; have HO311 := n5_; have HO316 := n6_; have HO319 := n7_; have HO322 := n8_; have BK290 := n9_; have BK302 := n10_; have BK313 := n11_; have HB := n12_; have BK324 := n13_; have GW324 := n14_; have GE324 := n15_; have NB290_324 := n16_; have NB324_290 := n17_; have NB302_324 := n18_; have NB324_302 := n19_; have NB313_324 := n20_; have NB324_313 := n21_; clear n0_ n1_ n2_ n3_ n4_ n5_ n6_ n7_ n8_ n9_ n10_ n11_ n12_ n13_ n14_ n15_ n16_ n17_ n18_ n19_ n20_ n21_; clear hb hbox hg; obtain ⟨Ao31, co31, eo31⟩ := Kd.R_slice HO316.out; subst eo31; have hnb32 := NB324_290.out; have hnc32 := NB290_324.out; have hnb33 := NB324_302.out; have hnc33 := NB302_324.out; have hnb34 := NB324_313.out; have hnc34 := NB313_324.out; have hcz35_0 := cell0 BK324; have hcz35_1 := cell1 BK324; have hcz35_2 := cell2 BK324; have hfz35_0 := blk_frozen BK324.out 0; have hfz35_1 := blk_frozen BK324.out 1; have hfz35_2 := blk_frozen BK324.out 2; obtain ⟨Ao36, co36, eo36⟩ := Kd.R_slice HO319.out; subst eo36; obtain ⟨Ao37, co37, eo37⟩ := Kd.R_slice HO322.out; subst eo37))
  (try simp only [Act.put, List.setIfInBounds_toArray, List.set_cons_zero, List.set_cons_succ])
  go_cut [47] (fun v47 wc => ∃ (kq : Nat) (x47_8 : Bool), v47 = .bool x47_8 ∧ Aside0 (headgatelaw07_LruChanges.j0 kq a1 x47_8 l0_0 l0_1 l0_2 t293 t296 t299 = some r) ∧ Aside0 (kq ≤ k) ∧ Aside0 (Kd.R (Kd.int .i64) 3 wc w.heap.size (fun k_ => some k_ ≠ ((.slice Ao19 t296.length co19) : Value).ownBlock ∧ some k_ ≠ ((.slice Ao23 t303.length co23) : Value).ownBlock ∧ some k_ ≠ ((.slice Ao27 t306.length co27) : Value).ownBlock ∧ some k_ ≠ ((.slice Ao31 t314.length co31) : Value).ownBlock ∧ some k_ ≠ ((.slice Ao36 t317.length co36) : Value).ownBlock) (.slice Ao16 t293.length co16) t293) ∧ Aside0 (Kd.R (Kd.int .i64) 3 wc w.heap.size (fun k_ => some k_ ≠ ((.slice Ao16 t293.length co16) : Value).ownBlock ∧ some k_ ≠ ((.slice Ao23 t303.length co23) : Value).ownBlock ∧ some k_ ≠ ((.slice Ao27 t306.length co27) : Value).ownBlock ∧ some k_ ≠ ((.slice Ao31 t314.length co31) : Value).ownBlock ∧ some k_ ≠ ((.slice Ao36 t317.length co36) : Value).ownBlock) (.slice Ao19 t296.length co19) t296) ∧ Aside0 (Kd.R Kd.bool 4 wc w.heap.size (fun k_ => some k_ ≠ ((.slice Ao28 t309.length co28) : Value).ownBlock ∧ some k_ ≠ ((.slice Ao37 t320.length co37) : Value).ownBlock) (.slice Ao20 t299.length co20) t299) ∧ Aside0 (Kd.R (Kd.int .i64) 3 wc w.heap.size (fun k_ => some k_ ≠ ((.slice Ao16 t293.length co16) : Value).ownBlock ∧ some k_ ≠ ((.slice Ao19 t296.length co19) : Value).ownBlock ∧ some k_ ≠ ((.slice Ao27 t306.length co27) : Value).ownBlock ∧ some k_ ≠ ((.slice Ao31 t314.length co31) : Value).ownBlock ∧ some k_ ≠ ((.slice Ao36 t317.length co36) : Value).ownBlock) (.slice Ao23 t303.length co23) t303) ∧ Aside0 (Kd.R (Kd.int .i64) 3 wc w.heap.size (fun k_ => some k_ ≠ ((.slice Ao16 t293.length co16) : Value).ownBlock ∧ some k_ ≠ ((.slice Ao19 t296.length co19) : Value).ownBlock ∧ some k_ ≠ ((.slice Ao23 t303.length co23) : Value).ownBlock ∧ some k_ ≠ ((.slice Ao31 t314.length co31) : Value).ownBlock ∧ some k_ ≠ ((.slice Ao36 t317.length co36) : Value).ownBlock) (.slice Ao27 t306.length co27) t306) ∧ Aside0 (Kd.R Kd.bool 4 wc w.heap.size (fun k_ => some k_ ≠ ((.slice Ao20 t299.length co20) : Value).ownBlock ∧ some k_ ≠ ((.slice Ao37 t320.length co37) : Value).ownBlock) (.slice Ao28 t309.length co28) t309) ∧ Aside0 (Kd.R (Kd.int .i64) 3 wc w.heap.size (fun k_ => some k_ ≠ ((.slice Ao16 t293.length co16) : Value).ownBlock ∧ some k_ ≠ ((.slice Ao19 t296.length co19) : Value).ownBlock ∧ some k_ ≠ ((.slice Ao23 t303.length co23) : Value).ownBlock ∧ some k_ ≠ ((.slice Ao27 t306.length co27) : Value).ownBlock ∧ some k_ ≠ ((.slice Ao36 t317.length co36) : Value).ownBlock) (.slice Ao31 t314.length co31) t314) ∧ Aside0 (Kd.R (Kd.int .i64) 3 wc w.heap.size (fun k_ => some k_ ≠ ((.slice Ao16 t293.length co16) : Value).ownBlock ∧ some k_ ≠ ((.slice Ao19 t296.length co19) : Value).ownBlock ∧ some k_ ≠ ((.slice Ao23 t303.length co23) : Value).ownBlock ∧ some k_ ≠ ((.slice Ao27 t306.length co27) : Value).ownBlock ∧ some k_ ≠ ((.slice Ao31 t314.length co31) : Value).ownBlock) (.slice Ao36 t317.length co36) t317) ∧ Aside0 (Kd.R Kd.bool 4 wc w.heap.size (fun k_ => some k_ ≠ ((.slice Ao20 t299.length co20) : Value).ownBlock ∧ some k_ ≠ ((.slice Ao28 t309.length co28) : Value).ownBlock) (.slice Ao37 t320.length co37) t320) ∧ Aside0 (wc.heap[gb290]? = some (.cells #[(.slice A0_0 l0_0.length c0_0), (.slice A0_1 l0_1.length c0_1), (.slice A0_2 l0_2.length c0_2)] 25 (0, 0))) ∧ Aside0 (wc.heap[gb302]? = some (.cells #[(.slice Ao16 t293.length co16), (.slice Ao19 t296.length co19), (.slice Ao20 t299.length co20)] 25 (0, 0))) ∧ Aside0 (wc.heap[gb313]? = some (.cells #[(.slice Ao23 t303.length co23), (.slice Ao27 t306.length co27), (.slice Ao28 t309.length co28)] 25 (0, 0))) ∧ Aside0 (wc.heap[gb324]? = some (.cells #[(.slice Ao31 t314.length co31), (.slice Ao36 t317.length co36), (.slice Ao37 t320.length co37)] 25 (0, 0))) ∧ Aside0 (Below w.heap.size w wc))
  case first =>
   have H := HC9.out
   clear HC9
   replace H := Option.bind_eq_some_iff.mp H
   obtain ⟨t325, A380, H⟩ := H
   replace H : (if t325 = true then (if t312 = t323 then ((lru_Check.f t293 t296 t299).bind fun t326 => ((headgateref07_Check.f l0_0 l0_1 l0_2).bind fun t327 => (headgatelaw07_LruChanges.j0 k a1 (t326 != t327) l0_0 l0_1 l0_2 t293 t296 t299))) else (headgatelaw07_LruChanges.j0 k a1 true l0_0 l0_1 l0_2 t293 t296 t299)) else (headgatelaw07_LruChanges.j0 k a1 true l0_0 l0_1 l0_2 t293 t296 t299)) = some r := H
   have A38 := Aside0.mk A380
   clear A380
   by_cases c39 : t325 = true
   ·
    subst c39
    have H1 : (if t312 = t323 then ((lru_Check.f t293 t296 t299).bind fun t326 => ((headgateref07_Check.f l0_0 l0_1 l0_2).bind fun t327 => (headgatelaw07_LruChanges.j0 k a1 (t326 != t327) l0_0 l0_1 l0_2 t293 t296 t299))) else (headgatelaw07_LruChanges.j0 k a1 true l0_0 l0_1 l0_2 t293 t296 t299)) = some r := by rw [if_pos rfl] at H; exact H
    clear H
    have H := H1
    clear H1
    by_cases c40 : t312 = t323
    · as_aux_lemma =>
     rw [if_pos c40] at H
     have c40b0 : (t312 == t323) = true := beq_iff_eq.mpr c40
     have c40b1 : (t312 != t323) = false := bne_eq_false_iff_eq.mpr c40
     clear c40
     (first | rw [c40b0] | (simp only [i64_w, i32_w]; rw [c40b0]) | skip)
     replace H := Option.bind_eq_some_iff.mp H
     obtain ⟨t326, A410, H⟩ := H
     replace H : ((headgateref07_Check.f l0_0 l0_1 l0_2).bind fun t327 => (headgatelaw07_LruChanges.j0 k a1 (t326 != t327) l0_0 l0_1 l0_2 t293 t296 t299)) = some r := H
     have A41 := Aside0.mk A410
     clear A410
     replace H := Option.bind_eq_some_iff.mp H
     obtain ⟨t327, A420, H⟩ := H
     replace H : (headgatelaw07_LruChanges.j0 k a1 (t326 != t327) l0_0 l0_1 l0_2 t293 t296 t299) = some r := H
     have A42 := Aside0.mk A420
     clear A420
     have H' := Aside0.mk H
     clear H
     try go_wp2
     have n0_ : Aside0 (Kd.R (Kd.int .i64) 3 (((w30.setCell ⟨gb324, 0, none⟩ (.slice Ao31 t314.length co31)).setCell ⟨gb324, 1, none⟩ (.slice Ao36 t317.length co36)).setCell ⟨gb324, 2, none⟩ (.slice Ao37 t320.length co37)) w.heap.size (fun k_ => some k_ ≠ (.slice Ao19 t296.length co19 : Value).ownBlock ∧ some k_ ≠ (.slice Ao23 t303.length co23 : Value).ownBlock ∧ some k_ ≠ (.slice Ao27 t306.length co27 : Value).ownBlock ∧ some k_ ≠ (.slice Ao31 t314.length co31 : Value).ownBlock ∧ some k_ ≠ (.slice Ao36 t317.length co36 : Value).ownBlock) (.slice Ao16 t293.length co16) t293) := ⟨by (with_reducible repeat (first | apply Kd.R_alloc | apply Kd.R_drewN | apply Kd.R_drew)); exact Kd.R_mono (far3 HO295.out BK324) (fun _ hk => ⟨hk.1.1.1.1.1, ⟨hk.1.1.1.1.2, ⟨hk.1.1.1.2, ⟨hk.1.1.2, hk.1.2⟩⟩⟩⟩)⟩
     have n1_ : Aside0 (Kd.R (Kd.int .i64) 3 (((w30.setCell ⟨gb324, 0, none⟩ (.slice Ao31 t314.length co31)).setCell ⟨gb324, 1, none⟩ (.slice Ao36 t317.length co36)).setCell ⟨gb324, 2, none⟩ (.slice Ao37 t320.length co37)) w.heap.size (fun k_ => some k_ ≠ (.slice Ao16 t293.length co16 : Value).ownBlock ∧ some k_ ≠ (.slice Ao23 t303.length co23 : Value).ownBlock ∧ some k_ ≠ (.slice Ao27 t306.length co27 : Value).ownBlock ∧ some k_ ≠ (.slice Ao31 t314.length co31 : Value).ownBlock ∧ some k_ ≠ (.slice Ao36 t317.length co36 : Value).ownBlock) (.slice Ao19 t296.length co19) t296) := ⟨by (with_reducible repeat (first | apply Kd.R_alloc | apply Kd.R_drewN | apply Kd.R_drew)); exact Kd.R_mono (far3 HO298.out BK324) (fun _ hk => ⟨hk.1.1.1.1.1, ⟨hk.1.1.1.1.2, ⟨hk.1.1.1.2, ⟨hk.1.1.2, hk.1.2⟩⟩⟩⟩)⟩
     have n2_ : Aside0 (Kd.R Kd.bool 4 (((w30.setCell ⟨gb324, 0, none⟩ (.slice Ao31 t314.length co31)).setCell ⟨gb324, 1, none⟩ (.slice Ao36 t317.length co36)).setCell ⟨gb324, 2, none⟩ (.slice Ao37 t320.length co37)) w.heap.size (fun k_ => some k_ ≠ (.slice Ao28 t309.length co28 : Value).ownBlock ∧ some k_ ≠ (.slice Ao37 t320.length co37 : Value).ownBlock) (.slice Ao20 t299.length co20) t299) := ⟨by (with_reducible repeat (first | apply Kd.R_alloc | apply Kd.R_drewN | apply Kd.R_drew)); exact Kd.R_mono (far3 HO301.out BK324) (fun _ hk => ⟨hk.1.1.2, hk.1.2⟩)⟩
     have n3_ : Aside0 (Kd.R (Kd.int .i64) 3 (((w30.setCell ⟨gb324, 0, none⟩ (.slice Ao31 t314.length co31)).setCell ⟨gb324, 1, none⟩ (.slice Ao36 t317.length co36)).setCell ⟨gb324, 2, none⟩ (.slice Ao37 t320.length co37)) w.heap.size (fun k_ => some k_ ≠ (.slice Ao16 t293.length co16 : Value).ownBlock ∧ some k_ ≠ (.slice Ao19 t296.length co19 : Value).ownBlock ∧ some k_ ≠ (.slice Ao27 t306.length co27 : Value).ownBlock ∧ some k_ ≠ (.slice Ao31 t314.length co31 : Value).ownBlock ∧ some k_ ≠ (.slice Ao36 t317.length co36 : Value).ownBlock) (.slice Ao23 t303.length co23) t303) := ⟨by (with_reducible repeat (first | apply Kd.R_alloc | apply Kd.R_drewN | apply Kd.R_drew)); exact Kd.R_mono (far3 HO305.out BK324) (fun _ hk => ⟨hk.1.1.1.1.2, ⟨hk.1.1.1.2, ⟨hk.1.1.1.1.1, ⟨hk.1.1.2, hk.1.2⟩⟩⟩⟩)⟩
     have n4_ : Aside0 (Kd.R (Kd.int .i64) 3 (((w30.setCell ⟨gb324, 0, none⟩ (.slice Ao31 t314.length co31)).setCell ⟨gb324, 1, none⟩ (.slice Ao36 t317.length co36)).setCell ⟨gb324, 2, none⟩ (.slice Ao37 t320.length co37)) w.heap.size (fun k_ => some k_ ≠ (.slice Ao16 t293.length co16 : Value).ownBlock ∧ some k_ ≠ (.slice Ao19 t296.length co19 : Value).ownBlock ∧ some k_ ≠ (.slice Ao23 t303.length co23 : Value).ownBlock ∧ some k_ ≠ (.slice Ao31 t314.length co31 : Value).ownBlock ∧ some k_ ≠ (.slice Ao36 t317.length co36 : Value).ownBlock) (.slice Ao27 t306.length co27) t306) := ⟨by (with_reducible repeat (first | apply Kd.R_alloc | apply Kd.R_drewN | apply Kd.R_drew)); exact Kd.R_mono (far3 HO308.out BK324) (fun _ hk => ⟨hk.1.1.1.1.2, ⟨hk.1.1.1.2, ⟨hk.1.1.1.1.1, ⟨hk.1.1.2, hk.1.2⟩⟩⟩⟩)⟩
     have n5_ : Aside0 (Kd.R Kd.bool 4 (((w30.setCell ⟨gb324, 0, none⟩ (.slice Ao31 t314.length co31)).setCell ⟨gb324, 1, none⟩ (.slice Ao36 t317.length co36)).setCell ⟨gb324, 2, none⟩ (.slice Ao37 t320.length co37)) w.heap.size (fun k_ => some k_ ≠ (.slice Ao20 t299.length co20 : Value).ownBlock ∧ some k_ ≠ (.slice Ao37 t320.length co37 : Value).ownBlock) (.slice Ao28 t309.length co28) t309) := ⟨by (with_reducible repeat (first | apply Kd.R_alloc | apply Kd.R_drewN | apply Kd.R_drew)); exact Kd.R_mono (far3 HO311.out BK324) (fun _ hk => ⟨hk.1.1.2, hk.1.2⟩)⟩
     have n6_ : Aside0 (Kd.R (Kd.int .i64) 3 (((w30.setCell ⟨gb324, 0, none⟩ (.slice Ao31 t314.length co31)).setCell ⟨gb324, 1, none⟩ (.slice Ao36 t317.length co36)).setCell ⟨gb324, 2, none⟩ (.slice Ao37 t320.length co37)) w.heap.size (fun k_ => some k_ ≠ (.slice Ao16 t293.length co16 : Value).ownBlock ∧ some k_ ≠ (.slice Ao19 t296.length co19 : Value).ownBlock ∧ some k_ ≠ (.slice Ao23 t303.length co23 : Value).ownBlock ∧ some k_ ≠ (.slice Ao27 t306.length co27 : Value).ownBlock ∧ some k_ ≠ (.slice Ao36 t317.length co36 : Value).ownBlock) (.slice Ao31 t314.length co31) t314) := ⟨by (with_reducible repeat (first | apply Kd.R_alloc | apply Kd.R_drewN | apply Kd.R_drew)); exact Kd.R_mono (far3 HO316.out BK324) (fun _ hk => ⟨hk.1.1.1.1.2, ⟨hk.1.1.1.2, ⟨hk.1.1.2, ⟨hk.1.2, hk.1.1.1.1.1⟩⟩⟩⟩)⟩
     have n7_ : Aside0 (Kd.R (Kd.int .i64) 3 (((w30.setCell ⟨gb324, 0, none⟩ (.slice Ao31 t314.length co31)).setCell ⟨gb324, 1, none⟩ (.slice Ao36 t317.length co36)).setCell ⟨gb324, 2, none⟩ (.slice Ao37 t320.length co37)) w.heap.size (fun k_ => some k_ ≠ (.slice Ao16 t293.length co16 : Value).ownBlock ∧ some k_ ≠ (.slice Ao19 t296.length co19 : Value).ownBlock ∧ some k_ ≠ (.slice Ao23 t303.length co23 : Value).ownBlock ∧ some k_ ≠ (.slice Ao27 t306.length co27 : Value).ownBlock ∧ some k_ ≠ (.slice Ao31 t314.length co31 : Value).ownBlock) (.slice Ao36 t317.length co36) t317) := ⟨by (with_reducible repeat (first | apply Kd.R_alloc | apply Kd.R_drewN | apply Kd.R_drew)); exact Kd.R_mono (far3 HO319.out BK324) (fun _ hk => ⟨hk.1.1.1.1.2, ⟨hk.1.1.1.2, ⟨hk.1.1.2, ⟨hk.1.2, hk.1.1.1.1.1⟩⟩⟩⟩)⟩
     have n8_ : Aside0 (Kd.R Kd.bool 4 (((w30.setCell ⟨gb324, 0, none⟩ (.slice Ao31 t314.length co31)).setCell ⟨gb324, 1, none⟩ (.slice Ao36 t317.length co36)).setCell ⟨gb324, 2, none⟩ (.slice Ao37 t320.length co37)) w.heap.size (fun k_ => some k_ ≠ (.slice Ao20 t299.length co20 : Value).ownBlock ∧ some k_ ≠ (.slice Ao28 t309.length co28 : Value).ownBlock) (.slice Ao37 t320.length co37) t320) := ⟨by (with_reducible repeat (first | apply Kd.R_alloc | apply Kd.R_drewN | apply Kd.R_drew)); exact Kd.R_mono (far3 HO322.out BK324) (fun _ hk => ⟨hk.1.1.2, hk.1.2⟩)⟩
     have n9_ : Aside0 ((((w30.setCell ⟨gb324, 0, none⟩ (.slice Ao31 t314.length co31)).setCell ⟨gb324, 1, none⟩ (.slice Ao36 t317.length co36)).setCell ⟨gb324, 2, none⟩ (.slice Ao37 t320.length co37)).heap[gb290]? = some (.cells #[.slice A0_0 l0_0.length c0_0, .slice A0_1 l0_1.length c0_1, .slice A0_2 l0_2.length c0_2] 25 (0, 0))) := ⟨by (with_reducible repeat (first | refine blk_drewN ?_ _ | refine blk_drew ?_ | refine blk_alloc ?_ _)); refine blk_far ?_ NB290_324.out _; (with_reducible repeat (first | refine blk_drewN ?_ _ | refine blk_drew ?_ | refine blk_alloc ?_ _)); refine blk_far ?_ NB290_324.out _; (with_reducible repeat (first | refine blk_drewN ?_ _ | refine blk_drew ?_ | refine blk_alloc ?_ _)); refine blk_far ?_ NB290_324.out _; (with_reducible repeat (first | refine blk_drewN ?_ _ | refine blk_drew ?_ | refine blk_alloc ?_ _)); exact BK290.out⟩
     have n10_ : Aside0 ((((w30.setCell ⟨gb324, 0, none⟩ (.slice Ao31 t314.length co31)).setCell ⟨gb324, 1, none⟩ (.slice Ao36 t317.length co36)).setCell ⟨gb324, 2, none⟩ (.slice Ao37 t320.length co37)).heap[gb302]? = some (.cells #[.slice Ao16 t293.length co16, .slice Ao19 t296.length co19, .slice Ao20 t299.length co20] 25 (0, 0))) := ⟨by (with_reducible repeat (first | refine blk_drewN ?_ _ | refine blk_drew ?_ | refine blk_alloc ?_ _)); refine blk_far ?_ NB302_324.out _; (with_reducible repeat (first | refine blk_drewN ?_ _ | refine blk_drew ?_ | refine blk_alloc ?_ _)); refine blk_far ?_ NB302_324.out _; (with_reducible repeat (first | refine blk_drewN ?_ _ | refine blk_drew ?_ | refine blk_alloc ?_ _)); refine blk_far ?_ NB302_324.out _; (with_reducible repeat (first | refine blk_drewN ?_ _ | refine blk_drew ?_ | refine blk_alloc ?_ _)); exact BK302.out⟩
     have n11_ : Aside0 ((((w30.setCell ⟨gb324, 0, none⟩ (.slice Ao31 t314.length co31)).setCell ⟨gb324, 1, none⟩ (.slice Ao36 t317.length co36)).setCell ⟨gb324, 2, none⟩ (.slice Ao37 t320.length co37)).heap[gb313]? = some (.cells #[.slice Ao23 t303.length co23, .slice Ao27 t306.length co27, .slice Ao28 t309.length co28] 25 (0, 0))) := ⟨by (with_reducible repeat (first | refine blk_drewN ?_ _ | refine blk_drew ?_ | refine blk_alloc ?_ _)); refine blk_far ?_ NB313_324.out _; (with_reducible repeat (first | refine blk_drewN ?_ _ | refine blk_drew ?_ | refine blk_alloc ?_ _)); refine blk_far ?_ NB313_324.out _; (with_reducible repeat (first | refine blk_drewN ?_ _ | refine blk_drew ?_ | refine blk_alloc ?_ _)); refine blk_far ?_ NB313_324.out _; (with_reducible repeat (first | refine blk_drewN ?_ _ | refine blk_drew ?_ | refine blk_alloc ?_ _)); exact BK313.out⟩
     have n12_ : Aside0 ((((w30.setCell ⟨gb324, 0, none⟩ (.slice Ao31 t314.length co31)).setCell ⟨gb324, 1, none⟩ (.slice Ao36 t317.length co36)).setCell ⟨gb324, 2, none⟩ (.slice Ao37 t320.length co37)).heap[gb324]? = some (.cells #[.slice Ao31 t314.length co31, .slice Ao36 t317.length co36, .slice Ao37 t320.length co37] 25 (0, 0))) := ⟨by (with_reducible repeat (first | refine blk_drewN ?_ _ | refine blk_drew ?_ | refine blk_alloc ?_ _)); refine blk_put (cs := #[.slice Ao31 t314.length co31, .slice Ao36 t317.length co36, .slice none 0 0]) ?_ 2 _ rfl; (with_reducible repeat (first | refine blk_drewN ?_ _ | refine blk_drew ?_ | refine blk_alloc ?_ _)); refine blk_put (cs := #[.slice Ao31 t314.length co31, .slice none 0 0, .slice none 0 0]) ?_ 1 _ rfl; (with_reducible repeat (first | refine blk_drewN ?_ _ | refine blk_drew ?_ | refine blk_alloc ?_ _)); refine blk_put (cs := #[.slice none 0 0, .slice none 0 0, .slice none 0 0]) ?_ 0 _ rfl; (with_reducible repeat (first | refine blk_drewN ?_ _ | refine blk_drew ?_ | refine blk_alloc ?_ _)); exact BK324.out⟩
     have n13_ : Aside0 (Below w.heap.size w (((w30.setCell ⟨gb324, 0, none⟩ (.slice Ao31 t314.length co31)).setCell ⟨gb324, 1, none⟩ (.slice Ao36 t317.length co36)).setCell ⟨gb324, 2, none⟩ (.slice Ao37 t320.length co37))) := ⟨upH HB⟩
     (try clear HO295)
     (try clear HO298)
     (try clear HO301)
     (try clear HO305)
     (try clear HO308)
     (try clear HO311)
     (try clear HO316)
     (try clear HO319)
     (try clear HO322)
     (try clear BK290)
     (try clear BK302)
     (try clear BK313)
     (try clear BK324)
     (try clear HB)
     generalize (((w30.setCell ⟨gb324, 0, none⟩ (.slice Ao31 t314.length co31)).setCell ⟨gb324, 1, none⟩ (.slice Ao36 t317.length co36)).setCell ⟨gb324, 2, none⟩ (.slice Ao37 t320.length co37)) = w43 at n0_ n1_ n2_ n3_ n4_ n5_ n6_ n7_ n8_ n9_ n10_ n11_ n12_ n13_ ⊢
     have HO295 := n0_
     have HO298 := n1_
     have HO301 := n2_
     have HO305 := n3_
     have HO308 := n4_
     have HO311 := n5_
     have HO316 := n6_
     have HO319 := n7_
     have HO322 := n8_
     have BK290 := n9_
     have BK302 := n10_
     have BK313 := n11_
     have BK324 := n12_
     have HB := n13_
     clear n0_ n1_ n2_ n3_ n4_ n5_ n6_ n7_ n8_ n9_ n10_ n11_ n12_ n13_
     have n0_ := Aside0.mk (Kd.R_drew HO295.out)
     have n1_ := Aside0.mk (Kd.R_drew HO298.out)
     have n2_ := Aside0.mk (Kd.R_drew HO301.out)
     have n3_ := Aside0.mk (Kd.R_drew HO305.out)
     have n4_ := Aside0.mk (Kd.R_drew HO308.out)
     have n5_ := Aside0.mk (Kd.R_drew HO311.out)
     have n6_ := Aside0.mk (Kd.R_drew HO316.out)
     have n7_ := Aside0.mk (Kd.R_drew HO319.out)
     have n8_ := Aside0.mk (Kd.R_drew HO322.out)
     have n9_ := Aside0.mk (blk_drew BK290.out)
     have n10_ := Aside0.mk (blk_drew BK302.out)
     have n11_ := Aside0.mk (blk_drew BK313.out)
     have n12_ := Aside0.mk (blk_drew BK324.out)
     have n13_ := Aside0.mk (below_drew1 HB.out)
     clear HO295
     clear HO298
     clear HO301
     clear HO305
     clear HO308
     clear HO311
     clear HO316
     clear HO319
     clear HO322
     clear BK290
     clear BK302
     clear BK313
     clear BK324
     clear HB
     have HO295 := n0_
     have HO298 := n1_
     have HO301 := n2_
     have HO305 := n3_
     have HO308 := n4_
     have HO311 := n5_
     have HO316 := n6_
     have HO319 := n7_
     have HO322 := n8_
     have BK290 := n9_
     have BK302 := n10_
     have BK313 := n11_
     have BK324 := n12_
     have HB := n13_
     clear n0_ n1_ n2_ n3_ n4_ n5_ n6_ n7_ n8_ n9_ n10_ n11_ n12_ n13_
     refine start_ (n := 16) (S := fun w' => w'.cell? ⟨gb313, 0, none⟩ = some (.slice Ao23 t303.length co23) ∧ w'.cell? ⟨gb313, 1, none⟩ = some (.slice Ao27 t306.length co27) ∧ w'.cell? ⟨gb313, 2, none⟩ = some (.slice Ao28 t309.length co28) ∧ w'.cell? ⟨gb324, 0, none⟩ = some (.slice Ao31 t314.length co31) ∧ w'.cell? ⟨gb324, 1, none⟩ = some (.slice Ao36 t317.length co36) ∧ w'.cell? ⟨gb324, 2, none⟩ = some (.slice Ao37 t320.length co37) ∧ w'.cell? ⟨gb302, 0, none⟩ = some (.slice Ao16 t293.length co16) ∧ w'.cell? ⟨gb302, 1, none⟩ = some (.slice Ao19 t296.length co19) ∧ w'.cell? ⟨gb302, 2, none⟩ = some (.slice Ao20 t299.length co20) ∧ w'.cell? ⟨gb290, 0, none⟩ = some (.slice A0_0 l0_0.length c0_0) ∧ w'.cell? ⟨gb290, 1, none⟩ = some (.slice A0_1 l0_1.length c0_1) ∧ w'.cell? ⟨gb290, 2, none⟩ = some (.slice A0_2 l0_2.length c0_2)) (ds := []) #[false, false, false, false, false, false, false, false, false, false, false, false, false, false, false, false] (by kernel_rfl) rfl rfl ⟨(blk_cell BK313.out 0).trans rfl, (blk_cell BK313.out 1).trans rfl, (blk_cell BK313.out 2).trans rfl, (blk_cell BK324.out 0).trans rfl, (blk_cell BK324.out 1).trans rfl, (blk_cell BK324.out 2).trans rfl, (blk_cell BK302.out 0).trans rfl, (blk_cell BK302.out 1).trans rfl, (blk_cell BK302.out 2).trans rfl, (blk_cell BK290.out 0).trans rfl, (blk_cell BK290.out 1).trans rfl, (blk_cell BK290.out 2).trans rfl⟩ (fun hHeld => ?_); refine with_tabW headgatelaw07_LruChanges.tab6 headgatelaw07_LruChanges.bits6 (fun HT_ HW_ => ?_)
     generalize w43.drew = w44 at HO295 HO298 HO301 HO305 HO308 HO311 HO316 HO319 HO322 BK290 BK302 BK313 BK324 HB hHeld ⊢
     refine take_ (i := 0) (N := some 32) (v := ?_) (a' := ?_) #[true, false, false, false, false, false, false, false, false, false, false, false, false, false, false, false] rfl rfl (take_ofW HT_.out HW_.out (by kernel_rfl)) (fun _ _ _ h => h) (Or.inl ⟨by rfl, ?_⟩) hHeld ?_ ?_
     rotate_left
     ·
      rintro w' ⟨s0, s1, s2, s3, s4, s5, s6, s7, s8, s9, s10, s11⟩
      go_simp
      with_reducible rfl
     rotate_left
     ·
      simp only [Act.put, List.setIfInBounds_toArray, List.set_cons_zero, List.set_cons_succ, i64_w, i32_w]
      rfl
     refine take_ (i := 1) (N := some 33) (v := ?_) (a' := ?_) #[true, true, false, false, false, false, false, false, false, false, false, false, false, false, false, false] rfl rfl (take_ofW HT_.out HW_.out (by kernel_rfl)) (fun _ _ _ h => h) (Or.inl ⟨by rfl, ?_⟩) hHeld ?_ ?_
     rotate_left
     ·
      rintro w' ⟨s0, s1, s2, s3, s4, s5, s6, s7, s8, s9, s10, s11⟩
      go_simp
      with_reducible rfl
     rotate_left
     ·
      simp only [Act.put, List.setIfInBounds_toArray, List.set_cons_zero, List.set_cons_succ, i64_w, i32_w]
      rfl
     refine one_ (i := 2) (N := some 34) #[true, true, true, false, false, false, false, false, false, false, false, false, false, false, false, false] rfl rfl (one_of HT_.out (by kernel_rfl)) (by decide) (fun K hK => ?_)
     refine goes_ Try.func15 (by kernel_rfl) rfl #[.agg #[.slice Ao23 t303.length co23, .slice Ao27 t306.length co27, .slice Ao28 t309.length co28], .agg #[.slice Ao31 t314.length co31, .slice Ao36 t317.length co36, .slice Ao37 t320.length co37]] (by rfl) rfl rfl (args_ (p := _)) ?_
     with_reducible refine (headgatekit_SameLists.calls k _ _ t303 _ _ t306 _ _ t309 _ _ t314 _ _ t317 _ _ t320 true _ ?side1 ?side2 ?side3 ?side4 ?side5 ?side6 ?side7 ?side8 ?side9 ?side10 ?side11 ?side12 A38.out).mono ?_
     (case side1 => exact upc (Kd.R_reads' HO305.out).2.2)
     (case side2 => exact (Kd.R_reads' HO305.out).2.1)
     (case side3 => exact upc (Kd.R_reads' HO308.out).2.2)
     (case side4 => exact (Kd.R_reads' HO308.out).2.1)
     (case side5 => exact upc (Kd.R_reads' HO311.out).2.2)
     (case side6 => exact (Kd.R_reads' HO311.out).2.1)
     (case side7 => exact upc (Kd.R_reads' HO316.out).2.2)
     (case side8 => exact (Kd.R_reads' HO316.out).2.1)
     (case side9 => exact upc (Kd.R_reads' HO319.out).2.2)
     (case side10 => exact (Kd.R_reads' HO319.out).2.1)
     (case side11 => exact upc (Kd.R_reads' HO322.out).2.2)
     (case side12 => exact (Kd.R_reads' HO322.out).2.1)
     rintro e w45 ⟨rfl, hb⟩
     refine ⟨_, rfl, ?_⟩
     have n0_ := Aside0.mk (Kd.R_below (upR HO295.out) hb)
     have n1_ := Aside0.mk (Kd.R_below (upR HO298.out) hb)
     have n2_ := Aside0.mk (Kd.R_below (upR HO301.out) hb)
     have n3_ := Aside0.mk (Kd.R_below (upR HO305.out) hb)
     have n4_ := Aside0.mk (Kd.R_below (upR HO308.out) hb)
     have n5_ := Aside0.mk (Kd.R_below (upR HO311.out) hb)
     have n6_ := Aside0.mk (Kd.R_below (upR HO316.out) hb)
     have n7_ := Aside0.mk (Kd.R_below (upR HO319.out) hb)
     have n8_ := Aside0.mk (Kd.R_below (upR HO322.out) hb)
     have n9_ := Aside0.mk (blkB BK290 hb)
     have n10_ := Aside0.mk (blkB BK302 hb)
     have n11_ := Aside0.mk (blkB BK313 hb)
     have n12_ := Aside0.mk (blkB BK324 hb)
     have n13_ := Aside0.mk (below_step (upH HB) hb)
     clear HO295
     clear HO298
     clear HO301
     clear HO305
     clear HO308
     clear HO311
     clear HO316
     clear HO319
     clear HO322
     clear BK290
     clear BK302
     clear BK313
     clear BK324
     clear HB
     have HO295 := n0_
     have HO298 := n1_
     have HO301 := n2_
     have HO305 := n3_
     have HO308 := n4_
     have HO311 := n5_
     have HO316 := n6_
     have HO319 := n7_
     have HO322 := n8_
     have BK290 := n9_
     have BK302 := n10_
     have BK313 := n11_
     have BK324 := n12_
     have HB := n13_
     clear n0_ n1_ n2_ n3_ n4_ n5_ n6_ n7_ n8_ n9_ n10_ n11_ n12_ n13_
     (try clear hb)
     (try clear hb2)
     (try clear hk)
     (try clear hi)
     refine hK.out _ _ ⟨(blk_cell BK313.out 0).trans rfl, (blk_cell BK313.out 1).trans rfl, (blk_cell BK313.out 2).trans rfl, (blk_cell BK324.out 0).trans rfl, (blk_cell BK324.out 1).trans rfl, (blk_cell BK324.out 2).trans rfl, (blk_cell BK302.out 0).trans rfl, (blk_cell BK302.out 1).trans rfl, (blk_cell BK302.out 2).trans rfl, (blk_cell BK290.out 0).trans rfl, (blk_cell BK290.out 1).trans rfl, (blk_cell BK290.out 2).trans rfl⟩ (fun hHeld => ?_)
     clear hK K
     refine norm_ (a' := ?_) ?_ ?_
     rotate_left
     ·
      show Act.put _ (some 34) _ = _
      simp only [Act.put, List.setIfInBounds_toArray, List.set_cons_zero, List.set_cons_succ, i64_w, i32_w]
      rfl
     refine pure_ (i := 3) (N := some 35) (v := ?_) (a' := ?_) #[true, true, true, true, false, false, false, false, false, false, false, false, false, false, false, false] rfl rfl (any_of HT_.out (by kernel_rfl)) (fun _ _ _ h => h) (Or.inl ⟨by rfl, ?_⟩) ?_ ?_
     rotate_left
     ·
      intro w'
      go_simp
      with_reducible rfl
     rotate_left
     ·
      simp only [Act.put, List.setIfInBounds_toArray, List.set_cons_zero, List.set_cons_succ, i64_w, i32_w]
      rfl
     refine pure_ (i := 4) (N := some 36) (v := ?_) (a' := ?_) #[true, true, true, true, true, false, false, false, false, false, false, false, false, false, false, false] rfl rfl (any_of HT_.out (by kernel_rfl)) (fun _ _ _ h => h) (Or.inl ⟨by rfl, ?_⟩) ?_ ?_
     rotate_left
     ·
      intro w'
      go_simp
      with_reducible rfl
     rotate_left
     ·
      simp only [Act.put, List.setIfInBounds_toArray, List.set_cons_zero, List.set_cons_succ, i64_w, i32_w]
      rfl
     refine pure_ (i := 5) (N := some 37) (v := ?_) (a' := ?_) #[true, true, true, true, true, true, false, false, false, false, false, false, false, false, false, false] rfl rfl (any_of HT_.out (by kernel_rfl)) (fun _ _ _ h => h) (Or.inl ⟨by rfl, ?_⟩) ?_ ?_
     rotate_left
     ·
      intro w'
      go_simp
      with_reducible rfl
     rotate_left
     ·
      simp only [Act.put, List.setIfInBounds_toArray, List.set_cons_zero, List.set_cons_succ, i64_w, i32_w]
      rfl
     refine pure_ (i := 6) (N := some 38) (v := ?_) (a' := ?_) #[true, true, true, true, true, true, true, false, false, false, false, false, false, false, false, false] rfl rfl (any_of HT_.out (by kernel_rfl)) (fun _ _ _ h => h) (Or.inl ⟨by rfl, ?_⟩) ?_ ?_
     rotate_left
     ·
      intro w'
      go_simp
      with_reducible rfl
     rotate_left
     ·
      simp only [Act.put, List.setIfInBounds_toArray, List.set_cons_zero, List.set_cons_succ, i64_w, i32_w]
      rfl
     refine pure_ (i := 7) (N := some 39) (v := ?_) (a' := ?_) #[true, true, true, true, true, true, true, true, false, false, false, false, false, false, false, false] rfl rfl (any_of HT_.out (by kernel_rfl)) (fun _ _ _ h => h) (Or.inl ⟨by rfl, ?_⟩) ?_ ?_
     rotate_left
     ·
      intro w'
      go_simp
      with_reducible rfl
     rotate_left
     ·
      simp only [Act.put, List.setIfInBounds_toArray, List.set_cons_zero, List.set_cons_succ, i64_w, i32_w]
      rfl
     refine pure_ (i := 8) (N := some 40) (v := ?_) (a' := ?_) #[true, true, true, true, true, true, true, true, true, false, false, false, false, false, false, false] rfl rfl (any_of HT_.out (by kernel_rfl)) (fun _ _ _ h => h) (Or.inl ⟨by rfl, ?_⟩) ?_ ?_
     rotate_left
     ·
      intro w'
      go_simp
      with_reducible rfl
     rotate_left
     ·
      simp only [Act.put, List.setIfInBounds_toArray, List.set_cons_zero, List.set_cons_succ, i64_w, i32_w]
      rfl
     refine pure_ (i := 9) (N := some 41) (v := ?_) (a' := ?_) #[true, true, true, true, true, true, true, true, true, true, false, false, false, false, false, false] rfl rfl (any_of HT_.out (by kernel_rfl)) (fun _ _ _ h => h) (Or.inl ⟨by rfl, ?_⟩) ?_ ?_
     rotate_left
     ·
      intro w'
      go_simp
      with_reducible rfl
     rotate_left
     ·
      simp only [Act.put, List.setIfInBounds_toArray, List.set_cons_zero, List.set_cons_succ, i64_w, i32_w]
      rfl
     refine take_ (i := 10) (N := some 42) (v := ?_) (a' := ?_) #[true, true, true, true, true, true, true, true, true, true, true, false, false, false, false, false] rfl rfl (take_ofW HT_.out HW_.out (by kernel_rfl)) (fun _ _ _ h => h) (Or.inl ⟨by rfl, ?_⟩) hHeld ?_ ?_
     rotate_left
     ·
      rintro w' ⟨s0, s1, s2, s3, s4, s5, s6, s7, s8, s9, s10, s11⟩
      go_simp
      with_reducible rfl
     rotate_left
     ·
      simp only [Act.put, List.setIfInBounds_toArray, List.set_cons_zero, List.set_cons_succ, i64_w, i32_w]
      rfl
     refine take_ (i := 12) (N := some 44) (v := ?_) (a' := ?_) #[true, true, true, true, true, true, true, true, true, true, true, false, true, false, false, false] rfl rfl (take_ofW HT_.out HW_.out (by kernel_rfl)) (fun _ _ _ h => h) (Or.inl ⟨by rfl, ?_⟩) hHeld ?_ ?_
     rotate_left
     ·
      rintro w' ⟨s0, s1, s2, s3, s4, s5, s6, s7, s8, s9, s10, s11⟩
      go_simp
      with_reducible rfl
     rotate_left
     ·
      simp only [Act.put, List.setIfInBounds_toArray, List.set_cons_zero, List.set_cons_succ, i64_w, i32_w]
      rfl
     refine one_ (i := 11) (N := some 43) #[true, true, true, true, true, true, true, true, true, true, true, true, true, false, false, false] rfl rfl (one_of HT_.out (by kernel_rfl)) (by decide) (fun K hK => ?_)
     refine goes_ Try.func16 (by kernel_rfl) rfl #[.agg #[.slice Ao16 t293.length co16, .slice Ao19 t296.length co19, .slice Ao20 t299.length co20]] (by rfl) rfl rfl (args_ (p := _)) ?_
     with_reducible refine (lru_Check.calls _ _ t293 _ _ t296 _ _ t299 t326 _ ?side1 ?side2 ?side3 ?side4 ?side5 ?side6 A41.out).mono ?_
     (case side1 => exact upc (Kd.R_reads' HO295.out).2.2)
     (case side2 => exact (Kd.R_reads' HO295.out).2.1)
     (case side3 => exact upc (Kd.R_reads' HO298.out).2.2)
     (case side4 => exact (Kd.R_reads' HO298.out).2.1)
     (case side5 => exact upc (Kd.R_reads' HO301.out).2.2)
     (case side6 => exact (Kd.R_reads' HO301.out).2.1)
     rintro e w46 ⟨rfl, hb⟩
     refine ⟨_, rfl, ?_⟩
     have n0_ := Aside0.mk (Kd.R_below (upR HO295.out) hb)
     have n1_ := Aside0.mk (Kd.R_below (upR HO298.out) hb)
     have n2_ := Aside0.mk (Kd.R_below (upR HO301.out) hb)
     have n3_ := Aside0.mk (Kd.R_below (upR HO305.out) hb)
     have n4_ := Aside0.mk (Kd.R_below (upR HO308.out) hb)
     have n5_ := Aside0.mk (Kd.R_below (upR HO311.out) hb)
     have n6_ := Aside0.mk (Kd.R_below (upR HO316.out) hb)
     have n7_ := Aside0.mk (Kd.R_below (upR HO319.out) hb)
     have n8_ := Aside0.mk (Kd.R_below (upR HO322.out) hb)
     have n9_ := Aside0.mk (blkB BK290 hb)
     have n10_ := Aside0.mk (blkB BK302 hb)
     have n11_ := Aside0.mk (blkB BK313 hb)
     have n12_ := Aside0.mk (blkB BK324 hb)
     have n13_ := Aside0.mk (below_step (upH HB) hb)
     clear HO295
     clear HO298
     clear HO301
     clear HO305
     clear HO308
     clear HO311
     clear HO316
     clear HO319
     clear HO322
     clear BK290
     clear BK302
     clear BK313
     clear BK324
     clear HB
     have HO295 := n0_
     have HO298 := n1_
     have HO301 := n2_
     have HO305 := n3_
     have HO308 := n4_
     have HO311 := n5_
     have HO316 := n6_
     have HO319 := n7_
     have HO322 := n8_
     have BK290 := n9_
     have BK302 := n10_
     have BK313 := n11_
     have BK324 := n12_
     have HB := n13_
     clear n0_ n1_ n2_ n3_ n4_ n5_ n6_ n7_ n8_ n9_ n10_ n11_ n12_ n13_
     (try clear hb)
     (try clear hb2)
     (try clear hk)
     (try clear hi)
     refine hK.out _ _ ⟨(blk_cell BK313.out 0).trans rfl, (blk_cell BK313.out 1).trans rfl, (blk_cell BK313.out 2).trans rfl, (blk_cell BK324.out 0).trans rfl, (blk_cell BK324.out 1).trans rfl, (blk_cell BK324.out 2).trans rfl, (blk_cell BK302.out 0).trans rfl, (blk_cell BK302.out 1).trans rfl, (blk_cell BK302.out 2).trans rfl, (blk_cell BK290.out 0).trans rfl, (blk_cell BK290.out 1).trans rfl, (blk_cell BK290.out 2).trans rfl⟩ (fun hHeld => ?_)
     clear hK K
     refine norm_ (a' := ?_) ?_ ?_
     rotate_left
     ·
      show Act.put _ (some 43) _ = _
      simp only [Act.put, List.setIfInBounds_toArray, List.set_cons_zero, List.set_cons_succ, i64_w, i32_w]
      rfl
     refine one_ (i := 13) (N := some 45) #[true, true, true, true, true, true, true, true, true, true, true, true, true, true, false, false] rfl rfl (one_of HT_.out (by kernel_rfl)) (by decide) (fun K hK => ?_)
     refine goes_ Try.func17 (by kernel_rfl) rfl #[.agg #[.slice A0_0 l0_0.length c0_0, .slice A0_1 l0_1.length c0_1, .slice A0_2 l0_2.length c0_2]] (by rfl) rfl rfl (args_ (p := _)) ?_
     with_reducible refine (headgateref07_Check.calls _ _ l0_0 _ _ l0_1 _ _ l0_2 t327 _ ?side1 ?side2 ?side3 ?side4 ?side5 ?side6 A42.out).mono ?_
     (case side1 => exact upc (Kd.C_below HR0_0.out HB.out))
     (case side2 => exact HC0_0.out)
     (case side3 => exact upc (Kd.C_below HR0_1.out HB.out))
     (case side4 => exact HC0_1.out)
     (case side5 => exact upc (Kd.C_below HR0_2.out HB.out))
     (case side6 => exact HC0_2.out)
     rintro e w47 ⟨rfl, hb⟩
     refine ⟨_, rfl, ?_⟩
     have n0_ := Aside0.mk (Kd.R_below (upR HO295.out) hb)
     have n1_ := Aside0.mk (Kd.R_below (upR HO298.out) hb)
     have n2_ := Aside0.mk (Kd.R_below (upR HO301.out) hb)
     have n3_ := Aside0.mk (Kd.R_below (upR HO305.out) hb)
     have n4_ := Aside0.mk (Kd.R_below (upR HO308.out) hb)
     have n5_ := Aside0.mk (Kd.R_below (upR HO311.out) hb)
     have n6_ := Aside0.mk (Kd.R_below (upR HO316.out) hb)
     have n7_ := Aside0.mk (Kd.R_below (upR HO319.out) hb)
     have n8_ := Aside0.mk (Kd.R_below (upR HO322.out) hb)
     have n9_ := Aside0.mk (blkB BK290 hb)
     have n10_ := Aside0.mk (blkB BK302 hb)
     have n11_ := Aside0.mk (blkB BK313 hb)
     have n12_ := Aside0.mk (blkB BK324 hb)
     have n13_ := Aside0.mk (below_step (upH HB) hb)
     clear HO295
     clear HO298
     clear HO301
     clear HO305
     clear HO308
     clear HO311
     clear HO316
     clear HO319
     clear HO322
     clear BK290
     clear BK302
     clear BK313
     clear BK324
     clear HB
     have HO295 := n0_
     have HO298 := n1_
     have HO301 := n2_
     have HO305 := n3_
     have HO308 := n4_
     have HO311 := n5_
     have HO316 := n6_
     have HO319 := n7_
     have HO322 := n8_
     have BK290 := n9_
     have BK302 := n10_
     have BK313 := n11_
     have BK324 := n12_
     have HB := n13_
     clear n0_ n1_ n2_ n3_ n4_ n5_ n6_ n7_ n8_ n9_ n10_ n11_ n12_ n13_
     (try clear hb)
     (try clear hb2)
     (try clear hk)
     (try clear hi)
     refine hK.out _ _ ⟨(blk_cell BK313.out 0).trans rfl, (blk_cell BK313.out 1).trans rfl, (blk_cell BK313.out 2).trans rfl, (blk_cell BK324.out 0).trans rfl, (blk_cell BK324.out 1).trans rfl, (blk_cell BK324.out 2).trans rfl, (blk_cell BK302.out 0).trans rfl, (blk_cell BK302.out 1).trans rfl, (blk_cell BK302.out 2).trans rfl, (blk_cell BK290.out 0).trans rfl, (blk_cell BK290.out 1).trans rfl, (blk_cell BK290.out 2).trans rfl⟩ (fun hHeld => ?_)
     clear hK K
     refine norm_ (a' := ?_) ?_ ?_
     rotate_left
     ·
      show Act.put _ (some 45) _ = _
      simp only [Act.put, List.setIfInBounds_toArray, List.set_cons_zero, List.set_cons_succ, i64_w, i32_w]
      rfl
     refine pure_ (i := 14) (N := some 46) (v := ?_) (a' := ?_) #[true, true, true, true, true, true, true, true, true, true, true, true, true, true, true, false] rfl rfl (any_of HT_.out (by kernel_rfl)) (fun _ _ _ h => h) (Or.inl ⟨by rfl, ?_⟩) ?_ ?_
     rotate_left
     ·
      intro w'
      go_simp
      with_reducible rfl
     rotate_left
     ·
      simp only [Act.put, List.setIfInBounds_toArray, List.set_cons_zero, List.set_cons_succ, i64_w, i32_w]
      rfl
     refine pure_ (i := 15) (N := some 47) (v := ?_) (a' := ?_) #[true, true, true, true, true, true, true, true, true, true, true, true, true, true, true, true] rfl rfl (any_of HT_.out (by kernel_rfl)) (fun _ _ _ h => h) (Or.inl ⟨by rfl, ?_⟩) ?_ ?_
     rotate_left
     ·
      intro w'
      go_simp
      with_reducible rfl
     rotate_left
     ·
      simp only [Act.put, List.setIfInBounds_toArray, List.set_cons_zero, List.set_cons_succ, i64_w, i32_w]
      rfl
     refine done_ (done_of HT_.out (by kernel_rfl)) ?_
     try go_wp2
     go_meet
     case rel => exact ⟨_, ((t326 != t327)), (by first | rfl | (simp; done) | (simp [*]; done)), H', ⟨by first | omega | exact Nat.le_refl _⟩, ⟨upR HO295.out⟩, ⟨upR HO298.out⟩, ⟨upR HO301.out⟩, ⟨upR HO305.out⟩, ⟨upR HO308.out⟩, ⟨upR HO311.out⟩, ⟨upR HO316.out⟩, ⟨upR HO319.out⟩, ⟨upR HO322.out⟩, ⟨upB BK290⟩, ⟨upB BK302⟩, ⟨upB BK313⟩, ⟨upB BK324⟩, ⟨upH HB⟩⟩
    · as_aux_lemma =>
     rw [if_neg c40] at H
     have c40b0 : (t312 == t323) = false := beq_eq_false_iff_ne.mpr c40
     have c40b1 : (t312 != t323) = true := bne_iff_ne.mpr c40
     (first | rw [c40b0] | (simp only [i64_w, i32_w]; rw [c40b0]) | skip)
     have H' := Aside0.mk H
     clear H
     try go_wp2
     have n0_ : Aside0 (Kd.R (Kd.int .i64) 3 (((w30.setCell ⟨gb324, 0, none⟩ (.slice Ao31 t314.length co31)).setCell ⟨gb324, 1, none⟩ (.slice Ao36 t317.length co36)).setCell ⟨gb324, 2, none⟩ (.slice Ao37 t320.length co37)) w.heap.size (fun k_ => some k_ ≠ (.slice Ao19 t296.length co19 : Value).ownBlock ∧ some k_ ≠ (.slice Ao23 t303.length co23 : Value).ownBlock ∧ some k_ ≠ (.slice Ao27 t306.length co27 : Value).ownBlock ∧ some k_ ≠ (.slice Ao31 t314.length co31 : Value).ownBlock ∧ some k_ ≠ (.slice Ao36 t317.length co36 : Value).ownBlock) (.slice Ao16 t293.length co16) t293) := ⟨by (with_reducible repeat (first | apply Kd.R_alloc | apply Kd.R_drewN | apply Kd.R_drew)); exact Kd.R_mono (far3 HO295.out BK324) (fun _ hk => ⟨hk.1.1.1.1.1, ⟨hk.1.1.1.1.2, ⟨hk.1.1.1.2, ⟨hk.1.1.2, hk.1.2⟩⟩⟩⟩)⟩
     have n1_ : Aside0 (Kd.R (Kd.int .i64) 3 (((w30.setCell ⟨gb324, 0, none⟩ (.slice Ao31 t314.length co31)).setCell ⟨gb324, 1, none⟩ (.slice Ao36 t317.length co36)).setCell ⟨gb324, 2, none⟩ (.slice Ao37 t320.length co37)) w.heap.size (fun k_ => some k_ ≠ (.slice Ao16 t293.length co16 : Value).ownBlock ∧ some k_ ≠ (.slice Ao23 t303.length co23 : Value).ownBlock ∧ some k_ ≠ (.slice Ao27 t306.length co27 : Value).ownBlock ∧ some k_ ≠ (.slice Ao31 t314.length co31 : Value).ownBlock ∧ some k_ ≠ (.slice Ao36 t317.length co36 : Value).ownBlock) (.slice Ao19 t296.length co19) t296) := ⟨by (with_reducible repeat (first | apply Kd.R_alloc | apply Kd.R_drewN | apply Kd.R_drew)); exact Kd.R_mono (far3 HO298.out BK324) (fun _ hk => ⟨hk.1.1.1.1.1, ⟨hk.1.1.1.1.2, ⟨hk.1.1.1.2, ⟨hk.1.1.2, hk.1.2⟩⟩⟩⟩)⟩
     have n2_ : Aside0 (Kd.R Kd.bool 4 (((w30.setCell ⟨gb324, 0, none⟩ (.slice Ao31 t314.length co31)).setCell ⟨gb324, 1, none⟩ (.slice Ao36 t317.length co36)).setCell ⟨gb324, 2, none⟩ (.slice Ao37 t320.length co37)) w.heap.size (fun k_ => some k_ ≠ (.slice Ao28 t309.length co28 : Value).ownBlock ∧ some k_ ≠ (.slice Ao37 t320.length co37 : Value).ownBlock) (.slice Ao20 t299.length co20) t299) := ⟨by (with_reducible repeat (first | apply Kd.R_alloc | apply Kd.R_drewN | apply Kd.R_drew)); exact Kd.R_mono (far3 HO301.out BK324) (fun _ hk => ⟨hk.1.1.2, hk.1.2⟩)⟩
     have n3_ : Aside0 (Kd.R (Kd.int .i64) 3 (((w30.setCell ⟨gb324, 0, none⟩ (.slice Ao31 t314.length co31)).setCell ⟨gb324, 1, none⟩ (.slice Ao36 t317.length co36)).setCell ⟨gb324, 2, none⟩ (.slice Ao37 t320.length co37)) w.heap.size (fun k_ => some k_ ≠ (.slice Ao16 t293.length co16 : Value).ownBlock ∧ some k_ ≠ (.slice Ao19 t296.length co19 : Value).ownBlock ∧ some k_ ≠ (.slice Ao27 t306.length co27 : Value).ownBlock ∧ some k_ ≠ (.slice Ao31 t314.length co31 : Value).ownBlock ∧ some k_ ≠ (.slice Ao36 t317.length co36 : Value).ownBlock) (.slice Ao23 t303.length co23) t303) := ⟨by (with_reducible repeat (first | apply Kd.R_alloc | apply Kd.R_drewN | apply Kd.R_drew)); exact Kd.R_mono (far3 HO305.out BK324) (fun _ hk => ⟨hk.1.1.1.1.2, ⟨hk.1.1.1.2, ⟨hk.1.1.1.1.1, ⟨hk.1.1.2, hk.1.2⟩⟩⟩⟩)⟩
     have n4_ : Aside0 (Kd.R (Kd.int .i64) 3 (((w30.setCell ⟨gb324, 0, none⟩ (.slice Ao31 t314.length co31)).setCell ⟨gb324, 1, none⟩ (.slice Ao36 t317.length co36)).setCell ⟨gb324, 2, none⟩ (.slice Ao37 t320.length co37)) w.heap.size (fun k_ => some k_ ≠ (.slice Ao16 t293.length co16 : Value).ownBlock ∧ some k_ ≠ (.slice Ao19 t296.length co19 : Value).ownBlock ∧ some k_ ≠ (.slice Ao23 t303.length co23 : Value).ownBlock ∧ some k_ ≠ (.slice Ao31 t314.length co31 : Value).ownBlock ∧ some k_ ≠ (.slice Ao36 t317.length co36 : Value).ownBlock) (.slice Ao27 t306.length co27) t306) := ⟨by (with_reducible repeat (first | apply Kd.R_alloc | apply Kd.R_drewN | apply Kd.R_drew)); exact Kd.R_mono (far3 HO308.out BK324) (fun _ hk => ⟨hk.1.1.1.1.2, ⟨hk.1.1.1.2, ⟨hk.1.1.1.1.1, ⟨hk.1.1.2, hk.1.2⟩⟩⟩⟩)⟩
     have n5_ : Aside0 (Kd.R Kd.bool 4 (((w30.setCell ⟨gb324, 0, none⟩ (.slice Ao31 t314.length co31)).setCell ⟨gb324, 1, none⟩ (.slice Ao36 t317.length co36)).setCell ⟨gb324, 2, none⟩ (.slice Ao37 t320.length co37)) w.heap.size (fun k_ => some k_ ≠ (.slice Ao20 t299.length co20 : Value).ownBlock ∧ some k_ ≠ (.slice Ao37 t320.length co37 : Value).ownBlock) (.slice Ao28 t309.length co28) t309) := ⟨by (with_reducible repeat (first | apply Kd.R_alloc | apply Kd.R_drewN | apply Kd.R_drew)); exact Kd.R_mono (far3 HO311.out BK324) (fun _ hk => ⟨hk.1.1.2, hk.1.2⟩)⟩
     have n6_ : Aside0 (Kd.R (Kd.int .i64) 3 (((w30.setCell ⟨gb324, 0, none⟩ (.slice Ao31 t314.length co31)).setCell ⟨gb324, 1, none⟩ (.slice Ao36 t317.length co36)).setCell ⟨gb324, 2, none⟩ (.slice Ao37 t320.length co37)) w.heap.size (fun k_ => some k_ ≠ (.slice Ao16 t293.length co16 : Value).ownBlock ∧ some k_ ≠ (.slice Ao19 t296.length co19 : Value).ownBlock ∧ some k_ ≠ (.slice Ao23 t303.length co23 : Value).ownBlock ∧ some k_ ≠ (.slice Ao27 t306.length co27 : Value).ownBlock ∧ some k_ ≠ (.slice Ao36 t317.length co36 : Value).ownBlock) (.slice Ao31 t314.length co31) t314) := ⟨by (with_reducible repeat (first | apply Kd.R_alloc | apply Kd.R_drewN | apply Kd.R_drew)); exact Kd.R_mono (far3 HO316.out BK324) (fun _ hk => ⟨hk.1.1.1.1.2, ⟨hk.1.1.1.2, ⟨hk.1.1.2, ⟨hk.1.2, hk.1.1.1.1.1⟩⟩⟩⟩)⟩
     have n7_ : Aside0 (Kd.R (Kd.int .i64) 3 (((w30.setCell ⟨gb324, 0, none⟩ (.slice Ao31 t314.length co31)).setCell ⟨gb324, 1, none⟩ (.slice Ao36 t317.length co36)).setCell ⟨gb324, 2, none⟩ (.slice Ao37 t320.length co37)) w.heap.size (fun k_ => some k_ ≠ (.slice Ao16 t293.length co16 : Value).ownBlock ∧ some k_ ≠ (.slice Ao19 t296.length co19 : Value).ownBlock ∧ some k_ ≠ (.slice Ao23 t303.length co23 : Value).ownBlock ∧ some k_ ≠ (.slice Ao27 t306.length co27 : Value).ownBlock ∧ some k_ ≠ (.slice Ao31 t314.length co31 : Value).ownBlock) (.slice Ao36 t317.length co36) t317) := ⟨by (with_reducible repeat (first | apply Kd.R_alloc | apply Kd.R_drewN | apply Kd.R_drew)); exact Kd.R_mono (far3 HO319.out BK324) (fun _ hk => ⟨hk.1.1.1.1.2, ⟨hk.1.1.1.2, ⟨hk.1.1.2, ⟨hk.1.2, hk.1.1.1.1.1⟩⟩⟩⟩)⟩
     have n8_ : Aside0 (Kd.R Kd.bool 4 (((w30.setCell ⟨gb324, 0, none⟩ (.slice Ao31 t314.length co31)).setCell ⟨gb324, 1, none⟩ (.slice Ao36 t317.length co36)).setCell ⟨gb324, 2, none⟩ (.slice Ao37 t320.length co37)) w.heap.size (fun k_ => some k_ ≠ (.slice Ao20 t299.length co20 : Value).ownBlock ∧ some k_ ≠ (.slice Ao28 t309.length co28 : Value).ownBlock) (.slice Ao37 t320.length co37) t320) := ⟨by (with_reducible repeat (first | apply Kd.R_alloc | apply Kd.R_drewN | apply Kd.R_drew)); exact Kd.R_mono (far3 HO322.out BK324) (fun _ hk => ⟨hk.1.1.2, hk.1.2⟩)⟩
     have n9_ : Aside0 ((((w30.setCell ⟨gb324, 0, none⟩ (.slice Ao31 t314.length co31)).setCell ⟨gb324, 1, none⟩ (.slice Ao36 t317.length co36)).setCell ⟨gb324, 2, none⟩ (.slice Ao37 t320.length co37)).heap[gb290]? = some (.cells #[.slice A0_0 l0_0.length c0_0, .slice A0_1 l0_1.length c0_1, .slice A0_2 l0_2.length c0_2] 25 (0, 0))) := ⟨by (with_reducible repeat (first | refine blk_drewN ?_ _ | refine blk_drew ?_ | refine blk_alloc ?_ _)); refine blk_far ?_ NB290_324.out _; (with_reducible repeat (first | refine blk_drewN ?_ _ | refine blk_drew ?_ | refine blk_alloc ?_ _)); refine blk_far ?_ NB290_324.out _; (with_reducible repeat (first | refine blk_drewN ?_ _ | refine blk_drew ?_ | refine blk_alloc ?_ _)); refine blk_far ?_ NB290_324.out _; (with_reducible repeat (first | refine blk_drewN ?_ _ | refine blk_drew ?_ | refine blk_alloc ?_ _)); exact BK290.out⟩
     have n10_ : Aside0 ((((w30.setCell ⟨gb324, 0, none⟩ (.slice Ao31 t314.length co31)).setCell ⟨gb324, 1, none⟩ (.slice Ao36 t317.length co36)).setCell ⟨gb324, 2, none⟩ (.slice Ao37 t320.length co37)).heap[gb302]? = some (.cells #[.slice Ao16 t293.length co16, .slice Ao19 t296.length co19, .slice Ao20 t299.length co20] 25 (0, 0))) := ⟨by (with_reducible repeat (first | refine blk_drewN ?_ _ | refine blk_drew ?_ | refine blk_alloc ?_ _)); refine blk_far ?_ NB302_324.out _; (with_reducible repeat (first | refine blk_drewN ?_ _ | refine blk_drew ?_ | refine blk_alloc ?_ _)); refine blk_far ?_ NB302_324.out _; (with_reducible repeat (first | refine blk_drewN ?_ _ | refine blk_drew ?_ | refine blk_alloc ?_ _)); refine blk_far ?_ NB302_324.out _; (with_reducible repeat (first | refine blk_drewN ?_ _ | refine blk_drew ?_ | refine blk_alloc ?_ _)); exact BK302.out⟩
     have n11_ : Aside0 ((((w30.setCell ⟨gb324, 0, none⟩ (.slice Ao31 t314.length co31)).setCell ⟨gb324, 1, none⟩ (.slice Ao36 t317.length co36)).setCell ⟨gb324, 2, none⟩ (.slice Ao37 t320.length co37)).heap[gb313]? = some (.cells #[.slice Ao23 t303.length co23, .slice Ao27 t306.length co27, .slice Ao28 t309.length co28] 25 (0, 0))) := ⟨by (with_reducible repeat (first | refine blk_drewN ?_ _ | refine blk_drew ?_ | refine blk_alloc ?_ _)); refine blk_far ?_ NB313_324.out _; (with_reducible repeat (first | refine blk_drewN ?_ _ | refine blk_drew ?_ | refine blk_alloc ?_ _)); refine blk_far ?_ NB313_324.out _; (with_reducible repeat (first | refine blk_drewN ?_ _ | refine blk_drew ?_ | refine blk_alloc ?_ _)); refine blk_far ?_ NB313_324.out _; (with_reducible repeat (first | refine blk_drewN ?_ _ | refine blk_drew ?_ | refine blk_alloc ?_ _)); exact BK313.out⟩
     have n12_ : Aside0 ((((w30.setCell ⟨gb324, 0, none⟩ (.slice Ao31 t314.length co31)).setCell ⟨gb324, 1, none⟩ (.slice Ao36 t317.length co36)).setCell ⟨gb324, 2, none⟩ (.slice Ao37 t320.length co37)).heap[gb324]? = some (.cells #[.slice Ao31 t314.length co31, .slice Ao36 t317.length co36, .slice Ao37 t320.length co37] 25 (0, 0))) := ⟨by (with_reducible repeat (first | refine blk_drewN ?_ _ | refine blk_drew ?_ | refine blk_alloc ?_ _)); refine blk_put (cs := #[.slice Ao31 t314.length co31, .slice Ao36 t317.length co36, .slice none 0 0]) ?_ 2 _ rfl; (with_reducible repeat (first | refine blk_drewN ?_ _ | refine blk_drew ?_ | refine blk_alloc ?_ _)); refine blk_put (cs := #[.slice Ao31 t314.length co31, .slice none 0 0, .slice none 0 0]) ?_ 1 _ rfl; (with_reducible repeat (first | refine blk_drewN ?_ _ | refine blk_drew ?_ | refine blk_alloc ?_ _)); refine blk_put (cs := #[.slice none 0 0, .slice none 0 0, .slice none 0 0]) ?_ 0 _ rfl; (with_reducible repeat (first | refine blk_drewN ?_ _ | refine blk_drew ?_ | refine blk_alloc ?_ _)); exact BK324.out⟩
     have n13_ : Aside0 (Below w.heap.size w (((w30.setCell ⟨gb324, 0, none⟩ (.slice Ao31 t314.length co31)).setCell ⟨gb324, 1, none⟩ (.slice Ao36 t317.length co36)).setCell ⟨gb324, 2, none⟩ (.slice Ao37 t320.length co37))) := ⟨upH HB⟩
     (try clear HO295)
     (try clear HO298)
     (try clear HO301)
     (try clear HO305)
     (try clear HO308)
     (try clear HO311)
     (try clear HO316)
     (try clear HO319)
     (try clear HO322)
     (try clear BK290)
     (try clear BK302)
     (try clear BK313)
     (try clear BK324)
     (try clear HB)
     generalize (((w30.setCell ⟨gb324, 0, none⟩ (.slice Ao31 t314.length co31)).setCell ⟨gb324, 1, none⟩ (.slice Ao36 t317.length co36)).setCell ⟨gb324, 2, none⟩ (.slice Ao37 t320.length co37)) = w48 at n0_ n1_ n2_ n3_ n4_ n5_ n6_ n7_ n8_ n9_ n10_ n11_ n12_ n13_ ⊢
     have HO295 := n0_
     have HO298 := n1_
     have HO301 := n2_
     have HO305 := n3_
     have HO308 := n4_
     have HO311 := n5_
     have HO316 := n6_
     have HO319 := n7_
     have HO322 := n8_
     have BK290 := n9_
     have BK302 := n10_
     have BK313 := n11_
     have BK324 := n12_
     have HB := n13_
     clear n0_ n1_ n2_ n3_ n4_ n5_ n6_ n7_ n8_ n9_ n10_ n11_ n12_ n13_
     have n0_ := Aside0.mk (Kd.R_drew HO295.out)
     have n1_ := Aside0.mk (Kd.R_drew HO298.out)
     have n2_ := Aside0.mk (Kd.R_drew HO301.out)
     have n3_ := Aside0.mk (Kd.R_drew HO305.out)
     have n4_ := Aside0.mk (Kd.R_drew HO308.out)
     have n5_ := Aside0.mk (Kd.R_drew HO311.out)
     have n6_ := Aside0.mk (Kd.R_drew HO316.out)
     have n7_ := Aside0.mk (Kd.R_drew HO319.out)
     have n8_ := Aside0.mk (Kd.R_drew HO322.out)
     have n9_ := Aside0.mk (blk_drew BK290.out)
     have n10_ := Aside0.mk (blk_drew BK302.out)
     have n11_ := Aside0.mk (blk_drew BK313.out)
     have n12_ := Aside0.mk (blk_drew BK324.out)
     have n13_ := Aside0.mk (below_drew1 HB.out)
     clear HO295
     clear HO298
     clear HO301
     clear HO305
     clear HO308
     clear HO311
     clear HO316
     clear HO319
     clear HO322
     clear BK290
     clear BK302
     clear BK313
     clear BK324
     clear HB
     have HO295 := n0_
     have HO298 := n1_
     have HO301 := n2_
     have HO305 := n3_
     have HO308 := n4_
     have HO311 := n5_
     have HO316 := n6_
     have HO319 := n7_
     have HO322 := n8_
     have BK290 := n9_
     have BK302 := n10_
     have BK313 := n11_
     have BK324 := n12_
     have HB := n13_
     clear n0_ n1_ n2_ n3_ n4_ n5_ n6_ n7_ n8_ n9_ n10_ n11_ n12_ n13_
     refine start_ (n := 16) (S := fun w' => w'.cell? ⟨gb313, 0, none⟩ = some (.slice Ao23 t303.length co23) ∧ w'.cell? ⟨gb313, 1, none⟩ = some (.slice Ao27 t306.length co27) ∧ w'.cell? ⟨gb313, 2, none⟩ = some (.slice Ao28 t309.length co28) ∧ w'.cell? ⟨gb324, 0, none⟩ = some (.slice Ao31 t314.length co31) ∧ w'.cell? ⟨gb324, 1, none⟩ = some (.slice Ao36 t317.length co36) ∧ w'.cell? ⟨gb324, 2, none⟩ = some (.slice Ao37 t320.length co37)) (ds := []) #[false, false, false, false, false, false, false, false, false, false, false, false, false, false, false, false] (by kernel_rfl) rfl rfl ⟨(blk_cell BK313.out 0).trans rfl, (blk_cell BK313.out 1).trans rfl, (blk_cell BK313.out 2).trans rfl, (blk_cell BK324.out 0).trans rfl, (blk_cell BK324.out 1).trans rfl, (blk_cell BK324.out 2).trans rfl⟩ (fun hHeld => ?_); refine with_tabW headgatelaw07_LruChanges.tab6 headgatelaw07_LruChanges.bits6 (fun HT_ HW_ => ?_)
     generalize w48.drew = w49 at HO295 HO298 HO301 HO305 HO308 HO311 HO316 HO319 HO322 BK290 BK302 BK313 BK324 HB hHeld ⊢
     refine take_ (i := 0) (N := some 32) (v := ?_) (a' := ?_) #[true, false, false, false, false, false, false, false, false, false, false, false, false, false, false, false] rfl rfl (take_ofW HT_.out HW_.out (by kernel_rfl)) (fun _ _ _ h => h) (Or.inl ⟨by rfl, ?_⟩) hHeld ?_ ?_
     rotate_left
     ·
      rintro w' ⟨s0, s1, s2, s3, s4, s5⟩
      go_simp
      with_reducible rfl
     rotate_left
     ·
      simp only [Act.put, List.setIfInBounds_toArray, List.set_cons_zero, List.set_cons_succ, i64_w, i32_w]
      rfl
     refine take_ (i := 1) (N := some 33) (v := ?_) (a' := ?_) #[true, true, false, false, false, false, false, false, false, false, false, false, false, false, false, false] rfl rfl (take_ofW HT_.out HW_.out (by kernel_rfl)) (fun _ _ _ h => h) (Or.inl ⟨by rfl, ?_⟩) hHeld ?_ ?_
     rotate_left
     ·
      rintro w' ⟨s0, s1, s2, s3, s4, s5⟩
      go_simp
      with_reducible rfl
     rotate_left
     ·
      simp only [Act.put, List.setIfInBounds_toArray, List.set_cons_zero, List.set_cons_succ, i64_w, i32_w]
      rfl
     refine one_ (i := 2) (N := some 34) #[true, true, true, false, false, false, false, false, false, false, false, false, false, false, false, false] rfl rfl (one_of HT_.out (by kernel_rfl)) (by decide) (fun K hK => ?_)
     refine goes_ Try.func15 (by kernel_rfl) rfl #[.agg #[.slice Ao23 t303.length co23, .slice Ao27 t306.length co27, .slice Ao28 t309.length co28], .agg #[.slice Ao31 t314.length co31, .slice Ao36 t317.length co36, .slice Ao37 t320.length co37]] (by rfl) rfl rfl (args_ (p := _)) ?_
     with_reducible refine (headgatekit_SameLists.calls k _ _ t303 _ _ t306 _ _ t309 _ _ t314 _ _ t317 _ _ t320 true _ ?side1 ?side2 ?side3 ?side4 ?side5 ?side6 ?side7 ?side8 ?side9 ?side10 ?side11 ?side12 A38.out).mono ?_
     (case side1 => exact upc (Kd.R_reads' HO305.out).2.2)
     (case side2 => exact (Kd.R_reads' HO305.out).2.1)
     (case side3 => exact upc (Kd.R_reads' HO308.out).2.2)
     (case side4 => exact (Kd.R_reads' HO308.out).2.1)
     (case side5 => exact upc (Kd.R_reads' HO311.out).2.2)
     (case side6 => exact (Kd.R_reads' HO311.out).2.1)
     (case side7 => exact upc (Kd.R_reads' HO316.out).2.2)
     (case side8 => exact (Kd.R_reads' HO316.out).2.1)
     (case side9 => exact upc (Kd.R_reads' HO319.out).2.2)
     (case side10 => exact (Kd.R_reads' HO319.out).2.1)
     (case side11 => exact upc (Kd.R_reads' HO322.out).2.2)
     (case side12 => exact (Kd.R_reads' HO322.out).2.1)
     rintro e w50 ⟨rfl, hb⟩
     refine ⟨_, rfl, ?_⟩
     have n0_ := Aside0.mk (Kd.R_below (upR HO295.out) hb)
     have n1_ := Aside0.mk (Kd.R_below (upR HO298.out) hb)
     have n2_ := Aside0.mk (Kd.R_below (upR HO301.out) hb)
     have n3_ := Aside0.mk (Kd.R_below (upR HO305.out) hb)
     have n4_ := Aside0.mk (Kd.R_below (upR HO308.out) hb)
     have n5_ := Aside0.mk (Kd.R_below (upR HO311.out) hb)
     have n6_ := Aside0.mk (Kd.R_below (upR HO316.out) hb)
     have n7_ := Aside0.mk (Kd.R_below (upR HO319.out) hb)
     have n8_ := Aside0.mk (Kd.R_below (upR HO322.out) hb)
     have n9_ := Aside0.mk (blkB BK290 hb)
     have n10_ := Aside0.mk (blkB BK302 hb)
     have n11_ := Aside0.mk (blkB BK313 hb)
     have n12_ := Aside0.mk (blkB BK324 hb)
     have n13_ := Aside0.mk (below_step (upH HB) hb)
     clear HO295
     clear HO298
     clear HO301
     clear HO305
     clear HO308
     clear HO311
     clear HO316
     clear HO319
     clear HO322
     clear BK290
     clear BK302
     clear BK313
     clear BK324
     clear HB
     have HO295 := n0_
     have HO298 := n1_
     have HO301 := n2_
     have HO305 := n3_
     have HO308 := n4_
     have HO311 := n5_
     have HO316 := n6_
     have HO319 := n7_
     have HO322 := n8_
     have BK290 := n9_
     have BK302 := n10_
     have BK313 := n11_
     have BK324 := n12_
     have HB := n13_
     clear n0_ n1_ n2_ n3_ n4_ n5_ n6_ n7_ n8_ n9_ n10_ n11_ n12_ n13_
     (try clear hb)
     (try clear hb2)
     (try clear hk)
     (try clear hi)
     refine hK.out _ _ ⟨(blk_cell BK313.out 0).trans rfl, (blk_cell BK313.out 1).trans rfl, (blk_cell BK313.out 2).trans rfl, (blk_cell BK324.out 0).trans rfl, (blk_cell BK324.out 1).trans rfl, (blk_cell BK324.out 2).trans rfl⟩ (fun hHeld => ?_)
     clear hK K
     refine norm_ (a' := ?_) ?_ ?_
     rotate_left
     ·
      show Act.put _ (some 34) _ = _
      simp only [Act.put, List.setIfInBounds_toArray, List.set_cons_zero, List.set_cons_succ, i64_w, i32_w]
      rfl
     refine pure_ (i := 3) (N := some 35) (v := ?_) (a' := ?_) #[true, true, true, true, false, false, false, false, false, false, false, false, false, false, false, false] rfl rfl (any_of HT_.out (by kernel_rfl)) (fun _ _ _ h => h) (Or.inl ⟨by rfl, ?_⟩) ?_ ?_
     rotate_left
     ·
      intro w'
      go_simp
      with_reducible rfl
     rotate_left
     ·
      simp only [Act.put, List.setIfInBounds_toArray, List.set_cons_zero, List.set_cons_succ, i64_w, i32_w]
      rfl
     refine pure_ (i := 4) (N := some 36) (v := ?_) (a' := ?_) #[true, true, true, true, true, false, false, false, false, false, false, false, false, false, false, false] rfl rfl (any_of HT_.out (by kernel_rfl)) (fun _ _ _ h => h) (Or.inl ⟨by rfl, ?_⟩) ?_ ?_
     rotate_left
     ·
      intro w'
      go_simp
      with_reducible rfl
     rotate_left
     ·
      simp only [Act.put, List.setIfInBounds_toArray, List.set_cons_zero, List.set_cons_succ, i64_w, i32_w]
      rfl
     refine pure_ (i := 5) (N := some 37) (v := ?_) (a' := ?_) #[true, true, true, true, true, true, false, false, false, false, false, false, false, false, false, false] rfl rfl (any_of HT_.out (by kernel_rfl)) (fun _ _ _ h => h) (Or.inl ⟨by rfl, ?_⟩) ?_ ?_
     rotate_left
     ·
      intro w'
      go_simp
      with_reducible rfl
     rotate_left
     ·
      simp only [Act.put, List.setIfInBounds_toArray, List.set_cons_zero, List.set_cons_succ, i64_w, i32_w]
      rfl
     refine pure_ (i := 6) (N := some 38) (v := ?_) (a' := ?_) #[true, true, true, true, true, true, true, false, false, false, false, false, false, false, false, false] rfl rfl (any_of HT_.out (by kernel_rfl)) (fun _ _ _ h => h) (Or.inl ⟨by rfl, ?_⟩) ?_ ?_
     rotate_left
     ·
      intro w'
      go_simp
      with_reducible rfl
     rotate_left
     ·
      simp only [Act.put, List.setIfInBounds_toArray, List.set_cons_zero, List.set_cons_succ, i64_w, i32_w]
      rfl
     refine pure_ (i := 7) (N := some 39) (v := ?_) (a' := ?_) #[true, true, true, true, true, true, true, true, false, false, false, false, false, false, false, false] rfl rfl (any_of HT_.out (by kernel_rfl)) (fun _ _ _ h => h) (Or.inl ⟨by rfl, ?_⟩) ?_ ?_
     rotate_left
     ·
      intro w'
      go_simp
      with_reducible rfl
     rotate_left
     ·
      simp only [Act.put, List.setIfInBounds_toArray, List.set_cons_zero, List.set_cons_succ, i64_w, i32_w]
      rfl
     refine pure_ (i := 8) (N := some 40) (v := ?_) (a' := ?_) #[true, true, true, true, true, true, true, true, true, false, false, false, false, false, false, false] rfl rfl (any_of HT_.out (by kernel_rfl)) (fun _ _ _ h => h) (Or.inl ⟨by rfl, ?_⟩) ?_ ?_
     rotate_left
     ·
      intro w'
      go_simp
      with_reducible rfl
     rotate_left
     ·
      simp only [Act.put, List.setIfInBounds_toArray, List.set_cons_zero, List.set_cons_succ, i64_w, i32_w]
      rfl
     refine pure_ (i := 9) (N := some 41) (v := ?_) (a' := ?_) #[true, true, true, true, true, true, true, true, true, true, false, false, false, false, false, false] rfl rfl (any_of HT_.out (by kernel_rfl)) (fun _ _ _ h => h) (Or.inl ⟨by rfl, ?_⟩) ?_ ?_
     rotate_left
     ·
      intro w'
      go_simp
      with_reducible rfl
     rotate_left
     ·
      simp only [Act.put, List.setIfInBounds_toArray, List.set_cons_zero, List.set_cons_succ, i64_w, i32_w]
      rfl
     refine pure_ (i := 10) (N := some 42) (v := undef) (a' := ?_) #[true, true, true, true, true, true, true, true, true, true, true, false, false, false, false, false] rfl rfl (any_of HT_.out (by kernel_rfl)) (fun _ _ _ h => h) (Or.inr ⟨by rfl, rfl⟩) ?_ ?_
     rotate_left
     ·
      simp only [Act.put, List.setIfInBounds_toArray, List.set_cons_zero, List.set_cons_succ, i64_w, i32_w]
      rfl
     refine pure_ (i := 11) (N := some 43) (v := undef) (a' := ?_) #[true, true, true, true, true, true, true, true, true, true, true, true, false, false, false, false] rfl rfl (any_of HT_.out (by kernel_rfl)) (fun _ _ _ h => h) (Or.inr ⟨by rfl, rfl⟩) ?_ ?_
     rotate_left
     ·
      simp only [Act.put, List.setIfInBounds_toArray, List.set_cons_zero, List.set_cons_succ, i64_w, i32_w]
      rfl
     refine pure_ (i := 12) (N := some 44) (v := undef) (a' := ?_) #[true, true, true, true, true, true, true, true, true, true, true, true, true, false, false, false] rfl rfl (any_of HT_.out (by kernel_rfl)) (fun _ _ _ h => h) (Or.inr ⟨by rfl, rfl⟩) ?_ ?_
     rotate_left
     ·
      simp only [Act.put, List.setIfInBounds_toArray, List.set_cons_zero, List.set_cons_succ, i64_w, i32_w]
      rfl
     refine pure_ (i := 13) (N := some 45) (v := undef) (a' := ?_) #[true, true, true, true, true, true, true, true, true, true, true, true, true, true, false, false] rfl rfl (any_of HT_.out (by kernel_rfl)) (fun _ _ _ h => h) (Or.inr ⟨by rfl, rfl⟩) ?_ ?_
     rotate_left
     ·
      simp only [Act.put, List.setIfInBounds_toArray, List.set_cons_zero, List.set_cons_succ, i64_w, i32_w]
      rfl
     refine pure_ (i := 14) (N := some 46) (v := undef) (a' := ?_) #[true, true, true, true, true, true, true, true, true, true, true, true, true, true, true, false] rfl rfl (any_of HT_.out (by kernel_rfl)) (fun _ _ _ h => h) (Or.inr ⟨by rfl, rfl⟩) ?_ ?_
     rotate_left
     ·
      simp only [Act.put, List.setIfInBounds_toArray, List.set_cons_zero, List.set_cons_succ, i64_w, i32_w]
      rfl
     refine pure_ (i := 15) (N := some 47) (v := ?_) (a' := ?_) #[true, true, true, true, true, true, true, true, true, true, true, true, true, true, true, true] rfl rfl (any_of HT_.out (by kernel_rfl)) (fun _ _ _ h => h) (Or.inl ⟨by rfl, ?_⟩) ?_ ?_
     rotate_left
     ·
      intro w'
      go_simp
      with_reducible rfl
     rotate_left
     ·
      simp only [Act.put, List.setIfInBounds_toArray, List.set_cons_zero, List.set_cons_succ, i64_w, i32_w]
      rfl
     refine done_ (done_of HT_.out (by kernel_rfl)) ?_
     try go_wp2
     go_meet
     case rel => exact ⟨_, (true), (by first | rfl | (simp; done) | (simp [*]; done)), H', ⟨by first | omega | exact Nat.le_refl _⟩, ⟨upR HO295.out⟩, ⟨upR HO298.out⟩, ⟨upR HO301.out⟩, ⟨upR HO305.out⟩, ⟨upR HO308.out⟩, ⟨upR HO311.out⟩, ⟨upR HO316.out⟩, ⟨upR HO319.out⟩, ⟨upR HO322.out⟩, ⟨upB BK290⟩, ⟨upB BK302⟩, ⟨upB BK313⟩, ⟨upB BK324⟩, ⟨upH HB⟩⟩
   · as_aux_lemma =>
    replace c39 := Bool.eq_false_iff.mpr c39
    subst c39
    have H1 : (headgatelaw07_LruChanges.j0 k a1 true l0_0 l0_1 l0_2 t293 t296 t299) = some r := by rw [if_neg (show ¬ (false = true) by decide)] at H; exact H
    clear H
    have H := H1
    clear H1
    have H' := Aside0.mk H
    clear H
    try go_wp2
    have n0_ : Aside0 (Kd.R (Kd.int .i64) 3 (((w30.setCell ⟨gb324, 0, none⟩ (.slice Ao31 t314.length co31)).setCell ⟨gb324, 1, none⟩ (.slice Ao36 t317.length co36)).setCell ⟨gb324, 2, none⟩ (.slice Ao37 t320.length co37)) w.heap.size (fun k_ => some k_ ≠ (.slice Ao19 t296.length co19 : Value).ownBlock ∧ some k_ ≠ (.slice Ao23 t303.length co23 : Value).ownBlock ∧ some k_ ≠ (.slice Ao27 t306.length co27 : Value).ownBlock ∧ some k_ ≠ (.slice Ao31 t314.length co31 : Value).ownBlock ∧ some k_ ≠ (.slice Ao36 t317.length co36 : Value).ownBlock) (.slice Ao16 t293.length co16) t293) := ⟨by (with_reducible repeat (first | apply Kd.R_alloc | apply Kd.R_drewN | apply Kd.R_drew)); exact Kd.R_mono (far3 HO295.out BK324) (fun _ hk => ⟨hk.1.1.1.1.1, ⟨hk.1.1.1.1.2, ⟨hk.1.1.1.2, ⟨hk.1.1.2, hk.1.2⟩⟩⟩⟩)⟩
    have n1_ : Aside0 (Kd.R (Kd.int .i64) 3 (((w30.setCell ⟨gb324, 0, none⟩ (.slice Ao31 t314.length co31)).setCell ⟨gb324, 1, none⟩ (.slice Ao36 t317.length co36)).setCell ⟨gb324, 2, none⟩ (.slice Ao37 t320.length co37)) w.heap.size (fun k_ => some k_ ≠ (.slice Ao16 t293.length co16 : Value).ownBlock ∧ some k_ ≠ (.slice Ao23 t303.length co23 : Value).ownBlock ∧ some k_ ≠ (.slice Ao27 t306.length co27 : Value).ownBlock ∧ some k_ ≠ (.slice Ao31 t314.length co31 : Value).ownBlock ∧ some k_ ≠ (.slice Ao36 t317.length co36 : Value).ownBlock) (.slice Ao19 t296.length co19) t296) := ⟨by (with_reducible repeat (first | apply Kd.R_alloc | apply Kd.R_drewN | apply Kd.R_drew)); exact Kd.R_mono (far3 HO298.out BK324) (fun _ hk => ⟨hk.1.1.1.1.1, ⟨hk.1.1.1.1.2, ⟨hk.1.1.1.2, ⟨hk.1.1.2, hk.1.2⟩⟩⟩⟩)⟩
    have n2_ : Aside0 (Kd.R Kd.bool 4 (((w30.setCell ⟨gb324, 0, none⟩ (.slice Ao31 t314.length co31)).setCell ⟨gb324, 1, none⟩ (.slice Ao36 t317.length co36)).setCell ⟨gb324, 2, none⟩ (.slice Ao37 t320.length co37)) w.heap.size (fun k_ => some k_ ≠ (.slice Ao28 t309.length co28 : Value).ownBlock ∧ some k_ ≠ (.slice Ao37 t320.length co37 : Value).ownBlock) (.slice Ao20 t299.length co20) t299) := ⟨by (with_reducible repeat (first | apply Kd.R_alloc | apply Kd.R_drewN | apply Kd.R_drew)); exact Kd.R_mono (far3 HO301.out BK324) (fun _ hk => ⟨hk.1.1.2, hk.1.2⟩)⟩
    have n3_ : Aside0 (Kd.R (Kd.int .i64) 3 (((w30.setCell ⟨gb324, 0, none⟩ (.slice Ao31 t314.length co31)).setCell ⟨gb324, 1, none⟩ (.slice Ao36 t317.length co36)).setCell ⟨gb324, 2, none⟩ (.slice Ao37 t320.length co37)) w.heap.size (fun k_ => some k_ ≠ (.slice Ao16 t293.length co16 : Value).ownBlock ∧ some k_ ≠ (.slice Ao19 t296.length co19 : Value).ownBlock ∧ some k_ ≠ (.slice Ao27 t306.length co27 : Value).ownBlock ∧ some k_ ≠ (.slice Ao31 t314.length co31 : Value).ownBlock ∧ some k_ ≠ (.slice Ao36 t317.length co36 : Value).ownBlock) (.slice Ao23 t303.length co23) t303) := ⟨by (with_reducible repeat (first | apply Kd.R_alloc | apply Kd.R_drewN | apply Kd.R_drew)); exact Kd.R_mono (far3 HO305.out BK324) (fun _ hk => ⟨hk.1.1.1.1.2, ⟨hk.1.1.1.2, ⟨hk.1.1.1.1.1, ⟨hk.1.1.2, hk.1.2⟩⟩⟩⟩)⟩
    have n4_ : Aside0 (Kd.R (Kd.int .i64) 3 (((w30.setCell ⟨gb324, 0, none⟩ (.slice Ao31 t314.length co31)).setCell ⟨gb324, 1, none⟩ (.slice Ao36 t317.length co36)).setCell ⟨gb324, 2, none⟩ (.slice Ao37 t320.length co37)) w.heap.size (fun k_ => some k_ ≠ (.slice Ao16 t293.length co16 : Value).ownBlock ∧ some k_ ≠ (.slice Ao19 t296.length co19 : Value).ownBlock ∧ some k_ ≠ (.slice Ao23 t303.length co23 : Value).ownBlock ∧ some k_ ≠ (.slice Ao31 t314.length co31 : Value).ownBlock ∧ some k_ ≠ (.slice Ao36 t317.length co36 : Value).ownBlock) (.slice Ao27 t306.length co27) t306) := ⟨by (with_reducible repeat (first | apply Kd.R_alloc | apply Kd.R_drewN | apply Kd.R_drew)); exact Kd.R_mono (far3 HO308.out BK324) (fun _ hk => ⟨hk.1.1.1.1.2, ⟨hk.1.1.1.2, ⟨hk.1.1.1.1.1, ⟨hk.1.1.2, hk.1.2⟩⟩⟩⟩)⟩
    have n5_ : Aside0 (Kd.R Kd.bool 4 (((w30.setCell ⟨gb324, 0, none⟩ (.slice Ao31 t314.length co31)).setCell ⟨gb324, 1, none⟩ (.slice Ao36 t317.length co36)).setCell ⟨gb324, 2, none⟩ (.slice Ao37 t320.length co37)) w.heap.size (fun k_ => some k_ ≠ (.slice Ao20 t299.length co20 : Value).ownBlock ∧ some k_ ≠ (.slice Ao37 t320.length co37 : Value).ownBlock) (.slice Ao28 t309.length co28) t309) := ⟨by (with_reducible repeat (first | apply Kd.R_alloc | apply Kd.R_drewN | apply Kd.R_drew)); exact Kd.R_mono (far3 HO311.out BK324) (fun _ hk => ⟨hk.1.1.2, hk.1.2⟩)⟩
    have n6_ : Aside0 (Kd.R (Kd.int .i64) 3 (((w30.setCell ⟨gb324, 0, none⟩ (.slice Ao31 t314.length co31)).setCell ⟨gb324, 1, none⟩ (.slice Ao36 t317.length co36)).setCell ⟨gb324, 2, none⟩ (.slice Ao37 t320.length co37)) w.heap.size (fun k_ => some k_ ≠ (.slice Ao16 t293.length co16 : Value).ownBlock ∧ some k_ ≠ (.slice Ao19 t296.length co19 : Value).ownBlock ∧ some k_ ≠ (.slice Ao23 t303.length co23 : Value).ownBlock ∧ some k_ ≠ (.slice Ao27 t306.length co27 : Value).ownBlock ∧ some k_ ≠ (.slice Ao36 t317.length co36 : Value).ownBlock) (.slice Ao31 t314.length co31) t314) := ⟨by (with_reducible repeat (first | apply Kd.R_alloc | apply Kd.R_drewN | apply Kd.R_drew)); exact Kd.R_mono (far3 HO316.out BK324) (fun _ hk => ⟨hk.1.1.1.1.2, ⟨hk.1.1.1.2, ⟨hk.1.1.2, ⟨hk.1.2, hk.1.1.1.1.1⟩⟩⟩⟩)⟩
    have n7_ : Aside0 (Kd.R (Kd.int .i64) 3 (((w30.setCell ⟨gb324, 0, none⟩ (.slice Ao31 t314.length co31)).setCell ⟨gb324, 1, none⟩ (.slice Ao36 t317.length co36)).setCell ⟨gb324, 2, none⟩ (.slice Ao37 t320.length co37)) w.heap.size (fun k_ => some k_ ≠ (.slice Ao16 t293.length co16 : Value).ownBlock ∧ some k_ ≠ (.slice Ao19 t296.length co19 : Value).ownBlock ∧ some k_ ≠ (.slice Ao23 t303.length co23 : Value).ownBlock ∧ some k_ ≠ (.slice Ao27 t306.length co27 : Value).ownBlock ∧ some k_ ≠ (.slice Ao31 t314.length co31 : Value).ownBlock) (.slice Ao36 t317.length co36) t317) := ⟨by (with_reducible repeat (first | apply Kd.R_alloc | apply Kd.R_drewN | apply Kd.R_drew)); exact Kd.R_mono (far3 HO319.out BK324) (fun _ hk => ⟨hk.1.1.1.1.2, ⟨hk.1.1.1.2, ⟨hk.1.1.2, ⟨hk.1.2, hk.1.1.1.1.1⟩⟩⟩⟩)⟩
    have n8_ : Aside0 (Kd.R Kd.bool 4 (((w30.setCell ⟨gb324, 0, none⟩ (.slice Ao31 t314.length co31)).setCell ⟨gb324, 1, none⟩ (.slice Ao36 t317.length co36)).setCell ⟨gb324, 2, none⟩ (.slice Ao37 t320.length co37)) w.heap.size (fun k_ => some k_ ≠ (.slice Ao20 t299.length co20 : Value).ownBlock ∧ some k_ ≠ (.slice Ao28 t309.length co28 : Value).ownBlock) (.slice Ao37 t320.length co37) t320) := ⟨by (with_reducible repeat (first | apply Kd.R_alloc | apply Kd.R_drewN | apply Kd.R_drew)); exact Kd.R_mono (far3 HO322.out BK324) (fun _ hk => ⟨hk.1.1.2, hk.1.2⟩)⟩
    have n9_ : Aside0 ((((w30.setCell ⟨gb324, 0, none⟩ (.slice Ao31 t314.length co31)).setCell ⟨gb324, 1, none⟩ (.slice Ao36 t317.length co36)).setCell ⟨gb324, 2, none⟩ (.slice Ao37 t320.length co37)).heap[gb290]? = some (.cells #[.slice A0_0 l0_0.length c0_0, .slice A0_1 l0_1.length c0_1, .slice A0_2 l0_2.length c0_2] 25 (0, 0))) := ⟨by (with_reducible repeat (first | refine blk_drewN ?_ _ | refine blk_drew ?_ | refine blk_alloc ?_ _)); refine blk_far ?_ NB290_324.out _; (with_reducible repeat (first | refine blk_drewN ?_ _ | refine blk_drew ?_ | refine blk_alloc ?_ _)); refine blk_far ?_ NB290_324.out _; (with_reducible repeat (first | refine blk_drewN ?_ _ | refine blk_drew ?_ | refine blk_alloc ?_ _)); refine blk_far ?_ NB290_324.out _; (with_reducible repeat (first | refine blk_drewN ?_ _ | refine blk_drew ?_ | refine blk_alloc ?_ _)); exact BK290.out⟩
    have n10_ : Aside0 ((((w30.setCell ⟨gb324, 0, none⟩ (.slice Ao31 t314.length co31)).setCell ⟨gb324, 1, none⟩ (.slice Ao36 t317.length co36)).setCell ⟨gb324, 2, none⟩ (.slice Ao37 t320.length co37)).heap[gb302]? = some (.cells #[.slice Ao16 t293.length co16, .slice Ao19 t296.length co19, .slice Ao20 t299.length co20] 25 (0, 0))) := ⟨by (with_reducible repeat (first | refine blk_drewN ?_ _ | refine blk_drew ?_ | refine blk_alloc ?_ _)); refine blk_far ?_ NB302_324.out _; (with_reducible repeat (first | refine blk_drewN ?_ _ | refine blk_drew ?_ | refine blk_alloc ?_ _)); refine blk_far ?_ NB302_324.out _; (with_reducible repeat (first | refine blk_drewN ?_ _ | refine blk_drew ?_ | refine blk_alloc ?_ _)); refine blk_far ?_ NB302_324.out _; (with_reducible repeat (first | refine blk_drewN ?_ _ | refine blk_drew ?_ | refine blk_alloc ?_ _)); exact BK302.out⟩
    have n11_ : Aside0 ((((w30.setCell ⟨gb324, 0, none⟩ (.slice Ao31 t314.length co31)).setCell ⟨gb324, 1, none⟩ (.slice Ao36 t317.length co36)).setCell ⟨gb324, 2, none⟩ (.slice Ao37 t320.length co37)).heap[gb313]? = some (.cells #[.slice Ao23 t303.length co23, .slice Ao27 t306.length co27, .slice Ao28 t309.length co28] 25 (0, 0))) := ⟨by (with_reducible repeat (first | refine blk_drewN ?_ _ | refine blk_drew ?_ | refine blk_alloc ?_ _)); refine blk_far ?_ NB313_324.out _; (with_reducible repeat (first | refine blk_drewN ?_ _ | refine blk_drew ?_ | refine blk_alloc ?_ _)); refine blk_far ?_ NB313_324.out _; (with_reducible repeat (first | refine blk_drewN ?_ _ | refine blk_drew ?_ | refine blk_alloc ?_ _)); refine blk_far ?_ NB313_324.out _; (with_reducible repeat (first | refine blk_drewN ?_ _ | refine blk_drew ?_ | refine blk_alloc ?_ _)); exact BK313.out⟩
    have n12_ : Aside0 ((((w30.setCell ⟨gb324, 0, none⟩ (.slice Ao31 t314.length co31)).setCell ⟨gb324, 1, none⟩ (.slice Ao36 t317.length co36)).setCell ⟨gb324, 2, none⟩ (.slice Ao37 t320.length co37)).heap[gb324]? = some (.cells #[.slice Ao31 t314.length co31, .slice Ao36 t317.length co36, .slice Ao37 t320.length co37] 25 (0, 0))) := ⟨by (with_reducible repeat (first | refine blk_drewN ?_ _ | refine blk_drew ?_ | refine blk_alloc ?_ _)); refine blk_put (cs := #[.slice Ao31 t314.length co31, .slice Ao36 t317.length co36, .slice none 0 0]) ?_ 2 _ rfl; (with_reducible repeat (first | refine blk_drewN ?_ _ | refine blk_drew ?_ | refine blk_alloc ?_ _)); refine blk_put (cs := #[.slice Ao31 t314.length co31, .slice none 0 0, .slice none 0 0]) ?_ 1 _ rfl; (with_reducible repeat (first | refine blk_drewN ?_ _ | refine blk_drew ?_ | refine blk_alloc ?_ _)); refine blk_put (cs := #[.slice none 0 0, .slice none 0 0, .slice none 0 0]) ?_ 0 _ rfl; (with_reducible repeat (first | refine blk_drewN ?_ _ | refine blk_drew ?_ | refine blk_alloc ?_ _)); exact BK324.out⟩
    have n13_ : Aside0 (Below w.heap.size w (((w30.setCell ⟨gb324, 0, none⟩ (.slice Ao31 t314.length co31)).setCell ⟨gb324, 1, none⟩ (.slice Ao36 t317.length co36)).setCell ⟨gb324, 2, none⟩ (.slice Ao37 t320.length co37))) := ⟨upH HB⟩
    (try clear HO295)
    (try clear HO298)
    (try clear HO301)
    (try clear HO305)
    (try clear HO308)
    (try clear HO311)
    (try clear HO316)
    (try clear HO319)
    (try clear HO322)
    (try clear BK290)
    (try clear BK302)
    (try clear BK313)
    (try clear BK324)
    (try clear HB)
    generalize (((w30.setCell ⟨gb324, 0, none⟩ (.slice Ao31 t314.length co31)).setCell ⟨gb324, 1, none⟩ (.slice Ao36 t317.length co36)).setCell ⟨gb324, 2, none⟩ (.slice Ao37 t320.length co37)) = w51 at n0_ n1_ n2_ n3_ n4_ n5_ n6_ n7_ n8_ n9_ n10_ n11_ n12_ n13_ ⊢
    have HO295 := n0_
    have HO298 := n1_
    have HO301 := n2_
    have HO305 := n3_
    have HO308 := n4_
    have HO311 := n5_
    have HO316 := n6_
    have HO319 := n7_
    have HO322 := n8_
    have BK290 := n9_
    have BK302 := n10_
    have BK313 := n11_
    have BK324 := n12_
    have HB := n13_
    clear n0_ n1_ n2_ n3_ n4_ n5_ n6_ n7_ n8_ n9_ n10_ n11_ n12_ n13_
    have n0_ := Aside0.mk (Kd.R_drew HO295.out)
    have n1_ := Aside0.mk (Kd.R_drew HO298.out)
    have n2_ := Aside0.mk (Kd.R_drew HO301.out)
    have n3_ := Aside0.mk (Kd.R_drew HO305.out)
    have n4_ := Aside0.mk (Kd.R_drew HO308.out)
    have n5_ := Aside0.mk (Kd.R_drew HO311.out)
    have n6_ := Aside0.mk (Kd.R_drew HO316.out)
    have n7_ := Aside0.mk (Kd.R_drew HO319.out)
    have n8_ := Aside0.mk (Kd.R_drew HO322.out)
    have n9_ := Aside0.mk (blk_drew BK290.out)
    have n10_ := Aside0.mk (blk_drew BK302.out)
    have n11_ := Aside0.mk (blk_drew BK313.out)
    have n12_ := Aside0.mk (blk_drew BK324.out)
    have n13_ := Aside0.mk (below_drew1 HB.out)
    clear HO295
    clear HO298
    clear HO301
    clear HO305
    clear HO308
    clear HO311
    clear HO316
    clear HO319
    clear HO322
    clear BK290
    clear BK302
    clear BK313
    clear BK324
    clear HB
    have HO295 := n0_
    have HO298 := n1_
    have HO301 := n2_
    have HO305 := n3_
    have HO308 := n4_
    have HO311 := n5_
    have HO316 := n6_
    have HO319 := n7_
    have HO322 := n8_
    have BK290 := n9_
    have BK302 := n10_
    have BK313 := n11_
    have BK324 := n12_
    have HB := n13_
    clear n0_ n1_ n2_ n3_ n4_ n5_ n6_ n7_ n8_ n9_ n10_ n11_ n12_ n13_
    refine start_ (n := 16) (S := fun w' => w'.cell? ⟨gb313, 0, none⟩ = some (.slice Ao23 t303.length co23) ∧ w'.cell? ⟨gb313, 1, none⟩ = some (.slice Ao27 t306.length co27) ∧ w'.cell? ⟨gb313, 2, none⟩ = some (.slice Ao28 t309.length co28) ∧ w'.cell? ⟨gb324, 0, none⟩ = some (.slice Ao31 t314.length co31) ∧ w'.cell? ⟨gb324, 1, none⟩ = some (.slice Ao36 t317.length co36) ∧ w'.cell? ⟨gb324, 2, none⟩ = some (.slice Ao37 t320.length co37)) (ds := []) #[false, false, false, false, false, false, false, false, false, false, false, false, false, false, false, false] (by kernel_rfl) rfl rfl ⟨(blk_cell BK313.out 0).trans rfl, (blk_cell BK313.out 1).trans rfl, (blk_cell BK313.out 2).trans rfl, (blk_cell BK324.out 0).trans rfl, (blk_cell BK324.out 1).trans rfl, (blk_cell BK324.out 2).trans rfl⟩ (fun hHeld => ?_); refine with_tabW headgatelaw07_LruChanges.tab6 headgatelaw07_LruChanges.bits6 (fun HT_ HW_ => ?_)
    generalize w51.drew = w52 at HO295 HO298 HO301 HO305 HO308 HO311 HO316 HO319 HO322 BK290 BK302 BK313 BK324 HB hHeld ⊢
    refine take_ (i := 0) (N := some 32) (v := ?_) (a' := ?_) #[true, false, false, false, false, false, false, false, false, false, false, false, false, false, false, false] rfl rfl (take_ofW HT_.out HW_.out (by kernel_rfl)) (fun _ _ _ h => h) (Or.inl ⟨by rfl, ?_⟩) hHeld ?_ ?_
    rotate_left
    ·
     rintro w' ⟨s0, s1, s2, s3, s4, s5⟩
     go_simp
     with_reducible rfl
    rotate_left
    ·
     simp only [Act.put, List.setIfInBounds_toArray, List.set_cons_zero, List.set_cons_succ, i64_w, i32_w]
     rfl
    refine take_ (i := 1) (N := some 33) (v := ?_) (a' := ?_) #[true, true, false, false, false, false, false, false, false, false, false, false, false, false, false, false] rfl rfl (take_ofW HT_.out HW_.out (by kernel_rfl)) (fun _ _ _ h => h) (Or.inl ⟨by rfl, ?_⟩) hHeld ?_ ?_
    rotate_left
    ·
     rintro w' ⟨s0, s1, s2, s3, s4, s5⟩
     go_simp
     with_reducible rfl
    rotate_left
    ·
     simp only [Act.put, List.setIfInBounds_toArray, List.set_cons_zero, List.set_cons_succ, i64_w, i32_w]
     rfl
    refine one_ (i := 2) (N := some 34) #[true, true, true, false, false, false, false, false, false, false, false, false, false, false, false, false] rfl rfl (one_of HT_.out (by kernel_rfl)) (by decide) (fun K hK => ?_)
    refine goes_ Try.func15 (by kernel_rfl) rfl #[.agg #[.slice Ao23 t303.length co23, .slice Ao27 t306.length co27, .slice Ao28 t309.length co28], .agg #[.slice Ao31 t314.length co31, .slice Ao36 t317.length co36, .slice Ao37 t320.length co37]] (by rfl) rfl rfl (args_ (p := _)) ?_
    with_reducible refine (headgatekit_SameLists.calls k _ _ t303 _ _ t306 _ _ t309 _ _ t314 _ _ t317 _ _ t320 false _ ?side1 ?side2 ?side3 ?side4 ?side5 ?side6 ?side7 ?side8 ?side9 ?side10 ?side11 ?side12 A38.out).mono ?_
    (case side1 => exact upc (Kd.R_reads' HO305.out).2.2)
    (case side2 => exact (Kd.R_reads' HO305.out).2.1)
    (case side3 => exact upc (Kd.R_reads' HO308.out).2.2)
    (case side4 => exact (Kd.R_reads' HO308.out).2.1)
    (case side5 => exact upc (Kd.R_reads' HO311.out).2.2)
    (case side6 => exact (Kd.R_reads' HO311.out).2.1)
    (case side7 => exact upc (Kd.R_reads' HO316.out).2.2)
    (case side8 => exact (Kd.R_reads' HO316.out).2.1)
    (case side9 => exact upc (Kd.R_reads' HO319.out).2.2)
    (case side10 => exact (Kd.R_reads' HO319.out).2.1)
    (case side11 => exact upc (Kd.R_reads' HO322.out).2.2)
    (case side12 => exact (Kd.R_reads' HO322.out).2.1)
    rintro e w53 ⟨rfl, hb⟩
    refine ⟨_, rfl, ?_⟩
    have n0_ := Aside0.mk (Kd.R_below (upR HO295.out) hb)
    have n1_ := Aside0.mk (Kd.R_below (upR HO298.out) hb)
    have n2_ := Aside0.mk (Kd.R_below (upR HO301.out) hb)
    have n3_ := Aside0.mk (Kd.R_below (upR HO305.out) hb)
    have n4_ := Aside0.mk (Kd.R_below (upR HO308.out) hb)
    have n5_ := Aside0.mk (Kd.R_below (upR HO311.out) hb)
    have n6_ := Aside0.mk (Kd.R_below (upR HO316.out) hb)
    have n7_ := Aside0.mk (Kd.R_below (upR HO319.out) hb)
    have n8_ := Aside0.mk (Kd.R_below (upR HO322.out) hb)
    have n9_ := Aside0.mk (blkB BK290 hb)
    have n10_ := Aside0.mk (blkB BK302 hb)
    have n11_ := Aside0.mk (blkB BK313 hb)
    have n12_ := Aside0.mk (blkB BK324 hb)
    have n13_ := Aside0.mk (below_step (upH HB) hb)
    clear HO295
    clear HO298
    clear HO301
    clear HO305
    clear HO308
    clear HO311
    clear HO316
    clear HO319
    clear HO322
    clear BK290
    clear BK302
    clear BK313
    clear BK324
    clear HB
    have HO295 := n0_
    have HO298 := n1_
    have HO301 := n2_
    have HO305 := n3_
    have HO308 := n4_
    have HO311 := n5_
    have HO316 := n6_
    have HO319 := n7_
    have HO322 := n8_
    have BK290 := n9_
    have BK302 := n10_
    have BK313 := n11_
    have BK324 := n12_
    have HB := n13_
    clear n0_ n1_ n2_ n3_ n4_ n5_ n6_ n7_ n8_ n9_ n10_ n11_ n12_ n13_
    (try clear hb)
    (try clear hb2)
    (try clear hk)
    (try clear hi)
    refine hK.out _ _ ⟨(blk_cell BK313.out 0).trans rfl, (blk_cell BK313.out 1).trans rfl, (blk_cell BK313.out 2).trans rfl, (blk_cell BK324.out 0).trans rfl, (blk_cell BK324.out 1).trans rfl, (blk_cell BK324.out 2).trans rfl⟩ (fun hHeld => ?_)
    clear hK K
    refine norm_ (a' := ?_) ?_ ?_
    rotate_left
    ·
     show Act.put _ (some 34) _ = _
     simp only [Act.put, List.setIfInBounds_toArray, List.set_cons_zero, List.set_cons_succ, i64_w, i32_w]
     rfl
    refine pure_ (i := 3) (N := some 35) (v := ?_) (a' := ?_) #[true, true, true, true, false, false, false, false, false, false, false, false, false, false, false, false] rfl rfl (any_of HT_.out (by kernel_rfl)) (fun _ _ _ h => h) (Or.inl ⟨by rfl, ?_⟩) ?_ ?_
    rotate_left
    ·
     intro w'
     go_simp
     with_reducible rfl
    rotate_left
    ·
     simp only [Act.put, List.setIfInBounds_toArray, List.set_cons_zero, List.set_cons_succ, i64_w, i32_w]
     rfl
    refine pure_ (i := 4) (N := some 36) (v := ?_) (a' := ?_) #[true, true, true, true, true, false, false, false, false, false, false, false, false, false, false, false] rfl rfl (any_of HT_.out (by kernel_rfl)) (fun _ _ _ h => h) (Or.inl ⟨by rfl, ?_⟩) ?_ ?_
    rotate_left
    ·
     intro w'
     go_simp
     with_reducible rfl
    rotate_left
    ·
     simp only [Act.put, List.setIfInBounds_toArray, List.set_cons_zero, List.set_cons_succ, i64_w, i32_w]
     rfl
    refine pure_ (i := 5) (N := some 37) (v := undef) (a' := ?_) #[true, true, true, true, true, true, false, false, false, false, false, false, false, false, false, false] rfl rfl (any_of HT_.out (by kernel_rfl)) (fun _ _ _ h => h) (Or.inr ⟨by rfl, rfl⟩) ?_ ?_
    rotate_left
    ·
     simp only [Act.put, List.setIfInBounds_toArray, List.set_cons_zero, List.set_cons_succ, i64_w, i32_w]
     rfl
    refine pure_ (i := 6) (N := some 38) (v := undef) (a' := ?_) #[true, true, true, true, true, true, true, false, false, false, false, false, false, false, false, false] rfl rfl (any_of HT_.out (by kernel_rfl)) (fun _ _ _ h => h) (Or.inr ⟨by rfl, rfl⟩) ?_ ?_
    rotate_left
    ·
     simp only [Act.put, List.setIfInBounds_toArray, List.set_cons_zero, List.set_cons_succ, i64_w, i32_w]
     rfl
    refine pure_ (i := 7) (N := some 39) (v := undef) (a' := ?_) #[true, true, true, true, true, true, true, true, false, false, false, false, false, false, false, false] rfl rfl (any_of HT_.out (by kernel_rfl)) (fun _ _ _ h => h) (Or.inr ⟨by rfl, rfl⟩) ?_ ?_
    rotate_left
    ·
     simp only [Act.put, List.setIfInBounds_toArray, List.set_cons_zero, List.set_cons_succ, i64_w, i32_w]
     rfl
    refine pure_ (i := 8) (N := some 40) (v := ?_) (a' := ?_) #[true, true, true, true, true, true, true, true, true, false, false, false, false, false, false, false] rfl rfl (any_of HT_.out (by kernel_rfl)) (fun _ _ _ h => h) (Or.inl ⟨by rfl, ?_⟩) ?_ ?_
    rotate_left
    ·
     intro w'
     go_simp
     with_reducible rfl
    rotate_left
    ·
     simp only [Act.put, List.setIfInBounds_toArray, List.set_cons_zero, List.set_cons_succ, i64_w, i32_w]
     rfl
    refine pure_ (i := 9) (N := some 41) (v := ?_) (a' := ?_) #[true, true, true, true, true, true, true, true, true, true, false, false, false, false, false, false] rfl rfl (any_of HT_.out (by kernel_rfl)) (fun _ _ _ h => h) (Or.inl ⟨by rfl, ?_⟩) ?_ ?_
    rotate_left
    ·
     intro w'
     go_simp
     with_reducible rfl
    rotate_left
    ·
     simp only [Act.put, List.setIfInBounds_toArray, List.set_cons_zero, List.set_cons_succ, i64_w, i32_w]
     rfl
    refine pure_ (i := 10) (N := some 42) (v := undef) (a' := ?_) #[true, true, true, true, true, true, true, true, true, true, true, false, false, false, false, false] rfl rfl (any_of HT_.out (by kernel_rfl)) (fun _ _ _ h => h) (Or.inr ⟨by rfl, rfl⟩) ?_ ?_
    rotate_left
    ·
     simp only [Act.put, List.setIfInBounds_toArray, List.set_cons_zero, List.set_cons_succ, i64_w, i32_w]
     rfl
    refine pure_ (i := 11) (N := some 43) (v := undef) (a' := ?_) #[true, true, true, true, true, true, true, true, true, true, true, true, false, false, false, false] rfl rfl (any_of HT_.out (by kernel_rfl)) (fun _ _ _ h => h) (Or.inr ⟨by rfl, rfl⟩) ?_ ?_
    rotate_left
    ·
     simp only [Act.put, List.setIfInBounds_toArray, List.set_cons_zero, List.set_cons_succ, i64_w, i32_w]
     rfl
    refine pure_ (i := 12) (N := some 44) (v := undef) (a' := ?_) #[true, true, true, true, true, true, true, true, true, true, true, true, true, false, false, false] rfl rfl (any_of HT_.out (by kernel_rfl)) (fun _ _ _ h => h) (Or.inr ⟨by rfl, rfl⟩) ?_ ?_
    rotate_left
    ·
     simp only [Act.put, List.setIfInBounds_toArray, List.set_cons_zero, List.set_cons_succ, i64_w, i32_w]
     rfl
    refine pure_ (i := 13) (N := some 45) (v := undef) (a' := ?_) #[true, true, true, true, true, true, true, true, true, true, true, true, true, true, false, false] rfl rfl (any_of HT_.out (by kernel_rfl)) (fun _ _ _ h => h) (Or.inr ⟨by rfl, rfl⟩) ?_ ?_
    rotate_left
    ·
     simp only [Act.put, List.setIfInBounds_toArray, List.set_cons_zero, List.set_cons_succ, i64_w, i32_w]
     rfl
    refine pure_ (i := 14) (N := some 46) (v := undef) (a' := ?_) #[true, true, true, true, true, true, true, true, true, true, true, true, true, true, true, false] rfl rfl (any_of HT_.out (by kernel_rfl)) (fun _ _ _ h => h) (Or.inr ⟨by rfl, rfl⟩) ?_ ?_
    rotate_left
    ·
     simp only [Act.put, List.setIfInBounds_toArray, List.set_cons_zero, List.set_cons_succ, i64_w, i32_w]
     rfl
    refine pure_ (i := 15) (N := some 47) (v := ?_) (a' := ?_) #[true, true, true, true, true, true, true, true, true, true, true, true, true, true, true, true] rfl rfl (any_of HT_.out (by kernel_rfl)) (fun _ _ _ h => h) (Or.inl ⟨by rfl, ?_⟩) ?_ ?_
    rotate_left
    ·
     intro w'
     go_simp
     with_reducible rfl
    rotate_left
    ·
     simp only [Act.put, List.setIfInBounds_toArray, List.set_cons_zero, List.set_cons_succ, i64_w, i32_w]
     rfl
    refine done_ (done_of HT_.out (by kernel_rfl)) ?_
    try go_wp2
    go_meet
    case rel => exact ⟨_, (true), (by first | rfl | (simp; done) | (simp [*]; done)), H', ⟨by first | omega | exact Nat.le_refl _⟩, ⟨upR HO295.out⟩, ⟨upR HO298.out⟩, ⟨upR HO301.out⟩, ⟨upR HO305.out⟩, ⟨upR HO308.out⟩, ⟨upR HO311.out⟩, ⟨upR HO316.out⟩, ⟨upR HO319.out⟩, ⟨upR HO322.out⟩, ⟨upB BK290⟩, ⟨upB BK302⟩, ⟨upB BK313⟩, ⟨upB BK324⟩, ⟨upH HB⟩⟩
  case rest =>
   clear HC9
   try clear c1
   try clear p2
   try clear c3
   try clear c4
   try clear c15
   try clear c39
   try clear c40
   try clear c40b0
   try clear c40b1
   obtain ⟨kq, x47_8, rfl, HA, HJ8, HO_303000, HO_303001, HO_303002, HO_314000, HO_314001, HO_314002, HO_325000, HO_325001, HO_325002, BK290, BK302, BK313, BK324, HB⟩ := hcut
   cases kq with
   | zero => exact absurd HA.out (by simp [headgatelaw07_LruChanges.j0])
   | succ kj8 =>
    have H := HA.out
    clear HA
    simp only [headgatelaw07_LruChanges.j0] at H
    by_cases c54 : x47_8 = true
    ·
     subst c54
     have H1 : (some false) = some r := by rw [if_pos rfl] at H; exact H
     clear H
     have H := H1
     clear H1
     exact absurd H (by rw [HT.out]; simp)
    · as_aux_lemma =>
     replace c54 := Bool.eq_false_iff.mpr c54
     subst c54
     have H1 : ((lru_Add.f kj8 t293 t296 t299 a1).bind fun bt328 => ((headgateref07_Add.f kj8 l0_0 l0_1 l0_2 a1).bind fun bt338 => ((headgatekit_SameLists.f kj8 bt328.1 bt328.2.1 bt328.2.2.1 bt338.1 bt338.2.1 bt338.2.2.1).bind fun t348 => (if t348 = true then (headgatelaw07_LruChanges.j1 kj8 a1 (bt328.2.2.2 != bt338.2.2.2) l0_0 l0_1 l0_2 t293 t296 t299) else (headgatelaw07_LruChanges.j1 kj8 a1 true l0_0 l0_1 l0_2 t293 t296 t299))))) = some r := by rw [if_neg (show ¬ (false = true) by decide)] at H; exact H
     clear H
     have H := H1
     clear H1
     replace H := Option.bind_eq_some_iff.mp H
     obtain ⟨⟨t328, t331, t334, t337⟩, A550, H⟩ := H
     replace H : ((headgateref07_Add.f kj8 l0_0 l0_1 l0_2 a1).bind fun bt338 => ((headgatekit_SameLists.f kj8 t328 t331 t334 bt338.1 bt338.2.1 bt338.2.2.1).bind fun t348 => (if t348 = true then (headgatelaw07_LruChanges.j1 kj8 a1 (t337 != bt338.2.2.2) l0_0 l0_1 l0_2 t293 t296 t299) else (headgatelaw07_LruChanges.j1 kj8 a1 true l0_0 l0_1 l0_2 t293 t296 t299)))) = some r := H
     have A55 := Aside0.mk A550
     clear A550
     replace H := Option.bind_eq_some_iff.mp H
     obtain ⟨⟨t338, t341, t344, t347⟩, A560, H⟩ := H
     replace H : ((headgatekit_SameLists.f kj8 t328 t331 t334 t338 t341 t344).bind fun t348 => (if t348 = true then (headgatelaw07_LruChanges.j1 kj8 a1 (t337 != t347) l0_0 l0_1 l0_2 t293 t296 t299) else (headgatelaw07_LruChanges.j1 kj8 a1 true l0_0 l0_1 l0_2 t293 t296 t299))) = some r := H
     have A56 := Aside0.mk A560
     clear A560
     have HC57 := Aside0.mk H
     clear H
     have hnb58 := NB302_290.out
     have hnc58 := NB290_302.out
     have hnb59 := NB302_313.out
     have hnc59 := NB313_302.out
     have hnb60 := NB302_324.out
     have hnc60 := NB324_302.out
     have hcz61_0 := cell0 BK302
     have hcz61_1 := cell1 BK302
     have hcz61_2 := cell2 BK302
     have hfz61_0 := blk_frozen BK302.out 0
     have hfz61_1 := blk_frozen BK302.out 1
     have hfz61_2 := blk_frozen BK302.out 2
     go_upto_region 10 with (first | ((with_reducible refine gate_callee (f := 18) rfl ?_); refine goesL_ (some 51) rfl rfl Try.func18 (by kernel_rfl) rfl #[.agg #[.slice Ao16 t293.length co16, .slice Ao19 t296.length co19, .slice Ao20 t299.length co20], .int .i64 a1] rfl (args_ (p := _)) ?_; (with_reducible refine (lru_Add.calls kj8 _ _ t293 _ _ t296 _ _ t299 a1 t328 t331 t334 t337 _ ?side1 ?side2 ?side3 ?side4 ?side5 ?side6 A55.out).mono ?_); (case side1 => exact upc (Kd.R_reads' HO_303000.out).2.2); (case side2 => exact (Kd.R_reads' HO_303000.out).2.1); (case side3 => exact upc (Kd.R_reads' HO_303001.out).2.2); (case side4 => exact (Kd.R_reads' HO_303001.out).2.1); (case side5 => exact upc (Kd.R_reads' HO_303002.out).2.2); (case side6 => exact (Kd.R_reads' HO_303002.out).2.1); rintro e w62 ⟨v329, v332, v335, rfl, ho0, ho1, ho2, hb⟩; refine ⟨_, rfl, ?_⟩; have n0_ := Aside0.mk (Kd.R_mono (Kd.R_told (Kd.R_told (Kd.R_old (upR HO_303000.out) hb) (Kd.R_base ho0)) (Kd.R_base ho1)) (fun _ h_ => h_.1)); have n1_ := Aside0.mk (Kd.R_mono (Kd.R_told (Kd.R_told (Kd.R_old (upR HO_303001.out) hb) (Kd.R_base ho0)) (Kd.R_base ho1)) (fun _ h_ => h_.1)); have n2_ := Aside0.mk (Kd.R_elder' (upR HO_303002.out) (Kd.R_base ho2) hb); have n3_ := Aside0.mk (Kd.R_mono (Kd.R_told (Kd.R_told (Kd.R_old (upR HO_314000.out) hb) (Kd.R_base ho0)) (Kd.R_base ho1)) (fun _ h_ => h_.1)); have n4_ := Aside0.mk (Kd.R_mono (Kd.R_told (Kd.R_told (Kd.R_old (upR HO_314001.out) hb) (Kd.R_base ho0)) (Kd.R_base ho1)) (fun _ h_ => h_.1)); have n5_ := Aside0.mk (Kd.R_elder' (upR HO_314002.out) (Kd.R_base ho2) hb); have n6_ := Aside0.mk (Kd.R_mono (Kd.R_told (Kd.R_told (Kd.R_old (upR HO_325000.out) hb) (Kd.R_base ho0)) (Kd.R_base ho1)) (fun _ h_ => h_.1)); have n7_ := Aside0.mk (Kd.R_mono (Kd.R_told (Kd.R_told (Kd.R_old (upR HO_325001.out) hb) (Kd.R_base ho0)) (Kd.R_base ho1)) (fun _ h_ => h_.1)); have n8_ := Aside0.mk (Kd.R_elder' (upR HO_325002.out) (Kd.R_base ho2) hb); have n9_ := Aside0.mk (Kd.R_lower (Kd.R_new' (Kd.R_new' (Kd.R_new' (Kd.R_new' (Kd.R_new' (Kd.R_new' ho0 (Kd.R_lt (upR HO_303000.out))) (Kd.R_lt (upR HO_303001.out))) (Kd.R_lt (upR HO_314000.out))) (Kd.R_lt (upR HO_314001.out))) (Kd.R_lt (upR HO_325000.out))) (Kd.R_lt (upR HO_325001.out))) (below_size (upH HB))); have n10_ := Aside0.mk (Kd.R_lower (Kd.R_new' (Kd.R_new' (Kd.R_new' (Kd.R_new' (Kd.R_new' (Kd.R_new' ho1 (Kd.R_lt (upR HO_303000.out))) (Kd.R_lt (upR HO_303001.out))) (Kd.R_lt (upR HO_314000.out))) (Kd.R_lt (upR HO_314001.out))) (Kd.R_lt (upR HO_325000.out))) (Kd.R_lt (upR HO_325001.out))) (below_size (upH HB))); have n11_ := Aside0.mk (Kd.R_lower (Kd.R_new' (Kd.R_new' (Kd.R_new' ho2 (Kd.R_lt (upR HO_303002.out))) (Kd.R_lt (upR HO_314002.out))) (Kd.R_lt (upR HO_325002.out))) (below_size (upH HB))); have n12_ := Aside0.mk (blkB BK290 hb); have n13_ := Aside0.mk (blkB BK302 hb); have n14_ := Aside0.mk (blkB BK313 hb); have n15_ := Aside0.mk (blkB BK324 hb); have n16_ := Aside0.mk (below_step (upH HB) hb); clear HO_303000; clear HO_303001; clear HO_303002; clear HO_314000; clear HO_314001; clear HO_314002; clear HO_325000; clear HO_325001; clear HO_325002; clear BK290; clear BK302; clear BK313; clear BK324; clear HB; have HO_303000 := n0_; have HO_303001 := n1_; have HO_303002 := n2_; have HO_314000 := n3_; have HO_314001 := n4_; have HO_314002 := n5_; have HO_325000 := n6_; have HO_325001 := n7_; have HO_325002 := n8_; have HO330 := n9_; have HO333 := n10_; have HO336 := n11_; have BK290 := n12_; have BK302 := n13_; have BK313 := n14_; have BK324 := n15_; have HB := n16_; clear n0_ n1_ n2_ n3_ n4_ n5_ n6_ n7_ n8_ n9_ n10_ n11_ n12_ n13_ n14_ n15_ n16_; (try clear hb); (try clear hb2); (try clear hk); (try clear hi); (try clear ho0); (try clear ho1); (try clear ho2); obtain ⟨Ao63, co63, eo63⟩ := Kd.R_slice HO330.out; subst eo63; have hnb64 := NB313_290.out; have hnc64 := NB290_313.out; have hnb65 := NB313_324.out; have hnc65 := NB324_313.out; have hcz66_0 := cell0 BK313; have hcz66_1 := cell1 BK313; have hcz66_2 := cell2 BK313; have hfz66_0 := blk_frozen BK313.out 0; have hfz66_1 := blk_frozen BK313.out 1; have hfz66_2 := blk_frozen BK313.out 2; obtain ⟨Ao67, co67, eo67⟩ := Kd.R_slice HO333.out; subst eo67; obtain ⟨Ao68, co68, eo68⟩ := Kd.R_slice HO336.out; subst eo68; have hnb69 := NB290_324.out; have hnc69 := NB324_290.out; have hcz70_0 := cell0 BK290; have hcz70_1 := cell1 BK290; have hcz70_2 := cell2 BK290; have hfz70_0 := blk_frozen BK290.out 0; have hfz70_1 := blk_frozen BK290.out 1; have hfz70_2 := blk_frozen BK290.out 2) | ((with_reducible refine gate_callee (f := 19) rfl ?_); refine goesL_ (some 57) rfl rfl Try.func19 (by kernel_rfl) rfl #[.agg #[.slice A0_0 l0_0.length c0_0, .slice A0_1 l0_1.length c0_1, .slice A0_2 l0_2.length c0_2], .int .i64 a1] rfl (args_ (p := _)) ?_; (with_reducible refine (headgateref07_Add.calls kj8 _ _ l0_0 _ _ l0_1 _ _ l0_2 a1 t338 t341 t344 t347 _ ?side1 ?side2 ?side3 ?side4 ?side5 ?side6 A56.out).mono ?_); (case side1 => exact Kd.C_below HR0_0.out (upH HB)); (case side2 => exact HC0_0.out); (case side3 => exact Kd.C_below HR0_1.out (upH HB)); (case side4 => exact HC0_1.out); (case side5 => exact Kd.C_below HR0_2.out (upH HB)); (case side6 => exact HC0_2.out); rintro e w71 ⟨v339, v342, v345, rfl, ho0, ho1, ho2, hb⟩; refine ⟨_, rfl, ?_⟩; have n0_ := Aside0.mk (Kd.R_mono (Kd.R_told (Kd.R_told (Kd.R_old (upR (Kd.R_mono (far3 HO_303000.out BK313) (fun _ h_ => h_.1))) hb) (Kd.R_base ho0)) (Kd.R_base ho1)) (fun _ h_ => h_.1)); have n1_ := Aside0.mk (Kd.R_mono (Kd.R_told (Kd.R_told (Kd.R_old (upR (Kd.R_mono (far3 HO_303001.out BK313) (fun _ h_ => h_.1))) hb) (Kd.R_base ho0)) (Kd.R_base ho1)) (fun _ h_ => h_.1)); have n2_ := Aside0.mk (Kd.R_elder' (upR (Kd.R_mono (far3 HO_303002.out BK313) (fun _ h_ => h_.1))) (Kd.R_base ho2) hb); have n3_ := Aside0.mk (Kd.R_mono (Kd.R_told (Kd.R_told (Kd.R_old (upR (Kd.R_mono (far3 HO_314000.out BK313) (fun _ h_ => h_.1))) hb) (Kd.R_base ho0)) (Kd.R_base ho1)) (fun _ h_ => h_.1)); have n4_ := Aside0.mk (Kd.R_mono (Kd.R_told (Kd.R_told (Kd.R_old (upR (Kd.R_mono (far3 HO_314001.out BK313) (fun _ h_ => h_.1))) hb) (Kd.R_base ho0)) (Kd.R_base ho1)) (fun _ h_ => h_.1)); have n5_ := Aside0.mk (Kd.R_elder' (upR (Kd.R_mono (far3 HO_314002.out BK313) (fun _ h_ => h_.1))) (Kd.R_base ho2) hb); have n6_ := Aside0.mk (Kd.R_mono (Kd.R_told (Kd.R_told (Kd.R_old (upR (Kd.R_mono (far3 HO_325000.out BK313) (fun _ h_ => h_.1))) hb) (Kd.R_base ho0)) (Kd.R_base ho1)) (fun _ h_ => h_.1)); have n7_ := Aside0.mk (Kd.R_mono (Kd.R_told (Kd.R_told (Kd.R_old (upR (Kd.R_mono (far3 HO_325001.out BK313) (fun _ h_ => h_.1))) hb) (Kd.R_base ho0)) (Kd.R_base ho1)) (fun _ h_ => h_.1)); have n8_ := Aside0.mk (Kd.R_elder' (upR (Kd.R_mono (far3 HO_325002.out BK313) (fun _ h_ => h_.1))) (Kd.R_base ho2) hb); have n9_ := Aside0.mk (Kd.R_mono (Kd.R_told (Kd.R_told (Kd.R_old (upR (Kd.R_mono (far3 HO330.out BK313) (fun _ h_ => h_.1))) hb) (Kd.R_base ho0)) (Kd.R_base ho1)) (fun _ h_ => h_.1)); have n10_ := Aside0.mk (Kd.R_mono (Kd.R_told (Kd.R_told (Kd.R_old (upR (Kd.R_mono (far3 HO333.out BK313) (fun _ h_ => h_.1))) hb) (Kd.R_base ho0)) (Kd.R_base ho1)) (fun _ h_ => h_.1)); have n11_ := Aside0.mk (Kd.R_elder' (upR (Kd.R_mono (far3 HO336.out BK313) (fun _ h_ => h_.1))) (Kd.R_base ho2) hb); have n12_ := Aside0.mk (Kd.R_lower (Kd.R_new' (Kd.R_new' (Kd.R_new' (Kd.R_new' (Kd.R_new' (Kd.R_new' (Kd.R_new' (Kd.R_new' ho0 (Kd.R_lt (upR (Kd.R_mono (far3 HO_303000.out BK313) (fun _ h_ => h_.1))))) (Kd.R_lt (upR (Kd.R_mono (far3 HO_303001.out BK313) (fun _ h_ => h_.1))))) (Kd.R_lt (upR (Kd.R_mono (far3 HO_314000.out BK313) (fun _ h_ => h_.1))))) (Kd.R_lt (upR (Kd.R_mono (far3 HO_314001.out BK313) (fun _ h_ => h_.1))))) (Kd.R_lt (upR (Kd.R_mono (far3 HO_325000.out BK313) (fun _ h_ => h_.1))))) (Kd.R_lt (upR (Kd.R_mono (far3 HO_325001.out BK313) (fun _ h_ => h_.1))))) (Kd.R_lt (upR (Kd.R_mono (far3 HO330.out BK313) (fun _ h_ => h_.1))))) (Kd.R_lt (upR (Kd.R_mono (far3 HO333.out BK313) (fun _ h_ => h_.1))))) (below_size (upH HB))); have n13_ := Aside0.mk (Kd.R_lower (Kd.R_new' (Kd.R_new' (Kd.R_new' (Kd.R_new' (Kd.R_new' (Kd.R_new' (Kd.R_new' (Kd.R_new' ho1 (Kd.R_lt (upR (Kd.R_mono (far3 HO_303000.out BK313) (fun _ h_ => h_.1))))) (Kd.R_lt (upR (Kd.R_mono (far3 HO_303001.out BK313) (fun _ h_ => h_.1))))) (Kd.R_lt (upR (Kd.R_mono (far3 HO_314000.out BK313) (fun _ h_ => h_.1))))) (Kd.R_lt (upR (Kd.R_mono (far3 HO_314001.out BK313) (fun _ h_ => h_.1))))) (Kd.R_lt (upR (Kd.R_mono (far3 HO_325000.out BK313) (fun _ h_ => h_.1))))) (Kd.R_lt (upR (Kd.R_mono (far3 HO_325001.out BK313) (fun _ h_ => h_.1))))) (Kd.R_lt (upR (Kd.R_mono (far3 HO330.out BK313) (fun _ h_ => h_.1))))) (Kd.R_lt (upR (Kd.R_mono (far3 HO333.out BK313) (fun _ h_ => h_.1))))) (below_size (upH HB))); have n14_ := Aside0.mk (Kd.R_lower (Kd.R_new' (Kd.R_new' (Kd.R_new' (Kd.R_new' ho2 (Kd.R_lt (upR (Kd.R_mono (far3 HO_303002.out BK313) (fun _ h_ => h_.1))))) (Kd.R_lt (upR (Kd.R_mono (far3 HO_314002.out BK313) (fun _ h_ => h_.1))))) (Kd.R_lt (upR (Kd.R_mono (far3 HO_325002.out BK313) (fun _ h_ => h_.1))))) (Kd.R_lt (upR (Kd.R_mono (far3 HO336.out BK313) (fun _ h_ => h_.1))))) (below_size (upH HB))); have n15_ := Aside0.mk (blk_below (g := gb290) (o := .cells #[.slice A0_0 l0_0.length c0_0, .slice A0_1 l0_1.length c0_1, .slice A0_2 l0_2.length c0_2] 25 (0, 0)) (by (with_reducible repeat (first | refine blk_drewN ?_ _ | refine blk_drew ?_ | refine blk_alloc ?_ _)); refine blk_far ?_ NB290_313.out _; (with_reducible repeat (first | refine blk_drewN ?_ _ | refine blk_drew ?_ | refine blk_alloc ?_ _)); refine blk_far ?_ NB290_313.out _; (with_reducible repeat (first | refine blk_drewN ?_ _ | refine blk_drew ?_ | refine blk_alloc ?_ _)); refine blk_far ?_ NB290_313.out _; (with_reducible repeat (first | refine blk_drewN ?_ _ | refine blk_drew ?_ | refine blk_alloc ?_ _)); exact BK290.out) hb); have n16_ := Aside0.mk (blk_below (g := gb302) (o := .cells #[.slice Ao16 t293.length co16, .slice Ao19 t296.length co19, .slice Ao20 t299.length co20] 25 (0, 0)) (by (with_reducible repeat (first | refine blk_drewN ?_ _ | refine blk_drew ?_ | refine blk_alloc ?_ _)); refine blk_far ?_ NB302_313.out _; (with_reducible repeat (first | refine blk_drewN ?_ _ | refine blk_drew ?_ | refine blk_alloc ?_ _)); refine blk_far ?_ NB302_313.out _; (with_reducible repeat (first | refine blk_drewN ?_ _ | refine blk_drew ?_ | refine blk_alloc ?_ _)); refine blk_far ?_ NB302_313.out _; (with_reducible repeat (first | refine blk_drewN ?_ _ | refine blk_drew ?_ | refine blk_alloc ?_ _)); exact BK302.out) hb); have n17_ := Aside0.mk (blk_below (g := gb313) (o := .cells #[.slice Ao63 t328.length co63, .slice Ao67 t331.length co67, .slice Ao68 t334.length co68] 25 (0, 0)) (by (with_reducible repeat (first | refine blk_drewN ?_ _ | refine blk_drew ?_ | refine blk_alloc ?_ _)); refine blk_put (cs := #[.slice Ao63 t328.length co63, .slice Ao67 t331.length co67, .slice Ao28 t309.length co28]) ?_ 2 _ rfl; (with_reducible repeat (first | refine blk_drewN ?_ _ | refine blk_drew ?_ | refine blk_alloc ?_ _)); refine blk_put (cs := #[.slice Ao63 t328.length co63, .slice Ao27 t306.length co27, .slice Ao28 t309.length co28]) ?_ 1 _ rfl; (with_reducible repeat (first | refine blk_drewN ?_ _ | refine blk_drew ?_ | refine blk_alloc ?_ _)); refine blk_put (cs := #[.slice Ao23 t303.length co23, .slice Ao27 t306.length co27, .slice Ao28 t309.length co28]) ?_ 0 _ rfl; (with_reducible repeat (first | refine blk_drewN ?_ _ | refine blk_drew ?_ | refine blk_alloc ?_ _)); exact BK313.out) hb); have n18_ := Aside0.mk (blk_below (g := gb324) (o := .cells #[.slice Ao31 t314.length co31, .slice Ao36 t317.length co36, .slice Ao37 t320.length co37] 25 (0, 0)) (by (with_reducible repeat (first | refine blk_drewN ?_ _ | refine blk_drew ?_ | refine blk_alloc ?_ _)); refine blk_far ?_ NB324_313.out _; (with_reducible repeat (first | refine blk_drewN ?_ _ | refine blk_drew ?_ | refine blk_alloc ?_ _)); refine blk_far ?_ NB324_313.out _; (with_reducible repeat (first | refine blk_drewN ?_ _ | refine blk_drew ?_ | refine blk_alloc ?_ _)); refine blk_far ?_ NB324_313.out _; (with_reducible repeat (first | refine blk_drewN ?_ _ | refine blk_drew ?_ | refine blk_alloc ?_ _)); exact BK324.out) hb); have n19_ := Aside0.mk (below_step (upH HB) hb); clear HO_303000; clear HO_303001; clear HO_303002; clear HO_314000; clear HO_314001; clear HO_314002; clear HO_325000; clear HO_325001; clear HO_325002; clear HO330; clear HO333; clear HO336; clear BK290; clear BK302; clear BK313; clear BK324; clear HB; have HO_303000 := n0_; have HO_303001 := n1_; have HO_303002 := n2_; have HO_314000 := n3_; have HO_314001 := n4_; have HO_314002 := n5_; have HO_325000 := n6_; have HO_325001 := n7_; have HO_325002 := n8_; have HO330 := n9_; have HO333 := n10_; have HO336 := n11_; have HO340 := n12_; have HO343 := n13_; have HO346 := n14_; have BK290 := n15_; have BK302 := n16_; have BK313 := n17_; have BK324 := n18_; have HB := n19_; clear n0_ n1_ n2_ n3_ n4_ n5_ n6_ n7_ n8_ n9_ n10_ n11_ n12_ n13_ n14_ n15_ n16_ n17_ n18_ n19_; (try clear hb); (try clear hb2); (try clear hk); (try clear hi); (try clear ho0); (try clear ho1); (try clear ho2); obtain ⟨Ao72, co72, eo72⟩ := Kd.R_slice HO340.out; subst eo72; have hcz73_0 := cell0 BK324; have hcz73_1 := cell1 BK324; have hcz73_2 := cell2 BK324; have hfz73_0 := blk_frozen BK324.out 0; have hfz73_1 := blk_frozen BK324.out 1; have hfz73_2 := blk_frozen BK324.out 2; obtain ⟨Ao74, co74, eo74⟩ := Kd.R_slice HO343.out; subst eo74; obtain ⟨Ao75, co75, eo75⟩ := Kd.R_slice HO346.out; subst eo75))
     (try simp only [Act.put, List.setIfInBounds_toArray, List.set_cons_zero, List.set_cons_succ])
     go_cut [68] (fun v68 wc => ∃ (kq : Nat) (x68_56 : Bool), v68 = .bool x68_56 ∧ Aside0 (headgatelaw07_LruChanges.j1 kq a1 x68_56 l0_0 l0_1 l0_2 t293 t296 t299 = some r) ∧ Aside0 (kq ≤ kj8) ∧ Aside0 (Kd.R (Kd.int .i64) 3 wc w.heap.size (fun k_ => some k_ ≠ ((.slice Ao19 t296.length co19) : Value).ownBlock ∧ some k_ ≠ ((.slice Ao63 t328.length co63) : Value).ownBlock ∧ some k_ ≠ ((.slice Ao67 t331.length co67) : Value).ownBlock ∧ some k_ ≠ ((.slice Ao72 t338.length co72) : Value).ownBlock ∧ some k_ ≠ ((.slice Ao74 t341.length co74) : Value).ownBlock) (.slice Ao16 t293.length co16) t293) ∧ Aside0 (Kd.R (Kd.int .i64) 3 wc w.heap.size (fun k_ => some k_ ≠ ((.slice Ao16 t293.length co16) : Value).ownBlock ∧ some k_ ≠ ((.slice Ao63 t328.length co63) : Value).ownBlock ∧ some k_ ≠ ((.slice Ao67 t331.length co67) : Value).ownBlock ∧ some k_ ≠ ((.slice Ao72 t338.length co72) : Value).ownBlock ∧ some k_ ≠ ((.slice Ao74 t341.length co74) : Value).ownBlock) (.slice Ao19 t296.length co19) t296) ∧ Aside0 (Kd.R Kd.bool 4 wc w.heap.size (fun k_ => some k_ ≠ ((.slice Ao68 t334.length co68) : Value).ownBlock ∧ some k_ ≠ ((.slice Ao75 t344.length co75) : Value).ownBlock) (.slice Ao20 t299.length co20) t299) ∧ Aside0 (Kd.R (Kd.int .i64) 3 wc w.heap.size (fun k_ => some k_ ≠ ((.slice Ao16 t293.length co16) : Value).ownBlock ∧ some k_ ≠ ((.slice Ao19 t296.length co19) : Value).ownBlock ∧ some k_ ≠ ((.slice Ao67 t331.length co67) : Value).ownBlock ∧ some k_ ≠ ((.slice Ao72 t338.length co72) : Value).ownBlock ∧ some k_ ≠ ((.slice Ao74 t341.length co74) : Value).ownBlock) (.slice Ao63 t328.length co63) t328) ∧ Aside0 (Kd.R (Kd.int .i64) 3 wc w.heap.size (fun k_ => some k_ ≠ ((.slice Ao16 t293.length co16) : Value).ownBlock ∧ some k_ ≠ ((.slice Ao19 t296.length co19) : Value).ownBlock ∧ some k_ ≠ ((.slice Ao63 t328.length co63) : Value).ownBlock ∧ some k_ ≠ ((.slice Ao72 t338.length co72) : Value).ownBlock ∧ some k_ ≠ ((.slice Ao74 t341.length co74) : Value).ownBlock) (.slice Ao67 t331.length co67) t331) ∧ Aside0 (Kd.R Kd.bool 4 wc w.heap.size (fun k_ => some k_ ≠ ((.slice Ao20 t299.length co20) : Value).ownBlock ∧ some k_ ≠ ((.slice Ao75 t344.length co75) : Value).ownBlock) (.slice Ao68 t334.length co68) t334) ∧ Aside0 (Kd.R (Kd.int .i64) 3 wc w.heap.size (fun k_ => some k_ ≠ ((.slice Ao16 t293.length co16) : Value).ownBlock ∧ some k_ ≠ ((.slice Ao19 t296.length co19) : Value).ownBlock ∧ some k_ ≠ ((.slice Ao63 t328.length co63) : Value).ownBlock ∧ some k_ ≠ ((.slice Ao67 t331.length co67) : Value).ownBlock ∧ some k_ ≠ ((.slice Ao74 t341.length co74) : Value).ownBlock) (.slice Ao72 t338.length co72) t338) ∧ Aside0 (Kd.R (Kd.int .i64) 3 wc w.heap.size (fun k_ => some k_ ≠ ((.slice Ao16 t293.length co16) : Value).ownBlock ∧ some k_ ≠ ((.slice Ao19 t296.length co19) : Value).ownBlock ∧ some k_ ≠ ((.slice Ao63 t328.length co63) : Value).ownBlock ∧ some k_ ≠ ((.slice Ao67 t331.length co67) : Value).ownBlock ∧ some k_ ≠ ((.slice Ao72 t338.length co72) : Value).ownBlock) (.slice Ao74 t341.length co74) t341) ∧ Aside0 (Kd.R Kd.bool 4 wc w.heap.size (fun k_ => some k_ ≠ ((.slice Ao20 t299.length co20) : Value).ownBlock ∧ some k_ ≠ ((.slice Ao68 t334.length co68) : Value).ownBlock) (.slice Ao75 t344.length co75) t344) ∧ Aside0 (wc.heap[gb290]? = some (.cells #[(.slice A0_0 l0_0.length c0_0), (.slice A0_1 l0_1.length c0_1), (.slice A0_2 l0_2.length c0_2)] 25 (0, 0))) ∧ Aside0 (wc.heap[gb302]? = some (.cells #[(.slice Ao16 t293.length co16), (.slice Ao19 t296.length co19), (.slice Ao20 t299.length co20)] 25 (0, 0))) ∧ Aside0 (wc.heap[gb313]? = some (.cells #[(.slice Ao63 t328.length co63), (.slice Ao67 t331.length co67), (.slice Ao68 t334.length co68)] 25 (0, 0))) ∧ Aside0 (wc.heap[gb324]? = some (.cells #[(.slice Ao72 t338.length co72), (.slice Ao74 t341.length co74), (.slice Ao75 t344.length co75)] 25 (0, 0))) ∧ Aside0 (Below w.heap.size w wc))
     case first => as_aux_lemma =>
      have H := HC57.out
      clear HC57
      replace H := Option.bind_eq_some_iff.mp H
      obtain ⟨t348, A760, H⟩ := H
      replace H : (if t348 = true then (headgatelaw07_LruChanges.j1 kj8 a1 (t337 != t347) l0_0 l0_1 l0_2 t293 t296 t299) else (headgatelaw07_LruChanges.j1 kj8 a1 true l0_0 l0_1 l0_2 t293 t296 t299)) = some r := H
      have A76 := Aside0.mk A760
      clear A760
      by_cases c77 : t348 = true
      ·
       subst c77
       have H1 : (headgatelaw07_LruChanges.j1 kj8 a1 (t337 != t347) l0_0 l0_1 l0_2 t293 t296 t299) = some r := by rw [if_pos rfl] at H; exact H
       clear H
       have H := H1
       clear H1
       have H' := Aside0.mk H
       clear H
       have hnb78 := NB313_290.out
       have hnc78 := NB290_313.out
       have hnb79 := NB313_302.out
       have hnc79 := NB302_313.out
       have hnb80 := NB313_324.out
       have hnc80 := NB324_313.out
       have hcz81_0 := cell0 BK313
       have hcz81_1 := cell1 BK313
       have hcz81_2 := cell2 BK313
       have hfz81_0 := blk_frozen BK313.out 0
       have hfz81_1 := blk_frozen BK313.out 1
       have hfz81_2 := blk_frozen BK313.out 2
       have hnb82 := NB324_290.out
       have hnc82 := NB290_324.out
       have hnb83 := NB324_302.out
       have hnc83 := NB302_324.out
       have hcz84_0 := cell0 BK324
       have hcz84_1 := cell1 BK324
       have hcz84_2 := cell2 BK324
       have hfz84_0 := blk_frozen BK324.out 0
       have hfz84_1 := blk_frozen BK324.out 1
       have hfz84_2 := blk_frozen BK324.out 2
       go_wp2_with (first | ((with_reducible refine gate_callee (f := 15) rfl ?_); refine goesL_ (some 62) rfl rfl Try.func15 (by kernel_rfl) rfl #[.agg #[.slice Ao63 t328.length co63, .slice Ao67 t331.length co67, .slice Ao68 t334.length co68], .agg #[.slice Ao72 t338.length co72, .slice Ao74 t341.length co74, .slice Ao75 t344.length co75]] rfl (args_ (p := _)) ?_; (with_reducible refine (headgatekit_SameLists.calls kj8 _ _ t328 _ _ t331 _ _ t334 _ _ t338 _ _ t341 _ _ t344 true _ ?side1 ?side2 ?side3 ?side4 ?side5 ?side6 ?side7 ?side8 ?side9 ?side10 ?side11 ?side12 A76.out).mono ?_); (case side1 => exact (Kd.R_reads' (upR (Kd.R_mono (far3 HO330.out BK324) (fun _ h_ => h_.1)))).2.2); (case side2 => exact (Kd.R_reads' HO330.out).2.1); (case side3 => exact (Kd.R_reads' (upR (Kd.R_mono (far3 HO333.out BK324) (fun _ h_ => h_.1)))).2.2); (case side4 => exact (Kd.R_reads' HO333.out).2.1); (case side5 => exact (Kd.R_reads' (upR (Kd.R_mono (far3 HO336.out BK324) (fun _ h_ => h_.1)))).2.2); (case side6 => exact (Kd.R_reads' HO336.out).2.1); (case side7 => exact (Kd.R_reads' (upR (Kd.R_mono (far3 HO340.out BK324) (fun _ h_ => h_.1)))).2.2); (case side8 => exact (Kd.R_reads' HO340.out).2.1); (case side9 => exact (Kd.R_reads' (upR (Kd.R_mono (far3 HO343.out BK324) (fun _ h_ => h_.1)))).2.2); (case side10 => exact (Kd.R_reads' HO343.out).2.1); (case side11 => exact (Kd.R_reads' (upR (Kd.R_mono (far3 HO346.out BK324) (fun _ h_ => h_.1)))).2.2); (case side12 => exact (Kd.R_reads' HO346.out).2.1); rintro e w85 ⟨rfl, hb⟩; refine ⟨_, rfl, ?_⟩; have n0_ := Aside0.mk (Kd.R_below (upR (Kd.R_mono (far3 HO_303000.out BK324) (fun _ h_ => h_.1))) hb); have n1_ := Aside0.mk (Kd.R_below (upR (Kd.R_mono (far3 HO_303001.out BK324) (fun _ h_ => h_.1))) hb); have n2_ := Aside0.mk (Kd.R_below (upR (Kd.R_mono (far3 HO_303002.out BK324) (fun _ h_ => h_.1))) hb); have n3_ := Aside0.mk (Kd.R_below (upR (Kd.R_mono (far3 HO_314000.out BK324) (fun _ h_ => h_.1))) hb); have n4_ := Aside0.mk (Kd.R_below (upR (Kd.R_mono (far3 HO_314001.out BK324) (fun _ h_ => h_.1))) hb); have n5_ := Aside0.mk (Kd.R_below (upR (Kd.R_mono (far3 HO_314002.out BK324) (fun _ h_ => h_.1))) hb); have n6_ := Aside0.mk (Kd.R_below (upR (Kd.R_mono (far3 HO_325000.out BK324) (fun _ h_ => h_.1))) hb); have n7_ := Aside0.mk (Kd.R_below (upR (Kd.R_mono (far3 HO_325001.out BK324) (fun _ h_ => h_.1))) hb); have n8_ := Aside0.mk (Kd.R_below (upR (Kd.R_mono (far3 HO_325002.out BK324) (fun _ h_ => h_.1))) hb); have n9_ := Aside0.mk (Kd.R_below (upR (Kd.R_mono (far3 HO330.out BK324) (fun _ h_ => h_.1))) hb); have n10_ := Aside0.mk (Kd.R_below (upR (Kd.R_mono (far3 HO333.out BK324) (fun _ h_ => h_.1))) hb); have n11_ := Aside0.mk (Kd.R_below (upR (Kd.R_mono (far3 HO336.out BK324) (fun _ h_ => h_.1))) hb); have n12_ := Aside0.mk (Kd.R_below (upR (Kd.R_mono (far3 HO340.out BK324) (fun _ h_ => h_.1))) hb); have n13_ := Aside0.mk (Kd.R_below (upR (Kd.R_mono (far3 HO343.out BK324) (fun _ h_ => h_.1))) hb); have n14_ := Aside0.mk (Kd.R_below (upR (Kd.R_mono (far3 HO346.out BK324) (fun _ h_ => h_.1))) hb); have n15_ := Aside0.mk (blk_below (g := gb290) (o := .cells #[.slice A0_0 l0_0.length c0_0, .slice A0_1 l0_1.length c0_1, .slice A0_2 l0_2.length c0_2] 25 (0, 0)) (by (with_reducible repeat (first | refine blk_drewN ?_ _ | refine blk_drew ?_ | refine blk_alloc ?_ _)); refine blk_far ?_ NB290_324.out _; (with_reducible repeat (first | refine blk_drewN ?_ _ | refine blk_drew ?_ | refine blk_alloc ?_ _)); refine blk_far ?_ NB290_324.out _; (with_reducible repeat (first | refine blk_drewN ?_ _ | refine blk_drew ?_ | refine blk_alloc ?_ _)); refine blk_far ?_ NB290_324.out _; (with_reducible repeat (first | refine blk_drewN ?_ _ | refine blk_drew ?_ | refine blk_alloc ?_ _)); exact BK290.out) hb); have n16_ := Aside0.mk (blk_below (g := gb302) (o := .cells #[.slice Ao16 t293.length co16, .slice Ao19 t296.length co19, .slice Ao20 t299.length co20] 25 (0, 0)) (by (with_reducible repeat (first | refine blk_drewN ?_ _ | refine blk_drew ?_ | refine blk_alloc ?_ _)); refine blk_far ?_ NB302_324.out _; (with_reducible repeat (first | refine blk_drewN ?_ _ | refine blk_drew ?_ | refine blk_alloc ?_ _)); refine blk_far ?_ NB302_324.out _; (with_reducible repeat (first | refine blk_drewN ?_ _ | refine blk_drew ?_ | refine blk_alloc ?_ _)); refine blk_far ?_ NB302_324.out _; (with_reducible repeat (first | refine blk_drewN ?_ _ | refine blk_drew ?_ | refine blk_alloc ?_ _)); exact BK302.out) hb); have n17_ := Aside0.mk (blk_below (g := gb313) (o := .cells #[.slice Ao63 t328.length co63, .slice Ao67 t331.length co67, .slice Ao68 t334.length co68] 25 (0, 0)) (by (with_reducible repeat (first | refine blk_drewN ?_ _ | refine blk_drew ?_ | refine blk_alloc ?_ _)); refine blk_far ?_ NB313_324.out _; (with_reducible repeat (first | refine blk_drewN ?_ _ | refine blk_drew ?_ | refine blk_alloc ?_ _)); refine blk_far ?_ NB313_324.out _; (with_reducible repeat (first | refine blk_drewN ?_ _ | refine blk_drew ?_ | refine blk_alloc ?_ _)); refine blk_far ?_ NB313_324.out _; (with_reducible repeat (first | refine blk_drewN ?_ _ | refine blk_drew ?_ | refine blk_alloc ?_ _)); exact BK313.out) hb); have n18_ := Aside0.mk (blk_below (g := gb324) (o := .cells #[.slice Ao72 t338.length co72, .slice Ao74 t341.length co74, .slice Ao75 t344.length co75] 25 (0, 0)) (by (with_reducible repeat (first | refine blk_drewN ?_ _ | refine blk_drew ?_ | refine blk_alloc ?_ _)); refine blk_put (cs := #[.slice Ao72 t338.length co72, .slice Ao74 t341.length co74, .slice Ao37 t320.length co37]) ?_ 2 _ rfl; (with_reducible repeat (first | refine blk_drewN ?_ _ | refine blk_drew ?_ | refine blk_alloc ?_ _)); refine blk_put (cs := #[.slice Ao72 t338.length co72, .slice Ao36 t317.length co36, .slice Ao37 t320.length co37]) ?_ 1 _ rfl; (with_reducible repeat (first | refine blk_drewN ?_ _ | refine blk_drew ?_ | refine blk_alloc ?_ _)); refine blk_put (cs := #[.slice Ao31 t314.length co31, .slice Ao36 t317.length co36, .slice Ao37 t320.length co37]) ?_ 0 _ rfl; (with_reducible repeat (first | refine blk_drewN ?_ _ | refine blk_drew ?_ | refine blk_alloc ?_ _)); exact BK324.out) hb); have n19_ := Aside0.mk (below_step (upH HB) hb); clear HO_303000; clear HO_303001; clear HO_303002; clear HO_314000; clear HO_314001; clear HO_314002; clear HO_325000; clear HO_325001; clear HO_325002; clear HO330; clear HO333; clear HO336; clear HO340; clear HO343; clear HO346; clear BK290; clear BK302; clear BK313; clear BK324; clear HB; have HO_303000 := n0_; have HO_303001 := n1_; have HO_303002 := n2_; have HO_314000 := n3_; have HO_314001 := n4_; have HO_314002 := n5_; have HO_325000 := n6_; have HO_325001 := n7_; have HO_325002 := n8_; have HO330 := n9_; have HO333 := n10_; have HO336 := n11_; have HO340 := n12_; have HO343 := n13_; have HO346 := n14_; have BK290 := n15_; have BK302 := n16_; have BK313 := n17_; have BK324 := n18_; have HB := n19_; clear n0_ n1_ n2_ n3_ n4_ n5_ n6_ n7_ n8_ n9_ n10_ n11_ n12_ n13_ n14_ n15_ n16_ n17_ n18_ n19_; (try clear hb); (try clear hb2); (try clear hk); (try clear hi)))
       go_meet
       case rel => exact ⟨_, ((t337 != t347)), (by first | rfl | (simp; done) | (simp [*]; done)), H', ⟨by have := HJ8.out; first | omega | exact Nat.le_refl _⟩, ⟨by (with_reducible repeat (first | apply Kd.R_alloc | apply Kd.R_drewN | apply Kd.R_drew)); exact Kd.R_mono HO_303000.out (fun _ hk => ⟨hk.1.1.1.1.1, ⟨hk.1.1.1.2, ⟨hk.1.1.2, ⟨hk.1.2, hk.2⟩⟩⟩⟩)⟩, ⟨by (with_reducible repeat (first | apply Kd.R_alloc | apply Kd.R_drewN | apply Kd.R_drew)); exact Kd.R_mono HO_303001.out (fun _ hk => ⟨hk.1.1.1.1.1, ⟨hk.1.1.1.2, ⟨hk.1.1.2, ⟨hk.1.2, hk.2⟩⟩⟩⟩)⟩, ⟨by (with_reducible repeat (first | apply Kd.R_alloc | apply Kd.R_drewN | apply Kd.R_drew)); exact Kd.R_mono HO_303002.out (fun _ hk => ⟨hk.1.2, hk.2⟩)⟩, ⟨by (with_reducible repeat (first | apply Kd.R_alloc | apply Kd.R_drewN | apply Kd.R_drew)); exact Kd.R_mono HO330.out (fun _ hk => ⟨hk.1.1.1.1.1.1.1.2, ⟨hk.1.1.1.1.1.1.2, ⟨hk.1.1.1.1.1.1.1.1, ⟨hk.1.2, hk.2⟩⟩⟩⟩)⟩, ⟨by (with_reducible repeat (first | apply Kd.R_alloc | apply Kd.R_drewN | apply Kd.R_drew)); exact Kd.R_mono HO333.out (fun _ hk => ⟨hk.1.1.1.1.1.1.1.2, ⟨hk.1.1.1.1.1.1.2, ⟨hk.1.1.1.1.1.1.1.1, ⟨hk.1.2, hk.2⟩⟩⟩⟩)⟩, ⟨by (with_reducible repeat (first | apply Kd.R_alloc | apply Kd.R_drewN | apply Kd.R_drew)); exact Kd.R_mono HO336.out (fun _ hk => ⟨hk.1.1.1.2, hk.2⟩)⟩, ⟨by (with_reducible repeat (first | apply Kd.R_alloc | apply Kd.R_drewN | apply Kd.R_drew)); exact Kd.R_mono HO340.out (fun _ hk => ⟨hk.1.1.1.1.1.1.1.2, ⟨hk.1.1.1.1.1.1.2, ⟨hk.1.2, ⟨hk.2, hk.1.1.1.1.1.1.1.1⟩⟩⟩⟩)⟩, ⟨by (with_reducible repeat (first | apply Kd.R_alloc | apply Kd.R_drewN | apply Kd.R_drew)); exact Kd.R_mono HO343.out (fun _ hk => ⟨hk.1.1.1.1.1.1.1.2, ⟨hk.1.1.1.1.1.1.2, ⟨hk.1.2, ⟨hk.2, hk.1.1.1.1.1.1.1.1⟩⟩⟩⟩)⟩, ⟨by (with_reducible repeat (first | apply Kd.R_alloc | apply Kd.R_drewN | apply Kd.R_drew)); exact Kd.R_mono HO346.out (fun _ hk => ⟨hk.1.1.1.2, hk.2⟩)⟩, ⟨upB BK290⟩, ⟨upB BK302⟩, ⟨upB BK313⟩, ⟨upB BK324⟩, ⟨upH HB⟩⟩
      ·
       replace c77 := Bool.eq_false_iff.mpr c77
       subst c77
       have H1 : (headgatelaw07_LruChanges.j1 kj8 a1 true l0_0 l0_1 l0_2 t293 t296 t299) = some r := by rw [if_neg (show ¬ (false = true) by decide)] at H; exact H
       clear H
       have H := H1
       clear H1
       have H' := Aside0.mk H
       clear H
       have hnb86 := NB313_290.out
       have hnc86 := NB290_313.out
       have hnb87 := NB313_302.out
       have hnc87 := NB302_313.out
       have hnb88 := NB313_324.out
       have hnc88 := NB324_313.out
       have hcz89_0 := cell0 BK313
       have hcz89_1 := cell1 BK313
       have hcz89_2 := cell2 BK313
       have hfz89_0 := blk_frozen BK313.out 0
       have hfz89_1 := blk_frozen BK313.out 1
       have hfz89_2 := blk_frozen BK313.out 2
       have hnb90 := NB324_290.out
       have hnc90 := NB290_324.out
       have hnb91 := NB324_302.out
       have hnc91 := NB302_324.out
       have hcz92_0 := cell0 BK324
       have hcz92_1 := cell1 BK324
       have hcz92_2 := cell2 BK324
       have hfz92_0 := blk_frozen BK324.out 0
       have hfz92_1 := blk_frozen BK324.out 1
       have hfz92_2 := blk_frozen BK324.out 2
       go_wp2_with (first | ((with_reducible refine gate_callee (f := 15) rfl ?_); refine goesL_ (some 62) rfl rfl Try.func15 (by kernel_rfl) rfl #[.agg #[.slice Ao63 t328.length co63, .slice Ao67 t331.length co67, .slice Ao68 t334.length co68], .agg #[.slice Ao72 t338.length co72, .slice Ao74 t341.length co74, .slice Ao75 t344.length co75]] rfl (args_ (p := _)) ?_; (with_reducible refine (headgatekit_SameLists.calls kj8 _ _ t328 _ _ t331 _ _ t334 _ _ t338 _ _ t341 _ _ t344 false _ ?side1 ?side2 ?side3 ?side4 ?side5 ?side6 ?side7 ?side8 ?side9 ?side10 ?side11 ?side12 A76.out).mono ?_); (case side1 => exact (Kd.R_reads' (upR (Kd.R_mono (far3 HO330.out BK324) (fun _ h_ => h_.1)))).2.2); (case side2 => exact (Kd.R_reads' HO330.out).2.1); (case side3 => exact (Kd.R_reads' (upR (Kd.R_mono (far3 HO333.out BK324) (fun _ h_ => h_.1)))).2.2); (case side4 => exact (Kd.R_reads' HO333.out).2.1); (case side5 => exact (Kd.R_reads' (upR (Kd.R_mono (far3 HO336.out BK324) (fun _ h_ => h_.1)))).2.2); (case side6 => exact (Kd.R_reads' HO336.out).2.1); (case side7 => exact (Kd.R_reads' (upR (Kd.R_mono (far3 HO340.out BK324) (fun _ h_ => h_.1)))).2.2); (case side8 => exact (Kd.R_reads' HO340.out).2.1); (case side9 => exact (Kd.R_reads' (upR (Kd.R_mono (far3 HO343.out BK324) (fun _ h_ => h_.1)))).2.2); (case side10 => exact (Kd.R_reads' HO343.out).2.1); (case side11 => exact (Kd.R_reads' (upR (Kd.R_mono (far3 HO346.out BK324) (fun _ h_ => h_.1)))).2.2); (case side12 => exact (Kd.R_reads' HO346.out).2.1); rintro e w93 ⟨rfl, hb⟩; refine ⟨_, rfl, ?_⟩; have n0_ := Aside0.mk (Kd.R_below (upR (Kd.R_mono (far3 HO_303000.out BK324) (fun _ h_ => h_.1))) hb); have n1_ := Aside0.mk (Kd.R_below (upR (Kd.R_mono (far3 HO_303001.out BK324) (fun _ h_ => h_.1))) hb); have n2_ := Aside0.mk (Kd.R_below (upR (Kd.R_mono (far3 HO_303002.out BK324) (fun _ h_ => h_.1))) hb); have n3_ := Aside0.mk (Kd.R_below (upR (Kd.R_mono (far3 HO_314000.out BK324) (fun _ h_ => h_.1))) hb); have n4_ := Aside0.mk (Kd.R_below (upR (Kd.R_mono (far3 HO_314001.out BK324) (fun _ h_ => h_.1))) hb); have n5_ := Aside0.mk (Kd.R_below (upR (Kd.R_mono (far3 HO_314002.out BK324) (fun _ h_ => h_.1))) hb); have n6_ := Aside0.mk (Kd.R_below (upR (Kd.R_mono (far3 HO_325000.out BK324) (fun _ h_ => h_.1))) hb); have n7_ := Aside0.mk (Kd.R_below (upR (Kd.R_mono (far3 HO_325001.out BK324) (fun _ h_ => h_.1))) hb); have n8_ := Aside0.mk (Kd.R_below (upR (Kd.R_mono (far3 HO_325002.out BK324) (fun _ h_ => h_.1))) hb); have n9_ := Aside0.mk (Kd.R_below (upR (Kd.R_mono (far3 HO330.out BK324) (fun _ h_ => h_.1))) hb); have n10_ := Aside0.mk (Kd.R_below (upR (Kd.R_mono (far3 HO333.out BK324) (fun _ h_ => h_.1))) hb); have n11_ := Aside0.mk (Kd.R_below (upR (Kd.R_mono (far3 HO336.out BK324) (fun _ h_ => h_.1))) hb); have n12_ := Aside0.mk (Kd.R_below (upR (Kd.R_mono (far3 HO340.out BK324) (fun _ h_ => h_.1))) hb); have n13_ := Aside0.mk (Kd.R_below (upR (Kd.R_mono (far3 HO343.out BK324) (fun _ h_ => h_.1))) hb); have n14_ := Aside0.mk (Kd.R_below (upR (Kd.R_mono (far3 HO346.out BK324) (fun _ h_ => h_.1))) hb); have n15_ := Aside0.mk (blk_below (g := gb290) (o := .cells #[.slice A0_0 l0_0.length c0_0, .slice A0_1 l0_1.length c0_1, .slice A0_2 l0_2.length c0_2] 25 (0, 0)) (by (with_reducible repeat (first | refine blk_drewN ?_ _ | refine blk_drew ?_ | refine blk_alloc ?_ _)); refine blk_far ?_ NB290_324.out _; (with_reducible repeat (first | refine blk_drewN ?_ _ | refine blk_drew ?_ | refine blk_alloc ?_ _)); refine blk_far ?_ NB290_324.out _; (with_reducible repeat (first | refine blk_drewN ?_ _ | refine blk_drew ?_ | refine blk_alloc ?_ _)); refine blk_far ?_ NB290_324.out _; (with_reducible repeat (first | refine blk_drewN ?_ _ | refine blk_drew ?_ | refine blk_alloc ?_ _)); exact BK290.out) hb); have n16_ := Aside0.mk (blk_below (g := gb302) (o := .cells #[.slice Ao16 t293.length co16, .slice Ao19 t296.length co19, .slice Ao20 t299.length co20] 25 (0, 0)) (by (with_reducible repeat (first | refine blk_drewN ?_ _ | refine blk_drew ?_ | refine blk_alloc ?_ _)); refine blk_far ?_ NB302_324.out _; (with_reducible repeat (first | refine blk_drewN ?_ _ | refine blk_drew ?_ | refine blk_alloc ?_ _)); refine blk_far ?_ NB302_324.out _; (with_reducible repeat (first | refine blk_drewN ?_ _ | refine blk_drew ?_ | refine blk_alloc ?_ _)); refine blk_far ?_ NB302_324.out _; (with_reducible repeat (first | refine blk_drewN ?_ _ | refine blk_drew ?_ | refine blk_alloc ?_ _)); exact BK302.out) hb); have n17_ := Aside0.mk (blk_below (g := gb313) (o := .cells #[.slice Ao63 t328.length co63, .slice Ao67 t331.length co67, .slice Ao68 t334.length co68] 25 (0, 0)) (by (with_reducible repeat (first | refine blk_drewN ?_ _ | refine blk_drew ?_ | refine blk_alloc ?_ _)); refine blk_far ?_ NB313_324.out _; (with_reducible repeat (first | refine blk_drewN ?_ _ | refine blk_drew ?_ | refine blk_alloc ?_ _)); refine blk_far ?_ NB313_324.out _; (with_reducible repeat (first | refine blk_drewN ?_ _ | refine blk_drew ?_ | refine blk_alloc ?_ _)); refine blk_far ?_ NB313_324.out _; (with_reducible repeat (first | refine blk_drewN ?_ _ | refine blk_drew ?_ | refine blk_alloc ?_ _)); exact BK313.out) hb); have n18_ := Aside0.mk (blk_below (g := gb324) (o := .cells #[.slice Ao72 t338.length co72, .slice Ao74 t341.length co74, .slice Ao75 t344.length co75] 25 (0, 0)) (by (with_reducible repeat (first | refine blk_drewN ?_ _ | refine blk_drew ?_ | refine blk_alloc ?_ _)); refine blk_put (cs := #[.slice Ao72 t338.length co72, .slice Ao74 t341.length co74, .slice Ao37 t320.length co37]) ?_ 2 _ rfl; (with_reducible repeat (first | refine blk_drewN ?_ _ | refine blk_drew ?_ | refine blk_alloc ?_ _)); refine blk_put (cs := #[.slice Ao72 t338.length co72, .slice Ao36 t317.length co36, .slice Ao37 t320.length co37]) ?_ 1 _ rfl; (with_reducible repeat (first | refine blk_drewN ?_ _ | refine blk_drew ?_ | refine blk_alloc ?_ _)); refine blk_put (cs := #[.slice Ao31 t314.length co31, .slice Ao36 t317.length co36, .slice Ao37 t320.length co37]) ?_ 0 _ rfl; (with_reducible repeat (first | refine blk_drewN ?_ _ | refine blk_drew ?_ | refine blk_alloc ?_ _)); exact BK324.out) hb); have n19_ := Aside0.mk (below_step (upH HB) hb); clear HO_303000; clear HO_303001; clear HO_303002; clear HO_314000; clear HO_314001; clear HO_314002; clear HO_325000; clear HO_325001; clear HO_325002; clear HO330; clear HO333; clear HO336; clear HO340; clear HO343; clear HO346; clear BK290; clear BK302; clear BK313; clear BK324; clear HB; have HO_303000 := n0_; have HO_303001 := n1_; have HO_303002 := n2_; have HO_314000 := n3_; have HO_314001 := n4_; have HO_314002 := n5_; have HO_325000 := n6_; have HO_325001 := n7_; have HO_325002 := n8_; have HO330 := n9_; have HO333 := n10_; have HO336 := n11_; have HO340 := n12_; have HO343 := n13_; have HO346 := n14_; have BK290 := n15_; have BK302 := n16_; have BK313 := n17_; have BK324 := n18_; have HB := n19_; clear n0_ n1_ n2_ n3_ n4_ n5_ n6_ n7_ n8_ n9_ n10_ n11_ n12_ n13_ n14_ n15_ n16_ n17_ n18_ n19_; (try clear hb); (try clear hb2); (try clear hk); (try clear hi)))
       go_meet
       case rel => exact ⟨_, (true), (by first | rfl | (simp; done) | (simp [*]; done)), H', ⟨by have := HJ8.out; first | omega | exact Nat.le_refl _⟩, ⟨by (with_reducible repeat (first | apply Kd.R_alloc | apply Kd.R_drewN | apply Kd.R_drew)); exact Kd.R_mono HO_303000.out (fun _ hk => ⟨hk.1.1.1.1.1, ⟨hk.1.1.1.2, ⟨hk.1.1.2, ⟨hk.1.2, hk.2⟩⟩⟩⟩)⟩, ⟨by (with_reducible repeat (first | apply Kd.R_alloc | apply Kd.R_drewN | apply Kd.R_drew)); exact Kd.R_mono HO_303001.out (fun _ hk => ⟨hk.1.1.1.1.1, ⟨hk.1.1.1.2, ⟨hk.1.1.2, ⟨hk.1.2, hk.2⟩⟩⟩⟩)⟩, ⟨by (with_reducible repeat (first | apply Kd.R_alloc | apply Kd.R_drewN | apply Kd.R_drew)); exact Kd.R_mono HO_303002.out (fun _ hk => ⟨hk.1.2, hk.2⟩)⟩, ⟨by (with_reducible repeat (first | apply Kd.R_alloc | apply Kd.R_drewN | apply Kd.R_drew)); exact Kd.R_mono HO330.out (fun _ hk => ⟨hk.1.1.1.1.1.1.1.2, ⟨hk.1.1.1.1.1.1.2, ⟨hk.1.1.1.1.1.1.1.1, ⟨hk.1.2, hk.2⟩⟩⟩⟩)⟩, ⟨by (with_reducible repeat (first | apply Kd.R_alloc | apply Kd.R_drewN | apply Kd.R_drew)); exact Kd.R_mono HO333.out (fun _ hk => ⟨hk.1.1.1.1.1.1.1.2, ⟨hk.1.1.1.1.1.1.2, ⟨hk.1.1.1.1.1.1.1.1, ⟨hk.1.2, hk.2⟩⟩⟩⟩)⟩, ⟨by (with_reducible repeat (first | apply Kd.R_alloc | apply Kd.R_drewN | apply Kd.R_drew)); exact Kd.R_mono HO336.out (fun _ hk => ⟨hk.1.1.1.2, hk.2⟩)⟩, ⟨by (with_reducible repeat (first | apply Kd.R_alloc | apply Kd.R_drewN | apply Kd.R_drew)); exact Kd.R_mono HO340.out (fun _ hk => ⟨hk.1.1.1.1.1.1.1.2, ⟨hk.1.1.1.1.1.1.2, ⟨hk.1.2, ⟨hk.2, hk.1.1.1.1.1.1.1.1⟩⟩⟩⟩)⟩, ⟨by (with_reducible repeat (first | apply Kd.R_alloc | apply Kd.R_drewN | apply Kd.R_drew)); exact Kd.R_mono HO343.out (fun _ hk => ⟨hk.1.1.1.1.1.1.1.2, ⟨hk.1.1.1.1.1.1.2, ⟨hk.1.2, ⟨hk.2, hk.1.1.1.1.1.1.1.1⟩⟩⟩⟩)⟩, ⟨by (with_reducible repeat (first | apply Kd.R_alloc | apply Kd.R_drewN | apply Kd.R_drew)); exact Kd.R_mono HO346.out (fun _ hk => ⟨hk.1.1.1.2, hk.2⟩)⟩, ⟨upB BK290⟩, ⟨upB BK302⟩, ⟨upB BK313⟩, ⟨upB BK324⟩, ⟨upH HB⟩⟩
     case rest =>
      clear HC57
      try clear c1
      try clear p2
      try clear c3
      try clear c4
      try clear c5
      try clear c6
      try clear c7
      try clear c8
      try clear c9
      try clear c15
      try clear c18
      try clear c19
      try clear c39
      try clear c40
      try clear c40b0
      try clear c40b1
      try clear c54
      try clear c58
      try clear c59
      try clear c60
      try clear c64
      try clear c65
      try clear c69
      try clear c77
      try clear c78
      try clear c79
      try clear c80
      try clear c82
      try clear c83
      try clear c86
      try clear c87
      try clear c88
      try clear c90
      try clear c91
      try clear hcz61_0
      try clear hcz61_1
      try clear hcz61_2
      try clear hcz66_0
      try clear hcz66_1
      try clear hcz66_2
      try clear hcz70_0
      try clear hcz70_1
      try clear hcz70_2
      try clear hcz73_0
      try clear hcz73_1
      try clear hcz73_2
      try clear hcz81_0
      try clear hcz81_1
      try clear hcz81_2
      try clear hcz84_0
      try clear hcz84_1
      try clear hcz84_2
      try clear hcz89_0
      try clear hcz89_1
      try clear hcz89_2
      try clear hcz92_0
      try clear hcz92_1
      try clear hcz92_2
      try clear hfz61_0
      try clear hfz61_1
      try clear hfz61_2
      try clear hfz66_0
      try clear hfz66_1
      try clear hfz66_2
      try clear hfz70_0
      try clear hfz70_1
      try clear hfz70_2
      try clear hfz73_0
      try clear hfz73_1
      try clear hfz73_2
      try clear hfz81_0
      try clear hfz81_1
      try clear hfz81_2
      try clear hfz84_0
      try clear hfz84_1
      try clear hfz84_2
      try clear hfz89_0
      try clear hfz89_1
      try clear hfz89_2
      try clear hfz92_0
      try clear hfz92_1
      try clear hfz92_2
      try clear p2
      obtain ⟨kq, x68_56, rfl, HA, HJ56, HO_303000, HO_303001, HO_303002, HO_314000, HO_314001, HO_314002, HO_325000, HO_325001, HO_325002, BK290, BK302, BK313, BK324, HB⟩ := hcut
      cases kq with
      | zero => exact absurd HA.out (by simp [headgatelaw07_LruChanges.j1])
      | succ kj56 =>
       have H := HA.out
       clear HA
       simp only [headgatelaw07_LruChanges.j1] at H
       by_cases c94 : x68_56 = true
       ·
        subst c94
        have H1 : (some false) = some r := by rw [if_pos rfl] at H; exact H
        clear H
        have H := H1
        clear H1
        exact absurd H (by rw [HT.out]; simp)
       · as_aux_lemma =>
        replace c94 := Bool.eq_false_iff.mpr c94
        subst c94
        have H1 : ((lru_Remove.f kj56 t293 t296 t299 a1).bind fun bt349 => ((headgateref07_Remove.f kj56 l0_0 l0_1 l0_2 a1).bind fun bt359 => ((headgatekit_SameLists.f kj56 bt349.1 bt349.2.1 bt349.2.2.1 bt359.1 bt359.2.1 bt359.2.2.1).bind fun t369 => (if t369 = true then (headgatelaw07_LruChanges.j2 kj56 a1 (bt349.2.2.2 != bt359.2.2.2) l0_0 l0_1 l0_2 t293 t296 t299) else (headgatelaw07_LruChanges.j2 kj56 a1 true l0_0 l0_1 l0_2 t293 t296 t299))))) = some r := by rw [if_neg (show ¬ (false = true) by decide)] at H; exact H
        clear H
        have H := H1
        clear H1
        replace H := Option.bind_eq_some_iff.mp H
        obtain ⟨⟨t349, t352, t355, t358⟩, A950, H⟩ := H
        replace H : ((headgateref07_Remove.f kj56 l0_0 l0_1 l0_2 a1).bind fun bt359 => ((headgatekit_SameLists.f kj56 t349 t352 t355 bt359.1 bt359.2.1 bt359.2.2.1).bind fun t369 => (if t369 = true then (headgatelaw07_LruChanges.j2 kj56 a1 (t358 != bt359.2.2.2) l0_0 l0_1 l0_2 t293 t296 t299) else (headgatelaw07_LruChanges.j2 kj56 a1 true l0_0 l0_1 l0_2 t293 t296 t299)))) = some r := H
        have A95 := Aside0.mk A950
        clear A950
        replace H := Option.bind_eq_some_iff.mp H
        obtain ⟨⟨t359, t362, t365, t368⟩, A960, H⟩ := H
        replace H : ((headgatekit_SameLists.f kj56 t349 t352 t355 t359 t362 t365).bind fun t369 => (if t369 = true then (headgatelaw07_LruChanges.j2 kj56 a1 (t358 != t368) l0_0 l0_1 l0_2 t293 t296 t299) else (headgatelaw07_LruChanges.j2 kj56 a1 true l0_0 l0_1 l0_2 t293 t296 t299))) = some r := H
        have A96 := Aside0.mk A960
        clear A960
        have HC97 := Aside0.mk H
        clear H
        have hnb98 := NB302_290.out
        have hnc98 := NB290_302.out
        have hnb99 := NB302_313.out
        have hnc99 := NB313_302.out
        have hnb100 := NB302_324.out
        have hnc100 := NB324_302.out
        have hcz101_0 := cell0 BK302
        have hcz101_1 := cell1 BK302
        have hcz101_2 := cell2 BK302
        have hfz101_0 := blk_frozen BK302.out 0
        have hfz101_1 := blk_frozen BK302.out 1
        have hfz101_2 := blk_frozen BK302.out 2
        go_upto_region 14 with (first | ((with_reducible refine gate_callee (f := 20) rfl ?_); refine goesL_ (some 72) rfl rfl Try.func20 (by kernel_rfl) rfl #[.agg #[.slice Ao16 t293.length co16, .slice Ao19 t296.length co19, .slice Ao20 t299.length co20], .int .i64 a1] rfl (args_ (p := _)) ?_; (with_reducible refine (lru_Remove.calls kj56 _ _ t293 _ _ t296 _ _ t299 a1 t349 t352 t355 t358 _ ?side1 ?side2 ?side3 ?side4 ?side5 ?side6 A95.out).mono ?_); (case side1 => exact upc (Kd.R_reads' HO_303000.out).2.2); (case side2 => exact (Kd.R_reads' HO_303000.out).2.1); (case side3 => exact upc (Kd.R_reads' HO_303001.out).2.2); (case side4 => exact (Kd.R_reads' HO_303001.out).2.1); (case side5 => exact upc (Kd.R_reads' HO_303002.out).2.2); (case side6 => exact (Kd.R_reads' HO_303002.out).2.1); rintro e w102 ⟨v350, v353, v356, rfl, ho0, ho1, ho2, hb⟩; refine ⟨_, rfl, ?_⟩; have n0_ := Aside0.mk (Kd.R_mono (Kd.R_told (Kd.R_told (Kd.R_old (upR HO_303000.out) hb) (Kd.R_base ho0)) (Kd.R_base ho1)) (fun _ h_ => h_.1)); have n1_ := Aside0.mk (Kd.R_mono (Kd.R_told (Kd.R_told (Kd.R_old (upR HO_303001.out) hb) (Kd.R_base ho0)) (Kd.R_base ho1)) (fun _ h_ => h_.1)); have n2_ := Aside0.mk (Kd.R_elder' (upR HO_303002.out) (Kd.R_base ho2) hb); have n3_ := Aside0.mk (Kd.R_mono (Kd.R_told (Kd.R_told (Kd.R_old (upR HO_314000.out) hb) (Kd.R_base ho0)) (Kd.R_base ho1)) (fun _ h_ => h_.1)); have n4_ := Aside0.mk (Kd.R_mono (Kd.R_told (Kd.R_told (Kd.R_old (upR HO_314001.out) hb) (Kd.R_base ho0)) (Kd.R_base ho1)) (fun _ h_ => h_.1)); have n5_ := Aside0.mk (Kd.R_elder' (upR HO_314002.out) (Kd.R_base ho2) hb); have n6_ := Aside0.mk (Kd.R_mono (Kd.R_told (Kd.R_told (Kd.R_old (upR HO_325000.out) hb) (Kd.R_base ho0)) (Kd.R_base ho1)) (fun _ h_ => h_.1)); have n7_ := Aside0.mk (Kd.R_mono (Kd.R_told (Kd.R_told (Kd.R_old (upR HO_325001.out) hb) (Kd.R_base ho0)) (Kd.R_base ho1)) (fun _ h_ => h_.1)); have n8_ := Aside0.mk (Kd.R_elder' (upR HO_325002.out) (Kd.R_base ho2) hb); have n9_ := Aside0.mk (Kd.R_lower (Kd.R_new' (Kd.R_new' (Kd.R_new' (Kd.R_new' (Kd.R_new' (Kd.R_new' ho0 (Kd.R_lt (upR HO_303000.out))) (Kd.R_lt (upR HO_303001.out))) (Kd.R_lt (upR HO_314000.out))) (Kd.R_lt (upR HO_314001.out))) (Kd.R_lt (upR HO_325000.out))) (Kd.R_lt (upR HO_325001.out))) (below_size (upH HB))); have n10_ := Aside0.mk (Kd.R_lower (Kd.R_new' (Kd.R_new' (Kd.R_new' (Kd.R_new' (Kd.R_new' (Kd.R_new' ho1 (Kd.R_lt (upR HO_303000.out))) (Kd.R_lt (upR HO_303001.out))) (Kd.R_lt (upR HO_314000.out))) (Kd.R_lt (upR HO_314001.out))) (Kd.R_lt (upR HO_325000.out))) (Kd.R_lt (upR HO_325001.out))) (below_size (upH HB))); have n11_ := Aside0.mk (Kd.R_lower (Kd.R_new' (Kd.R_new' (Kd.R_new' ho2 (Kd.R_lt (upR HO_303002.out))) (Kd.R_lt (upR HO_314002.out))) (Kd.R_lt (upR HO_325002.out))) (below_size (upH HB))); have n12_ := Aside0.mk (blkB BK290 hb); have n13_ := Aside0.mk (blkB BK302 hb); have n14_ := Aside0.mk (blkB BK313 hb); have n15_ := Aside0.mk (blkB BK324 hb); have n16_ := Aside0.mk (below_step (upH HB) hb); clear HO_303000; clear HO_303001; clear HO_303002; clear HO_314000; clear HO_314001; clear HO_314002; clear HO_325000; clear HO_325001; clear HO_325002; clear BK290; clear BK302; clear BK313; clear BK324; clear HB; have HO_303000 := n0_; have HO_303001 := n1_; have HO_303002 := n2_; have HO_314000 := n3_; have HO_314001 := n4_; have HO_314002 := n5_; have HO_325000 := n6_; have HO_325001 := n7_; have HO_325002 := n8_; have HO351 := n9_; have HO354 := n10_; have HO357 := n11_; have BK290 := n12_; have BK302 := n13_; have BK313 := n14_; have BK324 := n15_; have HB := n16_; clear n0_ n1_ n2_ n3_ n4_ n5_ n6_ n7_ n8_ n9_ n10_ n11_ n12_ n13_ n14_ n15_ n16_; (try clear hb); (try clear hb2); (try clear hk); (try clear hi); (try clear ho0); (try clear ho1); (try clear ho2); obtain ⟨Ao103, co103, eo103⟩ := Kd.R_slice HO351.out; subst eo103; have hnb104 := NB313_290.out; have hnc104 := NB290_313.out; have hnb105 := NB313_324.out; have hnc105 := NB324_313.out; have hcz106_0 := cell0 BK313; have hcz106_1 := cell1 BK313; have hcz106_2 := cell2 BK313; have hfz106_0 := blk_frozen BK313.out 0; have hfz106_1 := blk_frozen BK313.out 1; have hfz106_2 := blk_frozen BK313.out 2; obtain ⟨Ao107, co107, eo107⟩ := Kd.R_slice HO354.out; subst eo107; obtain ⟨Ao108, co108, eo108⟩ := Kd.R_slice HO357.out; subst eo108; have hnb109 := NB290_324.out; have hnc109 := NB324_290.out; have hcz110_0 := cell0 BK290; have hcz110_1 := cell1 BK290; have hcz110_2 := cell2 BK290; have hfz110_0 := blk_frozen BK290.out 0; have hfz110_1 := blk_frozen BK290.out 1; have hfz110_2 := blk_frozen BK290.out 2) | ((with_reducible refine gate_callee (f := 21) rfl ?_); refine goesL_ (some 78) rfl rfl Try.func21 (by kernel_rfl) rfl #[.agg #[.slice A0_0 l0_0.length c0_0, .slice A0_1 l0_1.length c0_1, .slice A0_2 l0_2.length c0_2], .int .i64 a1] rfl (args_ (p := _)) ?_; (with_reducible refine (headgateref07_Remove.calls kj56 _ _ l0_0 _ _ l0_1 _ _ l0_2 a1 t359 t362 t365 t368 _ ?side1 ?side2 ?side3 ?side4 ?side5 ?side6 A96.out).mono ?_); (case side1 => exact Kd.C_below HR0_0.out (upH HB)); (case side2 => exact HC0_0.out); (case side3 => exact Kd.C_below HR0_1.out (upH HB)); (case side4 => exact HC0_1.out); (case side5 => exact Kd.C_below HR0_2.out (upH HB)); (case side6 => exact HC0_2.out); rintro e w111 ⟨v360, v363, v366, rfl, ho0, ho1, ho2, hb⟩; refine ⟨_, rfl, ?_⟩; have n0_ := Aside0.mk (Kd.R_mono (Kd.R_told (Kd.R_told (Kd.R_old (upR (Kd.R_mono (far3 HO_303000.out BK313) (fun _ h_ => h_.1))) hb) (Kd.R_base ho0)) (Kd.R_base ho1)) (fun _ h_ => h_.1)); have n1_ := Aside0.mk (Kd.R_mono (Kd.R_told (Kd.R_told (Kd.R_old (upR (Kd.R_mono (far3 HO_303001.out BK313) (fun _ h_ => h_.1))) hb) (Kd.R_base ho0)) (Kd.R_base ho1)) (fun _ h_ => h_.1)); have n2_ := Aside0.mk (Kd.R_elder' (upR (Kd.R_mono (far3 HO_303002.out BK313) (fun _ h_ => h_.1))) (Kd.R_base ho2) hb); have n3_ := Aside0.mk (Kd.R_mono (Kd.R_told (Kd.R_told (Kd.R_old (upR (Kd.R_mono (far3 HO_314000.out BK313) (fun _ h_ => h_.1))) hb) (Kd.R_base ho0)) (Kd.R_base ho1)) (fun _ h_ => h_.1)); have n4_ := Aside0.mk (Kd.R_mono (Kd.R_told (Kd.R_told (Kd.R_old (upR (Kd.R_mono (far3 HO_314001.out BK313) (fun _ h_ => h_.1))) hb) (Kd.R_base ho0)) (Kd.R_base ho1)) (fun _ h_ => h_.1)); have n5_ := Aside0.mk (Kd.R_elder' (upR (Kd.R_mono (far3 HO_314002.out BK313) (fun _ h_ => h_.1))) (Kd.R_base ho2) hb); have n6_ := Aside0.mk (Kd.R_mono (Kd.R_told (Kd.R_told (Kd.R_old (upR (Kd.R_mono (far3 HO_325000.out BK313) (fun _ h_ => h_.1))) hb) (Kd.R_base ho0)) (Kd.R_base ho1)) (fun _ h_ => h_.1)); have n7_ := Aside0.mk (Kd.R_mono (Kd.R_told (Kd.R_told (Kd.R_old (upR (Kd.R_mono (far3 HO_325001.out BK313) (fun _ h_ => h_.1))) hb) (Kd.R_base ho0)) (Kd.R_base ho1)) (fun _ h_ => h_.1)); have n8_ := Aside0.mk (Kd.R_elder' (upR (Kd.R_mono (far3 HO_325002.out BK313) (fun _ h_ => h_.1))) (Kd.R_base ho2) hb); have n9_ := Aside0.mk (Kd.R_mono (Kd.R_told (Kd.R_told (Kd.R_old (upR (Kd.R_mono (far3 HO351.out BK313) (fun _ h_ => h_.1))) hb) (Kd.R_base ho0)) (Kd.R_base ho1)) (fun _ h_ => h_.1)); have n10_ := Aside0.mk (Kd.R_mono (Kd.R_told (Kd.R_told (Kd.R_old (upR (Kd.R_mono (far3 HO354.out BK313) (fun _ h_ => h_.1))) hb) (Kd.R_base ho0)) (Kd.R_base ho1)) (fun _ h_ => h_.1)); have n11_ := Aside0.mk (Kd.R_elder' (upR (Kd.R_mono (far3 HO357.out BK313) (fun _ h_ => h_.1))) (Kd.R_base ho2) hb); have n12_ := Aside0.mk (Kd.R_lower (Kd.R_new' (Kd.R_new' (Kd.R_new' (Kd.R_new' (Kd.R_new' (Kd.R_new' (Kd.R_new' (Kd.R_new' ho0 (Kd.R_lt (upR (Kd.R_mono (far3 HO_303000.out BK313) (fun _ h_ => h_.1))))) (Kd.R_lt (upR (Kd.R_mono (far3 HO_303001.out BK313) (fun _ h_ => h_.1))))) (Kd.R_lt (upR (Kd.R_mono (far3 HO_314000.out BK313) (fun _ h_ => h_.1))))) (Kd.R_lt (upR (Kd.R_mono (far3 HO_314001.out BK313) (fun _ h_ => h_.1))))) (Kd.R_lt (upR (Kd.R_mono (far3 HO_325000.out BK313) (fun _ h_ => h_.1))))) (Kd.R_lt (upR (Kd.R_mono (far3 HO_325001.out BK313) (fun _ h_ => h_.1))))) (Kd.R_lt (upR (Kd.R_mono (far3 HO351.out BK313) (fun _ h_ => h_.1))))) (Kd.R_lt (upR (Kd.R_mono (far3 HO354.out BK313) (fun _ h_ => h_.1))))) (below_size (upH HB))); have n13_ := Aside0.mk (Kd.R_lower (Kd.R_new' (Kd.R_new' (Kd.R_new' (Kd.R_new' (Kd.R_new' (Kd.R_new' (Kd.R_new' (Kd.R_new' ho1 (Kd.R_lt (upR (Kd.R_mono (far3 HO_303000.out BK313) (fun _ h_ => h_.1))))) (Kd.R_lt (upR (Kd.R_mono (far3 HO_303001.out BK313) (fun _ h_ => h_.1))))) (Kd.R_lt (upR (Kd.R_mono (far3 HO_314000.out BK313) (fun _ h_ => h_.1))))) (Kd.R_lt (upR (Kd.R_mono (far3 HO_314001.out BK313) (fun _ h_ => h_.1))))) (Kd.R_lt (upR (Kd.R_mono (far3 HO_325000.out BK313) (fun _ h_ => h_.1))))) (Kd.R_lt (upR (Kd.R_mono (far3 HO_325001.out BK313) (fun _ h_ => h_.1))))) (Kd.R_lt (upR (Kd.R_mono (far3 HO351.out BK313) (fun _ h_ => h_.1))))) (Kd.R_lt (upR (Kd.R_mono (far3 HO354.out BK313) (fun _ h_ => h_.1))))) (below_size (upH HB))); have n14_ := Aside0.mk (Kd.R_lower (Kd.R_new' (Kd.R_new' (Kd.R_new' (Kd.R_new' ho2 (Kd.R_lt (upR (Kd.R_mono (far3 HO_303002.out BK313) (fun _ h_ => h_.1))))) (Kd.R_lt (upR (Kd.R_mono (far3 HO_314002.out BK313) (fun _ h_ => h_.1))))) (Kd.R_lt (upR (Kd.R_mono (far3 HO_325002.out BK313) (fun _ h_ => h_.1))))) (Kd.R_lt (upR (Kd.R_mono (far3 HO357.out BK313) (fun _ h_ => h_.1))))) (below_size (upH HB))); have n15_ := Aside0.mk (blk_below (g := gb290) (o := .cells #[.slice A0_0 l0_0.length c0_0, .slice A0_1 l0_1.length c0_1, .slice A0_2 l0_2.length c0_2] 25 (0, 0)) (by (with_reducible repeat (first | refine blk_drewN ?_ _ | refine blk_drew ?_ | refine blk_alloc ?_ _)); refine blk_far ?_ NB290_313.out _; (with_reducible repeat (first | refine blk_drewN ?_ _ | refine blk_drew ?_ | refine blk_alloc ?_ _)); refine blk_far ?_ NB290_313.out _; (with_reducible repeat (first | refine blk_drewN ?_ _ | refine blk_drew ?_ | refine blk_alloc ?_ _)); refine blk_far ?_ NB290_313.out _; (with_reducible repeat (first | refine blk_drewN ?_ _ | refine blk_drew ?_ | refine blk_alloc ?_ _)); exact BK290.out) hb); have n16_ := Aside0.mk (blk_below (g := gb302) (o := .cells #[.slice Ao16 t293.length co16, .slice Ao19 t296.length co19, .slice Ao20 t299.length co20] 25 (0, 0)) (by (with_reducible repeat (first | refine blk_drewN ?_ _ | refine blk_drew ?_ | refine blk_alloc ?_ _)); refine blk_far ?_ NB302_313.out _; (with_reducible repeat (first | refine blk_drewN ?_ _ | refine blk_drew ?_ | refine blk_alloc ?_ _)); refine blk_far ?_ NB302_313.out _; (with_reducible repeat (first | refine blk_drewN ?_ _ | refine blk_drew ?_ | refine blk_alloc ?_ _)); refine blk_far ?_ NB302_313.out _; (with_reducible repeat (first | refine blk_drewN ?_ _ | refine blk_drew ?_ | refine blk_alloc ?_ _)); exact BK302.out) hb); have n17_ := Aside0.mk (blk_below (g := gb313) (o := .cells #[.slice Ao103 t349.length co103, .slice Ao107 t352.length co107, .slice Ao108 t355.length co108] 25 (0, 0)) (by (with_reducible repeat (first | refine blk_drewN ?_ _ | refine blk_drew ?_ | refine blk_alloc ?_ _)); refine blk_put (cs := #[.slice Ao103 t349.length co103, .slice Ao107 t352.length co107, .slice Ao68 t334.length co68]) ?_ 2 _ rfl; (with_reducible repeat (first | refine blk_drewN ?_ _ | refine blk_drew ?_ | refine blk_alloc ?_ _)); refine blk_put (cs := #[.slice Ao103 t349.length co103, .slice Ao67 t331.length co67, .slice Ao68 t334.length co68]) ?_ 1 _ rfl; (with_reducible repeat (first | refine blk_drewN ?_ _ | refine blk_drew ?_ | refine blk_alloc ?_ _)); refine blk_put (cs := #[.slice Ao63 t328.length co63, .slice Ao67 t331.length co67, .slice Ao68 t334.length co68]) ?_ 0 _ rfl; (with_reducible repeat (first | refine blk_drewN ?_ _ | refine blk_drew ?_ | refine blk_alloc ?_ _)); exact BK313.out) hb); have n18_ := Aside0.mk (blk_below (g := gb324) (o := .cells #[.slice Ao72 t338.length co72, .slice Ao74 t341.length co74, .slice Ao75 t344.length co75] 25 (0, 0)) (by (with_reducible repeat (first | refine blk_drewN ?_ _ | refine blk_drew ?_ | refine blk_alloc ?_ _)); refine blk_far ?_ NB324_313.out _; (with_reducible repeat (first | refine blk_drewN ?_ _ | refine blk_drew ?_ | refine blk_alloc ?_ _)); refine blk_far ?_ NB324_313.out _; (with_reducible repeat (first | refine blk_drewN ?_ _ | refine blk_drew ?_ | refine blk_alloc ?_ _)); refine blk_far ?_ NB324_313.out _; (with_reducible repeat (first | refine blk_drewN ?_ _ | refine blk_drew ?_ | refine blk_alloc ?_ _)); exact BK324.out) hb); have n19_ := Aside0.mk (below_step (upH HB) hb); clear HO_303000; clear HO_303001; clear HO_303002; clear HO_314000; clear HO_314001; clear HO_314002; clear HO_325000; clear HO_325001; clear HO_325002; clear HO351; clear HO354; clear HO357; clear BK290; clear BK302; clear BK313; clear BK324; clear HB; have HO_303000 := n0_; have HO_303001 := n1_; have HO_303002 := n2_; have HO_314000 := n3_; have HO_314001 := n4_; have HO_314002 := n5_; have HO_325000 := n6_; have HO_325001 := n7_; have HO_325002 := n8_; have HO351 := n9_; have HO354 := n10_; have HO357 := n11_; have HO361 := n12_; have HO364 := n13_; have HO367 := n14_; have BK290 := n15_; have BK302 := n16_; have BK313 := n17_; have BK324 := n18_; have HB := n19_; clear n0_ n1_ n2_ n3_ n4_ n5_ n6_ n7_ n8_ n9_ n10_ n11_ n12_ n13_ n14_ n15_ n16_ n17_ n18_ n19_; (try clear hb); (try clear hb2); (try clear hk); (try clear hi); (try clear ho0); (try clear ho1); (try clear ho2); obtain ⟨Ao112, co112, eo112⟩ := Kd.R_slice HO361.out; subst eo112; have hcz113_0 := cell0 BK324; have hcz113_1 := cell1 BK324; have hcz113_2 := cell2 BK324; have hfz113_0 := blk_frozen BK324.out 0; have hfz113_1 := blk_frozen BK324.out 1; have hfz113_2 := blk_frozen BK324.out 2; obtain ⟨Ao114, co114, eo114⟩ := Kd.R_slice HO364.out; subst eo114; obtain ⟨Ao115, co115, eo115⟩ := Kd.R_slice HO367.out; subst eo115))
        (try simp only [Act.put, List.setIfInBounds_toArray, List.set_cons_zero, List.set_cons_succ])
        go_cut [89] (fun v89 wc => ∃ (kq : Nat) (x89_96 : Bool), v89 = .bool x89_96 ∧ Aside0 (headgatelaw07_LruChanges.j2 kq a1 x89_96 l0_0 l0_1 l0_2 t293 t296 t299 = some r) ∧ Aside0 (kq ≤ kj56) ∧ Aside0 (Kd.R (Kd.int .i64) 3 wc w.heap.size (fun k_ => some k_ ≠ ((.slice Ao19 t296.length co19) : Value).ownBlock ∧ some k_ ≠ ((.slice Ao103 t349.length co103) : Value).ownBlock ∧ some k_ ≠ ((.slice Ao107 t352.length co107) : Value).ownBlock ∧ some k_ ≠ ((.slice Ao112 t359.length co112) : Value).ownBlock ∧ some k_ ≠ ((.slice Ao114 t362.length co114) : Value).ownBlock) (.slice Ao16 t293.length co16) t293) ∧ Aside0 (Kd.R (Kd.int .i64) 3 wc w.heap.size (fun k_ => some k_ ≠ ((.slice Ao16 t293.length co16) : Value).ownBlock ∧ some k_ ≠ ((.slice Ao103 t349.length co103) : Value).ownBlock ∧ some k_ ≠ ((.slice Ao107 t352.length co107) : Value).ownBlock ∧ some k_ ≠ ((.slice Ao112 t359.length co112) : Value).ownBlock ∧ some k_ ≠ ((.slice Ao114 t362.length co114) : Value).ownBlock) (.slice Ao19 t296.length co19) t296) ∧ Aside0 (Kd.R Kd.bool 4 wc w.heap.size (fun k_ => some k_ ≠ ((.slice Ao108 t355.length co108) : Value).ownBlock ∧ some k_ ≠ ((.slice Ao115 t365.length co115) : Value).ownBlock) (.slice Ao20 t299.length co20) t299) ∧ Aside0 (Kd.R (Kd.int .i64) 3 wc w.heap.size (fun k_ => some k_ ≠ ((.slice Ao16 t293.length co16) : Value).ownBlock ∧ some k_ ≠ ((.slice Ao19 t296.length co19) : Value).ownBlock ∧ some k_ ≠ ((.slice Ao107 t352.length co107) : Value).ownBlock ∧ some k_ ≠ ((.slice Ao112 t359.length co112) : Value).ownBlock ∧ some k_ ≠ ((.slice Ao114 t362.length co114) : Value).ownBlock) (.slice Ao103 t349.length co103) t349) ∧ Aside0 (Kd.R (Kd.int .i64) 3 wc w.heap.size (fun k_ => some k_ ≠ ((.slice Ao16 t293.length co16) : Value).ownBlock ∧ some k_ ≠ ((.slice Ao19 t296.length co19) : Value).ownBlock ∧ some k_ ≠ ((.slice Ao103 t349.length co103) : Value).ownBlock ∧ some k_ ≠ ((.slice Ao112 t359.length co112) : Value).ownBlock ∧ some k_ ≠ ((.slice Ao114 t362.length co114) : Value).ownBlock) (.slice Ao107 t352.length co107) t352) ∧ Aside0 (Kd.R Kd.bool 4 wc w.heap.size (fun k_ => some k_ ≠ ((.slice Ao20 t299.length co20) : Value).ownBlock ∧ some k_ ≠ ((.slice Ao115 t365.length co115) : Value).ownBlock) (.slice Ao108 t355.length co108) t355) ∧ Aside0 (Kd.R (Kd.int .i64) 3 wc w.heap.size (fun k_ => some k_ ≠ ((.slice Ao16 t293.length co16) : Value).ownBlock ∧ some k_ ≠ ((.slice Ao19 t296.length co19) : Value).ownBlock ∧ some k_ ≠ ((.slice Ao103 t349.length co103) : Value).ownBlock ∧ some k_ ≠ ((.slice Ao107 t352.length co107) : Value).ownBlock ∧ some k_ ≠ ((.slice Ao114 t362.length co114) : Value).ownBlock) (.slice Ao112 t359.length co112) t359) ∧ Aside0 (Kd.R (Kd.int .i64) 3 wc w.heap.size (fun k_ => some k_ ≠ ((.slice Ao16 t293.length co16) : Value).ownBlock ∧ some k_ ≠ ((.slice Ao19 t296.length co19) : Value).ownBlock ∧ some k_ ≠ ((.slice Ao103 t349.length co103) : Value).ownBlock ∧ some k_ ≠ ((.slice Ao107 t352.length co107) : Value).ownBlock ∧ some k_ ≠ ((.slice Ao112 t359.length co112) : Value).ownBlock) (.slice Ao114 t362.length co114) t362) ∧ Aside0 (Kd.R Kd.bool 4 wc w.heap.size (fun k_ => some k_ ≠ ((.slice Ao20 t299.length co20) : Value).ownBlock ∧ some k_ ≠ ((.slice Ao108 t355.length co108) : Value).ownBlock) (.slice Ao115 t365.length co115) t365) ∧ Aside0 (wc.heap[gb290]? = some (.cells #[(.slice A0_0 l0_0.length c0_0), (.slice A0_1 l0_1.length c0_1), (.slice A0_2 l0_2.length c0_2)] 25 (0, 0))) ∧ Aside0 (wc.heap[gb302]? = some (.cells #[(.slice Ao16 t293.length co16), (.slice Ao19 t296.length co19), (.slice Ao20 t299.length co20)] 25 (0, 0))) ∧ Aside0 (wc.heap[gb313]? = some (.cells #[(.slice Ao103 t349.length co103), (.slice Ao107 t352.length co107), (.slice Ao108 t355.length co108)] 25 (0, 0))) ∧ Aside0 (wc.heap[gb324]? = some (.cells #[(.slice Ao112 t359.length co112), (.slice Ao114 t362.length co114), (.slice Ao115 t365.length co115)] 25 (0, 0))) ∧ Aside0 (Below w.heap.size w wc))
        case first => as_aux_lemma =>
         have H := HC97.out
         clear HC97
         replace H := Option.bind_eq_some_iff.mp H
         obtain ⟨t369, A1160, H⟩ := H
         replace H : (if t369 = true then (headgatelaw07_LruChanges.j2 kj56 a1 (t358 != t368) l0_0 l0_1 l0_2 t293 t296 t299) else (headgatelaw07_LruChanges.j2 kj56 a1 true l0_0 l0_1 l0_2 t293 t296 t299)) = some r := H
         have A116 := Aside0.mk A1160
         clear A1160
         by_cases c117 : t369 = true
         ·
          subst c117
          have H1 : (headgatelaw07_LruChanges.j2 kj56 a1 (t358 != t368) l0_0 l0_1 l0_2 t293 t296 t299) = some r := by rw [if_pos rfl] at H; exact H
          clear H
          have H := H1
          clear H1
          have H' := Aside0.mk H
          clear H
          have hnb118 := NB313_290.out
          have hnc118 := NB290_313.out
          have hnb119 := NB313_302.out
          have hnc119 := NB302_313.out
          have hnb120 := NB313_324.out
          have hnc120 := NB324_313.out
          have hcz121_0 := cell0 BK313
          have hcz121_1 := cell1 BK313
          have hcz121_2 := cell2 BK313
          have hfz121_0 := blk_frozen BK313.out 0
          have hfz121_1 := blk_frozen BK313.out 1
          have hfz121_2 := blk_frozen BK313.out 2
          have hnb122 := NB324_290.out
          have hnc122 := NB290_324.out
          have hnb123 := NB324_302.out
          have hnc123 := NB302_324.out
          have hcz124_0 := cell0 BK324
          have hcz124_1 := cell1 BK324
          have hcz124_2 := cell2 BK324
          have hfz124_0 := blk_frozen BK324.out 0
          have hfz124_1 := blk_frozen BK324.out 1
          have hfz124_2 := blk_frozen BK324.out 2
          go_wp2_with (first | ((with_reducible refine gate_callee (f := 15) rfl ?_); refine goesL_ (some 83) rfl rfl Try.func15 (by kernel_rfl) rfl #[.agg #[.slice Ao103 t349.length co103, .slice Ao107 t352.length co107, .slice Ao108 t355.length co108], .agg #[.slice Ao112 t359.length co112, .slice Ao114 t362.length co114, .slice Ao115 t365.length co115]] rfl (args_ (p := _)) ?_; (with_reducible refine (headgatekit_SameLists.calls kj56 _ _ t349 _ _ t352 _ _ t355 _ _ t359 _ _ t362 _ _ t365 true _ ?side1 ?side2 ?side3 ?side4 ?side5 ?side6 ?side7 ?side8 ?side9 ?side10 ?side11 ?side12 A116.out).mono ?_); (case side1 => exact (Kd.R_reads' (upR (Kd.R_mono (far3 HO351.out BK324) (fun _ h_ => h_.1)))).2.2); (case side2 => exact (Kd.R_reads' HO351.out).2.1); (case side3 => exact (Kd.R_reads' (upR (Kd.R_mono (far3 HO354.out BK324) (fun _ h_ => h_.1)))).2.2); (case side4 => exact (Kd.R_reads' HO354.out).2.1); (case side5 => exact (Kd.R_reads' (upR (Kd.R_mono (far3 HO357.out BK324) (fun _ h_ => h_.1)))).2.2); (case side6 => exact (Kd.R_reads' HO357.out).2.1); (case side7 => exact (Kd.R_reads' (upR (Kd.R_mono (far3 HO361.out BK324) (fun _ h_ => h_.1)))).2.2); (case side8 => exact (Kd.R_reads' HO361.out).2.1); (case side9 => exact (Kd.R_reads' (upR (Kd.R_mono (far3 HO364.out BK324) (fun _ h_ => h_.1)))).2.2); (case side10 => exact (Kd.R_reads' HO364.out).2.1); (case side11 => exact (Kd.R_reads' (upR (Kd.R_mono (far3 HO367.out BK324) (fun _ h_ => h_.1)))).2.2); (case side12 => exact (Kd.R_reads' HO367.out).2.1); rintro e w125 ⟨rfl, hb⟩; refine ⟨_, rfl, ?_⟩; have n0_ := Aside0.mk (Kd.R_below (upR (Kd.R_mono (far3 HO_303000.out BK324) (fun _ h_ => h_.1))) hb); have n1_ := Aside0.mk (Kd.R_below (upR (Kd.R_mono (far3 HO_303001.out BK324) (fun _ h_ => h_.1))) hb); have n2_ := Aside0.mk (Kd.R_below (upR (Kd.R_mono (far3 HO_303002.out BK324) (fun _ h_ => h_.1))) hb); have n3_ := Aside0.mk (Kd.R_below (upR (Kd.R_mono (far3 HO_314000.out BK324) (fun _ h_ => h_.1))) hb); have n4_ := Aside0.mk (Kd.R_below (upR (Kd.R_mono (far3 HO_314001.out BK324) (fun _ h_ => h_.1))) hb); have n5_ := Aside0.mk (Kd.R_below (upR (Kd.R_mono (far3 HO_314002.out BK324) (fun _ h_ => h_.1))) hb); have n6_ := Aside0.mk (Kd.R_below (upR (Kd.R_mono (far3 HO_325000.out BK324) (fun _ h_ => h_.1))) hb); have n7_ := Aside0.mk (Kd.R_below (upR (Kd.R_mono (far3 HO_325001.out BK324) (fun _ h_ => h_.1))) hb); have n8_ := Aside0.mk (Kd.R_below (upR (Kd.R_mono (far3 HO_325002.out BK324) (fun _ h_ => h_.1))) hb); have n9_ := Aside0.mk (Kd.R_below (upR (Kd.R_mono (far3 HO351.out BK324) (fun _ h_ => h_.1))) hb); have n10_ := Aside0.mk (Kd.R_below (upR (Kd.R_mono (far3 HO354.out BK324) (fun _ h_ => h_.1))) hb); have n11_ := Aside0.mk (Kd.R_below (upR (Kd.R_mono (far3 HO357.out BK324) (fun _ h_ => h_.1))) hb); have n12_ := Aside0.mk (Kd.R_below (upR (Kd.R_mono (far3 HO361.out BK324) (fun _ h_ => h_.1))) hb); have n13_ := Aside0.mk (Kd.R_below (upR (Kd.R_mono (far3 HO364.out BK324) (fun _ h_ => h_.1))) hb); have n14_ := Aside0.mk (Kd.R_below (upR (Kd.R_mono (far3 HO367.out BK324) (fun _ h_ => h_.1))) hb); have n15_ := Aside0.mk (blk_below (g := gb290) (o := .cells #[.slice A0_0 l0_0.length c0_0, .slice A0_1 l0_1.length c0_1, .slice A0_2 l0_2.length c0_2] 25 (0, 0)) (by (with_reducible repeat (first | refine blk_drewN ?_ _ | refine blk_drew ?_ | refine blk_alloc ?_ _)); refine blk_far ?_ NB290_324.out _; (with_reducible repeat (first | refine blk_drewN ?_ _ | refine blk_drew ?_ | refine blk_alloc ?_ _)); refine blk_far ?_ NB290_324.out _; (with_reducible repeat (first | refine blk_drewN ?_ _ | refine blk_drew ?_ | refine blk_alloc ?_ _)); refine blk_far ?_ NB290_324.out _; (with_reducible repeat (first | refine blk_drewN ?_ _ | refine blk_drew ?_ | refine blk_alloc ?_ _)); exact BK290.out) hb); have n16_ := Aside0.mk (blk_below (g := gb302) (o := .cells #[.slice Ao16 t293.length co16, .slice Ao19 t296.length co19, .slice Ao20 t299.length co20] 25 (0, 0)) (by (with_reducible repeat (first | refine blk_drewN ?_ _ | refine blk_drew ?_ | refine blk_alloc ?_ _)); refine blk_far ?_ NB302_324.out _; (with_reducible repeat (first | refine blk_drewN ?_ _ | refine blk_drew ?_ | refine blk_alloc ?_ _)); refine blk_far ?_ NB302_324.out _; (with_reducible repeat (first | refine blk_drewN ?_ _ | refine blk_drew ?_ | refine blk_alloc ?_ _)); refine blk_far ?_ NB302_324.out _; (with_reducible repeat (first | refine blk_drewN ?_ _ | refine blk_drew ?_ | refine blk_alloc ?_ _)); exact BK302.out) hb); have n17_ := Aside0.mk (blk_below (g := gb313) (o := .cells #[.slice Ao103 t349.length co103, .slice Ao107 t352.length co107, .slice Ao108 t355.length co108] 25 (0, 0)) (by (with_reducible repeat (first | refine blk_drewN ?_ _ | refine blk_drew ?_ | refine blk_alloc ?_ _)); refine blk_far ?_ NB313_324.out _; (with_reducible repeat (first | refine blk_drewN ?_ _ | refine blk_drew ?_ | refine blk_alloc ?_ _)); refine blk_far ?_ NB313_324.out _; (with_reducible repeat (first | refine blk_drewN ?_ _ | refine blk_drew ?_ | refine blk_alloc ?_ _)); refine blk_far ?_ NB313_324.out _; (with_reducible repeat (first | refine blk_drewN ?_ _ | refine blk_drew ?_ | refine blk_alloc ?_ _)); exact BK313.out) hb); have n18_ := Aside0.mk (blk_below (g := gb324) (o := .cells #[.slice Ao112 t359.length co112, .slice Ao114 t362.length co114, .slice Ao115 t365.length co115] 25 (0, 0)) (by (with_reducible repeat (first | refine blk_drewN ?_ _ | refine blk_drew ?_ | refine blk_alloc ?_ _)); refine blk_put (cs := #[.slice Ao112 t359.length co112, .slice Ao114 t362.length co114, .slice Ao75 t344.length co75]) ?_ 2 _ rfl; (with_reducible repeat (first | refine blk_drewN ?_ _ | refine blk_drew ?_ | refine blk_alloc ?_ _)); refine blk_put (cs := #[.slice Ao112 t359.length co112, .slice Ao74 t341.length co74, .slice Ao75 t344.length co75]) ?_ 1 _ rfl; (with_reducible repeat (first | refine blk_drewN ?_ _ | refine blk_drew ?_ | refine blk_alloc ?_ _)); refine blk_put (cs := #[.slice Ao72 t338.length co72, .slice Ao74 t341.length co74, .slice Ao75 t344.length co75]) ?_ 0 _ rfl; (with_reducible repeat (first | refine blk_drewN ?_ _ | refine blk_drew ?_ | refine blk_alloc ?_ _)); exact BK324.out) hb); have n19_ := Aside0.mk (below_step (upH HB) hb); clear HO_303000; clear HO_303001; clear HO_303002; clear HO_314000; clear HO_314001; clear HO_314002; clear HO_325000; clear HO_325001; clear HO_325002; clear HO351; clear HO354; clear HO357; clear HO361; clear HO364; clear HO367; clear BK290; clear BK302; clear BK313; clear BK324; clear HB; have HO_303000 := n0_; have HO_303001 := n1_; have HO_303002 := n2_; have HO_314000 := n3_; have HO_314001 := n4_; have HO_314002 := n5_; have HO_325000 := n6_; have HO_325001 := n7_; have HO_325002 := n8_; have HO351 := n9_; have HO354 := n10_; have HO357 := n11_; have HO361 := n12_; have HO364 := n13_; have HO367 := n14_; have BK290 := n15_; have BK302 := n16_; have BK313 := n17_; have BK324 := n18_; have HB := n19_; clear n0_ n1_ n2_ n3_ n4_ n5_ n6_ n7_ n8_ n9_ n10_ n11_ n12_ n13_ n14_ n15_ n16_ n17_ n18_ n19_; (try clear hb); (try clear hb2); (try clear hk); (try clear hi)))
          go_meet
          case rel => exact ⟨_, ((t358 != t368)), (by first | rfl | (simp; done) | (simp [*]; done)), H', ⟨by have := HJ8.out; have := HJ56.out; first | omega | exact Nat.le_refl _⟩, ⟨by (with_reducible repeat (first | apply Kd.R_alloc | apply Kd.R_drewN | apply Kd.R_drew)); exact Kd.R_mono HO_303000.out (fun _ hk => ⟨hk.1.1.1.1.1, ⟨hk.1.1.1.2, ⟨hk.1.1.2, ⟨hk.1.2, hk.2⟩⟩⟩⟩)⟩, ⟨by (with_reducible repeat (first | apply Kd.R_alloc | apply Kd.R_drewN | apply Kd.R_drew)); exact Kd.R_mono HO_303001.out (fun _ hk => ⟨hk.1.1.1.1.1, ⟨hk.1.1.1.2, ⟨hk.1.1.2, ⟨hk.1.2, hk.2⟩⟩⟩⟩)⟩, ⟨by (with_reducible repeat (first | apply Kd.R_alloc | apply Kd.R_drewN | apply Kd.R_drew)); exact Kd.R_mono HO_303002.out (fun _ hk => ⟨hk.1.2, hk.2⟩)⟩, ⟨by (with_reducible repeat (first | apply Kd.R_alloc | apply Kd.R_drewN | apply Kd.R_drew)); exact Kd.R_mono HO351.out (fun _ hk => ⟨hk.1.1.1.1.1.1.1.2, ⟨hk.1.1.1.1.1.1.2, ⟨hk.1.1.1.1.1.1.1.1, ⟨hk.1.2, hk.2⟩⟩⟩⟩)⟩, ⟨by (with_reducible repeat (first | apply Kd.R_alloc | apply Kd.R_drewN | apply Kd.R_drew)); exact Kd.R_mono HO354.out (fun _ hk => ⟨hk.1.1.1.1.1.1.1.2, ⟨hk.1.1.1.1.1.1.2, ⟨hk.1.1.1.1.1.1.1.1, ⟨hk.1.2, hk.2⟩⟩⟩⟩)⟩, ⟨by (with_reducible repeat (first | apply Kd.R_alloc | apply Kd.R_drewN | apply Kd.R_drew)); exact Kd.R_mono HO357.out (fun _ hk => ⟨hk.1.1.1.2, hk.2⟩)⟩, ⟨by (with_reducible repeat (first | apply Kd.R_alloc | apply Kd.R_drewN | apply Kd.R_drew)); exact Kd.R_mono HO361.out (fun _ hk => ⟨hk.1.1.1.1.1.1.1.2, ⟨hk.1.1.1.1.1.1.2, ⟨hk.1.2, ⟨hk.2, hk.1.1.1.1.1.1.1.1⟩⟩⟩⟩)⟩, ⟨by (with_reducible repeat (first | apply Kd.R_alloc | apply Kd.R_drewN | apply Kd.R_drew)); exact Kd.R_mono HO364.out (fun _ hk => ⟨hk.1.1.1.1.1.1.1.2, ⟨hk.1.1.1.1.1.1.2, ⟨hk.1.2, ⟨hk.2, hk.1.1.1.1.1.1.1.1⟩⟩⟩⟩)⟩, ⟨by (with_reducible repeat (first | apply Kd.R_alloc | apply Kd.R_drewN | apply Kd.R_drew)); exact Kd.R_mono HO367.out (fun _ hk => ⟨hk.1.1.1.2, hk.2⟩)⟩, ⟨upB BK290⟩, ⟨upB BK302⟩, ⟨upB BK313⟩, ⟨upB BK324⟩, ⟨upH HB⟩⟩
         ·
          replace c117 := Bool.eq_false_iff.mpr c117
          subst c117
          have H1 : (headgatelaw07_LruChanges.j2 kj56 a1 true l0_0 l0_1 l0_2 t293 t296 t299) = some r := by rw [if_neg (show ¬ (false = true) by decide)] at H; exact H
          clear H
          have H := H1
          clear H1
          have H' := Aside0.mk H
          clear H
          have hnb126 := NB313_290.out
          have hnc126 := NB290_313.out
          have hnb127 := NB313_302.out
          have hnc127 := NB302_313.out
          have hnb128 := NB313_324.out
          have hnc128 := NB324_313.out
          have hcz129_0 := cell0 BK313
          have hcz129_1 := cell1 BK313
          have hcz129_2 := cell2 BK313
          have hfz129_0 := blk_frozen BK313.out 0
          have hfz129_1 := blk_frozen BK313.out 1
          have hfz129_2 := blk_frozen BK313.out 2
          have hnb130 := NB324_290.out
          have hnc130 := NB290_324.out
          have hnb131 := NB324_302.out
          have hnc131 := NB302_324.out
          have hcz132_0 := cell0 BK324
          have hcz132_1 := cell1 BK324
          have hcz132_2 := cell2 BK324
          have hfz132_0 := blk_frozen BK324.out 0
          have hfz132_1 := blk_frozen BK324.out 1
          have hfz132_2 := blk_frozen BK324.out 2
          go_wp2_with (first | ((with_reducible refine gate_callee (f := 15) rfl ?_); refine goesL_ (some 83) rfl rfl Try.func15 (by kernel_rfl) rfl #[.agg #[.slice Ao103 t349.length co103, .slice Ao107 t352.length co107, .slice Ao108 t355.length co108], .agg #[.slice Ao112 t359.length co112, .slice Ao114 t362.length co114, .slice Ao115 t365.length co115]] rfl (args_ (p := _)) ?_; (with_reducible refine (headgatekit_SameLists.calls kj56 _ _ t349 _ _ t352 _ _ t355 _ _ t359 _ _ t362 _ _ t365 false _ ?side1 ?side2 ?side3 ?side4 ?side5 ?side6 ?side7 ?side8 ?side9 ?side10 ?side11 ?side12 A116.out).mono ?_); (case side1 => exact (Kd.R_reads' (upR (Kd.R_mono (far3 HO351.out BK324) (fun _ h_ => h_.1)))).2.2); (case side2 => exact (Kd.R_reads' HO351.out).2.1); (case side3 => exact (Kd.R_reads' (upR (Kd.R_mono (far3 HO354.out BK324) (fun _ h_ => h_.1)))).2.2); (case side4 => exact (Kd.R_reads' HO354.out).2.1); (case side5 => exact (Kd.R_reads' (upR (Kd.R_mono (far3 HO357.out BK324) (fun _ h_ => h_.1)))).2.2); (case side6 => exact (Kd.R_reads' HO357.out).2.1); (case side7 => exact (Kd.R_reads' (upR (Kd.R_mono (far3 HO361.out BK324) (fun _ h_ => h_.1)))).2.2); (case side8 => exact (Kd.R_reads' HO361.out).2.1); (case side9 => exact (Kd.R_reads' (upR (Kd.R_mono (far3 HO364.out BK324) (fun _ h_ => h_.1)))).2.2); (case side10 => exact (Kd.R_reads' HO364.out).2.1); (case side11 => exact (Kd.R_reads' (upR (Kd.R_mono (far3 HO367.out BK324) (fun _ h_ => h_.1)))).2.2); (case side12 => exact (Kd.R_reads' HO367.out).2.1); rintro e w133 ⟨rfl, hb⟩; refine ⟨_, rfl, ?_⟩; have n0_ := Aside0.mk (Kd.R_below (upR (Kd.R_mono (far3 HO_303000.out BK324) (fun _ h_ => h_.1))) hb); have n1_ := Aside0.mk (Kd.R_below (upR (Kd.R_mono (far3 HO_303001.out BK324) (fun _ h_ => h_.1))) hb); have n2_ := Aside0.mk (Kd.R_below (upR (Kd.R_mono (far3 HO_303002.out BK324) (fun _ h_ => h_.1))) hb); have n3_ := Aside0.mk (Kd.R_below (upR (Kd.R_mono (far3 HO_314000.out BK324) (fun _ h_ => h_.1))) hb); have n4_ := Aside0.mk (Kd.R_below (upR (Kd.R_mono (far3 HO_314001.out BK324) (fun _ h_ => h_.1))) hb); have n5_ := Aside0.mk (Kd.R_below (upR (Kd.R_mono (far3 HO_314002.out BK324) (fun _ h_ => h_.1))) hb); have n6_ := Aside0.mk (Kd.R_below (upR (Kd.R_mono (far3 HO_325000.out BK324) (fun _ h_ => h_.1))) hb); have n7_ := Aside0.mk (Kd.R_below (upR (Kd.R_mono (far3 HO_325001.out BK324) (fun _ h_ => h_.1))) hb); have n8_ := Aside0.mk (Kd.R_below (upR (Kd.R_mono (far3 HO_325002.out BK324) (fun _ h_ => h_.1))) hb); have n9_ := Aside0.mk (Kd.R_below (upR (Kd.R_mono (far3 HO351.out BK324) (fun _ h_ => h_.1))) hb); have n10_ := Aside0.mk (Kd.R_below (upR (Kd.R_mono (far3 HO354.out BK324) (fun _ h_ => h_.1))) hb); have n11_ := Aside0.mk (Kd.R_below (upR (Kd.R_mono (far3 HO357.out BK324) (fun _ h_ => h_.1))) hb); have n12_ := Aside0.mk (Kd.R_below (upR (Kd.R_mono (far3 HO361.out BK324) (fun _ h_ => h_.1))) hb); have n13_ := Aside0.mk (Kd.R_below (upR (Kd.R_mono (far3 HO364.out BK324) (fun _ h_ => h_.1))) hb); have n14_ := Aside0.mk (Kd.R_below (upR (Kd.R_mono (far3 HO367.out BK324) (fun _ h_ => h_.1))) hb); have n15_ := Aside0.mk (blk_below (g := gb290) (o := .cells #[.slice A0_0 l0_0.length c0_0, .slice A0_1 l0_1.length c0_1, .slice A0_2 l0_2.length c0_2] 25 (0, 0)) (by (with_reducible repeat (first | refine blk_drewN ?_ _ | refine blk_drew ?_ | refine blk_alloc ?_ _)); refine blk_far ?_ NB290_324.out _; (with_reducible repeat (first | refine blk_drewN ?_ _ | refine blk_drew ?_ | refine blk_alloc ?_ _)); refine blk_far ?_ NB290_324.out _; (with_reducible repeat (first | refine blk_drewN ?_ _ | refine blk_drew ?_ | refine blk_alloc ?_ _)); refine blk_far ?_ NB290_324.out _; (with_reducible repeat (first | refine blk_drewN ?_ _ | refine blk_drew ?_ | refine blk_alloc ?_ _)); exact BK290.out) hb); have n16_ := Aside0.mk (blk_below (g := gb302) (o := .cells #[.slice Ao16 t293.length co16, .slice Ao19 t296.length co19, .slice Ao20 t299.length co20] 25 (0, 0)) (by (with_reducible repeat (first | refine blk_drewN ?_ _ | refine blk_drew ?_ | refine blk_alloc ?_ _)); refine blk_far ?_ NB302_324.out _; (with_reducible repeat (first | refine blk_drewN ?_ _ | refine blk_drew ?_ | refine blk_alloc ?_ _)); refine blk_far ?_ NB302_324.out _; (with_reducible repeat (first | refine blk_drewN ?_ _ | refine blk_drew ?_ | refine blk_alloc ?_ _)); refine blk_far ?_ NB302_324.out _; (with_reducible repeat (first | refine blk_drewN ?_ _ | refine blk_drew ?_ | refine blk_alloc ?_ _)); exact BK302.out) hb); have n17_ := Aside0.mk (blk_below (g := gb313) (o := .cells #[.slice Ao103 t349.length co103, .slice Ao107 t352.length co107, .slice Ao108 t355.length co108] 25 (0, 0)) (by (with_reducible repeat (first | refine blk_drewN ?_ _ | refine blk_drew ?_ | refine blk_alloc ?_ _)); refine blk_far ?_ NB313_324.out _; (with_reducible repeat (first | refine blk_drewN ?_ _ | refine blk_drew ?_ | refine blk_alloc ?_ _)); refine blk_far ?_ NB313_324.out _; (with_reducible repeat (first | refine blk_drewN ?_ _ | refine blk_drew ?_ | refine blk_alloc ?_ _)); refine blk_far ?_ NB313_324.out _; (with_reducible repeat (first | refine blk_drewN ?_ _ | refine blk_drew ?_ | refine blk_alloc ?_ _)); exact BK313.out) hb); have n18_ := Aside0.mk (blk_below (g := gb324) (o := .cells #[.slice Ao112 t359.length co112, .slice Ao114 t362.length co114, .slice Ao115 t365.length co115] 25 (0, 0)) (by (with_reducible repeat (first | refine blk_drewN ?_ _ | refine blk_drew ?_ | refine blk_alloc ?_ _)); refine blk_put (cs := #[.slice Ao112 t359.length co112, .slice Ao114 t362.length co114, .slice Ao75 t344.length co75]) ?_ 2 _ rfl; (with_reducible repeat (first | refine blk_drewN ?_ _ | refine blk_drew ?_ | refine blk_alloc ?_ _)); refine blk_put (cs := #[.slice Ao112 t359.length co112, .slice Ao74 t341.length co74, .slice Ao75 t344.length co75]) ?_ 1 _ rfl; (with_reducible repeat (first | refine blk_drewN ?_ _ | refine blk_drew ?_ | refine blk_alloc ?_ _)); refine blk_put (cs := #[.slice Ao72 t338.length co72, .slice Ao74 t341.length co74, .slice Ao75 t344.length co75]) ?_ 0 _ rfl; (with_reducible repeat (first | refine blk_drewN ?_ _ | refine blk_drew ?_ | refine blk_alloc ?_ _)); exact BK324.out) hb); have n19_ := Aside0.mk (below_step (upH HB) hb); clear HO_303000; clear HO_303001; clear HO_303002; clear HO_314000; clear HO_314001; clear HO_314002; clear HO_325000; clear HO_325001; clear HO_325002; clear HO351; clear HO354; clear HO357; clear HO361; clear HO364; clear HO367; clear BK290; clear BK302; clear BK313; clear BK324; clear HB; have HO_303000 := n0_; have HO_303001 := n1_; have HO_303002 := n2_; have HO_314000 := n3_; have HO_314001 := n4_; have HO_314002 := n5_; have HO_325000 := n6_; have HO_325001 := n7_; have HO_325002 := n8_; have HO351 := n9_; have HO354 := n10_; have HO357 := n11_; have HO361 := n12_; have HO364 := n13_; have HO367 := n14_; have BK290 := n15_; have BK302 := n16_; have BK313 := n17_; have BK324 := n18_; have HB := n19_; clear n0_ n1_ n2_ n3_ n4_ n5_ n6_ n7_ n8_ n9_ n10_ n11_ n12_ n13_ n14_ n15_ n16_ n17_ n18_ n19_; (try clear hb); (try clear hb2); (try clear hk); (try clear hi)))
          go_meet
          case rel => exact ⟨_, (true), (by first | rfl | (simp; done) | (simp [*]; done)), H', ⟨by have := HJ8.out; have := HJ56.out; first | omega | exact Nat.le_refl _⟩, ⟨by (with_reducible repeat (first | apply Kd.R_alloc | apply Kd.R_drewN | apply Kd.R_drew)); exact Kd.R_mono HO_303000.out (fun _ hk => ⟨hk.1.1.1.1.1, ⟨hk.1.1.1.2, ⟨hk.1.1.2, ⟨hk.1.2, hk.2⟩⟩⟩⟩)⟩, ⟨by (with_reducible repeat (first | apply Kd.R_alloc | apply Kd.R_drewN | apply Kd.R_drew)); exact Kd.R_mono HO_303001.out (fun _ hk => ⟨hk.1.1.1.1.1, ⟨hk.1.1.1.2, ⟨hk.1.1.2, ⟨hk.1.2, hk.2⟩⟩⟩⟩)⟩, ⟨by (with_reducible repeat (first | apply Kd.R_alloc | apply Kd.R_drewN | apply Kd.R_drew)); exact Kd.R_mono HO_303002.out (fun _ hk => ⟨hk.1.2, hk.2⟩)⟩, ⟨by (with_reducible repeat (first | apply Kd.R_alloc | apply Kd.R_drewN | apply Kd.R_drew)); exact Kd.R_mono HO351.out (fun _ hk => ⟨hk.1.1.1.1.1.1.1.2, ⟨hk.1.1.1.1.1.1.2, ⟨hk.1.1.1.1.1.1.1.1, ⟨hk.1.2, hk.2⟩⟩⟩⟩)⟩, ⟨by (with_reducible repeat (first | apply Kd.R_alloc | apply Kd.R_drewN | apply Kd.R_drew)); exact Kd.R_mono HO354.out (fun _ hk => ⟨hk.1.1.1.1.1.1.1.2, ⟨hk.1.1.1.1.1.1.2, ⟨hk.1.1.1.1.1.1.1.1, ⟨hk.1.2, hk.2⟩⟩⟩⟩)⟩, ⟨by (with_reducible repeat (first | apply Kd.R_alloc | apply Kd.R_drewN | apply Kd.R_drew)); exact Kd.R_mono HO357.out (fun _ hk => ⟨hk.1.1.1.2, hk.2⟩)⟩, ⟨by (with_reducible repeat (first | apply Kd.R_alloc | apply Kd.R_drewN | apply Kd.R_drew)); exact Kd.R_mono HO361.out (fun _ hk => ⟨hk.1.1.1.1.1.1.1.2, ⟨hk.1.1.1.1.1.1.2, ⟨hk.1.2, ⟨hk.2, hk.1.1.1.1.1.1.1.1⟩⟩⟩⟩)⟩, ⟨by (with_reducible repeat (first | apply Kd.R_alloc | apply Kd.R_drewN | apply Kd.R_drew)); exact Kd.R_mono HO364.out (fun _ hk => ⟨hk.1.1.1.1.1.1.1.2, ⟨hk.1.1.1.1.1.1.2, ⟨hk.1.2, ⟨hk.2, hk.1.1.1.1.1.1.1.1⟩⟩⟩⟩)⟩, ⟨by (with_reducible repeat (first | apply Kd.R_alloc | apply Kd.R_drewN | apply Kd.R_drew)); exact Kd.R_mono HO367.out (fun _ hk => ⟨hk.1.1.1.2, hk.2⟩)⟩, ⟨upB BK290⟩, ⟨upB BK302⟩, ⟨upB BK313⟩, ⟨upB BK324⟩, ⟨upH HB⟩⟩
        case rest => as_aux_lemma =>
         clear HC97
         try clear c1
         try clear c2
         try clear p2
         try clear c3
         try clear c4
         try clear c5
         try clear c6
         try clear c7
         try clear c8
         try clear c9
         try clear c10
         try clear c11
         try clear c12
         try clear c13
         try clear c15
         try clear c18
         try clear c19
         try clear c20
         try clear c21
         try clear c39
         try clear c40
         try clear c40b0
         try clear c40b1
         try clear c54
         try clear c58
         try clear c59
         try clear c60
         try clear c64
         try clear c65
         try clear c69
         try clear c77
         try clear c78
         try clear c79
         try clear c80
         try clear c82
         try clear c83
         try clear c86
         try clear c87
         try clear c88
         try clear c90
         try clear c91
         try clear c94
         try clear c98
         try clear c99
         try clear c100
         try clear c104
         try clear c105
         try clear c109
         try clear c117
         try clear c118
         try clear c119
         try clear c120
         try clear c122
         try clear c123
         try clear c126
         try clear c127
         try clear c128
         try clear c130
         try clear c131
         try clear hcz101_0
         try clear hcz101_1
         try clear hcz101_2
         try clear hcz106_0
         try clear hcz106_1
         try clear hcz106_2
         try clear hcz110_0
         try clear hcz110_1
         try clear hcz110_2
         try clear hcz113_0
         try clear hcz113_1
         try clear hcz113_2
         try clear hcz121_0
         try clear hcz121_1
         try clear hcz121_2
         try clear hcz124_0
         try clear hcz124_1
         try clear hcz124_2
         try clear hcz129_0
         try clear hcz129_1
         try clear hcz129_2
         try clear hcz132_0
         try clear hcz132_1
         try clear hcz132_2
         try clear hcz61_0
         try clear hcz61_1
         try clear hcz61_2
         try clear hcz66_0
         try clear hcz66_1
         try clear hcz66_2
         try clear hcz70_0
         try clear hcz70_1
         try clear hcz70_2
         try clear hcz73_0
         try clear hcz73_1
         try clear hcz73_2
         try clear hcz81_0
         try clear hcz81_1
         try clear hcz81_2
         try clear hcz84_0
         try clear hcz84_1
         try clear hcz84_2
         try clear hcz89_0
         try clear hcz89_1
         try clear hcz89_2
         try clear hcz92_0
         try clear hcz92_1
         try clear hcz92_2
         try clear hfz101_0
         try clear hfz101_1
         try clear hfz101_2
         try clear hfz106_0
         try clear hfz106_1
         try clear hfz106_2
         try clear hfz110_0
         try clear hfz110_1
         try clear hfz110_2
         try clear hfz113_0
         try clear hfz113_1
         try clear hfz113_2
         try clear hfz121_0
         try clear hfz121_1
         try clear hfz121_2
         try clear hfz124_0
         try clear hfz124_1
         try clear hfz124_2
         try clear hfz129_0
         try clear hfz129_1
         try clear hfz129_2
         try clear hfz132_0
         try clear hfz132_1
         try clear hfz132_2
         try clear hfz61_0
         try clear hfz61_1
         try clear hfz61_2
         try clear hfz66_0
         try clear hfz66_1
         try clear hfz66_2
         try clear hfz70_0
         try clear hfz70_1
         try clear hfz70_2
         try clear hfz73_0
         try clear hfz73_1
         try clear hfz73_2
         try clear hfz81_0
         try clear hfz81_1
         try clear hfz81_2
         try clear hfz84_0
         try clear hfz84_1
         try clear hfz84_2
         try clear hfz89_0
         try clear hfz89_1
         try clear hfz89_2
         try clear hfz92_0
         try clear hfz92_1
         try clear hfz92_2
         try clear p2
         obtain ⟨kq, x89_96, rfl, HA, HJ96, HO_303000, HO_303001, HO_303002, HO_314000, HO_314001, HO_314002, HO_325000, HO_325001, HO_325002, BK290, BK302, BK313, BK324, HB⟩ := hcut
         cases kq with
         | zero => exact absurd HA.out (by simp [headgatelaw07_LruChanges.j2])
         | succ kj96 =>
          have H := HA.out
          clear HA
          simp only [headgatelaw07_LruChanges.j2] at H
          by_cases c134 : x89_96 = true
          ·
           subst c134
           have H1 : (some false) = some r := by rw [if_pos rfl] at H; exact H
           clear H
           have H := H1
           clear H1
           exact absurd H (by rw [HT.out]; simp)
          ·
           replace c134 := Bool.eq_false_iff.mpr c134
           subst c134
           have H1 : ((lru_Touch.f kj96 t293 t296 t299 a1).bind fun bt370 => ((headgateref07_Touch.f kj96 l0_0 l0_1 l0_2 a1).bind fun bt380 => ((lru_Where.f kj96 t293 t296 t299 a1).bind fun bt390 => ((headgateref07_Where.f kj96 l0_0 l0_1 l0_2 a1).bind fun bt392 => ((headgatekit_SameLists.f kj96 bt370.1 bt370.2.1 bt370.2.2.1 bt380.1 bt380.2.1 bt380.2.2.1).bind fun t394 => (if t394 = true then (if bt370.2.2.2 = bt380.2.2.2 then (if bt390.1 = bt392.1 then (if bt390.2 = bt392.2 then ((headgatekit_SameLists.f kj96 t293 t296 t299 l0_0 l0_1 l0_2).bind fun t395 => (if t395 = true then ((headgatelaw07_awake.f).bind fun t396 => (some t396)) else (some false))) else (some false)) else (some false)) else (some false)) else (some false))))))) = some r := by rw [if_neg (show ¬ (false = true) by decide)] at H; exact H
           clear H
           have H := H1
           clear H1
           replace H := Option.bind_eq_some_iff.mp H
           obtain ⟨⟨t370, t373, t376, t379⟩, A1350, H⟩ := H
           replace H : ((headgateref07_Touch.f kj96 l0_0 l0_1 l0_2 a1).bind fun bt380 => ((lru_Where.f kj96 t293 t296 t299 a1).bind fun bt390 => ((headgateref07_Where.f kj96 l0_0 l0_1 l0_2 a1).bind fun bt392 => ((headgatekit_SameLists.f kj96 t370 t373 t376 bt380.1 bt380.2.1 bt380.2.2.1).bind fun t394 => (if t394 = true then (if t379 = bt380.2.2.2 then (if bt390.1 = bt392.1 then (if bt390.2 = bt392.2 then ((headgatekit_SameLists.f kj96 t293 t296 t299 l0_0 l0_1 l0_2).bind fun t395 => (if t395 = true then ((headgatelaw07_awake.f).bind fun t396 => (some t396)) else (some false))) else (some false)) else (some false)) else (some false)) else (some false)))))) = some r := H
           have A135 := Aside0.mk A1350
           clear A1350
           replace H := Option.bind_eq_some_iff.mp H
           obtain ⟨⟨t380, t383, t386, t389⟩, A1360, H⟩ := H
           replace H : ((lru_Where.f kj96 t293 t296 t299 a1).bind fun bt390 => ((headgateref07_Where.f kj96 l0_0 l0_1 l0_2 a1).bind fun bt392 => ((headgatekit_SameLists.f kj96 t370 t373 t376 t380 t383 t386).bind fun t394 => (if t394 = true then (if t379 = t389 then (if bt390.1 = bt392.1 then (if bt390.2 = bt392.2 then ((headgatekit_SameLists.f kj96 t293 t296 t299 l0_0 l0_1 l0_2).bind fun t395 => (if t395 = true then ((headgatelaw07_awake.f).bind fun t396 => (some t396)) else (some false))) else (some false)) else (some false)) else (some false)) else (some false))))) = some r := H
           have A136 := Aside0.mk A1360
           clear A1360
           replace H := Option.bind_eq_some_iff.mp H
           obtain ⟨⟨t390, t391⟩, A1370, H⟩ := H
           replace H : ((headgateref07_Where.f kj96 l0_0 l0_1 l0_2 a1).bind fun bt392 => ((headgatekit_SameLists.f kj96 t370 t373 t376 t380 t383 t386).bind fun t394 => (if t394 = true then (if t379 = t389 then (if t390 = bt392.1 then (if t391 = bt392.2 then ((headgatekit_SameLists.f kj96 t293 t296 t299 l0_0 l0_1 l0_2).bind fun t395 => (if t395 = true then ((headgatelaw07_awake.f).bind fun t396 => (some t396)) else (some false))) else (some false)) else (some false)) else (some false)) else (some false)))) = some r := H
           have A137 := Aside0.mk A1370
           clear A1370
           replace H := Option.bind_eq_some_iff.mp H
           obtain ⟨⟨t392, t393⟩, A1380, H⟩ := H
           replace H : ((headgatekit_SameLists.f kj96 t370 t373 t376 t380 t383 t386).bind fun t394 => (if t394 = true then (if t379 = t389 then (if t390 = t392 then (if t391 = t393 then ((headgatekit_SameLists.f kj96 t293 t296 t299 l0_0 l0_1 l0_2).bind fun t395 => (if t395 = true then ((headgatelaw07_awake.f).bind fun t396 => (some t396)) else (some false))) else (some false)) else (some false)) else (some false)) else (some false))) = some r := H
           have A138 := Aside0.mk A1380
           clear A1380
           replace H := Option.bind_eq_some_iff.mp H
           obtain ⟨t394, A1390, H⟩ := H
           replace H : (if t394 = true then (if t379 = t389 then (if t390 = t392 then (if t391 = t393 then ((headgatekit_SameLists.f kj96 t293 t296 t299 l0_0 l0_1 l0_2).bind fun t395 => (if t395 = true then ((headgatelaw07_awake.f).bind fun t396 => (some t396)) else (some false))) else (some false)) else (some false)) else (some false)) else (some false)) = some r := H
           have A139 := Aside0.mk A1390
           clear A1390
           by_cases c140 : t394 = true
           ·
            subst c140
            have H1 : (if t379 = t389 then (if t390 = t392 then (if t391 = t393 then ((headgatekit_SameLists.f kj96 t293 t296 t299 l0_0 l0_1 l0_2).bind fun t395 => (if t395 = true then ((headgatelaw07_awake.f).bind fun t396 => (some t396)) else (some false))) else (some false)) else (some false)) else (some false)) = some r := by rw [if_pos rfl] at H; exact H
            clear H
            have H := H1
            clear H1
            by_cases c141 : t379 = t389
            ·
             rw [if_pos c141] at H
             have c141b0 : (t379 == t389) = true := beq_iff_eq.mpr c141
             have c141b1 : (t379 != t389) = false := bne_eq_false_iff_eq.mpr c141
             clear c141
             by_cases c142 : t390 = t392
             ·
              rw [if_pos c142] at H
              have c142b0 : (t390 == t392) = true := beq_iff_eq.mpr c142
              have c142b1 : (t390 != t392) = false := bne_eq_false_iff_eq.mpr c142
              clear c142
              by_cases c143 : t391 = t393
              ·
               rw [if_pos c143] at H
               have c143b0 : (t391 == t393) = true := beq_iff_eq.mpr c143
               have c143b1 : (t391 != t393) = false := bne_eq_false_iff_eq.mpr c143
               clear c143
               replace H := Option.bind_eq_some_iff.mp H
               obtain ⟨t395, A1440, H⟩ := H
               replace H : (if t395 = true then ((headgatelaw07_awake.f).bind fun t396 => (some t396)) else (some false)) = some r := H
               have A144 := Aside0.mk A1440
               clear A1440
               by_cases c145 : t395 = true
               · as_aux_lemma =>
                subst c145
                have H1 : ((headgatelaw07_awake.f).bind fun t396 => (some t396)) = some r := by rw [if_pos rfl] at H; exact H
                clear H
                have H := H1
                clear H1
                replace H := Option.bind_eq_some_iff.mp H
                obtain ⟨t396, A1460, H⟩ := H
                replace H : (some t396) = some r := H
                have A146 := Aside0.mk A1460
                clear A1460
                obtain rfl := Option.some.inj H
                have hnb147 := NB302_290.out
                have hnc147 := NB290_302.out
                have hnb148 := NB302_313.out
                have hnc148 := NB313_302.out
                have hnb149 := NB302_324.out
                have hnc149 := NB324_302.out
                have hcz150_0 := cell0 BK302
                have hcz150_1 := cell1 BK302
                have hcz150_2 := cell2 BK302
                have hfz150_0 := blk_frozen BK302.out 0
                have hfz150_1 := blk_frozen BK302.out 1
                have hfz150_2 := blk_frozen BK302.out 2
                go_wp2_with (first | ((with_reducible refine gate_callee (f := 22) rfl ?_); refine goesL_ (some 93) rfl rfl Try.func22 (by kernel_rfl) rfl #[.agg #[.slice Ao16 t293.length co16, .slice Ao19 t296.length co19, .slice Ao20 t299.length co20], .int .i64 a1] rfl (args_ (p := _)) ?_; (with_reducible refine (lru_Touch.calls kj96 _ _ t293 _ _ t296 _ _ t299 a1 t370 t373 t376 t379 _ ?side1 ?side2 ?side3 ?side4 ?side5 ?side6 A135.out).mono ?_); (case side1 => exact upc (Kd.R_reads' HO_303000.out).2.2); (case side2 => exact (Kd.R_reads' HO_303000.out).2.1); (case side3 => exact upc (Kd.R_reads' HO_303001.out).2.2); (case side4 => exact (Kd.R_reads' HO_303001.out).2.1); (case side5 => exact upc (Kd.R_reads' HO_303002.out).2.2); (case side6 => exact (Kd.R_reads' HO_303002.out).2.1); rintro e w151 ⟨v371, v374, v377, rfl, ho0, ho1, ho2, hb⟩; refine ⟨_, rfl, ?_⟩; have n0_ := Aside0.mk (Kd.R_mono (Kd.R_told (Kd.R_told (Kd.R_old (upR HO_303000.out) hb) (Kd.R_base ho0)) (Kd.R_base ho1)) (fun _ h_ => h_.1)); have n1_ := Aside0.mk (Kd.R_mono (Kd.R_told (Kd.R_told (Kd.R_old (upR HO_303001.out) hb) (Kd.R_base ho0)) (Kd.R_base ho1)) (fun _ h_ => h_.1)); have n2_ := Aside0.mk (Kd.R_elder' (upR HO_303002.out) (Kd.R_base ho2) hb); have n3_ := Aside0.mk (Kd.R_mono (Kd.R_told (Kd.R_told (Kd.R_old (upR HO_314000.out) hb) (Kd.R_base ho0)) (Kd.R_base ho1)) (fun _ h_ => h_.1)); have n4_ := Aside0.mk (Kd.R_mono (Kd.R_told (Kd.R_told (Kd.R_old (upR HO_314001.out) hb) (Kd.R_base ho0)) (Kd.R_base ho1)) (fun _ h_ => h_.1)); have n5_ := Aside0.mk (Kd.R_elder' (upR HO_314002.out) (Kd.R_base ho2) hb); have n6_ := Aside0.mk (Kd.R_mono (Kd.R_told (Kd.R_told (Kd.R_old (upR HO_325000.out) hb) (Kd.R_base ho0)) (Kd.R_base ho1)) (fun _ h_ => h_.1)); have n7_ := Aside0.mk (Kd.R_mono (Kd.R_told (Kd.R_told (Kd.R_old (upR HO_325001.out) hb) (Kd.R_base ho0)) (Kd.R_base ho1)) (fun _ h_ => h_.1)); have n8_ := Aside0.mk (Kd.R_elder' (upR HO_325002.out) (Kd.R_base ho2) hb); have n9_ := Aside0.mk (Kd.R_lower (Kd.R_new' (Kd.R_new' (Kd.R_new' (Kd.R_new' (Kd.R_new' (Kd.R_new' ho0 (Kd.R_lt (upR HO_303000.out))) (Kd.R_lt (upR HO_303001.out))) (Kd.R_lt (upR HO_314000.out))) (Kd.R_lt (upR HO_314001.out))) (Kd.R_lt (upR HO_325000.out))) (Kd.R_lt (upR HO_325001.out))) (below_size (upH HB))); have n10_ := Aside0.mk (Kd.R_lower (Kd.R_new' (Kd.R_new' (Kd.R_new' (Kd.R_new' (Kd.R_new' (Kd.R_new' ho1 (Kd.R_lt (upR HO_303000.out))) (Kd.R_lt (upR HO_303001.out))) (Kd.R_lt (upR HO_314000.out))) (Kd.R_lt (upR HO_314001.out))) (Kd.R_lt (upR HO_325000.out))) (Kd.R_lt (upR HO_325001.out))) (below_size (upH HB))); have n11_ := Aside0.mk (Kd.R_lower (Kd.R_new' (Kd.R_new' (Kd.R_new' ho2 (Kd.R_lt (upR HO_303002.out))) (Kd.R_lt (upR HO_314002.out))) (Kd.R_lt (upR HO_325002.out))) (below_size (upH HB))); have n12_ := Aside0.mk (blkB BK290 hb); have n13_ := Aside0.mk (blkB BK302 hb); have n14_ := Aside0.mk (blkB BK313 hb); have n15_ := Aside0.mk (blkB BK324 hb); have n16_ := Aside0.mk (below_step (upH HB) hb); clear HO_303000; clear HO_303001; clear HO_303002; clear HO_314000; clear HO_314001; clear HO_314002; clear HO_325000; clear HO_325001; clear HO_325002; clear BK290; clear BK302; clear BK313; clear BK324; clear HB; have HO_303000 := n0_; have HO_303001 := n1_; have HO_303002 := n2_; have HO_314000 := n3_; have HO_314001 := n4_; have HO_314002 := n5_; have HO_325000 := n6_; have HO_325001 := n7_; have HO_325002 := n8_; have HO372 := n9_; have HO375 := n10_; have HO378 := n11_; have BK290 := n12_; have BK302 := n13_; have BK313 := n14_; have BK324 := n15_; have HB := n16_; clear n0_ n1_ n2_ n3_ n4_ n5_ n6_ n7_ n8_ n9_ n10_ n11_ n12_ n13_ n14_ n15_ n16_; (try clear hb); (try clear hb2); (try clear hk); (try clear hi); (try clear ho0); (try clear ho1); (try clear ho2); obtain ⟨Ao152, co152, eo152⟩ := Kd.R_slice HO372.out; subst eo152; have hnb153 := NB313_290.out; have hnc153 := NB290_313.out; have hnb154 := NB313_324.out; have hnc154 := NB324_313.out; have hcz155_0 := cell0 BK313; have hcz155_1 := cell1 BK313; have hcz155_2 := cell2 BK313; have hfz155_0 := blk_frozen BK313.out 0; have hfz155_1 := blk_frozen BK313.out 1; have hfz155_2 := blk_frozen BK313.out 2; obtain ⟨Ao156, co156, eo156⟩ := Kd.R_slice HO375.out; subst eo156; obtain ⟨Ao157, co157, eo157⟩ := Kd.R_slice HO378.out; subst eo157; have hnb158 := NB290_324.out; have hnc158 := NB324_290.out; have hcz159_0 := cell0 BK290; have hcz159_1 := cell1 BK290; have hcz159_2 := cell2 BK290; have hfz159_0 := blk_frozen BK290.out 0; have hfz159_1 := blk_frozen BK290.out 1; have hfz159_2 := blk_frozen BK290.out 2) | ((with_reducible refine gate_callee (f := 23) rfl ?_); refine goesL_ (some 99) rfl rfl Try.func23 (by kernel_rfl) rfl #[.agg #[.slice A0_0 l0_0.length c0_0, .slice A0_1 l0_1.length c0_1, .slice A0_2 l0_2.length c0_2], .int .i64 a1] rfl (args_ (p := _)) ?_; (with_reducible refine (headgateref07_Touch.calls kj96 _ _ l0_0 _ _ l0_1 _ _ l0_2 a1 t380 t383 t386 t389 _ ?side1 ?side2 ?side3 ?side4 ?side5 ?side6 A136.out).mono ?_); (case side1 => exact Kd.C_below HR0_0.out (upH HB)); (case side2 => exact HC0_0.out); (case side3 => exact Kd.C_below HR0_1.out (upH HB)); (case side4 => exact HC0_1.out); (case side5 => exact Kd.C_below HR0_2.out (upH HB)); (case side6 => exact HC0_2.out); rintro e w160 ⟨v381, v384, v387, rfl, ho0, ho1, ho2, hb⟩; refine ⟨_, rfl, ?_⟩; have n0_ := Aside0.mk (Kd.R_mono (Kd.R_told (Kd.R_told (Kd.R_old (upR (Kd.R_mono (far3 HO_303000.out BK313) (fun _ h_ => h_.1))) hb) (Kd.R_base ho0)) (Kd.R_base ho1)) (fun _ h_ => h_.1)); have n1_ := Aside0.mk (Kd.R_mono (Kd.R_told (Kd.R_told (Kd.R_old (upR (Kd.R_mono (far3 HO_303001.out BK313) (fun _ h_ => h_.1))) hb) (Kd.R_base ho0)) (Kd.R_base ho1)) (fun _ h_ => h_.1)); have n2_ := Aside0.mk (Kd.R_elder' (upR (Kd.R_mono (far3 HO_303002.out BK313) (fun _ h_ => h_.1))) (Kd.R_base ho2) hb); have n3_ := Aside0.mk (Kd.R_mono (Kd.R_told (Kd.R_told (Kd.R_old (upR (Kd.R_mono (far3 HO_314000.out BK313) (fun _ h_ => h_.1))) hb) (Kd.R_base ho0)) (Kd.R_base ho1)) (fun _ h_ => h_.1)); have n4_ := Aside0.mk (Kd.R_mono (Kd.R_told (Kd.R_told (Kd.R_old (upR (Kd.R_mono (far3 HO_314001.out BK313) (fun _ h_ => h_.1))) hb) (Kd.R_base ho0)) (Kd.R_base ho1)) (fun _ h_ => h_.1)); have n5_ := Aside0.mk (Kd.R_elder' (upR (Kd.R_mono (far3 HO_314002.out BK313) (fun _ h_ => h_.1))) (Kd.R_base ho2) hb); have n6_ := Aside0.mk (Kd.R_mono (Kd.R_told (Kd.R_told (Kd.R_old (upR (Kd.R_mono (far3 HO_325000.out BK313) (fun _ h_ => h_.1))) hb) (Kd.R_base ho0)) (Kd.R_base ho1)) (fun _ h_ => h_.1)); have n7_ := Aside0.mk (Kd.R_mono (Kd.R_told (Kd.R_told (Kd.R_old (upR (Kd.R_mono (far3 HO_325001.out BK313) (fun _ h_ => h_.1))) hb) (Kd.R_base ho0)) (Kd.R_base ho1)) (fun _ h_ => h_.1)); have n8_ := Aside0.mk (Kd.R_elder' (upR (Kd.R_mono (far3 HO_325002.out BK313) (fun _ h_ => h_.1))) (Kd.R_base ho2) hb); have n9_ := Aside0.mk (Kd.R_mono (Kd.R_told (Kd.R_told (Kd.R_old (upR (Kd.R_mono (far3 HO372.out BK313) (fun _ h_ => h_.1))) hb) (Kd.R_base ho0)) (Kd.R_base ho1)) (fun _ h_ => h_.1)); have n10_ := Aside0.mk (Kd.R_mono (Kd.R_told (Kd.R_told (Kd.R_old (upR (Kd.R_mono (far3 HO375.out BK313) (fun _ h_ => h_.1))) hb) (Kd.R_base ho0)) (Kd.R_base ho1)) (fun _ h_ => h_.1)); have n11_ := Aside0.mk (Kd.R_elder' (upR (Kd.R_mono (far3 HO378.out BK313) (fun _ h_ => h_.1))) (Kd.R_base ho2) hb); have n12_ := Aside0.mk (Kd.R_lower (Kd.R_new' (Kd.R_new' (Kd.R_new' (Kd.R_new' (Kd.R_new' (Kd.R_new' (Kd.R_new' (Kd.R_new' ho0 (Kd.R_lt (upR (Kd.R_mono (far3 HO_303000.out BK313) (fun _ h_ => h_.1))))) (Kd.R_lt (upR (Kd.R_mono (far3 HO_303001.out BK313) (fun _ h_ => h_.1))))) (Kd.R_lt (upR (Kd.R_mono (far3 HO_314000.out BK313) (fun _ h_ => h_.1))))) (Kd.R_lt (upR (Kd.R_mono (far3 HO_314001.out BK313) (fun _ h_ => h_.1))))) (Kd.R_lt (upR (Kd.R_mono (far3 HO_325000.out BK313) (fun _ h_ => h_.1))))) (Kd.R_lt (upR (Kd.R_mono (far3 HO_325001.out BK313) (fun _ h_ => h_.1))))) (Kd.R_lt (upR (Kd.R_mono (far3 HO372.out BK313) (fun _ h_ => h_.1))))) (Kd.R_lt (upR (Kd.R_mono (far3 HO375.out BK313) (fun _ h_ => h_.1))))) (below_size (upH HB))); have n13_ := Aside0.mk (Kd.R_lower (Kd.R_new' (Kd.R_new' (Kd.R_new' (Kd.R_new' (Kd.R_new' (Kd.R_new' (Kd.R_new' (Kd.R_new' ho1 (Kd.R_lt (upR (Kd.R_mono (far3 HO_303000.out BK313) (fun _ h_ => h_.1))))) (Kd.R_lt (upR (Kd.R_mono (far3 HO_303001.out BK313) (fun _ h_ => h_.1))))) (Kd.R_lt (upR (Kd.R_mono (far3 HO_314000.out BK313) (fun _ h_ => h_.1))))) (Kd.R_lt (upR (Kd.R_mono (far3 HO_314001.out BK313) (fun _ h_ => h_.1))))) (Kd.R_lt (upR (Kd.R_mono (far3 HO_325000.out BK313) (fun _ h_ => h_.1))))) (Kd.R_lt (upR (Kd.R_mono (far3 HO_325001.out BK313) (fun _ h_ => h_.1))))) (Kd.R_lt (upR (Kd.R_mono (far3 HO372.out BK313) (fun _ h_ => h_.1))))) (Kd.R_lt (upR (Kd.R_mono (far3 HO375.out BK313) (fun _ h_ => h_.1))))) (below_size (upH HB))); have n14_ := Aside0.mk (Kd.R_lower (Kd.R_new' (Kd.R_new' (Kd.R_new' (Kd.R_new' ho2 (Kd.R_lt (upR (Kd.R_mono (far3 HO_303002.out BK313) (fun _ h_ => h_.1))))) (Kd.R_lt (upR (Kd.R_mono (far3 HO_314002.out BK313) (fun _ h_ => h_.1))))) (Kd.R_lt (upR (Kd.R_mono (far3 HO_325002.out BK313) (fun _ h_ => h_.1))))) (Kd.R_lt (upR (Kd.R_mono (far3 HO378.out BK313) (fun _ h_ => h_.1))))) (below_size (upH HB))); have n15_ := Aside0.mk (blk_below (g := gb290) (o := .cells #[.slice A0_0 l0_0.length c0_0, .slice A0_1 l0_1.length c0_1, .slice A0_2 l0_2.length c0_2] 25 (0, 0)) (by (with_reducible repeat (first | refine blk_drewN ?_ _ | refine blk_drew ?_ | refine blk_alloc ?_ _)); refine blk_far ?_ NB290_313.out _; (with_reducible repeat (first | refine blk_drewN ?_ _ | refine blk_drew ?_ | refine blk_alloc ?_ _)); refine blk_far ?_ NB290_313.out _; (with_reducible repeat (first | refine blk_drewN ?_ _ | refine blk_drew ?_ | refine blk_alloc ?_ _)); refine blk_far ?_ NB290_313.out _; (with_reducible repeat (first | refine blk_drewN ?_ _ | refine blk_drew ?_ | refine blk_alloc ?_ _)); exact BK290.out) hb); have n16_ := Aside0.mk (blk_below (g := gb302) (o := .cells #[.slice Ao16 t293.length co16, .slice Ao19 t296.length co19, .slice Ao20 t299.length co20] 25 (0, 0)) (by (with_reducible repeat (first | refine blk_drewN ?_ _ | refine blk_drew ?_ | refine blk_alloc ?_ _)); refine blk_far ?_ NB302_313.out _; (with_reducible repeat (first | refine blk_drewN ?_ _ | refine blk_drew ?_ | refine blk_alloc ?_ _)); refine blk_far ?_ NB302_313.out _; (with_reducible repeat (first | refine blk_drewN ?_ _ | refine blk_drew ?_ | refine blk_alloc ?_ _)); refine blk_far ?_ NB302_313.out _; (with_reducible repeat (first | refine blk_drewN ?_ _ | refine blk_drew ?_ | refine blk_alloc ?_ _)); exact BK302.out) hb); have n17_ := Aside0.mk (blk_below (g := gb313) (o := .cells #[.slice Ao152 t370.length co152, .slice Ao156 t373.length co156, .slice Ao157 t376.length co157] 25 (0, 0)) (by (with_reducible repeat (first | refine blk_drewN ?_ _ | refine blk_drew ?_ | refine blk_alloc ?_ _)); refine blk_put (cs := #[.slice Ao152 t370.length co152, .slice Ao156 t373.length co156, .slice Ao108 t355.length co108]) ?_ 2 _ rfl; (with_reducible repeat (first | refine blk_drewN ?_ _ | refine blk_drew ?_ | refine blk_alloc ?_ _)); refine blk_put (cs := #[.slice Ao152 t370.length co152, .slice Ao107 t352.length co107, .slice Ao108 t355.length co108]) ?_ 1 _ rfl; (with_reducible repeat (first | refine blk_drewN ?_ _ | refine blk_drew ?_ | refine blk_alloc ?_ _)); refine blk_put (cs := #[.slice Ao103 t349.length co103, .slice Ao107 t352.length co107, .slice Ao108 t355.length co108]) ?_ 0 _ rfl; (with_reducible repeat (first | refine blk_drewN ?_ _ | refine blk_drew ?_ | refine blk_alloc ?_ _)); exact BK313.out) hb); have n18_ := Aside0.mk (blk_below (g := gb324) (o := .cells #[.slice Ao112 t359.length co112, .slice Ao114 t362.length co114, .slice Ao115 t365.length co115] 25 (0, 0)) (by (with_reducible repeat (first | refine blk_drewN ?_ _ | refine blk_drew ?_ | refine blk_alloc ?_ _)); refine blk_far ?_ NB324_313.out _; (with_reducible repeat (first | refine blk_drewN ?_ _ | refine blk_drew ?_ | refine blk_alloc ?_ _)); refine blk_far ?_ NB324_313.out _; (with_reducible repeat (first | refine blk_drewN ?_ _ | refine blk_drew ?_ | refine blk_alloc ?_ _)); refine blk_far ?_ NB324_313.out _; (with_reducible repeat (first | refine blk_drewN ?_ _ | refine blk_drew ?_ | refine blk_alloc ?_ _)); exact BK324.out) hb); have n19_ := Aside0.mk (below_step (upH HB) hb); clear HO_303000; clear HO_303001; clear HO_303002; clear HO_314000; clear HO_314001; clear HO_314002; clear HO_325000; clear HO_325001; clear HO_325002; clear HO372; clear HO375; clear HO378; clear BK290; clear BK302; clear BK313; clear BK324; clear HB; have HO_303000 := n0_; have HO_303001 := n1_; have HO_303002 := n2_; have HO_314000 := n3_; have HO_314001 := n4_; have HO_314002 := n5_; have HO_325000 := n6_; have HO_325001 := n7_; have HO_325002 := n8_; have HO372 := n9_; have HO375 := n10_; have HO378 := n11_; have HO382 := n12_; have HO385 := n13_; have HO388 := n14_; have BK290 := n15_; have BK302 := n16_; have BK313 := n17_; have BK324 := n18_; have HB := n19_; clear n0_ n1_ n2_ n3_ n4_ n5_ n6_ n7_ n8_ n9_ n10_ n11_ n12_ n13_ n14_ n15_ n16_ n17_ n18_ n19_; (try clear hb); (try clear hb2); (try clear hk); (try clear hi); (try clear ho0); (try clear ho1); (try clear ho2); obtain ⟨Ao161, co161, eo161⟩ := Kd.R_slice HO382.out; subst eo161; have hcz162_0 := cell0 BK324; have hcz162_1 := cell1 BK324; have hcz162_2 := cell2 BK324; have hfz162_0 := blk_frozen BK324.out 0; have hfz162_1 := blk_frozen BK324.out 1; have hfz162_2 := blk_frozen BK324.out 2; obtain ⟨Ao163, co163, eo163⟩ := Kd.R_slice HO385.out; subst eo163; obtain ⟨Ao164, co164, eo164⟩ := Kd.R_slice HO388.out; subst eo164; have hcz165_0 := cell0 BK302; have hcz165_1 := cell1 BK302; have hcz165_2 := cell2 BK302; have hfz165_0 := blk_frozen BK302.out 0; have hfz165_1 := blk_frozen BK302.out 1; have hfz165_2 := blk_frozen BK302.out 2) | ((with_reducible refine gate_callee (f := 24) rfl ?_); refine goesL_ (some 105) rfl rfl Try.func24 (by kernel_rfl) rfl #[.agg #[.slice Ao16 t293.length co16, .slice Ao19 t296.length co19, .slice Ao20 t299.length co20], .int .i64 a1] rfl (args_ (p := _)) ?_; (with_reducible refine (lru_Where.calls kj96 _ _ t293 _ _ t296 _ _ t299 a1 t390 t391 _ ?side1 ?side2 ?side3 ?side4 ?side5 ?side6 A137.out).mono ?_); (case side1 => exact (Kd.R_reads' (upR (Kd.R_mono (far3 HO_303000.out BK324) (fun _ h_ => h_.1)))).2.2); (case side2 => exact (Kd.R_reads' HO_303000.out).2.1); (case side3 => exact (Kd.R_reads' (upR (Kd.R_mono (far3 HO_303001.out BK324) (fun _ h_ => h_.1)))).2.2); (case side4 => exact (Kd.R_reads' HO_303001.out).2.1); (case side5 => exact (Kd.R_reads' (upR (Kd.R_mono (far3 HO_303002.out BK324) (fun _ h_ => h_.1)))).2.2); (case side6 => exact (Kd.R_reads' HO_303002.out).2.1); rintro e w166 ⟨rfl, hb⟩; refine ⟨_, rfl, ?_⟩; have n0_ := Aside0.mk (Kd.R_below (upR (Kd.R_mono (far3 HO_303000.out BK324) (fun _ h_ => h_.1))) hb); have n1_ := Aside0.mk (Kd.R_below (upR (Kd.R_mono (far3 HO_303001.out BK324) (fun _ h_ => h_.1))) hb); have n2_ := Aside0.mk (Kd.R_below (upR (Kd.R_mono (far3 HO_303002.out BK324) (fun _ h_ => h_.1))) hb); have n3_ := Aside0.mk (Kd.R_below (upR (Kd.R_mono (far3 HO_314000.out BK324) (fun _ h_ => h_.1))) hb); have n4_ := Aside0.mk (Kd.R_below (upR (Kd.R_mono (far3 HO_314001.out BK324) (fun _ h_ => h_.1))) hb); have n5_ := Aside0.mk (Kd.R_below (upR (Kd.R_mono (far3 HO_314002.out BK324) (fun _ h_ => h_.1))) hb); have n6_ := Aside0.mk (Kd.R_below (upR (Kd.R_mono (far3 HO_325000.out BK324) (fun _ h_ => h_.1))) hb); have n7_ := Aside0.mk (Kd.R_below (upR (Kd.R_mono (far3 HO_325001.out BK324) (fun _ h_ => h_.1))) hb); have n8_ := Aside0.mk (Kd.R_below (upR (Kd.R_mono (far3 HO_325002.out BK324) (fun _ h_ => h_.1))) hb); have n9_ := Aside0.mk (Kd.R_below (upR (Kd.R_mono (far3 HO372.out BK324) (fun _ h_ => h_.1))) hb); have n10_ := Aside0.mk (Kd.R_below (upR (Kd.R_mono (far3 HO375.out BK324) (fun _ h_ => h_.1))) hb); have n11_ := Aside0.mk (Kd.R_below (upR (Kd.R_mono (far3 HO378.out BK324) (fun _ h_ => h_.1))) hb); have n12_ := Aside0.mk (Kd.R_below (upR (Kd.R_mono (far3 HO382.out BK324) (fun _ h_ => h_.1))) hb); have n13_ := Aside0.mk (Kd.R_below (upR (Kd.R_mono (far3 HO385.out BK324) (fun _ h_ => h_.1))) hb); have n14_ := Aside0.mk (Kd.R_below (upR (Kd.R_mono (far3 HO388.out BK324) (fun _ h_ => h_.1))) hb); have n15_ := Aside0.mk (blk_below (g := gb290) (o := .cells #[.slice A0_0 l0_0.length c0_0, .slice A0_1 l0_1.length c0_1, .slice A0_2 l0_2.length c0_2] 25 (0, 0)) (by (with_reducible repeat (first | refine blk_drewN ?_ _ | refine blk_drew ?_ | refine blk_alloc ?_ _)); refine blk_far ?_ NB290_324.out _; (with_reducible repeat (first | refine blk_drewN ?_ _ | refine blk_drew ?_ | refine blk_alloc ?_ _)); refine blk_far ?_ NB290_324.out _; (with_reducible repeat (first | refine blk_drewN ?_ _ | refine blk_drew ?_ | refine blk_alloc ?_ _)); refine blk_far ?_ NB290_324.out _; (with_reducible repeat (first | refine blk_drewN ?_ _ | refine blk_drew ?_ | refine blk_alloc ?_ _)); exact BK290.out) hb); have n16_ := Aside0.mk (blk_below (g := gb302) (o := .cells #[.slice Ao16 t293.length co16, .slice Ao19 t296.length co19, .slice Ao20 t299.length co20] 25 (0, 0)) (by (with_reducible repeat (first | refine blk_drewN ?_ _ | refine blk_drew ?_ | refine blk_alloc ?_ _)); refine blk_far ?_ NB302_324.out _; (with_reducible repeat (first | refine blk_drewN ?_ _ | refine blk_drew ?_ | refine blk_alloc ?_ _)); refine blk_far ?_ NB302_324.out _; (with_reducible repeat (first | refine blk_drewN ?_ _ | refine blk_drew ?_ | refine blk_alloc ?_ _)); refine blk_far ?_ NB302_324.out _; (with_reducible repeat (first | refine blk_drewN ?_ _ | refine blk_drew ?_ | refine blk_alloc ?_ _)); exact BK302.out) hb); have n17_ := Aside0.mk (blk_below (g := gb313) (o := .cells #[.slice Ao152 t370.length co152, .slice Ao156 t373.length co156, .slice Ao157 t376.length co157] 25 (0, 0)) (by (with_reducible repeat (first | refine blk_drewN ?_ _ | refine blk_drew ?_ | refine blk_alloc ?_ _)); refine blk_far ?_ NB313_324.out _; (with_reducible repeat (first | refine blk_drewN ?_ _ | refine blk_drew ?_ | refine blk_alloc ?_ _)); refine blk_far ?_ NB313_324.out _; (with_reducible repeat (first | refine blk_drewN ?_ _ | refine blk_drew ?_ | refine blk_alloc ?_ _)); refine blk_far ?_ NB313_324.out _; (with_reducible repeat (first | refine blk_drewN ?_ _ | refine blk_drew ?_ | refine blk_alloc ?_ _)); exact BK313.out) hb); have n18_ := Aside0.mk (blk_below (g := gb324) (o := .cells #[.slice Ao161 t380.length co161, .slice Ao163 t383.length co163, .slice Ao164 t386.length co164] 25 (0, 0)) (by (with_reducible repeat (first | refine blk_drewN ?_ _ | refine blk_drew ?_ | refine blk_alloc ?_ _)); refine blk_put (cs := #[.slice Ao161 t380.length co161, .slice Ao163 t383.length co163, .slice Ao115 t365.length co115]) ?_ 2 _ rfl; (with_reducible repeat (first | refine blk_drewN ?_ _ | refine blk_drew ?_ | refine blk_alloc ?_ _)); refine blk_put (cs := #[.slice Ao161 t380.length co161, .slice Ao114 t362.length co114, .slice Ao115 t365.length co115]) ?_ 1 _ rfl; (with_reducible repeat (first | refine blk_drewN ?_ _ | refine blk_drew ?_ | refine blk_alloc ?_ _)); refine blk_put (cs := #[.slice Ao112 t359.length co112, .slice Ao114 t362.length co114, .slice Ao115 t365.length co115]) ?_ 0 _ rfl; (with_reducible repeat (first | refine blk_drewN ?_ _ | refine blk_drew ?_ | refine blk_alloc ?_ _)); exact BK324.out) hb); have n19_ := Aside0.mk (below_step (upH HB) hb); clear HO_303000; clear HO_303001; clear HO_303002; clear HO_314000; clear HO_314001; clear HO_314002; clear HO_325000; clear HO_325001; clear HO_325002; clear HO372; clear HO375; clear HO378; clear HO382; clear HO385; clear HO388; clear BK290; clear BK302; clear BK313; clear BK324; clear HB; have HO_303000 := n0_; have HO_303001 := n1_; have HO_303002 := n2_; have HO_314000 := n3_; have HO_314001 := n4_; have HO_314002 := n5_; have HO_325000 := n6_; have HO_325001 := n7_; have HO_325002 := n8_; have HO372 := n9_; have HO375 := n10_; have HO378 := n11_; have HO382 := n12_; have HO385 := n13_; have HO388 := n14_; have BK290 := n15_; have BK302 := n16_; have BK313 := n17_; have BK324 := n18_; have HB := n19_; clear n0_ n1_ n2_ n3_ n4_ n5_ n6_ n7_ n8_ n9_ n10_ n11_ n12_ n13_ n14_ n15_ n16_ n17_ n18_ n19_; (try clear hb); (try clear hb2); (try clear hk); (try clear hi); have hcz167_0 := cell0 BK290; have hcz167_1 := cell1 BK290; have hcz167_2 := cell2 BK290; have hfz167_0 := blk_frozen BK290.out 0; have hfz167_1 := blk_frozen BK290.out 1; have hfz167_2 := blk_frozen BK290.out 2) | ((with_reducible refine gate_callee (f := 25) rfl ?_); refine goesL_ (some 111) rfl rfl Try.func25 (by kernel_rfl) rfl #[.agg #[.slice A0_0 l0_0.length c0_0, .slice A0_1 l0_1.length c0_1, .slice A0_2 l0_2.length c0_2], .int .i64 a1] rfl (args_ (p := _)) ?_; (with_reducible refine (headgateref07_Where.calls kj96 _ _ l0_0 _ _ l0_1 _ _ l0_2 a1 t392 t393 _ ?side1 ?side2 ?side3 ?side4 ?side5 ?side6 A138.out).mono ?_); (case side1 => exact upc (Kd.C_below HR0_0.out HB.out)); (case side2 => exact HC0_0.out); (case side3 => exact upc (Kd.C_below HR0_1.out HB.out)); (case side4 => exact HC0_1.out); (case side5 => exact upc (Kd.C_below HR0_2.out HB.out)); (case side6 => exact HC0_2.out); rintro e w168 ⟨rfl, hb⟩; refine ⟨_, rfl, ?_⟩; have n0_ := Aside0.mk (Kd.R_below (upR HO_303000.out) hb); have n1_ := Aside0.mk (Kd.R_below (upR HO_303001.out) hb); have n2_ := Aside0.mk (Kd.R_below (upR HO_303002.out) hb); have n3_ := Aside0.mk (Kd.R_below (upR HO_314000.out) hb); have n4_ := Aside0.mk (Kd.R_below (upR HO_314001.out) hb); have n5_ := Aside0.mk (Kd.R_below (upR HO_314002.out) hb); have n6_ := Aside0.mk (Kd.R_below (upR HO_325000.out) hb); have n7_ := Aside0.mk (Kd.R_below (upR HO_325001.out) hb); have n8_ := Aside0.mk (Kd.R_below (upR HO_325002.out) hb); have n9_ := Aside0.mk (Kd.R_below (upR HO372.out) hb); have n10_ := Aside0.mk (Kd.R_below (upR HO375.out) hb); have n11_ := Aside0.mk (Kd.R_below (upR HO378.out) hb); have n12_ := Aside0.mk (Kd.R_below (upR HO382.out) hb); have n13_ := Aside0.mk (Kd.R_below (upR HO385.out) hb); have n14_ := Aside0.mk (Kd.R_below (upR HO388.out) hb); have n15_ := Aside0.mk (blkB BK290 hb); have n16_ := Aside0.mk (blkB BK302 hb); have n17_ := Aside0.mk (blkB BK313 hb); have n18_ := Aside0.mk (blkB BK324 hb); have n19_ := Aside0.mk (below_step (upH HB) hb); clear HO_303000; clear HO_303001; clear HO_303002; clear HO_314000; clear HO_314001; clear HO_314002; clear HO_325000; clear HO_325001; clear HO_325002; clear HO372; clear HO375; clear HO378; clear HO382; clear HO385; clear HO388; clear BK290; clear BK302; clear BK313; clear BK324; clear HB; have HO_303000 := n0_; have HO_303001 := n1_; have HO_303002 := n2_; have HO_314000 := n3_; have HO_314001 := n4_; have HO_314002 := n5_; have HO_325000 := n6_; have HO_325001 := n7_; have HO_325002 := n8_; have HO372 := n9_; have HO375 := n10_; have HO378 := n11_; have HO382 := n12_; have HO385 := n13_; have HO388 := n14_; have BK290 := n15_; have BK302 := n16_; have BK313 := n17_; have BK324 := n18_; have HB := n19_; clear n0_ n1_ n2_ n3_ n4_ n5_ n6_ n7_ n8_ n9_ n10_ n11_ n12_ n13_ n14_ n15_ n16_ n17_ n18_ n19_; (try clear hb); (try clear hb2); (try clear hk); (try clear hi); have hcz169_0 := cell0 BK313; have hcz169_1 := cell1 BK313; have hcz169_2 := cell2 BK313; have hfz169_0 := blk_frozen BK313.out 0; have hfz169_1 := blk_frozen BK313.out 1; have hfz169_2 := blk_frozen BK313.out 2; have hcz170_0 := cell0 BK324; have hcz170_1 := cell1 BK324; have hcz170_2 := cell2 BK324; have hfz170_0 := blk_frozen BK324.out 0; have hfz170_1 := blk_frozen BK324.out 1; have hfz170_2 := blk_frozen BK324.out 2) | ((with_reducible refine gate_callee (f := 15) rfl ?_); refine goesL_ (some 116) rfl rfl Try.func15 (by kernel_rfl) rfl #[.agg #[.slice Ao152 t370.length co152, .slice Ao156 t373.length co156, .slice Ao157 t376.length co157], .agg #[.slice Ao161 t380.length co161, .slice Ao163 t383.length co163, .slice Ao164 t386.length co164]] rfl (args_ (p := _)) ?_; (with_reducible refine (headgatekit_SameLists.calls kj96 _ _ t370 _ _ t373 _ _ t376 _ _ t380 _ _ t383 _ _ t386 true _ ?side1 ?side2 ?side3 ?side4 ?side5 ?side6 ?side7 ?side8 ?side9 ?side10 ?side11 ?side12 A139.out).mono ?_); (case side1 => exact upc (Kd.R_reads' HO372.out).2.2); (case side2 => exact (Kd.R_reads' HO372.out).2.1); (case side3 => exact upc (Kd.R_reads' HO375.out).2.2); (case side4 => exact (Kd.R_reads' HO375.out).2.1); (case side5 => exact upc (Kd.R_reads' HO378.out).2.2); (case side6 => exact (Kd.R_reads' HO378.out).2.1); (case side7 => exact upc (Kd.R_reads' HO382.out).2.2); (case side8 => exact (Kd.R_reads' HO382.out).2.1); (case side9 => exact upc (Kd.R_reads' HO385.out).2.2); (case side10 => exact (Kd.R_reads' HO385.out).2.1); (case side11 => exact upc (Kd.R_reads' HO388.out).2.2); (case side12 => exact (Kd.R_reads' HO388.out).2.1); rintro e w171 ⟨rfl, hb⟩; refine ⟨_, rfl, ?_⟩; have n0_ := Aside0.mk (Kd.R_below (upR HO_303000.out) hb); have n1_ := Aside0.mk (Kd.R_below (upR HO_303001.out) hb); have n2_ := Aside0.mk (Kd.R_below (upR HO_303002.out) hb); have n3_ := Aside0.mk (Kd.R_below (upR HO_314000.out) hb); have n4_ := Aside0.mk (Kd.R_below (upR HO_314001.out) hb); have n5_ := Aside0.mk (Kd.R_below (upR HO_314002.out) hb); have n6_ := Aside0.mk (Kd.R_below (upR HO_325000.out) hb); have n7_ := Aside0.mk (Kd.R_below (upR HO_325001.out) hb); have n8_ := Aside0.mk (Kd.R_below (upR HO_325002.out) hb); have n9_ := Aside0.mk (Kd.R_below (upR HO372.out) hb); have n10_ := Aside0.mk (Kd.R_below (upR HO375.out) hb); have n11_ := Aside0.mk (Kd.R_below (upR HO378.out) hb); have n12_ := Aside0.mk (Kd.R_below (upR HO382.out) hb); have n13_ := Aside0.mk (Kd.R_below (upR HO385.out) hb); have n14_ := Aside0.mk (Kd.R_below (upR HO388.out) hb); have n15_ := Aside0.mk (blkB BK290 hb); have n16_ := Aside0.mk (blkB BK302 hb); have n17_ := Aside0.mk (blkB BK313 hb); have n18_ := Aside0.mk (blkB BK324 hb); have n19_ := Aside0.mk (below_step (upH HB) hb); clear HO_303000; clear HO_303001; clear HO_303002; clear HO_314000; clear HO_314001; clear HO_314002; clear HO_325000; clear HO_325001; clear HO_325002; clear HO372; clear HO375; clear HO378; clear HO382; clear HO385; clear HO388; clear BK290; clear BK302; clear BK313; clear BK324; clear HB; have HO_303000 := n0_; have HO_303001 := n1_; have HO_303002 := n2_; have HO_314000 := n3_; have HO_314001 := n4_; have HO_314002 := n5_; have HO_325000 := n6_; have HO_325001 := n7_; have HO_325002 := n8_; have HO372 := n9_; have HO375 := n10_; have HO378 := n11_; have HO382 := n12_; have HO385 := n13_; have HO388 := n14_; have BK290 := n15_; have BK302 := n16_; have BK313 := n17_; have BK324 := n18_; have HB := n19_; clear n0_ n1_ n2_ n3_ n4_ n5_ n6_ n7_ n8_ n9_ n10_ n11_ n12_ n13_ n14_ n15_ n16_ n17_ n18_ n19_; (try clear hb); (try clear hb2); (try clear hk); (try clear hi); have hcz172_0 := cell0 BK302; have hcz172_1 := cell1 BK302; have hcz172_2 := cell2 BK302; have hfz172_0 := blk_frozen BK302.out 0; have hfz172_1 := blk_frozen BK302.out 1; have hfz172_2 := blk_frozen BK302.out 2; have hcz173_0 := cell0 BK290; have hcz173_1 := cell1 BK290; have hcz173_2 := cell2 BK290; have hfz173_0 := blk_frozen BK290.out 0; have hfz173_1 := blk_frozen BK290.out 1; have hfz173_2 := blk_frozen BK290.out 2) | (go_at_call 15; refine calls_of_args (args' := #[.agg #[.slice Ao16 t293.length co16, .slice Ao19 t296.length co19, .slice Ao20 t299.length co20], .agg #[.slice A0_0 l0_0.length c0_0, .slice A0_1 l0_1.length c0_1, .slice A0_2 l0_2.length c0_2]]) (by first | rfl) ?_; (with_reducible refine (headgatekit_SameLists.calls kj96 _ _ t293 _ _ t296 _ _ t299 _ _ l0_0 _ _ l0_1 _ _ l0_2 true _ ?side1 ?side2 ?side3 ?side4 ?side5 ?side6 ?side7 ?side8 ?side9 ?side10 ?side11 ?side12 A144.out).mono ?_); (case side1 => exact upc (Kd.R_reads' HO_303000.out).2.2); (case side2 => exact (Kd.R_reads' HO_303000.out).2.1); (case side3 => exact upc (Kd.R_reads' HO_303001.out).2.2); (case side4 => exact (Kd.R_reads' HO_303001.out).2.1); (case side5 => exact upc (Kd.R_reads' HO_303002.out).2.2); (case side6 => exact (Kd.R_reads' HO_303002.out).2.1); (case side7 => exact upc (Kd.C_below HR0_0.out HB.out)); (case side8 => exact HC0_0.out); (case side9 => exact upc (Kd.C_below HR0_1.out HB.out)); (case side10 => exact HC0_1.out); (case side11 => exact upc (Kd.C_below HR0_2.out HB.out)); (case side12 => exact HC0_2.out); rintro e w174 ⟨rfl, hb⟩; have n0_ := Aside0.mk (Kd.R_below (upR HO_303000.out) hb); have n1_ := Aside0.mk (Kd.R_below (upR HO_303001.out) hb); have n2_ := Aside0.mk (Kd.R_below (upR HO_303002.out) hb); have n3_ := Aside0.mk (Kd.R_below (upR HO_314000.out) hb); have n4_ := Aside0.mk (Kd.R_below (upR HO_314001.out) hb); have n5_ := Aside0.mk (Kd.R_below (upR HO_314002.out) hb); have n6_ := Aside0.mk (Kd.R_below (upR HO_325000.out) hb); have n7_ := Aside0.mk (Kd.R_below (upR HO_325001.out) hb); have n8_ := Aside0.mk (Kd.R_below (upR HO_325002.out) hb); have n9_ := Aside0.mk (Kd.R_below (upR HO372.out) hb); have n10_ := Aside0.mk (Kd.R_below (upR HO375.out) hb); have n11_ := Aside0.mk (Kd.R_below (upR HO378.out) hb); have n12_ := Aside0.mk (Kd.R_below (upR HO382.out) hb); have n13_ := Aside0.mk (Kd.R_below (upR HO385.out) hb); have n14_ := Aside0.mk (Kd.R_below (upR HO388.out) hb); have n15_ := Aside0.mk (blkB BK290 hb); have n16_ := Aside0.mk (blkB BK302 hb); have n17_ := Aside0.mk (blkB BK313 hb); have n18_ := Aside0.mk (blkB BK324 hb); have n19_ := Aside0.mk (below_step (upH HB) hb); clear HO_303000; clear HO_303001; clear HO_303002; clear HO_314000; clear HO_314001; clear HO_314002; clear HO_325000; clear HO_325001; clear HO_325002; clear HO372; clear HO375; clear HO378; clear HO382; clear HO385; clear HO388; clear BK290; clear BK302; clear BK313; clear BK324; clear HB; have HO_303000 := n0_; have HO_303001 := n1_; have HO_303002 := n2_; have HO_314000 := n3_; have HO_314001 := n4_; have HO_314002 := n5_; have HO_325000 := n6_; have HO_325001 := n7_; have HO_325002 := n8_; have HO372 := n9_; have HO375 := n10_; have HO378 := n11_; have HO382 := n12_; have HO385 := n13_; have HO388 := n14_; have BK290 := n15_; have BK302 := n16_; have BK313 := n17_; have BK324 := n18_; have HB := n19_; clear n0_ n1_ n2_ n3_ n4_ n5_ n6_ n7_ n8_ n9_ n10_ n11_ n12_ n13_ n14_ n15_ n16_ n17_ n18_ n19_; (try clear hb); (try clear hb2); (try clear hk); (try clear hi)) | (go_at_call 11; refine calls_of_args (args' := #[]) (by first | rfl) ?_; (with_reducible refine (headgatelaw07_awake.calls  t396 _ A146.out).mono ?_); rintro e w175 ⟨rfl, hb⟩; have n0_ := Aside0.mk (Kd.R_below (upR HO_303000.out) hb); have n1_ := Aside0.mk (Kd.R_below (upR HO_303001.out) hb); have n2_ := Aside0.mk (Kd.R_below (upR HO_303002.out) hb); have n3_ := Aside0.mk (Kd.R_below (upR HO_314000.out) hb); have n4_ := Aside0.mk (Kd.R_below (upR HO_314001.out) hb); have n5_ := Aside0.mk (Kd.R_below (upR HO_314002.out) hb); have n6_ := Aside0.mk (Kd.R_below (upR HO_325000.out) hb); have n7_ := Aside0.mk (Kd.R_below (upR HO_325001.out) hb); have n8_ := Aside0.mk (Kd.R_below (upR HO_325002.out) hb); have n9_ := Aside0.mk (Kd.R_below (upR HO372.out) hb); have n10_ := Aside0.mk (Kd.R_below (upR HO375.out) hb); have n11_ := Aside0.mk (Kd.R_below (upR HO378.out) hb); have n12_ := Aside0.mk (Kd.R_below (upR HO382.out) hb); have n13_ := Aside0.mk (Kd.R_below (upR HO385.out) hb); have n14_ := Aside0.mk (Kd.R_below (upR HO388.out) hb); have n15_ := Aside0.mk (blkB BK290 hb); have n16_ := Aside0.mk (blkB BK302 hb); have n17_ := Aside0.mk (blkB BK313 hb); have n18_ := Aside0.mk (blkB BK324 hb); have n19_ := Aside0.mk (below_step (upH HB) hb); clear HO_303000; clear HO_303001; clear HO_303002; clear HO_314000; clear HO_314001; clear HO_314002; clear HO_325000; clear HO_325001; clear HO_325002; clear HO372; clear HO375; clear HO378; clear HO382; clear HO385; clear HO388; clear BK290; clear BK302; clear BK313; clear BK324; clear HB; have HO_303000 := n0_; have HO_303001 := n1_; have HO_303002 := n2_; have HO_314000 := n3_; have HO_314001 := n4_; have HO_314002 := n5_; have HO_325000 := n6_; have HO_325001 := n7_; have HO_325002 := n8_; have HO372 := n9_; have HO375 := n10_; have HO378 := n11_; have HO382 := n12_; have HO385 := n13_; have HO388 := n14_; have BK290 := n15_; have BK302 := n16_; have BK313 := n17_; have BK324 := n18_; have HB := n19_; clear n0_ n1_ n2_ n3_ n4_ n5_ n6_ n7_ n8_ n9_ n10_ n11_ n12_ n13_ n14_ n15_ n16_ n17_ n18_ n19_; (try clear hb); (try clear hb2); (try clear hk); (try clear hi)))
                go_ret
                exact ⟨by first | rfl | (simp [errW_none, errW_some] <;> rfl) | (simp [*, errW_none, errW_some] <;> rfl), by repeat (first | (with_reducible first | exact HB.out | apply below_alloc | apply pw_below_drewN | apply below_drew1 | refine below_set ?_ GE290.out | refine below_set ?_ GE302.out | refine below_set ?_ GE313.out | refine below_set ?_ GE324.out) | exact HB.out)⟩
               ·
                replace c145 := Bool.eq_false_iff.mpr c145
                subst c145
                have H1 : (some false) = some r := by rw [if_neg (show ¬ (false = true) by decide)] at H; exact H
                clear H
                have H := H1
                clear H1
                exact absurd H (by rw [HT.out]; simp)
              ·
               rw [if_neg c143] at H
               have c143b0 : (t391 == t393) = false := beq_eq_false_iff_ne.mpr c143
               have c143b1 : (t391 != t393) = true := bne_iff_ne.mpr c143
               exact absurd H (by rw [HT.out]; simp)
             ·
              rw [if_neg c142] at H
              have c142b0 : (t390 == t392) = false := beq_eq_false_iff_ne.mpr c142
              have c142b1 : (t390 != t392) = true := bne_iff_ne.mpr c142
              exact absurd H (by rw [HT.out]; simp)
            ·
             rw [if_neg c141] at H
             have c141b0 : (t379 == t389) = false := beq_eq_false_iff_ne.mpr c141
             have c141b1 : (t379 != t389) = true := bne_iff_ne.mpr c141
             exact absurd H (by rw [HT.out]; simp)
           ·
            replace c140 := Bool.eq_false_iff.mpr c140
            subst c140
            have H1 : (some false) = some r := by rw [if_neg (show ¬ (false = true) by decide)] at H; exact H
            clear H
            have H := H1
            clear H1
            exact absurd H (by rw [HT.out]; simp)
 ·
  replace c5 := Bool.eq_false_iff.mpr c5
  subst c5
  have H1 : ((headgatelaw07_awake.f).bind fun t292 => (some t292)) = some r := by rw [if_neg (show ¬ (false = true) by decide)] at H; exact H
  clear H
  have H := H1
  clear H1
  replace H := Option.bind_eq_some_iff.mp H
  obtain ⟨t292, A1760, H⟩ := H
  replace H : (some t292) = some r := H
  have A176 := Aside0.mk A1760
  clear A1760
  obtain rfl := Option.some.inj H
  go_enter Try.func3, Try.ntmps3
  go_wp2_with (first | ((with_reducible refine gate_dst (N := 3) rfl ?_); refine box_event ?hg (N := 3) ?hd (cs := #[.slice A0_0 l0_0.length c0_0, .slice A0_1 l0_1.length c0_1, .slice A0_2 l0_2.length c0_2]) (t := 25) ?hr ?_; (case hd => rfl); (case hg => rfl); (case hr => first | (go_simp; done) | (go_simp; rfl)); intro gb290 hg w177 hbox hb; have n0_ := Aside0.mk (below_step (upH HB) hb); have n1_ := Aside0.mk (hbox); have n2_ := Aside0.mk ((by rw [hg]; exact (below_size (upH HB)) : w.heap.size ≤ gb290)); have n3_ := Aside0.mk ((by rw [hg]; exact (below_size (upH HB)) : w.heap.size ≤ gb290)); clear HB; have HB := n0_; have BK290 := n1_; have GW290 := n2_; have GE290 := n3_; clear n0_ n1_ n2_ n3_; clear hb hbox hg; have hcz178_0 := cell0 BK290; have hcz178_1 := cell1 BK290; have hcz178_2 := cell2 BK290; have hfz178_0 := blk_frozen BK290.out 0; have hfz178_1 := blk_frozen BK290.out 1; have hfz178_2 := blk_frozen BK290.out 2) | ((with_reducible refine gate_callee (f := 10) rfl ?_); refine goesL_ (some 17) rfl rfl Try.func10 (by kernel_rfl) rfl #[.agg #[.slice A0_0 l0_0.length c0_0, .slice A0_1 l0_1.length c0_1, .slice A0_2 l0_2.length c0_2]] rfl (args_ (p := _)) ?_; (with_reducible refine (headgatelaw07_light.calls _ _ l0_0 _ _ l0_1 _ _ l0_2 false _ ?side1 ?side2 ?side3 ?side4 ?side5 ?side6 A4.out).mono ?_); (case side1 => exact upc (Kd.C_below HR0_0.out HB.out)); (case side2 => exact HC0_0.out); (case side3 => exact upc (Kd.C_below HR0_1.out HB.out)); (case side4 => exact HC0_1.out); (case side5 => exact upc (Kd.C_below HR0_2.out HB.out)); (case side6 => exact HC0_2.out); rintro e w179 ⟨rfl, hb⟩; refine ⟨_, rfl, ?_⟩; have n0_ := Aside0.mk (blkB BK290 hb); have n1_ := Aside0.mk (below_step (upH HB) hb); clear BK290; clear HB; have BK290 := n0_; have HB := n1_; clear n0_ n1_; (try clear hb); (try clear hb2); (try clear hk); (try clear hi)) | ((with_reducible refine gate_callee (f := 11) rfl ?_); refine goesL_ (some 19) rfl rfl Try.func11 (by kernel_rfl) rfl #[] rfl (args_ (p := _)) ?_; (with_reducible refine (headgatelaw07_awake.calls  t292 _ A176.out).mono ?_); rintro e w180 ⟨rfl, hb⟩; refine ⟨_, rfl, ?_⟩; have n0_ := Aside0.mk (blkB BK290 hb); have n1_ := Aside0.mk (below_step (upH HB) hb); clear BK290; clear HB; have BK290 := n0_; have HB := n1_; clear n0_ n1_; (try clear hb); (try clear hb2); (try clear hk); (try clear hi)))
  go_ret
  exact ⟨by first | rfl | (simp [errW_none, errW_some] <;> rfl) | (simp [*, errW_none, errW_some] <;> rfl), by repeat (first | (with_reducible first | exact HB.out | apply below_alloc | apply pw_below_drewN | apply below_drew1 | refine below_set ?_ GE290.out) | exact HB.out)⟩

/-- THE ONE PURE STATEMENT of headgatelaw07_LruChanges. -/
def headgatelaw07_LruChanges.Pure : Prop := ∀ (s0 : S25) (a1 : Int) (a2 : Int), ((s0.f0.length ≤ maxLen ∧ ∀ x ∈ s0.f0, (Lit.int .i64 x).wf = true) ∧ (s0.f1.length ≤ maxLen ∧ ∀ x ∈ s0.f1, (Lit.int .i64 x).wf = true) ∧ (s0.f2.length ≤ maxLen ∧ ∀ x ∈ s0.f2, True)) → ((Lit.int .i64 a1).wf = true) → ((Lit.int .i64 a2).wf = true) → ∃ k, headgatelaw07_LruChanges.f k s0.f0 s0.f1 s0.f2 a1 a2 = some true
theorem headgatelaw07_LruChanges.walk (P : headgatelaw07_LruChanges.Pure) (s0 : S25) (A0_0 : Option Addr) (c0_0 : Nat) (A0_1 : Option Addr) (c0_1 : Nat) (A0_2 : Option Addr) (c0_2 : Nat) (a1 : Int) (a2 : Int) (w : World) (hr0_0 : Kd.C (Kd.int .i64) w A0_0 s0.f0.length s0.f0) (hc0_0 : s0.f0.length ≤ c0_0) (hr0_1 : Kd.C (Kd.int .i64) w A0_1 s0.f1.length s0.f1) (hc0_1 : s0.f1.length ≤ c0_1) (hr0_2 : Kd.C Kd.bool w A0_2 s0.f2.length s0.f2) (hc0_2 : s0.f2.length ≤ c0_2) (w0 : (s0.f0.length ≤ maxLen ∧ ∀ x ∈ s0.f0, (Lit.int .i64 x).wf = true) ∧ (s0.f1.length ≤ maxLen ∧ ∀ x ∈ s0.f1, (Lit.int .i64 x).wf = true) ∧ (s0.f2.length ≤ maxLen ∧ ∀ x ∈ s0.f2, True)) (w1 : (Lit.int .i64 a1).wf = true) (w2 : (Lit.int .i64 a2).wf = true) :
  Calls Try.prog 3 #[.agg #[.slice A0_0 s0.f0.length c0_0, .slice A0_1 s0.f1.length c0_1, .slice A0_2 s0.f2.length c0_2], .int .i64 a1, .int .i64 a2] w fun e w' => e = .returned (.bool true) ∧ Below w.heap.size w w' := by
 obtain ⟨k, h⟩ := P s0 a1 a2 w0 w1 w2
 refine (headgatelaw07_LruChanges.calls k A0_0 c0_0 s0.f0 A0_1 c0_1 s0.f1 A0_2 c0_2 s0.f2 a1 a2 true w hr0_0 hc0_0 hr0_1 hc0_1 hr0_2 hc0_2 ⟨rfl⟩ h).mono ?_
 rintro e w' ⟨rfl, hd⟩
 exact ⟨rfl, hd⟩

end Go.Proofs.Ytaofihdmgdpenaa.X
