/- What Go functions of this seat compute, told as Lean functions, and that each call of the Go code comes to that answer; for a law: its row, for every input. Written by a program of the session. -/
import Derived.Test.YtfnhoncpaheejaaX0
import Derived.Test.YtfnhoncpaheejaaX4
import Derived.Test.YtfnhoncpaheejaaX5
namespace Go.Proofs.Ytfnhoncpaheejaa.X
open Go.RowKit Go.Proofs.YtfnhoncpaheejaaW.PrintWords Go.Proofs.YtfnhoncpaheejaaW.PrintLast Go.Proofs.YtfnhoncpaheejaaW.PrintMore
attribute [local go_sem] max2_int min2_int max_two min_two max_three min_three max_four min_four   -- for this text's walks alone
set_option linter.unusedVariables false
set_option linter.unusedSimpArgs false

/-! ### held_index_add: function 38 -/
theorem held_keys_f (s f c : Int) : ∃ ks, held_keys.f s f c = some ks ∧ ks.map (fun k => (k.f0, k.f1)) = heldKeys s f c ∧ ks.length ≤ 3 := by
 unfold held_keys.f heldKeys
 by_cases hc : c > 0
 ·
  refine ⟨[⟨0, s⟩, ⟨1, f⟩, ⟨2, c⟩], ?_, ?_, by simp⟩
  ·
   simp [hc]
  ·
   simp [hc]
 ·
  refine ⟨[⟨0, s⟩, ⟨1, f⟩], ?_, ?_, by simp⟩
  ·
   simp [hc]
  ·
   simp [hc]
/-- What add comes to: it says whether all keys are free, and has put them then. -/
def AddPost (b n : Nat) (g : Int × Int → Option Int) (s f c i : Int) (w : World) (e : Ending) (w' : World) : Prop :=
 e = .returned (.bool (heldFree g (heldKeys s f c))) ∧ HeldMap w' b (n + 3) (if heldFree g (heldKeys s f c) then heldPut (heldKeys s f c) i g else g) ∧ w.grownBy w' (some b)
theorem addPost_false {b n : Nat} {g : Int × Int → Option Int} {s f c i : Int} {w w' : World} (hf : heldFree g (heldKeys s f c) = false) (hm : HeldMap w' b (n + 3) g) (hg : w.grownBy w' (some b)) : AddPost b n g s f c i w (.returned (.bool false)) w' := by
 unfold AddPost
 rw [hf]
 exact ⟨rfl, hm, hg⟩
theorem addPost_true {b n : Nat} {g : Int × Int → Option Int} {s f c i : Int} {w w' : World} (hf : heldFree g (heldKeys s f c) = true) (hm : HeldMap w' b (n + 3) (heldPut (heldKeys s f c) i g)) (hg : w.grownBy w' (some b)) : AddPost b n g s f c i w (.returned (.bool true)) w' := by
 unfold AddPost
 rw [hf]
 exact ⟨rfl, hm, hg⟩
theorem held_key_ok {s f c : Int} (h0 : (Lit.int .i64 s).wf = true) (h1 : (Lit.int .i64 f).wf = true) (h2 : (Lit.int .i64 c).wf = true) {k : Int × Int} (hmem : k ∈ heldKeys s f c) : keyOk k := by
 obtain ⟨k0, k1⟩ := k
 unfold heldKeys at hmem
 by_cases hc : c > 0
 ·
  simp [hc] at hmem
  rcases hmem with ⟨e1, e2⟩ | ⟨e1, e2⟩ | ⟨e1, e2⟩ <;> (rw [e1, e2]; exact ⟨rfl, by assumption⟩)
 ·
  simp [hc] at hmem
  rcases hmem with ⟨e1, e2⟩ | ⟨e1, e2⟩ <;> (rw [e1, e2]; exact ⟨rfl, by assumption⟩)
set_option maxHeartbeats 2000000 in
set_option maxRecDepth 100000 in
theorem index_add.calls (b n : Nat) (g : Int × Int → Option Int) (s f c i : Int) (w : World) (hg : HeldMap w b n g) (hn : n < 1000000) (h0 : (Lit.int .i64 s).wf = true) (h1 : (Lit.int .i64 f).wf = true) (h2 : (Lit.int .i64 c).wf = true) (hi : (Lit.int .i64 i).wf = true) :
  Calls Try.prog 38 #[.map (some b), .agg #[.int .i64 s, .int .i64 f, .int .i64 c], .int .i64 i] w (AddPost b n g s f c i w) := by
 have huK := Try.underlying57
 have huW := Try.underlying32
 obtain ⟨ks, hks, hm, hl⟩ := held_keys_f s f c
 have HK := Aside0.mk hks
 have HG := Aside0.mk hg
 clear hks hg
 go_enter Try.func38, Try.ntmps38
 go_wp2_with (first | (go_at_call 46; (with_reducible refine (held_keys.calls _ _ _ _ _ HK.out).mono ?_); rintro e w1 ⟨v1, rfl, hr1, hb1⟩; have HR1 := Aside0.mk hr1; have HB1 := Aside0.mk hb1; clear hr1 hb1; obtain ⟨A1, c1, e1⟩ := Kd.R_slice HR1.out; subst e1))
 have hbx := blk_below (blk_new w (.cells #[.int .i64 s, .int .i64 f, .int .i64 c] 32)) HB1.out
 have BX := Aside0.mk hbx
 clear hbx
 have HM := Aside0.mk hm
 clear hm
 have hkl : (heldKeys s f c).length = ks.length := by rw [← HM.out, List.length_map]
 go_loopg [16] ks.length (fun gg v wr => ∃ j : Nat, j + gg = ks.length ∧ v = .int .i64 j ∧ Aside0 (heldFree g ((heldKeys s f c).drop j) = heldFree g (heldKeys s f c)) ∧ Aside0 (Below w1.heap.size w1 wr))
 case atStart => exact ⟨0, by omega, rfl, ⟨rfl⟩, ⟨Below.refl _ _⟩⟩
 case round =>
  obtain ⟨j, hj, rfl, HF, HB⟩ := hrel
  by_cases hjl : j < ks.length
  ·
   have hC := (Kd.R_reads' HR1.out).2.2
   obtain ⟨ad, hA, hx0, hx1⟩ := at_T57 hC j (by omega) (by omega)
   subst hA
   obtain ⟨k, hk⟩ : ∃ k, k = rd_T57 ks j := ⟨_, rfl⟩
   rw [← hk] at hx0 hx1
   have hy0 := pw_cell_below HB.out hx0
   have hy1 := pw_cell_below HB.out hx1
   simp only [Int.toNat_natCast] at hy0 hy1
   have hkj : (heldKeys s f c).drop j = (k.f0, k.f1) :: (heldKeys s f c).drop (j + 1) := by
    rw [List.drop_eq_getElem_cons (by omega)]
    congr 1
    simp only [← HM.out, List.getElem_map]
    rw [hk, rd_T57, Int.toNat_natCast, List.getD_eq_getElem?_getD, List.getElem?_eq_getElem hjl]
    rfl
   have hko : keyOk (k.f0, k.f1) := held_key_ok h0 h1 h2 (List.mem_of_mem_drop (i := j) (by rw [hkj]; exact List.mem_cons_self))
   have HKO := Aside0.mk hko
   have HF2 := HF.out
   rw [hkj] at HF2
   have HF3 : ((!(g (k.f0, k.f1)).isSome) && heldFree g ((heldKeys s f c).drop (j + 1))) = heldFree g (heldKeys s f c) := HF2
   clear HF HF2 hkj hko hx0 hx1 hC hk
   have hjb : decide ((j : Int) < (ks.length : Int)) = true := decide_eq_true (by omega)
   have hjb' : decide (j < ks.length) = true := decide_eq_true hjl
   have HGr := Aside0.mk ((((HG.out.alloc (.cells #[.int .i64 s, .int .i64 f, .int .i64 c] 32)).below HB1.out).below HB.out))
   cases hgk : (g (k.f0, k.f1)).isSome with
   | true =>
    rw [hgk] at HF3
    have HE := Aside0.mk (show heldFree g (heldKeys s f c) = false from HF3.symm)
    clear HF3
    have HGK := Aside0.mk hgk
    clear hgk
    go_wp2_with (first | (at_lookup; refine wpList_look_ok held_keyBy held_elem rfl _ _ _ rfl Try.underlying52 rfl (HGr.out.alloc _) (k.f0, k.f1) rfl HKO.out ?_; rw [HGK.out]))
    go_ret
    exact addPost_false HE.out ((HGr.out.alloc _).mono (Nat.le_add_right _ _)) (grown_of_below (below_alloc (below_then (below_then (below_alloc (Below.refl _ _) _) (by simp) HB1.out) (by have := HB1.out.size; simp at this; omega) HB.out) _) _)
   | false =>
    rw [hgk] at HF3
    have HE := Aside0.mk (show heldFree g ((heldKeys s f c).drop (j + 1)) = heldFree g (heldKeys s f c) from HF3)
    clear HF3
    have HGK := Aside0.mk hgk
    clear hgk
    go_wp2_with (first | (at_lookup; refine wpList_look_ok held_keyBy held_elem rfl _ _ _ rfl Try.underlying52 rfl (HGr.out.alloc _) (k.f0, k.f1) rfl HKO.out ?_; rw [HGK.out]))
    go_roundg (gk - 1)
    case measure => omega
    case rel => exact ⟨j + 1, by omega, by go_num, HE, ⟨below_alloc HB.out _⟩⟩
  ·
   have HE : heldFree g (heldKeys s f c) = true := by
    have := HF.out
    rw [List.drop_eq_nil_of_le (by omega)] at this
    exact this.symm
   have HET := Aside0.mk HE
   clear HE HF
   have hjb : decide ((j : Int) < (ks.length : Int)) = false := decide_eq_false (by omega)
   have hjb' : decide (j < ks.length) = false := decide_eq_false hjl
   have BX2 := Aside0.mk (blk_below BX.out HB.out)
   have hc0 := (blk_cell BX2.out 0).trans rfl
   have hc1 := (blk_cell BX2.out 1).trans rfl
   have hc2 := (blk_cell BX2.out 2).trans rfl
   go_wp2_with (first | (go_at_call 46; (with_reducible refine (held_keys.calls _ _ _ _ _ HK.out).mono ?_); rintro e w2 ⟨v2, rfl, hr2, hb2⟩; have HR2 := Aside0.mk hr2; have HB2 := Aside0.mk hb2; clear hr2 hb2; obtain ⟨A2, c2, e2⟩ := Kd.R_slice HR2.out; subst e2))
   have HG2 := Aside0.mk (((((HG.out.alloc (.cells #[.int .i64 s, .int .i64 f, .int .i64 c] 32)).below HB1.out).below HB.out)).below HB2.out)
   have HW2 := Aside0.mk (below_then (below_then (below_then (below_alloc (Below.refl w.heap.size w) (.cells #[.int .i64 s, .int .i64 f, .int .i64 c] 32)) (by simp) HB1.out) (by have := HB1.out.size; simp at this; omega) HB.out) (by have := HB1.out.size; have h2 := HB.out.size; simp at this; omega) HB2.out)
   have hbl := HG.out.lt
   go_loopg [31] ks.length (fun gg v wr => ∃ (j : Nat) (g' : Int × Int → Option Int), j + gg = ks.length ∧ v = .int .i64 j ∧ Aside0 (heldPut ((heldKeys s f c).drop j) i g' = heldPut (heldKeys s f c) i g) ∧ Aside0 (HeldMap wr b (n + j) g') ∧ Aside0 (w2.grownBy wr (some b)))
   case atStart => exact ⟨0, g, by omega, rfl, ⟨rfl⟩, HG2, ⟨World.grownBy.refl _ _⟩⟩
   case round =>
    obtain ⟨j, g', hj, rfl, HF, HGr, HB3⟩ := hrel
    by_cases hjl : j < ks.length
    ·
     have hC := (Kd.R_reads' HR2.out).2.2
     obtain ⟨ad, hA, hx0, hx1⟩ := at_T57 hC j (by omega) (by omega)
     subst hA
     obtain ⟨k, hk⟩ : ∃ k, k = rd_T57 ks j := ⟨_, rfl⟩
     rw [← hk] at hx0 hx1
     have hfar : some (ad.add ((j : Int).toNat * 2)).block ≠ some b := by
      obtain ⟨inner, ho⟩ := Kd.R_own HR2.out
      obtain ⟨g0, cap, hv, hb, _⟩ := ho.form (by omega)
      injection hv with h1 _ _
      injection h1 with h1
      subst h1
      have z1 := HB1.out.size
      have z2 := HB.out.size
      simp at z1
      rw [add_plain]
      intro e
      injection e with e
      have e' : g0 = b := e
      omega
     have hy0 := (HB3.out.cell_far _ (World.block_lt_of_cell? w2 _ hx0) hfar).trans hx0
     have hy1 := (HB3.out.cell_far _ (World.block_lt_of_cell? w2 _ hx1) hfar).trans hx1
     simp only [Int.toNat_natCast] at hy0 hy1
     have hkj : (heldKeys s f c).drop j = (k.f0, k.f1) :: (heldKeys s f c).drop (j + 1) := by
      rw [List.drop_eq_getElem_cons (by omega)]
      congr 1
      simp only [← HM.out, List.getElem_map]
      rw [hk, rd_T57, Int.toNat_natCast, List.getD_eq_getElem?_getD, List.getElem?_eq_getElem hjl]
      rfl
     have HKO := Aside0.mk (held_key_ok h0 h1 h2 (List.mem_of_mem_drop (i := j) (by rw [hkj]; exact List.mem_cons_self)))
     have HF2 := HF.out
     rw [hkj] at HF2
     have HE := Aside0.mk (show heldPut ((heldKeys s f c).drop (j + 1)) i (fun q => if q = (k.f0, k.f1) then some i else g' q) = heldPut (heldKeys s f c) i g from HF2)
     clear HF HF2 hkj hx0 hx1 hC hk hc0 hc1 hc2
     have hjb : decide ((j : Int) < (ks.length : Int)) = true := decide_eq_true (by omega)
     have hjb' : decide (j < ks.length) = true := decide_eq_true hjl
     go_wp2_with (first | (at_mapUpdate; refine wpList_put held_keyBy rfl _ _ _ _ rfl Try.underlying52 rfl (HGr.out.alloc _) (by omega) (k.f0, k.f1) i rfl HKO.out _ rfl (plainElem_int Try.underlying3 hi) ?_; intro w5 hm5 hg5))
     go_roundg (gk - 1)
     case measure => omega
     case rel => exact ⟨j + 1, _, by omega, by go_num, HE, ⟨hm5⟩, ⟨HB3.out.trans ((World.grownBy_alloc _ _ _).trans hg5)⟩⟩
    ·
     have HE : heldPut (heldKeys s f c) i g = g' := by
      have := HF.out
      rw [List.drop_eq_nil_of_le (by omega)] at this
      exact this.symm
     have HG' := Aside0.mk HE
     clear HE HF
     have hjb : decide ((j : Int) < (ks.length : Int)) = false := decide_eq_false (by omega)
     have hjb' : decide (j < ks.length) = false := decide_eq_false hjl
     go_wp2
     go_ret
     exact addPost_true HET.out (by rw [HG'.out]; exact HGr.out.mono (by omega)) ((grown_of_below HW2.out _).trans HB3.out)


end Go.Proofs.Ytfnhoncpaheejaa.X
