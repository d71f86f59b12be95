/- What Go functions of this seat compute, told as Lean functions, and that each call of the Go code comes to that answer; for a law: its row, for every input. Written by a program of the session. -/
import Derived.Test.YtnheknlmmmkbpaaX0
import Derived.Test.YtnheknlmmmkbpaaX26
import Derived.Test.YtnheknlmmmkbpaaX2
namespace Go.Proofs.Ytnheknlmmmkbpaa.X
open Go.RowKit Go.Proofs.YtnheknlmmmkbpaaW.PrintWords Go.Proofs.YtnheknlmmmkbpaaW.PrintLast Go.Proofs.YtnheknlmmmkbpaaW.PrintMore
attribute [local go_sem] max2_int min2_int max_two min_two max_three min_three max_four min_four   -- for this text's walks alone
set_option linter.unusedVariables false
set_option linter.unusedSimpArgs false

/-! ### lru_move: function 43 -/
/-- Lists in a variable of the caller's own. -/
structure MvSt (base : Nat) (W : World) (b : Nat) (v0 v1 v2 : Value) (x0 x1 : List Int) (t3 : List Bool) : Prop where
 r0 : Kd.R (Kd.int .i64) 3 W base (fun k_ => some k_ ≠ v1.ownBlock) v0 x0
 r1 : Kd.R (Kd.int .i64) 3 W base (fun k_ => some k_ ≠ v0.ownBlock) v1 x1
 r2 : Kd.R Kd.bool 4 W base (fun _ => True) v2 t3
 h : W.heap[b]? = some (.cells #[v0, v1, v2] 33 (0, 0))
 lo : base ≤ b
 size : base ≤ W.heap.size
theorem MvSt.put {base b i : Nat} {W : World} {v0 v1 v2 u v0' v1' : Value} {x0 x1 : List Int} {t3 : List Bool} (h : MvSt base W b v0 v1 v2 x0 x1 t3) (he : #[v0, v1, v2].setIfInBounds i u = #[v0', v1', v2]) (y0 y1 : List Int) (h0 : Kd.R (Kd.int .i64) 3 W base (fun k_ => some k_ ≠ v1'.ownBlock) v0' y0) (h1 : Kd.R (Kd.int .i64) 3 W base (fun k_ => some k_ ≠ v0'.ownBlock) v1' y1) : MvSt base (W.setCell ⟨b, i, none⟩ u) b v0' v1' v2 y0 y1 t3 :=
 ⟨R_set h0 h.h (by decide), R_set h1 h.h (by decide), R_set h.r2 h.h (by decide), blk_put h.h i u he, h.lo, by simp [h.size]⟩
/-- Two boxes of the call's own. -/
structure MvIn (w W : World) (b8 b9 : Nat) (v8 v9 : Value) : Prop where
 h8 : W.heap[b8]? = some (.cells #[v8] 68 (0, 0))
 h9 : W.heap[b9]? = some (.cells #[v9] 68 (0, 0))
 below : Below w.heap.size w W
 l8 : w.heap.size ≤ b8
 l9 : w.heap.size ≤ b9
 ne : b8 ≠ b9
/-- Behind pop and push. -/
structure MvOut (base : Nat) (w W : World) (b b8 b9 : Nat) (vf vt v2 : Value) (vf' vt' : Value) (yf yt : List Int) (t3 : List Bool) (vs : Array Value) : Prop where
 h8 : W.heap[b8]? = some (.cells #[vf'] 68 (0, 0))
 h9 : W.heap[b9]? = some (.cells #[vt'] 68 (0, 0))
 rf : Kd.R (Kd.int .i64) 3 W base (fun k_ => some k_ ≠ vt'.ownBlock) vf' yf
 rt : Kd.R (Kd.int .i64) 3 W base (fun k_ => some k_ ≠ vf'.ownBlock) vt' yt
 r2 : Kd.R Kd.bool 4 W base (fun _ => True) v2 t3
 h : W.heap[b]? = some (.cells vs 33 (0, 0))
 below : Below base w W
theorem MvIn.run {base b n : Nat} {w W : World} {b8 b9 : Nat} {vf vt v2 : Value} {xf xt : List Int} {t3 : List Bool} {vs : Array Value} (hI : MvIn w W b8 b9 vf vt)
  (hf : Kd.R (Kd.int .i64) 3 w base (fun k_ => some k_ ≠ vt.ownBlock) vf xf) (ht : Kd.R (Kd.int .i64) 3 w base (fun k_ => some k_ ≠ vf.ownBlock) vt xt) (h2 : Kd.R Kd.bool 4 w base (fun _ => True) v2 t3) (h : w.heap[b]? = some (.cells vs 33 (0, 0))) (hb : base ≤ b) (hsz : base ≤ w.heap.size)
  (hn : xf.length = n + 1) (hl0 : xf.length ≤ 1000000) (hl1 : xt.length ≤ 1000000) :
  Calls Try.prog 53 #[.pointer (some ⟨b8, 0, none⟩)] W fun e W1 => e = .returned (.int .i64 (rd xf n)) ∧ Calls Try.prog 54 #[.pointer (some ⟨b9, 0, none⟩), .int .i64 (rd xf n)] W1 fun e W2 => e = .returned (.tuple #[]) ∧ ∃ vf' vt', MvOut base w W2 b b8 b9 vf vt v2 vf' vt' (xf.take n) (rd xf n :: xt) t3 vs := by
 have hB := hI.below
 have fW := Kd.R_below hf hB
 have tW := Kd.R_below ht hB
 have sW := hB.size
 refine (pop_own base b8 n vf xf W hI.h8 (Kd.R_mono fW fun _ _ => trivial) hn hl0).mono ?_
 rintro e W1 ⟨rfl, vf', p8, pR, pk, ps, po, pB⟩
 refine ⟨rfl, ?_⟩
 have n9 : some b9 ≠ vf.ownBlock := Kd.R_ne fW hI.h9 (by decide)
 have q9 : W1.heap[b9]? = some (.cells #[vt] 68 (0, 0)) := (pk b9 (blk_lt hI.h9) hI.ne.symm n9).trans hI.h9
 have tW1 : Kd.R (Kd.int .i64) 3 W1 base (fun k_ => some k_ ≠ vf.ownBlock) vt xt := Kd.R_mono (Kd.R_step (Kd.R_types tW hI.h8 (by decide)) fun k hk hlt => pk k hlt hk.2 hk.1) fun _ hk => hk.1
 have fb := Kd.R_base hf
 have tb := Kd.R_base ht
 have fl := Kd.R_lt hf
 have tl := Kd.R_lt ht
 have hB1 : Below base w W1 := (hB.mono hsz).trans (pB base (by omega) (by have := hI.l8; omega) fb)
 refine (push_own base b9 vt xt (rd xf n) W1 q9 (Kd.R_mono tW1 fun _ _ => trivial) hl1 (by omega)).mono ?_
 rintro e W2 ⟨rfl, vt', r9, rR, rk, rs, ro, rB⟩
 have n8 : some b8 ≠ vt.ownBlock := Kd.R_ne tW1 p8 (by decide)
 have bW := blk_below h hB
 have nb0 : some b ≠ vf.ownBlock := Kd.R_ne fW bW (by decide)
 have nb1 : some b ≠ vt.ownBlock := Kd.R_ne tW bW (by decide)
 have nb8 : b ≠ b8 := blk_ne bW hI.h8 (by decide)
 have nb9 : b ≠ b9 := blk_ne bW hI.h9 (by decide)
 have bl := blk_lt bW
 have l8 := blk_lt hI.h8
 have hap : ∀ k, vf'.ownBlock = some k → some k ≠ vt'.ownBlock := fun k hk he => by
  rw [po] at hk
  rcases ro with ro | ⟨q, ro, hq⟩
  ·
   exact hf.1 k hk (by rw [he, ro])
  ·
   rw [ro] at he
   injection he with he
   have := fl k hk
   omega
 have pT : Kd.R (Kd.int .i64) 3 W1 base (fun k_ => some k_ ≠ vt.ownBlock) vf' (xf.take n) := Kd.R_of_own (Kd.own_of_R pR) (fun k hk => hf.1 k (po ▸ hk))
 have pT2 : Kd.R (Kd.int .i64) 3 W2 base (fun _ => True) vf' (xf.take n) := Kd.R_mono (Kd.R_step (Kd.R_types pT q9 (by decide)) fun k hk hlt => rk k hlt hk.2 hk.1) fun _ _ => trivial
 have sW1 : Kd.R Kd.bool 4 W1 base (fun _ => True) v2 t3 := Kd.R_mono (Kd.R_step (Kd.R_types (Kd.R_apart' (Kd.R_below h2 hB) (Kd.R_typed fW) (by decide)) hI.h8 (by decide)) fun k hk hlt => pk k hlt hk.2 hk.1.2) fun _ _ => trivial
 have sW2 : Kd.R Kd.bool 4 W2 base (fun _ => True) v2 t3 := Kd.R_mono (Kd.R_step (Kd.R_types (Kd.R_apart' sW1 (Kd.R_typed tW1) (by decide)) q9 (by decide)) fun k hk hlt => rk k hlt hk.2 hk.1.2) fun _ _ => trivial
 refine ⟨rfl, vf', vt', (rk b8 (by omega) hI.ne n8).trans p8, r9, Kd.R_of_own (Kd.own_of_R pT2) hap, Kd.R_of_own (Kd.own_of_R rR) (fun k hk he => hap k he.symm (by rw [hk])), sW2, ?_, hB1.trans (rB base (by omega) (by have := hI.l9; omega) tb)⟩
 exact (rk b (by omega) nb9 nb1).trans ((pk b bl nb8 nb0).trans bW)
set_option maxHeartbeats 2000000 in
theorem move_none_dem (b d : Nat) (v0 v1 v2 : Value) (w : World) (B : Option Addr) (hv : v0 = .slice B 0 d) (h : w.heap[b]? = some (.cells #[v0, v1, v2] 33 (0, 0))) :
  Calls Try.prog 43 #[.pointer (some ⟨b, 0, none⟩), .pointer (some ⟨b, 0, none⟩), .pointer (some ⟨b, 1, none⟩)] w fun e w' => e = .returned (.tuple #[.int .i64 0, .int .i64 6]) ∧ w = w' := by
 subst hv
 have hx0 := (blk_cell h 0).trans rfl
 clear h
 go_enter Try.func43, Try.ntmps43
 go_wp2
 go_ret2
 exact ⟨rfl, rfl⟩
set_option maxHeartbeats 4000000 in
set_option maxRecDepth 100000 in
theorem move_dem (base b n : Nat) (v0 v1 v2 : Value) (x0 x1 : List Int) (t3 : List Bool) (w : World) (hS : MvSt base w b v0 v1 v2 x0 x1 t3) (hn : x0.length = n + 1) (hl0 : x0.length ≤ 1000000) (hl1 : x1.length ≤ 1000000) (f0 : 0 ≤ rd x0 n) (f1 : rd x0 n < (t3.length : Int)) :
  Calls Try.prog 43 #[.pointer (some ⟨b, 0, none⟩), .pointer (some ⟨b, 0, none⟩), .pointer (some ⟨b, 1, none⟩)] w fun e w' => e = .returned (.tuple #[.int .i64 (rd x0 n), .int .i64 0]) ∧ (∃ v0' v1', MvSt base w' b v0' v1' v2 (x0.take n) (rd x0 n :: x1) (t3.set (rd x0 n).toNat false)) ∧ Below base w w' := by
 obtain ⟨B0, d0, rfl⟩ := Kd.R_slice hS.r0
 obtain ⟨B1, d1, rfl⟩ := Kd.R_slice hS.r1
 obtain ⟨g2, d2, rfl, gb2, gl2, cl2, hgb2⟩ := Kd.R_form hS.r2 (by omega)
 have hx0 := (blk_cell hS.h 0).trans rfl
 have hx1 := (blk_cell hS.h 1).trans rfl
 have hf0 := blk_frozen hS.h 0
 have hf1 := blk_frozen hS.h 1
 have e1 : (((x0.length : Nat) : Int) == 0) = false := beq_eq_false_iff_ne.mpr (by omega)
 have hbl := blk_lt hS.h
 have S0 := Aside0.mk hS
 have hrun := fun (W : World) (b8 b9 : Nat) (hI : MvIn w W b8 b9 _ _) => MvIn.run (n := n) hI hS.r0 hS.r1 hS.r2 hS.h hS.lo hS.size hn hl0 hl1
 generalize hfr : rd x0 n = fr at *
 have FR := Aside0.mk hfr
 have HN := Aside0.mk hn
 have HP := Aside0.mk hrun
 have GB := Aside0.mk gb2
 clear hS hn hfr hrun gb2 gl2 hgb2
 go_enter Try.func43, Try.ntmps43
 go_wp2_with fail
 go_region
 ·
  generalize e9 : w.heap.size + 1 = b9
  generalize e8 : w.heap.size = b8
  generalize hW : World.drew _ = W
  have hI : MvIn w W b8 b9 (.slice B0 x0.length d0) (.slice B1 x1.length d1) := by
   subst e9 e8 hW
   exact ⟨blk_alloc (blk_new w _) _, blk_second, below_drew (below_alloc (below_alloc (Below.refl _ _) _) _), by omega, by omega, by omega⟩
  have HI := Aside0.mk hI
  clear hI hx0 hx1 hf0 hf1 hbl e8 e9 hW
  go_wp2_with fail
  refine (HP.out W b8 b9 HI.out).mono ?_
  rintro e W1 ⟨rfl, hpush⟩
  have HU := Aside0.mk hpush
  clear hpush
  go_wp2_with fail
  refine HU.out.mono ?_
  rintro e W2 ⟨rfl, v8, v9, hO⟩
  obtain ⟨B8, c8, rfl⟩ := Kd.R_slice hO.rf
  obtain ⟨B9, c9, rfl⟩ := Kd.R_slice hO.rt
  rw [List.length_take, List.length_cons] at hO
  have hy0 := (blk_cell hO.h8 0).trans rfl
  have hy1 := (blk_cell hO.h9 0).trans rfl
  have hy2 := (blk_cell hO.h 2).trans rfl
  have hz0 := blk_frozen hO.h 0
  have hz1 := blk_frozen hO.h 1
  have nb8 := (blk_ne hO.h hO.h8 (by decide)).symm
  have nb9 := (blk_ne hO.h hO.h9 (by decide)).symm
  have hxx0 := (blk_cell hO.h 0).trans rfl
  have hxx1 := (blk_cell hO.h 1).trans rfl
  have O := Aside0.mk hO
  clear hO HU HP HI
  obtain ⟨hv0, hv1⟩ := Kd.R_celln false O.out.r2 fr f0 f1
  have gne : g2 ≠ b := fun e => Kd.R_ne O.out.r2 O.out.h (by decide) (by rw [e]; rfl)
  have p0 := eq_true f0
  have p1 := eq_true f1
  go_wp2
  go_ret2
  have hb1 := blk_put (cs' := #[(.slice B8 (min n x0.length) c8), (.slice B1 x1.length d1), .slice (some ⟨g2, 0, none⟩) t3.length d2]) O.out.h 0 (.slice B8 (min n x0.length) c8) rfl
  have hb2 := blk_put (cs' := #[(.slice B8 (min n x0.length) c8), (.slice B9 (x1.length + 1) c9), .slice (some ⟨g2, 0, none⟩) t3.length d2]) hb1 1 (.slice B9 (x1.length + 1) c9) rfl
  have k2 := R_set (i := 1) (u := .slice B9 (x1.length + 1) c9) (R_set (i := 0) (u := .slice B8 (min n x0.length) c8) O.out.r2 O.out.h (by decide)) hb1 (by decide)
  have kf := R_set (i := 1) (u := .slice B9 (x1.length + 1) c9) (R_set (i := 0) (u := .slice B8 (min n x0.length) c8) O.out.rf O.out.h (by decide)) hb1 (by decide)
  have kt := R_set (i := 1) (u := .slice B9 (x1.length + 1) c9) (R_set (i := 0) (u := .slice B8 (min n x0.length) c8) O.out.rt O.out.h (by decide)) hb1 (by decide)
  obtain ⟨cl, hgb⟩ := Kd.R_typed k2 g2 rfl
  have kp := (Kd.R_putg k2 fr false).1
  have hbs := ((O.out.below.setCell (p := ⟨b, 0, none⟩) S0.out.lo (.slice B8 (min n x0.length) c8)).setCell (p := ⟨b, 1, none⟩) S0.out.lo (.slice B9 (x1.length + 1) c9)).setCell (p := ⟨g2, fr.toNat, none⟩) GB.out (.bool false)
  exact ⟨rfl, ⟨_, _, R_set kf hgb (by decide), R_set kt hgb (by decide), kp, blk_past hb2 gne.symm, S0.out.lo, Nat.le_trans S0.out.size hbs.size⟩, hbs⟩
 ·
  generalize e8 : w.heap.size + 1 = b8
  generalize e9 : w.heap.size = b9
  generalize hW : World.drew _ = W
  have hI : MvIn w W b8 b9 (.slice B0 x0.length d0) (.slice B1 x1.length d1) := by
   subst e9 e8 hW
   exact ⟨blk_second, blk_alloc (blk_new w _) _, below_drew (below_alloc (below_alloc (Below.refl _ _) _) _), by omega, by omega, by omega⟩
  have HI := Aside0.mk hI
  clear hI hx0 hx1 hf0 hf1 hbl e8 e9 hW
  go_wp2_with fail
  refine (HP.out W b8 b9 HI.out).mono ?_
  rintro e W1 ⟨rfl, hpush⟩
  have HU := Aside0.mk hpush
  clear hpush
  go_wp2_with fail
  refine HU.out.mono ?_
  rintro e W2 ⟨rfl, v8, v9, hO⟩
  obtain ⟨B8, c8, rfl⟩ := Kd.R_slice hO.rf
  obtain ⟨B9, c9, rfl⟩ := Kd.R_slice hO.rt
  rw [List.length_take, List.length_cons] at hO
  have hy0 := (blk_cell hO.h8 0).trans rfl
  have hy1 := (blk_cell hO.h9 0).trans rfl
  have hy2 := (blk_cell hO.h 2).trans rfl
  have hz0 := blk_frozen hO.h 0
  have hz1 := blk_frozen hO.h 1
  have nb8 := (blk_ne hO.h hO.h8 (by decide)).symm
  have nb9 := (blk_ne hO.h hO.h9 (by decide)).symm
  have hxx0 := (blk_cell hO.h 0).trans rfl
  have hxx1 := (blk_cell hO.h 1).trans rfl
  have O := Aside0.mk hO
  clear hO HU HP HI
  obtain ⟨hv0, hv1⟩ := Kd.R_celln false O.out.r2 fr f0 f1
  have gne : g2 ≠ b := fun e => Kd.R_ne O.out.r2 O.out.h (by decide) (by rw [e]; rfl)
  have p0 := eq_true f0
  have p1 := eq_true f1
  go_wp2
  go_ret2
  have hb1 := blk_put (cs' := #[(.slice B8 (min n x0.length) c8), (.slice B1 x1.length d1), .slice (some ⟨g2, 0, none⟩) t3.length d2]) O.out.h 0 (.slice B8 (min n x0.length) c8) rfl
  have hb2 := blk_put (cs' := #[(.slice B8 (min n x0.length) c8), (.slice B9 (x1.length + 1) c9), .slice (some ⟨g2, 0, none⟩) t3.length d2]) hb1 1 (.slice B9 (x1.length + 1) c9) rfl
  have k2 := R_set (i := 1) (u := .slice B9 (x1.length + 1) c9) (R_set (i := 0) (u := .slice B8 (min n x0.length) c8) O.out.r2 O.out.h (by decide)) hb1 (by decide)
  have kf := R_set (i := 1) (u := .slice B9 (x1.length + 1) c9) (R_set (i := 0) (u := .slice B8 (min n x0.length) c8) O.out.rf O.out.h (by decide)) hb1 (by decide)
  have kt := R_set (i := 1) (u := .slice B9 (x1.length + 1) c9) (R_set (i := 0) (u := .slice B8 (min n x0.length) c8) O.out.rt O.out.h (by decide)) hb1 (by decide)
  obtain ⟨cl, hgb⟩ := Kd.R_typed k2 g2 rfl
  have kp := (Kd.R_putg k2 fr false).1
  have hbs := ((O.out.below.setCell (p := ⟨b, 0, none⟩) S0.out.lo (.slice B8 (min n x0.length) c8)).setCell (p := ⟨b, 1, none⟩) S0.out.lo (.slice B9 (x1.length + 1) c9)).setCell (p := ⟨g2, fr.toNat, none⟩) GB.out (.bool false)
  exact ⟨rfl, ⟨_, _, R_set kf hgb (by decide), R_set kt hgb (by decide), kp, blk_past hb2 gne.symm, S0.out.lo, Nat.le_trans S0.out.size hbs.size⟩, hbs⟩
set_option maxHeartbeats 2000000 in
theorem move_none_pro (b d : Nat) (v0 v1 v2 : Value) (w : World) (B : Option Addr) (hv : v1 = .slice B 0 d) (h : w.heap[b]? = some (.cells #[v0, v1, v2] 33 (0, 0))) :
  Calls Try.prog 43 #[.pointer (some ⟨b, 0, none⟩), .pointer (some ⟨b, 1, none⟩), .pointer (some ⟨b, 0, none⟩)] w fun e w' => e = .returned (.tuple #[.int .i64 0, .int .i64 6]) ∧ w = w' := by
 subst hv
 have hx0 := (blk_cell h 1).trans rfl
 clear h
 go_enter Try.func43, Try.ntmps43
 go_wp2
 go_ret2
 exact ⟨rfl, rfl⟩
set_option maxHeartbeats 4000000 in
set_option maxRecDepth 100000 in
theorem move_pro (base b n : Nat) (v0 v1 v2 : Value) (x0 x1 : List Int) (t3 : List Bool) (w : World) (hS : MvSt base w b v0 v1 v2 x0 x1 t3) (hn : x1.length = n + 1) (hl0 : x1.length ≤ 1000000) (hl1 : x0.length ≤ 1000000) (f0 : 0 ≤ rd x1 n) (f1 : rd x1 n < (t3.length : Int)) :
  Calls Try.prog 43 #[.pointer (some ⟨b, 0, none⟩), .pointer (some ⟨b, 1, none⟩), .pointer (some ⟨b, 0, none⟩)] w fun e w' => e = .returned (.tuple #[.int .i64 (rd x1 n), .int .i64 0]) ∧ (∃ v0' v1', MvSt base w' b v0' v1' v2 (rd x1 n :: x0) (x1.take n) (t3.set (rd x1 n).toNat false)) ∧ Below base w w' := by
 obtain ⟨B0, d0, rfl⟩ := Kd.R_slice hS.r0
 obtain ⟨B1, d1, rfl⟩ := Kd.R_slice hS.r1
 obtain ⟨g2, d2, rfl, gb2, gl2, cl2, hgb2⟩ := Kd.R_form hS.r2 (by omega)
 have hx0 := (blk_cell hS.h 0).trans rfl
 have hx1 := (blk_cell hS.h 1).trans rfl
 have hf0 := blk_frozen hS.h 0
 have hf1 := blk_frozen hS.h 1
 have e1 : (((x1.length : Nat) : Int) == 0) = false := beq_eq_false_iff_ne.mpr (by omega)
 have hbl := blk_lt hS.h
 have S0 := Aside0.mk hS
 have hrun := fun (W : World) (b8 b9 : Nat) (hI : MvIn w W b8 b9 _ _) => MvIn.run (n := n) hI hS.r1 hS.r0 hS.r2 hS.h hS.lo hS.size hn hl0 hl1
 generalize hfr : rd x1 n = fr at *
 have FR := Aside0.mk hfr
 have HN := Aside0.mk hn
 have HP := Aside0.mk hrun
 have GB := Aside0.mk gb2
 clear hS hn hfr hrun gb2 gl2 hgb2
 go_enter Try.func43, Try.ntmps43
 go_wp2_with fail
 go_region
 ·
  generalize e9 : w.heap.size + 1 = b9
  generalize e8 : w.heap.size = b8
  generalize hW : World.drew _ = W
  have hI : MvIn w W b8 b9 (.slice B1 x1.length d1) (.slice B0 x0.length d0) := by
   subst e9 e8 hW
   exact ⟨blk_alloc (blk_new w _) _, blk_second, below_drew (below_alloc (below_alloc (Below.refl _ _) _) _), by omega, by omega, by omega⟩
  have HI := Aside0.mk hI
  clear hI hx0 hx1 hf0 hf1 hbl e8 e9 hW
  go_wp2_with fail
  refine (HP.out W b8 b9 HI.out).mono ?_
  rintro e W1 ⟨rfl, hpush⟩
  have HU := Aside0.mk hpush
  clear hpush
  go_wp2_with fail
  refine HU.out.mono ?_
  rintro e W2 ⟨rfl, v8, v9, hO⟩
  obtain ⟨B8, c8, rfl⟩ := Kd.R_slice hO.rf
  obtain ⟨B9, c9, rfl⟩ := Kd.R_slice hO.rt
  rw [List.length_take, List.length_cons] at hO
  have hy0 := (blk_cell hO.h8 0).trans rfl
  have hy1 := (blk_cell hO.h9 0).trans rfl
  have hy2 := (blk_cell hO.h 2).trans rfl
  have hz0 := blk_frozen hO.h 0
  have hz1 := blk_frozen hO.h 1
  have nb8 := (blk_ne hO.h hO.h8 (by decide)).symm
  have nb9 := (blk_ne hO.h hO.h9 (by decide)).symm
  have hxx0 := (blk_cell hO.h 0).trans rfl
  have hxx1 := (blk_cell hO.h 1).trans rfl
  have O := Aside0.mk hO
  clear hO HU HP HI
  obtain ⟨hv0, hv1⟩ := Kd.R_celln false O.out.r2 fr f0 f1
  have gne : g2 ≠ b := fun e => Kd.R_ne O.out.r2 O.out.h (by decide) (by rw [e]; rfl)
  have p0 := eq_true f0
  have p1 := eq_true f1
  go_wp2
  go_ret2
  have hb1 := blk_put (cs' := #[(.slice B0 x0.length d0), (.slice B8 (min n x1.length) c8), .slice (some ⟨g2, 0, none⟩) t3.length d2]) O.out.h 1 (.slice B8 (min n x1.length) c8) rfl
  have hb2 := blk_put (cs' := #[(.slice B9 (x0.length + 1) c9), (.slice B8 (min n x1.length) c8), .slice (some ⟨g2, 0, none⟩) t3.length d2]) hb1 0 (.slice B9 (x0.length + 1) c9) rfl
  have k2 := R_set (i := 0) (u := .slice B9 (x0.length + 1) c9) (R_set (i := 1) (u := .slice B8 (min n x1.length) c8) O.out.r2 O.out.h (by decide)) hb1 (by decide)
  have kf := R_set (i := 0) (u := .slice B9 (x0.length + 1) c9) (R_set (i := 1) (u := .slice B8 (min n x1.length) c8) O.out.rf O.out.h (by decide)) hb1 (by decide)
  have kt := R_set (i := 0) (u := .slice B9 (x0.length + 1) c9) (R_set (i := 1) (u := .slice B8 (min n x1.length) c8) O.out.rt O.out.h (by decide)) hb1 (by decide)
  obtain ⟨cl, hgb⟩ := Kd.R_typed k2 g2 rfl
  have kp := (Kd.R_putg k2 fr false).1
  have hbs := ((O.out.below.setCell (p := ⟨b, 1, none⟩) S0.out.lo (.slice B8 (min n x1.length) c8)).setCell (p := ⟨b, 0, none⟩) S0.out.lo (.slice B9 (x0.length + 1) c9)).setCell (p := ⟨g2, fr.toNat, none⟩) GB.out (.bool false)
  exact ⟨rfl, ⟨_, _, R_set kt hgb (by decide), R_set kf hgb (by decide), kp, blk_past hb2 gne.symm, S0.out.lo, Nat.le_trans S0.out.size hbs.size⟩, hbs⟩
 ·
  generalize e8 : w.heap.size + 1 = b8
  generalize e9 : w.heap.size = b9
  generalize hW : World.drew _ = W
  have hI : MvIn w W b8 b9 (.slice B1 x1.length d1) (.slice B0 x0.length d0) := by
   subst e9 e8 hW
   exact ⟨blk_second, blk_alloc (blk_new w _) _, below_drew (below_alloc (below_alloc (Below.refl _ _) _) _), by omega, by omega, by omega⟩
  have HI := Aside0.mk hI
  clear hI hx0 hx1 hf0 hf1 hbl e8 e9 hW
  go_wp2_with fail
  refine (HP.out W b8 b9 HI.out).mono ?_
  rintro e W1 ⟨rfl, hpush⟩
  have HU := Aside0.mk hpush
  clear hpush
  go_wp2_with fail
  refine HU.out.mono ?_
  rintro e W2 ⟨rfl, v8, v9, hO⟩
  obtain ⟨B8, c8, rfl⟩ := Kd.R_slice hO.rf
  obtain ⟨B9, c9, rfl⟩ := Kd.R_slice hO.rt
  rw [List.length_take, List.length_cons] at hO
  have hy0 := (blk_cell hO.h8 0).trans rfl
  have hy1 := (blk_cell hO.h9 0).trans rfl
  have hy2 := (blk_cell hO.h 2).trans rfl
  have hz0 := blk_frozen hO.h 0
  have hz1 := blk_frozen hO.h 1
  have nb8 := (blk_ne hO.h hO.h8 (by decide)).symm
  have nb9 := (blk_ne hO.h hO.h9 (by decide)).symm
  have hxx0 := (blk_cell hO.h 0).trans rfl
  have hxx1 := (blk_cell hO.h 1).trans rfl
  have O := Aside0.mk hO
  clear hO HU HP HI
  obtain ⟨hv0, hv1⟩ := Kd.R_celln false O.out.r2 fr f0 f1
  have gne : g2 ≠ b := fun e => Kd.R_ne O.out.r2 O.out.h (by decide) (by rw [e]; rfl)
  have p0 := eq_true f0
  have p1 := eq_true f1
  go_wp2
  go_ret2
  have hb1 := blk_put (cs' := #[(.slice B0 x0.length d0), (.slice B8 (min n x1.length) c8), .slice (some ⟨g2, 0, none⟩) t3.length d2]) O.out.h 1 (.slice B8 (min n x1.length) c8) rfl
  have hb2 := blk_put (cs' := #[(.slice B9 (x0.length + 1) c9), (.slice B8 (min n x1.length) c8), .slice (some ⟨g2, 0, none⟩) t3.length d2]) hb1 0 (.slice B9 (x0.length + 1) c9) rfl
  have k2 := R_set (i := 0) (u := .slice B9 (x0.length + 1) c9) (R_set (i := 1) (u := .slice B8 (min n x1.length) c8) O.out.r2 O.out.h (by decide)) hb1 (by decide)
  have kf := R_set (i := 0) (u := .slice B9 (x0.length + 1) c9) (R_set (i := 1) (u := .slice B8 (min n x1.length) c8) O.out.rf O.out.h (by decide)) hb1 (by decide)
  have kt := R_set (i := 0) (u := .slice B9 (x0.length + 1) c9) (R_set (i := 1) (u := .slice B8 (min n x1.length) c8) O.out.rt O.out.h (by decide)) hb1 (by decide)
  obtain ⟨cl, hgb⟩ := Kd.R_typed k2 g2 rfl
  have kp := (Kd.R_putg k2 fr false).1
  have hbs := ((O.out.below.setCell (p := ⟨b, 1, none⟩) S0.out.lo (.slice B8 (min n x1.length) c8)).setCell (p := ⟨b, 0, none⟩) S0.out.lo (.slice B9 (x0.length + 1) c9)).setCell (p := ⟨g2, fr.toNat, none⟩) GB.out (.bool false)
  exact ⟨rfl, ⟨_, _, R_set kt hgb (by decide), R_set kf hgb (by decide), kp, blk_past hb2 gne.symm, S0.out.lo, Nat.le_trans S0.out.size hbs.size⟩, hbs⟩


end Go.Proofs.Ytnheknlmmmkbpaa.X

namespace Go.Proofs.Ytnheknlmmmkbpaa.X
open Go.RowKit Go.Proofs.YtnheknlmmmkbpaaW.PrintWords Go.Proofs.YtnheknlmmmkbpaaW.PrintLast Go.Proofs.YtnheknlmmmkbpaaW.PrintMore
attribute [local go_sem] max2_int min2_int max_two min_two max_three min_three max_four min_four   -- for this text's walks alone
set_option linter.unusedVariables false
set_option linter.unusedSimpArgs false

/-! ### lru_Demote: function 20 -/
def lru_Demote.f (l0_0 : List Int) (l0_1 : List Int) (l0_2 : List Bool) : Option (List Int × List Int × List Bool × Int × Int) := (lru_opened.f l0_0 l0_1 l0_2).bind fun t => if t.2.2.2 = 0 then (if t.1.length = 0 then some ([], [], [], 0, 6) else if t.1.length ≤ 1000000 ∧ t.2.1.length ≤ 1000000 ∧ 0 ≤ rd t.1 ((t.1.length - 1 : Nat) : Int) ∧ rd t.1 ((t.1.length - 1 : Nat) : Int) < (t.2.2.1.length : Int) then some (t.1.take (t.1.length - 1), rd t.1 ((t.1.length - 1 : Nat) : Int) :: t.2.1, t.2.2.1.set (rd t.1 ((t.1.length - 1 : Nat) : Int)).toNat false, rd t.1 ((t.1.length - 1 : Nat) : Int), 0) else none) else some ([], [], [], 0, t.2.2.2)
set_option maxHeartbeats 4000000 in
set_option maxRecDepth 100000 in
theorem lru_Demote.calls (A0_0 : Option Addr) (c0_0 : Nat) (l0_0 : List Int) (A0_1 : Option Addr) (c0_1 : Nat) (l0_1 : List Int) (A0_2 : Option Addr) (c0_2 : Nat) (l0_2 : List Bool) (r1 : List Int) (r2 : List Int) (r3 : List Bool) (r4 : Int) (r5 : Int) (w : World) (hr0_0 : Kd.C (Kd.int .i64) w A0_0 l0_0.length l0_0) (hc0_0 : l0_0.length ≤ c0_0) (hr0_1 : Kd.C (Kd.int .i64) w A0_1 l0_1.length l0_1) (hc0_1 : l0_1.length ≤ c0_1) (hr0_2 : Kd.C Kd.bool w A0_2 l0_2.length l0_2) (hc0_2 : l0_2.length ≤ c0_2) (h : lru_Demote.f l0_0 l0_1 l0_2 = some (r1, r2, r3, r4, r5)) :
  Calls Try.prog 20 #[.agg #[.slice A0_0 l0_0.length c0_0, .slice A0_1 l0_1.length c0_1, .slice A0_2 l0_2.length c0_2]] w fun e w' => ∃ v0_ v1_ v2_ : Value, e = .returned (.tuple #[.agg #[v0_, v1_, v2_], .int .i64 r4, .int .i64 r5]) ∧ Kd.R (Kd.int .i64) 3 w' w.heap.size (fun k_ => some k_ ≠ (v1_ : Value).ownBlock) v0_ r1 ∧ Kd.R (Kd.int .i64) 3 w' w.heap.size (fun k_ => some k_ ≠ (v0_ : Value).ownBlock) v1_ r2 ∧ Kd.R Kd.bool 4 w' w.heap.size (fun _ => True) v2_ r3 ∧ Below w.heap.size w w' := by
 have hu25 := Try.underlying33
 unfold lru_Demote.f at h
 obtain ⟨⟨t1, t2, t3, er⟩, hop, H⟩ := Option.bind_eq_some_iff.mp h
 simp only at H
 clear h
 have HOP := Aside0.mk hop
 have HR0 := Aside0.mk hr0_0
 have HR1 := Aside0.mk hr0_1
 have HR2 := Aside0.mk hr0_2
 clear hop hr0_0 hr0_1 hr0_2
 go_enter Try.func20, Try.ntmps20
 go_wp2_with fail
 refine (lru_opened.calls _ _ l0_0 _ _ l0_1 _ _ l0_2 t1 t2 t3 er _ (Kd.C_alloc (Kd.C_alloc HR0.out _) _) hc0_0 (Kd.C_alloc (Kd.C_alloc HR1.out _) _) hc0_1 (Kd.C_alloc (Kd.C_alloc HR2.out _) _) hc0_2 HOP.out).mono ?_
 rintro e w1 ⟨v0, v1, v2, rfl, ho0, ho1, ho2, hb1⟩
 simp only [World.size_alloc] at ho0 ho1 ho2
 obtain ⟨B0, d0, rfl⟩ := Kd.R_slice ho0
 obtain ⟨B1, d1, rfl⟩ := Kd.R_slice ho1
 obtain ⟨B2, d2, rfl⟩ := Kd.R_slice ho2
 have hsz := hb1.size
 simp only [World.size_alloc] at hsz
 have HB1 := Aside0.mk (below_then (below_alloc (below_alloc (Below.refl w.heap.size w) _) _) (by simp; omega) hb1)
 have hbk4 := blk_below blk_second hb1
 have BK4 := Aside0.mk hbk4
 have O0 := Aside0.mk ho0
 have O1 := Aside0.mk ho1
 have O2 := Aside0.mk ho2
 clear ho0 ho1 ho2 hb1 HR0 HR1 HR2 HOP hbk4
 by_cases c : er = 0
 case neg =>
  rw [if_neg c] at H
  simp only [Option.some.injEq, Prod.mk.injEq] at H
  obtain ⟨rfl, rfl, rfl, rfl, rfl⟩ := H
  have e1 : (er == 0) = false := beq_eq_false_iff_ne.mpr c
  have e2 : (er != 0) = true := bne_iff_ne.mpr c
  have hbk := blk_alloc BK4.out (.cells #[.slice B0 t1.length d0, .slice B1 t2.length d1, .slice B2 t3.length d2] 33)
  have hx0 := (blk_cell hbk 0).trans rfl
  have hx1 := (blk_cell hbk 1).trans rfl
  have hx2 := (blk_cell hbk 2).trans rfl
  have hf0 := blk_frozen hbk 0
  have hf1 := blk_frozen hbk 1
  have hf2 := blk_frozen hbk 2
  have BK := Aside0.mk hbk
  clear hbk c
  go_wp2
  refine bodyPost_ret (results_ctt rfl _ _ (w.heap.size + 1) 33 #[.slice none 0 0, .slice none 0 0, .slice none 0 0] (0, 0) _ rfl (blk_put (blk_put (blk_put BK.out 0 _ rfl) 1 _ rfl) 2 _ rfl) hu25 rfl (by kernel_rfl)) rfl ?_
  exact ⟨_, _, _, rfl, Kd.R_nil _ _ _ _ _, Kd.R_nil _ _ _ _ _, Kd.R_nil _ _ _ _ _, (((below_alloc HB1.out _).setCell (p := ⟨_, 0, none⟩) (by simp) _).setCell (p := ⟨_, 1, none⟩) (by simp) _).setCell (p := ⟨_, 2, none⟩) (by simp) _⟩
 rw [if_pos c] at H
 subst c
 have hbk := blk_alloc BK4.out (.cells #[.slice B0 t1.length d0, .slice B1 t2.length d1, .slice B2 t3.length d2] 33)
 have hmv : MvSt (w.heap.size + 2) (w1.alloc (.cells #[.slice B0 t1.length d0, .slice B1 t2.length d1, .slice B2 t3.length d2] 33)) w1.heap.size (.slice B0 t1.length d0) (.slice B1 t2.length d1) (.slice B2 t3.length d2) t1 t2 t3 :=
  ⟨Kd.R_alloc O0.out _, Kd.R_alloc O1.out _, Kd.R_alloc O2.out _, blk_new w1 _, by omega, by simp; omega⟩
 have HBA := Aside0.mk (below_alloc HB1.out (.cells #[.slice B0 t1.length d0, .slice B1 t2.length d1, .slice B2 t3.length d2] 33))
 have MV := Aside0.mk hmv
 have BK := Aside0.mk hbk
 by_cases c : t1.length = 0
 case pos =>
  rw [if_pos c] at H
  simp only [Option.some.injEq, Prod.mk.injEq] at H
  obtain ⟨rfl, rfl, rfl, rfl, rfl⟩ := H
  have C0 := Aside0.mk c
  clear c hmv hbk
  go_wp2_with fail
  refine (move_none_dem _ d0 _ _ _ _ B0 (by rw [C0.out]) MV.out.h).mono ?_
  rintro e w2 ⟨rfl, rfl⟩
  have hx0 := (blk_cell BK.out 0).trans rfl
  have hx1 := (blk_cell BK.out 1).trans rfl
  have hx2 := (blk_cell BK.out 2).trans rfl
  have hf0 := blk_frozen BK.out 0
  have hf1 := blk_frozen BK.out 1
  have hf2 := blk_frozen BK.out 2
  go_wp2
  refine bodyPost_ret (results_ctt rfl _ _ (w.heap.size + 1) 33 #[.slice none 0 0, .slice none 0 0, .slice none 0 0] (0, 0) _ rfl (blk_put (blk_put (blk_put BK.out 0 _ rfl) 1 _ rfl) 2 _ rfl) hu25 rfl (by kernel_rfl)) rfl ?_
  exact ⟨_, _, _, rfl, Kd.R_nil _ _ _ _ _, Kd.R_nil _ _ _ _ _, Kd.R_nil _ _ _ _ _, ((HBA.out.setCell (p := ⟨_, 0, none⟩) (by simp) _).setCell (p := ⟨_, 1, none⟩) (by simp) _).setCell (p := ⟨_, 2, none⟩) (by simp) _⟩
 rw [if_neg c] at H
 obtain ⟨n, hn⟩ : ∃ n, t1.length = n + 1 := ⟨t1.length - 1, by omega⟩
 rw [show t1.length - 1 = n by omega] at H
 by_cases hc : t1.length ≤ 1000000 ∧ t2.length ≤ 1000000 ∧ 0 ≤ rd t1 (n : Int) ∧ rd t1 (n : Int) < (t3.length : Int)
 case neg =>
  rw [if_neg hc] at H
  cases H
 rw [if_pos hc] at H
 simp only [Option.some.injEq, Prod.mk.injEq] at H
 obtain ⟨rfl, rfl, rfl, rfl, rfl⟩ := H
 have hmove := move_dem _ _ n _ _ _ _ _ _ _ hmv hn hc.1 hc.2.1 hc.2.2.1 hc.2.2.2
 have HM := Aside0.mk hmove
 clear c hc hmv hbk hn hmove
 go_wp2_with fail
 refine HM.out.mono ?_
 rintro e w2 ⟨rfl, ⟨u0, u1, hS⟩, hB2⟩
 obtain ⟨A0, f0, rfl⟩ := Kd.R_slice hS.r0
 obtain ⟨A1, f1, rfl⟩ := Kd.R_slice hS.r1
 have hy0 := (blk_cell hS.h 0).trans rfl
 have hy1 := (blk_cell hS.h 1).trans rfl
 have hy2 := (blk_cell hS.h 2).trans rfl
 have hbk := (hB2.block (w.heap.size + 1) (by omega)).trans BK.out
 have hx0 := (blk_cell hbk 0).trans rfl
 have hx1 := (blk_cell hbk 1).trans rfl
 have hx2 := (blk_cell hbk 2).trans rfl
 have hf0 := blk_frozen hbk 0
 have hf1 := blk_frozen hbk 1
 have hf2 := blk_frozen hbk 2
 have S2 := Aside0.mk hS
 have BK2 := Aside0.mk hbk
 have B2_ := Aside0.mk (HBA.out.trans (hB2.mono (show w.heap.size ≤ w.heap.size + 2 by omega)))
 clear hS hbk hB2 HM MV
 go_wp2
 refine bodyPost_ret (results_ctt rfl _ _ (w.heap.size + 1) 33 #[.slice A0 _ f0, .slice A1 _ f1, .slice B2 t3.length d2] (0, 0) _ rfl (blk_put (blk_put (blk_put BK2.out 0 _ rfl) 1 _ rfl) 2 _ rfl) hu25 rfl (by kernel_rfl)) rfl ?_
 have k0 := S2.out.r0
 have k1 := S2.out.r1
 simp only [List.length_take, List.length_cons] at k0 k1
 refine ⟨_, _, _, rfl, ?_, ?_, ?_, ((B2_.out.setCell (p := ⟨_, 0, none⟩) (by simp) _).setCell (p := ⟨_, 1, none⟩) (by simp) _).setCell (p := ⟨_, 2, none⟩) (by simp) _⟩
 ·
  exact Kd.R_lower (R_set (R_set (R_set k0 BK2.out (by decide)) (blk_set BK2.out 0 _) (by decide)) (blk_set (blk_set BK2.out 0 _) 1 _) (by decide)) (by omega)
 ·
  exact Kd.R_lower (R_set (R_set (R_set k1 BK2.out (by decide)) (blk_set BK2.out 0 _) (by decide)) (blk_set (blk_set BK2.out 0 _) 1 _) (by decide)) (by omega)
 ·
  exact Kd.R_lower (R_set (R_set (R_set S2.out.r2 BK2.out (by decide)) (blk_set BK2.out 0 _) (by decide)) (blk_set (blk_set BK2.out 0 _) 1 _) (by decide)) (by omega)


end Go.Proofs.Ytnheknlmmmkbpaa.X

namespace Go.Proofs.Ytnheknlmmmkbpaa.X
open Go.RowKit Go.Proofs.YtnheknlmmmkbpaaW.PrintWords Go.Proofs.YtnheknlmmmkbpaaW.PrintLast Go.Proofs.YtnheknlmmmkbpaaW.PrintMore
attribute [local go_sem] max2_int min2_int max_two min_two max_three min_three max_four min_four   -- for this text's walks alone
set_option linter.unusedVariables false
set_option linter.unusedSimpArgs false

/-! ### lru_Promote: function 21 -/
def lru_Promote.f (l0_0 : List Int) (l0_1 : List Int) (l0_2 : List Bool) : Option (List Int × List Int × List Bool × Int × Int) := (lru_opened.f l0_0 l0_1 l0_2).bind fun t => if t.2.2.2 = 0 then (if t.2.1.length = 0 then some ([], [], [], 0, 6) else if t.2.1.length ≤ 1000000 ∧ t.1.length ≤ 1000000 ∧ 0 ≤ rd t.2.1 ((t.2.1.length - 1 : Nat) : Int) ∧ rd t.2.1 ((t.2.1.length - 1 : Nat) : Int) < (t.2.2.1.length : Int) then some (rd t.2.1 ((t.2.1.length - 1 : Nat) : Int) :: t.1, t.2.1.take (t.2.1.length - 1), t.2.2.1.set (rd t.2.1 ((t.2.1.length - 1 : Nat) : Int)).toNat false, rd t.2.1 ((t.2.1.length - 1 : Nat) : Int), 0) else none) else some ([], [], [], 0, t.2.2.2)
set_option maxHeartbeats 4000000 in
set_option maxRecDepth 100000 in
theorem lru_Promote.calls (A0_0 : Option Addr) (c0_0 : Nat) (l0_0 : List Int) (A0_1 : Option Addr) (c0_1 : Nat) (l0_1 : List Int) (A0_2 : Option Addr) (c0_2 : Nat) (l0_2 : List Bool) (r1 : List Int) (r2 : List Int) (r3 : List Bool) (r4 : Int) (r5 : Int) (w : World) (hr0_0 : Kd.C (Kd.int .i64) w A0_0 l0_0.length l0_0) (hc0_0 : l0_0.length ≤ c0_0) (hr0_1 : Kd.C (Kd.int .i64) w A0_1 l0_1.length l0_1) (hc0_1 : l0_1.length ≤ c0_1) (hr0_2 : Kd.C Kd.bool w A0_2 l0_2.length l0_2) (hc0_2 : l0_2.length ≤ c0_2) (h : lru_Promote.f l0_0 l0_1 l0_2 = some (r1, r2, r3, r4, r5)) :
  Calls Try.prog 21 #[.agg #[.slice A0_0 l0_0.length c0_0, .slice A0_1 l0_1.length c0_1, .slice A0_2 l0_2.length c0_2]] w fun e w' => ∃ v0_ v1_ v2_ : Value, e = .returned (.tuple #[.agg #[v0_, v1_, v2_], .int .i64 r4, .int .i64 r5]) ∧ Kd.R (Kd.int .i64) 3 w' w.heap.size (fun k_ => some k_ ≠ (v1_ : Value).ownBlock) v0_ r1 ∧ Kd.R (Kd.int .i64) 3 w' w.heap.size (fun k_ => some k_ ≠ (v0_ : Value).ownBlock) v1_ r2 ∧ Kd.R Kd.bool 4 w' w.heap.size (fun _ => True) v2_ r3 ∧ Below w.heap.size w w' := by
 have hu25 := Try.underlying33
 unfold lru_Promote.f at h
 obtain ⟨⟨t1, t2, t3, er⟩, hop, H⟩ := Option.bind_eq_some_iff.mp h
 simp only at H
 clear h
 have HOP := Aside0.mk hop
 have HR0 := Aside0.mk hr0_0
 have HR1 := Aside0.mk hr0_1
 have HR2 := Aside0.mk hr0_2
 clear hop hr0_0 hr0_1 hr0_2
 go_enter Try.func21, Try.ntmps21
 go_wp2_with fail
 refine (lru_opened.calls _ _ l0_0 _ _ l0_1 _ _ l0_2 t1 t2 t3 er _ (Kd.C_alloc (Kd.C_alloc HR0.out _) _) hc0_0 (Kd.C_alloc (Kd.C_alloc HR1.out _) _) hc0_1 (Kd.C_alloc (Kd.C_alloc HR2.out _) _) hc0_2 HOP.out).mono ?_
 rintro e w1 ⟨v0, v1, v2, rfl, ho0, ho1, ho2, hb1⟩
 simp only [World.size_alloc] at ho0 ho1 ho2
 obtain ⟨B0, d0, rfl⟩ := Kd.R_slice ho0
 obtain ⟨B1, d1, rfl⟩ := Kd.R_slice ho1
 obtain ⟨B2, d2, rfl⟩ := Kd.R_slice ho2
 have hsz := hb1.size
 simp only [World.size_alloc] at hsz
 have HB1 := Aside0.mk (below_then (below_alloc (below_alloc (Below.refl w.heap.size w) _) _) (by simp; omega) hb1)
 have hbk4 := blk_below blk_second hb1
 have BK4 := Aside0.mk hbk4
 have O0 := Aside0.mk ho0
 have O1 := Aside0.mk ho1
 have O2 := Aside0.mk ho2
 clear ho0 ho1 ho2 hb1 HR0 HR1 HR2 HOP hbk4
 by_cases c : er = 0
 case neg =>
  rw [if_neg c] at H
  simp only [Option.some.injEq, Prod.mk.injEq] at H
  obtain ⟨rfl, rfl, rfl, rfl, rfl⟩ := H
  have e1 : (er == 0) = false := beq_eq_false_iff_ne.mpr c
  have e2 : (er != 0) = true := bne_iff_ne.mpr c
  have hbk := blk_alloc BK4.out (.cells #[.slice B0 t1.length d0, .slice B1 t2.length d1, .slice B2 t3.length d2] 33)
  have hx0 := (blk_cell hbk 0).trans rfl
  have hx1 := (blk_cell hbk 1).trans rfl
  have hx2 := (blk_cell hbk 2).trans rfl
  have hf0 := blk_frozen hbk 0
  have hf1 := blk_frozen hbk 1
  have hf2 := blk_frozen hbk 2
  have BK := Aside0.mk hbk
  clear hbk c
  go_wp2
  refine bodyPost_ret (results_ctt rfl _ _ (w.heap.size + 1) 33 #[.slice none 0 0, .slice none 0 0, .slice none 0 0] (0, 0) _ rfl (blk_put (blk_put (blk_put BK.out 0 _ rfl) 1 _ rfl) 2 _ rfl) hu25 rfl (by kernel_rfl)) rfl ?_
  exact ⟨_, _, _, rfl, Kd.R_nil _ _ _ _ _, Kd.R_nil _ _ _ _ _, Kd.R_nil _ _ _ _ _, (((below_alloc HB1.out _).setCell (p := ⟨_, 0, none⟩) (by simp) _).setCell (p := ⟨_, 1, none⟩) (by simp) _).setCell (p := ⟨_, 2, none⟩) (by simp) _⟩
 rw [if_pos c] at H
 subst c
 have hbk := blk_alloc BK4.out (.cells #[.slice B0 t1.length d0, .slice B1 t2.length d1, .slice B2 t3.length d2] 33)
 have hmv : MvSt (w.heap.size + 2) (w1.alloc (.cells #[.slice B0 t1.length d0, .slice B1 t2.length d1, .slice B2 t3.length d2] 33)) w1.heap.size (.slice B0 t1.length d0) (.slice B1 t2.length d1) (.slice B2 t3.length d2) t1 t2 t3 :=
  ⟨Kd.R_alloc O0.out _, Kd.R_alloc O1.out _, Kd.R_alloc O2.out _, blk_new w1 _, by omega, by simp; omega⟩
 have HBA := Aside0.mk (below_alloc HB1.out (.cells #[.slice B0 t1.length d0, .slice B1 t2.length d1, .slice B2 t3.length d2] 33))
 have MV := Aside0.mk hmv
 have BK := Aside0.mk hbk
 by_cases c : t2.length = 0
 case pos =>
  rw [if_pos c] at H
  simp only [Option.some.injEq, Prod.mk.injEq] at H
  obtain ⟨rfl, rfl, rfl, rfl, rfl⟩ := H
  have C0 := Aside0.mk c
  clear c hmv hbk
  go_wp2_with fail
  refine (move_none_pro _ d1 _ _ _ _ B1 (by rw [C0.out]) MV.out.h).mono ?_
  rintro e w2 ⟨rfl, rfl⟩
  have hx0 := (blk_cell BK.out 0).trans rfl
  have hx1 := (blk_cell BK.out 1).trans rfl
  have hx2 := (blk_cell BK.out 2).trans rfl
  have hf0 := blk_frozen BK.out 0
  have hf1 := blk_frozen BK.out 1
  have hf2 := blk_frozen BK.out 2
  go_wp2
  refine bodyPost_ret (results_ctt rfl _ _ (w.heap.size + 1) 33 #[.slice none 0 0, .slice none 0 0, .slice none 0 0] (0, 0) _ rfl (blk_put (blk_put (blk_put BK.out 0 _ rfl) 1 _ rfl) 2 _ rfl) hu25 rfl (by kernel_rfl)) rfl ?_
  exact ⟨_, _, _, rfl, Kd.R_nil _ _ _ _ _, Kd.R_nil _ _ _ _ _, Kd.R_nil _ _ _ _ _, ((HBA.out.setCell (p := ⟨_, 0, none⟩) (by simp) _).setCell (p := ⟨_, 1, none⟩) (by simp) _).setCell (p := ⟨_, 2, none⟩) (by simp) _⟩
 rw [if_neg c] at H
 obtain ⟨n, hn⟩ : ∃ n, t2.length = n + 1 := ⟨t2.length - 1, by omega⟩
 rw [show t2.length - 1 = n by omega] at H
 by_cases hc : t2.length ≤ 1000000 ∧ t1.length ≤ 1000000 ∧ 0 ≤ rd t2 (n : Int) ∧ rd t2 (n : Int) < (t3.length : Int)
 case neg =>
  rw [if_neg hc] at H
  cases H
 rw [if_pos hc] at H
 simp only [Option.some.injEq, Prod.mk.injEq] at H
 obtain ⟨rfl, rfl, rfl, rfl, rfl⟩ := H
 have hmove := move_pro _ _ n _ _ _ _ _ _ _ hmv hn hc.1 hc.2.1 hc.2.2.1 hc.2.2.2
 have HM := Aside0.mk hmove
 clear c hc hmv hbk hn hmove
 go_wp2_with fail
 refine HM.out.mono ?_
 rintro e w2 ⟨rfl, ⟨u0, u1, hS⟩, hB2⟩
 obtain ⟨A0, f0, rfl⟩ := Kd.R_slice hS.r0
 obtain ⟨A1, f1, rfl⟩ := Kd.R_slice hS.r1
 have hy0 := (blk_cell hS.h 0).trans rfl
 have hy1 := (blk_cell hS.h 1).trans rfl
 have hy2 := (blk_cell hS.h 2).trans rfl
 have hbk := (hB2.block (w.heap.size + 1) (by omega)).trans BK.out
 have hx0 := (blk_cell hbk 0).trans rfl
 have hx1 := (blk_cell hbk 1).trans rfl
 have hx2 := (blk_cell hbk 2).trans rfl
 have hf0 := blk_frozen hbk 0
 have hf1 := blk_frozen hbk 1
 have hf2 := blk_frozen hbk 2
 have S2 := Aside0.mk hS
 have BK2 := Aside0.mk hbk
 have B2_ := Aside0.mk (HBA.out.trans (hB2.mono (show w.heap.size ≤ w.heap.size + 2 by omega)))
 clear hS hbk hB2 HM MV
 go_wp2
 refine bodyPost_ret (results_ctt rfl _ _ (w.heap.size + 1) 33 #[.slice A0 _ f0, .slice A1 _ f1, .slice B2 t3.length d2] (0, 0) _ rfl (blk_put (blk_put (blk_put BK2.out 0 _ rfl) 1 _ rfl) 2 _ rfl) hu25 rfl (by kernel_rfl)) rfl ?_
 have k0 := S2.out.r0
 have k1 := S2.out.r1
 simp only [List.length_take, List.length_cons] at k0 k1
 refine ⟨_, _, _, rfl, ?_, ?_, ?_, ((B2_.out.setCell (p := ⟨_, 0, none⟩) (by simp) _).setCell (p := ⟨_, 1, none⟩) (by simp) _).setCell (p := ⟨_, 2, none⟩) (by simp) _⟩
 ·
  exact Kd.R_lower (R_set (R_set (R_set k0 BK2.out (by decide)) (blk_set BK2.out 0 _) (by decide)) (blk_set (blk_set BK2.out 0 _) 1 _) (by decide)) (by omega)
 ·
  exact Kd.R_lower (R_set (R_set (R_set k1 BK2.out (by decide)) (blk_set BK2.out 0 _) (by decide)) (blk_set (blk_set BK2.out 0 _) 1 _) (by decide)) (by omega)
 ·
  exact Kd.R_lower (R_set (R_set (R_set S2.out.r2 BK2.out (by decide)) (blk_set BK2.out 0 _) (by decide)) (blk_set (blk_set BK2.out 0 _) 1 _) (by decide)) (by omega)


end Go.Proofs.Ytnheknlmmmkbpaa.X

namespace Go.Proofs.Ytnheknlmmmkbpaa.X
open Go.RowKit Go.Proofs.YtnheknlmmmkbpaaW.PrintWords Go.Proofs.YtnheknlmmmkbpaaW.PrintLast Go.Proofs.YtnheknlmmmkbpaaW.PrintMore
attribute [local go_sem] max2_int min2_int max_two min_two max_three min_three max_four min_four   -- for this text's walks alone
set_option linter.unusedVariables false
set_option linter.unusedSimpArgs false

/-! ### balance_Steps: function 18 -/
theorem add_block_ (ad : Addr) (j : Nat) : (ad.add j).block = ad.block := by
 unfold Addr.add
 split <;> rfl
theorem C_far_ {α : Type} {enc : α → Value} {h1 : ∀ x, (enc x).oneCell' = true} (d : α) {W : World} {g i n : Nat} {u : Value} {A : Option Addr} {xs : List α} (h : (Kd.scalar enc h1).C W A n xs) (hA : 0 < n → ∀ ad, A = some ad → ad.block ≠ g) : (Kd.scalar enc h1).C (W.setCell ⟨g, i, none⟩ u) A n xs := by
 have hr := Kd.reads_of_C (d := d) h
 refine Kd.C_of_reads (d := d) ⟨hr.1, hr.2.1, fun hn => ?_⟩
 obtain ⟨ad, e, hc⟩ := hr.2.2 hn
 exact ⟨ad, e, fun j hj => (cell_far (p := ⟨g, i, none⟩) (a := ad.add j) (by have := hA hn ad e; rw [add_block_]; exact this) u).trans (hc j hj)⟩
/-- A row that lies beside block g. -/
structure SRow {α : Type} (enc : α → Value) (h1 : ∀ x, (enc x).oneCell' = true) (W : World) (g : Nat) (v : Value) (l : List α) : Prop where
 ex : ∃ A c, v = .slice A l.length c ∧ l.length ≤ c ∧ (Kd.scalar enc h1).C W A l.length l ∧ (0 < l.length → ∀ ad, A = some ad → ad.block ≠ g)
section
variable {α : Type} {enc : α → Value} {h1 : ∀ x, (enc x).oneCell' = true} {w W W' : World} {g : Nat} {v : Value} {l : List α}
theorem SRow.below (h : SRow enc h1 W g v l) (hb : Below W.heap.size W W') : SRow enc h1 W' g v l := by
 obtain ⟨A, c, e, p, q, s⟩ := h.ex
 exact ⟨A, c, e, p, Kd.C_below q hb, s⟩
theorem SRow.far (d : α) (h : SRow enc h1 W g v l) (i : Nat) (u : Value) : SRow enc h1 (W.setCell ⟨g, i, none⟩ u) g v l := by
 obtain ⟨A, c, e, p, q, s⟩ := h.ex
 exact ⟨A, c, e, p, C_far_ d q s, s⟩
theorem SRow.of_C (d : α) {A : Option Addr} {c : Nat} (h : (Kd.scalar enc h1).C W A l.length l) (hc : l.length ≤ c) (hg : W.heap.size ≤ g) : SRow enc h1 W g (.slice A l.length c) l := by
 refine ⟨A, c, rfl, hc, h, fun hn ad e => ?_⟩
 obtain ⟨ad', e', hc'⟩ := C_at_ h d 0 hn
 rw [e] at e'
 cases e'
 have := World.block_lt_of_cell? W _ hc'
 have h2 : (ad.add 0).block = ad.block := rfl
 omega
theorem SRow.of_R {e base : Nat} {ok : Nat → Prop} (h : (Kd.scalar enc h1).R e W base ok v l) (hg : g < base) : SRow enc h1 W g v l := by
 obtain ⟨A, c, rfl⟩ := Kd.R_slice h
 obtain ⟨_, h2, h3⟩ := Kd.R_reads' h
 refine ⟨A, c, rfl, h2, h3, fun _ ad e => ?_⟩
 subst e
 exact Kd.own_blk (fun hh => by have := Kd.R_base h g hh.symm; omega)
end
/-- A list's variable, its rows beside it. -/
structure MvB (W : World) (g : Nat) (a b : List Int) (r : List Bool) : Prop where
 ex : ∃ v0 v1 v2, W.heap[g]? = some (.cells #[v0, v1, v2] 51 (0, 0)) ∧ SRow (Value.int .i64) (fun _ => rfl) W g v0 a ∧ SRow (Value.int .i64) (fun _ => rfl) W g v1 b ∧ SRow Value.bool (fun _ => rfl) W g v2 r
theorem MvB.below {W W' : World} {g : Nat} {a b : List Int} {r : List Bool} (h : MvB W g a b r) (hb : Below W.heap.size W W') : MvB W' g a b r := by
 obtain ⟨v0, v1, v2, h0, h1, h2, h3⟩ := h.ex
 exact ⟨v0, v1, v2, blk_below h0 hb, h1.below hb, h2.below hb, h3.below hb⟩
set_option maxHeartbeats 2000000 in
set_option maxRecDepth 100000 in
theorem mover_demote (g : Nat) (a b : List Int) (r : List Bool) (r1 r2 : List Int) (r3 : List Bool) (r4 r5 : Int) (w : World) (hM : MvB w g a b r) (h : lru_Demote.f a b r = some (r1, r2, r3, r4, r5)) :
  Calls Try.prog 39 #[.pointer (some ⟨g, 0, none⟩)] w fun e w' => e = .returned (.tuple #[]) ∧ MvB w' g r1 r2 r3 ∧ w.grownBy w' (some g) := by
 obtain ⟨v0, v1, v2, hg, h0, h1, h2⟩ := hM.ex
 obtain ⟨A0, c0, rfl, l0, q0, _⟩ := h0.ex
 obtain ⟨A1, c1, rfl, l1, q1, _⟩ := h1.ex
 obtain ⟨A2, c2, rfl, l2, q2, _⟩ := h2.ex
 have hx0 := (blk_cell hg 0).trans rfl
 have hx1 := (blk_cell hg 1).trans rfl
 have hx2 := (blk_cell hg 2).trans rfl
 have HG := Aside0.mk hg
 have Q0 := Aside0.mk q0
 have Q1 := Aside0.mk q1
 have Q2 := Aside0.mk q2
 have HH := Aside0.mk h
 clear hM hg h0 h1 h2 q0 q1 q2 h
 go_enter Try.func39, Try.ntmps39
 go_wp2_with fail
 refine (lru_Demote.calls _ _ a _ _ b _ _ r r1 r2 r3 r4 r5 _ Q0.out l0 Q1.out l1 Q2.out l2 HH.out).mono ?_
 rintro e w1 ⟨u0, u1, u2, rfl, ho0, ho1, ho2, hb⟩
 obtain ⟨B0, d0, rfl⟩ := Kd.R_slice ho0
 obtain ⟨B1, d1, rfl⟩ := Kd.R_slice ho1
 obtain ⟨B2, d2, rfl⟩ := Kd.R_slice ho2
 have hgl := blk_lt HG.out
 have hg1 := blk_below HG.out hb
 have hy0 := (blk_cell hg1 0).trans rfl
 have hy1 := (blk_cell hg1 1).trans rfl
 have hy2 := (blk_cell hg1 2).trans rfl
 have hf0 := blk_frozen hg1 0
 have hf1 := blk_frozen hg1 1
 have hf2 := blk_frozen hg1 2
 have G1 := Aside0.mk hg1
 have S0 := Aside0.mk (SRow.of_R ho0 hgl)
 have S1 := Aside0.mk (SRow.of_R ho1 hgl)
 have S2 := Aside0.mk (SRow.of_R ho2 hgl)
 have HB := Aside0.mk hb
 clear hg1 ho0 ho1 ho2 hb hx0 hx1 hx2
 go_wp2
 go_end0
 refine ⟨rfl, ⟨_, _, _, blk_put (blk_put (blk_put G1.out 0 _ rfl) 1 _ rfl) 2 _ rfl, ((S0.out.far 0 0 _).far 0 1 _).far 0 2 _, ((S1.out.far 0 0 _).far 0 1 _).far 0 2 _, ((S2.out.far false 0 _).far false 1 _).far false 2 _⟩, ?_⟩
 have hb := HB.out
 refine ⟨hb.os, hb.tape, hb.output, by simpa using hb.size, fun k hk hne => ?_⟩
 have hkg : k ≠ g := fun e => hne (by rw [e])
 rw [Below.heap_setCell _ ⟨g, 2, none⟩ _ k hkg, Below.heap_setCell _ ⟨g, 1, none⟩ _ k hkg, Below.heap_setCell _ ⟨g, 0, none⟩ _ k hkg]
 exact hb.block k hk
set_option maxHeartbeats 2000000 in
set_option maxRecDepth 100000 in
theorem mover_promote (g : Nat) (a b : List Int) (r : List Bool) (r1 r2 : List Int) (r3 : List Bool) (r4 r5 : Int) (w : World) (hM : MvB w g a b r) (h : lru_Promote.f a b r = some (r1, r2, r3, r4, r5)) :
  Calls Try.prog 40 #[.pointer (some ⟨g, 0, none⟩)] w fun e w' => e = .returned (.tuple #[]) ∧ MvB w' g r1 r2 r3 ∧ w.grownBy w' (some g) := by
 obtain ⟨v0, v1, v2, hg, h0, h1, h2⟩ := hM.ex
 obtain ⟨A0, c0, rfl, l0, q0, _⟩ := h0.ex
 obtain ⟨A1, c1, rfl, l1, q1, _⟩ := h1.ex
 obtain ⟨A2, c2, rfl, l2, q2, _⟩ := h2.ex
 have hx0 := (blk_cell hg 0).trans rfl
 have hx1 := (blk_cell hg 1).trans rfl
 have hx2 := (blk_cell hg 2).trans rfl
 have HG := Aside0.mk hg
 have Q0 := Aside0.mk q0
 have Q1 := Aside0.mk q1
 have Q2 := Aside0.mk q2
 have HH := Aside0.mk h
 clear hM hg h0 h1 h2 q0 q1 q2 h
 go_enter Try.func40, Try.ntmps40
 go_wp2_with fail
 refine (lru_Promote.calls _ _ a _ _ b _ _ r r1 r2 r3 r4 r5 _ Q0.out l0 Q1.out l1 Q2.out l2 HH.out).mono ?_
 rintro e w1 ⟨u0, u1, u2, rfl, ho0, ho1, ho2, hb⟩
 obtain ⟨B0, d0, rfl⟩ := Kd.R_slice ho0
 obtain ⟨B1, d1, rfl⟩ := Kd.R_slice ho1
 obtain ⟨B2, d2, rfl⟩ := Kd.R_slice ho2
 have hgl := blk_lt HG.out
 have hg1 := blk_below HG.out hb
 have hy0 := (blk_cell hg1 0).trans rfl
 have hy1 := (blk_cell hg1 1).trans rfl
 have hy2 := (blk_cell hg1 2).trans rfl
 have hf0 := blk_frozen hg1 0
 have hf1 := blk_frozen hg1 1
 have hf2 := blk_frozen hg1 2
 have G1 := Aside0.mk hg1
 have S0 := Aside0.mk (SRow.of_R ho0 hgl)
 have S1 := Aside0.mk (SRow.of_R ho1 hgl)
 have S2 := Aside0.mk (SRow.of_R ho2 hgl)
 have HB := Aside0.mk hb
 clear hg1 ho0 ho1 ho2 hb hx0 hx1 hx2
 go_wp2
 go_end0
 refine ⟨rfl, ⟨_, _, _, blk_put (blk_put (blk_put G1.out 0 _ rfl) 1 _ rfl) 2 _ rfl, ((S0.out.far 0 0 _).far 0 1 _).far 0 2 _, ((S1.out.far 0 0 _).far 0 1 _).far 0 2 _, ((S2.out.far false 0 _).far false 1 _).far false 2 _⟩, ?_⟩
 have hb := HB.out
 refine ⟨hb.os, hb.tape, hb.output, by simpa using hb.size, fun k hk hne => ?_⟩
 have hkg : k ≠ g := fun e => hne (by rw [e])
 rw [Below.heap_setCell _ ⟨g, 2, none⟩ _ k hkg, Below.heap_setCell _ ⟨g, 1, none⟩ _ k hkg, Below.heap_setCell _ ⟨g, 0, none⟩ _ k hkg]
 exact hb.block k hk
theorem wpList_insert_own {H : Type} {P : Program} (w : World) {ops : Array Oper} {rest : List Oper} {o : Oper} {a : Act} {Q : Exit → Act → World → Prop}
  (hg : o.guard = none) (m x v : Operand) (t : TypeId) (hop : o.op = Op.insert t m x v)
  (k e : TypeId) (K : Go.Maps.Keyed P k) (ht : P.underlying t = some (.map k e)) (R : Value → Option (DataW H × List MemPlace)) (b n : Nat) (D : DataW H)
  (hm : a.eval m = .map (some b)) (hown : w.ownsMap P k R b n D) (hn : n < maxLen) (key val : Value) (kl : Lit) (hx : a.eval x = key) (hv : a.eval v = val) (hkey : keyOf P k key = some kl)
  (d : DataW H) (ps : List MemPlace) (hval : R val = some (d, ps))
  (hK : ∀ w', w'.ownsMap P k R b (n + 1) (D.put kl d) → w.grownBy w' (some b) → wpList P ops Q rest (a.put o.dst undef) w') :
  wpList P ops Q (o :: rest) a w := by
 refine wpList_plain hg fun K' hK' => ?_
 obtain ⟨w', hrun, r1, r2⟩ := hown.update K ht hn hkey hval
 unfold Oper.wp
 simp [execOp, hop, hm, hx, hv, hrun, Result.andThen]
 exact hK' _ _ (hK w' r1 r2)
/-- The map of the two moves. -/
def mvD : DataW Unit := ((DataW.map []).put (.int .i64 1) (.lit (.int .i64 1))).put (.int .i64 2) (.lit (.int .i64 2))
theorem mvD_has (x : Int) : Go.Maps.has mvD (.int .i64 x) = decide (x = 1 ∨ x = 2) := by
 unfold mvD
 by_cases c2 : x = 2
 ·
  subst c2
  rw [Go.Maps.has_put_same (Go.Maps.isMap_empty.put _ _) (by trivial)]
  rfl
 ·
  rw [Go.Maps.has_put_other (by simpa using c2)]
  by_cases c1 : x = 1
  ·
   subst c1
   rw [Go.Maps.has_put_same Go.Maps.isMap_empty (by trivial)]
   rfl
  ·
   rw [Go.Maps.has_put_other (by simpa using c1), decide_eq_false (by omega)]
   rfl
theorem mvD_one (z : DataW Unit) : mvD.atKey (.int .i64 1) z = .lit (.int .i64 1) := by
 unfold mvD
 rw [Go.Maps.atKey_put_other (by simp), Go.Maps.atKey_put_same Go.Maps.isMap_empty (by trivial)]
theorem mvD_two (z : DataW Unit) : mvD.atKey (.int .i64 2) z = .lit (.int .i64 2) := by
 unfold mvD
 rw [Go.Maps.atKey_put_same (Go.Maps.isMap_empty.put _ _) (by trivial)]
theorem funR_ex (g : Nat) : ∃ R : Value → Option (DataW Unit × List MemPlace), R (.func (.func 39) #[.pointer (some ⟨g, 0, none⟩)] #[]) = some (.lit (.int .i64 1), []) ∧ R (.func (.func 40) #[.pointer (some ⟨g, 0, none⟩)] #[]) = some (.lit (.int .i64 2), []) ∧ R .nilFunc = some (.lit (.int .i64 0), []) ∧
  (∀ v ps, R v = some (.lit (.int .i64 1), ps) → v = .func (.func 39) #[.pointer (some ⟨g, 0, none⟩)] #[]) ∧ (∀ v ps, R v = some (.lit (.int .i64 2), ps) → v = .func (.func 40) #[.pointer (some ⟨g, 0, none⟩)] #[]) := by
 classical
 refine ⟨fun v => if v = .func (.func 39) #[.pointer (some ⟨g, 0, none⟩)] #[] then some (.lit (.int .i64 1), []) else if v = .func (.func 40) #[.pointer (some ⟨g, 0, none⟩)] #[] then some (.lit (.int .i64 2), []) else if v = .nilFunc then some (.lit (.int .i64 0), []) else none, by simp, by simp, by simp, fun v ps h => ?_, fun v ps h => ?_⟩
 ·
  dsimp only at h
  by_cases c1 : v = .func (.func 39) #[.pointer (some ⟨g, 0, none⟩)] #[]
  ·
   exact c1
  ·
   rw [if_neg c1] at h
   split at h
   ·
    simp at h
   ·
    split at h <;> simp at h
 ·
  dsimp only at h
  by_cases c1 : v = .func (.func 39) #[.pointer (some ⟨g, 0, none⟩)] #[]
  ·
   rw [if_pos c1] at h
   simp at h
  ·
   rw [if_neg c1] at h
   by_cases c2 : v = .func (.func 40) #[.pointer (some ⟨g, 0, none⟩)] #[]
   ·
    exact c2
   ·
    rw [if_neg c2] at h
    split at h <;> simp at h
def balance_Steps.l0 : Nat → List Int → List Int → List Bool → Int → Option Int
 | 0, _, _, _, _ => none
 | k + 1, a, b, r, n => (balance_which.f k a b r).bind fun x => if x = 1 then (if 0 ≤ n ∧ n < 1000000 then (lru_Demote.f a b r).bind fun t => balance_Steps.l0 k t.1 t.2.1 t.2.2.1 (n + 1) else none) else if x = 2 then (if 0 ≤ n ∧ n < 1000000 then (lru_Promote.f a b r).bind fun t => balance_Steps.l0 k t.1 t.2.1 t.2.2.1 (n + 1) else none) else if 0 ≤ x ∧ x ≤ 3 then some n else none
def balance_Steps.f (k : Nat) (l0_0 : List Int) (l0_1 : List Int) (l0_2 : List Bool) : Option (Int × Int) := (lru_Check.f l0_0 l0_1 l0_2).bind fun e => if e = 0 then (balance_Steps.l0 k l0_0 l0_1 l0_2 0).bind fun n => some (n, 0) else some (0, e)
theorem balance_Steps.mono_l : ∀ k, ∀ a b r n, LeO (balance_Steps.l0 k a b r n) (balance_Steps.l0 (k + 1) a b r n)
 | 0 => fun _ _ _ _ r h => by simp [balance_Steps.l0] at h
 | k + 1 => fun a b r n => by
  have ih := balance_Steps.mono_l k
  unfold balance_Steps.l0
  refine LeO.bind (balance_which.mono _ _ _ _) (fun x => ?_)
  split
  ·
   split
   ·
    exact LeO.bind (LeO.refl _) (fun _ => ih _ _ _ _)
   ·
    exact LeO.refl _
  ·
   split
   ·
    split
    ·
     exact LeO.bind (LeO.refl _) (fun _ => ih _ _ _ _)
    ·
     exact LeO.refl _
   ·
    exact LeO.refl _
theorem balance_Steps.mono : ∀ a b r k, LeO (balance_Steps.f k a b r) (balance_Steps.f (k + 1) a b r) := by
 intro a b r k
 unfold balance_Steps.f
 refine LeO.bind (LeO.refl _) (fun e => ?_)
 split
 ·
  exact LeO.bind (balance_Steps.mono_l k _ _ _ _) (fun _ => LeO.refl _)
 ·
  exact LeO.refl _
/-- What holds at the head of a round. -/
structure StS (R : Value → Option (DataW Unit × List MemPlace)) (w W : World) (g p : Nat) (a b : List Int) (r : List Bool) : Prop where
 box : MvB W g a b r
 map : W.ownsMap Try.prog 52 R p 2 mvD
 below : Below w.heap.size w W
 gw : w.heap.size ≤ g
 ne : p ≠ g
set_option maxHeartbeats 4000000 in
set_option maxRecDepth 100000 in
theorem balance_Steps.calls (k : Nat) (A0_0 : Option Addr) (c0_0 : Nat) (l0_0 : List Int) (A0_1 : Option Addr) (c0_1 : Nat) (l0_1 : List Int) (A0_2 : Option Addr) (c0_2 : Nat) (l0_2 : List Bool) (r1 : Int) (r2 : Int) (w : World) (hr0_0 : Kd.C (Kd.int .i64) w A0_0 l0_0.length l0_0) (hc0_0 : l0_0.length ≤ c0_0) (hr0_1 : Kd.C (Kd.int .i64) w A0_1 l0_1.length l0_1) (hc0_1 : l0_1.length ≤ c0_1) (hr0_2 : Kd.C Kd.bool w A0_2 l0_2.length l0_2) (hc0_2 : l0_2.length ≤ c0_2) (h : balance_Steps.f k l0_0 l0_1 l0_2 = some (r1, r2)) :
  Calls Try.prog 18 #[.agg #[.slice A0_0 l0_0.length c0_0, .slice A0_1 l0_1.length c0_1, .slice A0_2 l0_2.length c0_2]] w fun e w' => e = .returned (.tuple #[.int .i64 r1, .int .i64 r2]) ∧ Below w.heap.size w w' := by
 have hmm := @run_makeMap Try.prog
 unfold balance_Steps.f at h
 obtain ⟨er, hch, H⟩ := Option.bind_eq_some_iff.mp h
 clear h
 have HC := Aside0.mk hch
 have HR0 := Aside0.mk hr0_0
 have HR1 := Aside0.mk hr0_1
 have HR2 := Aside0.mk hr0_2
 clear hch hr0_0 hr0_1 hr0_2
 go_enter Try.func18, Try.ntmps18
 go_wp2_with fail
 refine (lru_Check.calls _ _ l0_0 _ _ l0_1 _ _ l0_2 er _ (Kd.C_alloc HR0.out _) hc0_0 (Kd.C_alloc HR1.out _) hc0_1 (Kd.C_alloc HR2.out _) hc0_2 HC.out).mono ?_
 rintro e w1 ⟨rfl, hb1⟩
 have hbk := blk_below (blk_new w _) hb1
 have hx0 := (blk_cell hbk 0).trans rfl
 have hx1 := (blk_cell hbk 1).trans rfl
 have hx2 := (blk_cell hbk 2).trans rfl
 have hsz := hb1.size
 simp only [World.size_alloc] at hsz
 have HB1 := Aside0.mk (below_step (below_alloc (Below.refl w.heap.size w) _) hb1)
 clear hbk hb1
 by_cases c : er = 0
 case neg =>
  rw [if_neg c] at H
  simp only [Option.some.injEq, Prod.mk.injEq] at H
  obtain ⟨rfl, rfl⟩ := H
  have e2 : (er != 0) = true := bne_iff_ne.mpr c
  clear c
  go_wp2
  go_ret2
  exact ⟨rfl, HB1.out⟩
 rw [if_pos c] at H
 subst c
 obtain ⟨n0, hl, H⟩ := Option.bind_eq_some_iff.mp H
 simp only [Option.some.injEq, Prod.mk.injEq] at H
 obtain ⟨rfl, rfl⟩ := H
 have HL := Aside0.mk hl
 obtain ⟨R, hR⟩ := funR_ex w1.heap.size
 have RR := Aside0.mk hR
 clear hl hR
 go_wp2_with (first
  | (refine wpList_insert_own _ rfl _ _ _ _ rfl 52 1 (Go.Maps.int_keyed Try.underlying52) Try.underlying53 R _ 0 (.map []) rfl (by have h_ := World.ownsMap_made (H := Unit) (w1.alloc (.cells #[.slice A0_0 l0_0.length c0_0, .slice A0_1 l0_1.length c0_1, .slice A0_2 l0_2.length c0_2] 51)) Try.prog 52 R; simpa using h_) (by decide) _ _ (.int .i64 1) rfl rfl (Go.Maps.keyOf_int_mk Try.underlying52 (by decide)) _ [] RR.out.1 ?_; intro w2 hown2 hg2)
  | (refine wpList_insert_own _ rfl _ _ _ _ rfl 52 1 (Go.Maps.int_keyed Try.underlying52) Try.underlying53 R _ 1 _ rfl hown2 (by decide) _ _ (.int .i64 2) rfl rfl (Go.Maps.keyOf_int_mk Try.underlying52 (by decide)) _ [] RR.out.2.1 ?_; intro w3 hown3 hg3))
 have hg0 : w.heap.size ≤ w1.heap.size := by omega
 have hb2 := ((below_alloc (below_alloc HB1.out (.cells #[.slice A0_0 l0_0.length c0_0, .slice A0_1 l0_1.length c0_1, .slice A0_2 l0_2.length c0_2] 51)) (.map #[] 0)).grown hg2 (by simp; omega) (fun q hq => by cases hq; omega)).grown hg3 (by have := hg2.size; simp at this; omega) (fun q hq => by cases hq; omega)
 have hbx := blk_grown (blk_grown (blk_alloc (blk_new w1 (.cells #[.slice A0_0 l0_0.length c0_0, .slice A0_1 l0_1.length c0_1, .slice A0_2 l0_2.length c0_2] 51)) (.map #[] 0)) hg2 (by simp)) hg3 (by simp)
 have hst : StS R w w3 w1.heap.size (w1.heap.size + 1) l0_0 l0_1 l0_2 :=
  ⟨⟨_, _, _, hbx, (SRow.of_C 0 HR0.out hc0_0 hg0).below hb2, (SRow.of_C 0 HR1.out hc0_1 hg0).below hb2, (SRow.of_C false HR2.out hc0_2 hg0).below hb2⟩, hown3, hb2, hg0, by omega⟩
 have ST := Aside0.mk hst
 have hz0 : ∀ W : World, (zeroValue 1).run Try.prog W = .ok .nilFunc W := fun W => by kernel_rfl
 have HZ := Aside0.mk hz0
 have hlen := blk_lt hbx
 clear hst hbx hb2 hown2 hown3 hg2 hg3 hz0 hx0 hx1 hx2 HR0 HR1 HR2 HB1 HC H hmm
 go_loopg [7] k (fun g v W => ∃ (x : Int) (a b : List Int) (r : List Bool), v = .int .i64 x ∧ Aside0 (balance_Steps.l0 g a b r x = some n0) ∧ Aside0 (StS R w W w1.heap.size (w1.heap.size + 1) a b r))
 case atStart => exact ⟨0, _, _, _, rfl, HL, ST⟩
 case round =>
  clear HL ST
  obtain ⟨x, a, b, r, rfl, HA, ST⟩ := hrel
  cases gk with
  | zero => exact absurd HA.out (by simp [balance_Steps.l0])
  | succ k1 =>
   have H := HA.out
   clear HA
   rw [balance_Steps.l0] at H
   obtain ⟨q, hq, H⟩ := Option.bind_eq_some_iff.mp H
   have HQ := Aside0.mk hq
   clear hq
   obtain ⟨v0, v1, v2, hg, h0, h1, h2⟩ := ST.out.box.ex
   obtain ⟨A0, c0, rfl, l0, q0, _⟩ := h0.ex
   obtain ⟨A1, c1, rfl, l1, q1, _⟩ := h1.ex
   obtain ⟨A2, c2, rfl, l2, q2, _⟩ := h2.ex
   have hx0 := (blk_cell hg 0).trans rfl
   have hx1 := (blk_cell hg 1).trans rfl
   have hx2 := (blk_cell hg 2).trans rfl
   have Q0 := Aside0.mk q0
   have Q1 := Aside0.mk q1
   have Q2 := Aside0.mk q2
   clear hg h0 h1 h2 q0 q1 q2
   have hwf : ∀ y : Int, 0 ≤ y → y ≤ 3 → (Lit.int .i64 y).wf = true := fun y hy1 hy2 => WalkArith.wf_i64 (by omega)
   have WF := Aside0.mk hwf
   clear hwf
   have HH := Aside0.mk H
   clear H
   go_wp2_with fail
   refine (balance_which.calls k1 _ _ a _ _ b _ _ r q _ Q0.out l0 Q1.out l1 Q2.out l2 HQ.out).mono ?_
   rintro e w4 ⟨rfl, hb⟩
   have M4 := Aside0.mk (ST.out.box.below hb)
   have O4 := Aside0.mk (ST.out.map.kept (grown_of_below hb none) (by simp))
   have B4 := Aside0.mk (below_step ST.out.below hb)
   clear hx0 hx1 hx2 Q0 Q1 Q2 hb HQ
   have H := HH.out
   clear HH
   by_cases c1 : q = 1
   ·
    subst c1
    rw [if_pos rfl] at H
    by_cases c3 : 0 ≤ x ∧ x < 1000000
    case neg => rw [if_neg c3] at H; cases H
    rw [if_pos c3] at H
    obtain ⟨c3, c4⟩ := c3
    obtain ⟨⟨s1, s2, s3, s4, s5⟩, hd, H⟩ := Option.bind_eq_some_iff.mp H
    have HD := Aside0.mk hd
    have HH := Aside0.mk H
    clear H hd
    have hh : Go.Maps.has mvD (.int .i64 1) = true := by rw [mvD_has]; decide
    go_wp2_with (at_lookup; refine wpList_lookup_own_ok _ rfl _ _ _ rfl 52 1 (Go.Maps.int_keyed Try.underlying52) Try.underlying53 R (HZ.out _) (.lit (.int .i64 0)) [] RR.out.2.2.1 (w1.heap.size + 1) 2 mvD rfl O4.out _ _ rfl (Go.Maps.keyOf_int_mk Try.underlying52 (WF.out 1 (by omega) (by omega))) ?_; intro v ps hv; (rw [mvD_one] at hv); (obtain rfl := RR.out.2.2.2.1 v ps hv); clear hv)
    refine (mover_demote w1.heap.size a b r s1 s2 s3 s4 s5 _ M4.out HD.out).mono ?_
    rintro e w5 ⟨rfl, hM, hgw⟩
    have M5 := Aside0.mk hM
    have G5 := Aside0.mk hgw
    clear hM hgw hh
    go_wp2
    go_roundg k1
    case measure => omega
    case rel => exact ⟨x + 1, s1, s2, s3, by first | rfl | go_num, HH, ⟨⟨M5.out, O4.out.kept G5.out (by simp), B4.out.grown G5.out B4.out.size (fun z hz => by cases hz; omega), hg0, by omega⟩⟩⟩
   ·
    rw [if_neg c1] at H
    by_cases c2 : q = 2
    ·
     subst c2
     rw [if_pos rfl] at H
     by_cases c3 : 0 ≤ x ∧ x < 1000000
     case neg => rw [if_neg c3] at H; cases H
     rw [if_pos c3] at H
     obtain ⟨c3, c4⟩ := c3
     obtain ⟨⟨s1, s2, s3, s4, s5⟩, hd, H⟩ := Option.bind_eq_some_iff.mp H
     have HD := Aside0.mk hd
     have HH := Aside0.mk H
     clear H hd
     have hh : Go.Maps.has mvD (.int .i64 2) = true := by rw [mvD_has]; decide
     go_wp2_with (at_lookup; refine wpList_lookup_own_ok _ rfl _ _ _ rfl 52 1 (Go.Maps.int_keyed Try.underlying52) Try.underlying53 R (HZ.out _) (.lit (.int .i64 0)) [] RR.out.2.2.1 (w1.heap.size + 1) 2 mvD rfl O4.out _ _ rfl (Go.Maps.keyOf_int_mk Try.underlying52 (WF.out 2 (by omega) (by omega))) ?_; intro v ps hv; (rw [mvD_two] at hv); (obtain rfl := RR.out.2.2.2.2 v ps hv); clear hv)
     refine (mover_promote w1.heap.size a b r s1 s2 s3 s4 s5 _ M4.out HD.out).mono ?_
     rintro e w5 ⟨rfl, hM, hgw⟩
     have M5 := Aside0.mk hM
     have G5 := Aside0.mk hgw
     clear hM hgw hh
     go_wp2
     go_roundg k1
     case measure => omega
     case rel => exact ⟨x + 1, s1, s2, s3, by first | rfl | go_num, HH, ⟨⟨M5.out, O4.out.kept G5.out (by simp), B4.out.grown G5.out B4.out.size (fun z hz => by cases hz; omega), hg0, by omega⟩⟩⟩
    ·
     rw [if_neg c2] at H
     by_cases c3 : 0 ≤ q ∧ q ≤ 3
     case neg => rw [if_neg c3] at H; cases H
     rw [if_pos c3] at H
     obtain ⟨c3, c4⟩ := c3
     obtain rfl := Option.some.inj H
     have hh : Go.Maps.has mvD (.int .i64 q) = false := by rw [mvD_has]; exact decide_eq_false (by omega)
     clear H
     go_wp2_with (at_lookup; refine wpList_lookup_own_ok _ rfl _ _ _ rfl 52 1 (Go.Maps.int_keyed Try.underlying52) Try.underlying53 R (HZ.out _) (.lit (.int .i64 0)) [] RR.out.2.2.1 (w1.heap.size + 1) 2 mvD rfl O4.out _ _ rfl (Go.Maps.keyOf_int_mk Try.underlying52 (WF.out q c3 c4)) ?_; intro v ps hv; clear hv)
     go_ret2
     exact ⟨rfl, B4.out⟩


end Go.Proofs.Ytnheknlmmmkbpaa.X
