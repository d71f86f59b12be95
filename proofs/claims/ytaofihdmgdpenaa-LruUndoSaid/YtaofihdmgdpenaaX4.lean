/- What Go functions of this seat compute, told as Lean functions, and that each call of the Go code comes to that answer; for a law: its row, for every input. Written by a program of the session. -/
import Derived.Test.YtaofihdmgdpenaaX0
import Derived.Test.YtaofihdmgdpenaaX3
namespace Go.Proofs.Ytaofihdmgdpenaa.X
open Go.RowKit Go.Proofs.YtaofihdmgdpenaaW.PrintWords Go.Proofs.YtaofihdmgdpenaaW.PrintLast Go.Proofs.YtaofihdmgdpenaaW.PrintMore
attribute [local go_sem] max2_int min2_int max_two min_two max_three min_three max_four min_four   -- for this text's walks alone
set_option linter.unusedVariables false
set_option linter.unusedSimpArgs false

/-! ### lru_Check: function 16 -/
/-- One list of frames, behind those that were seen. -/
def lruIn (N : Nat) (k : List Int → Int) : List Int → List Int → Int
 | [], seen => k seen
 | x :: xs, seen => if x < 0 then 2 else if (N : Int) ≤ x then 2 else if seen.contains x = true then 7 else lruIn N k xs (x :: seen)
/-- The marks from number f on. -/
def lruFrom (seen : List Int) : List Bool → Nat → Int
 | [], _ => 0
 | b :: bs, f => if b = true then (if seen.contains (f : Int) = true then lruFrom seen bs (f + 1) else 9) else lruFrom seen bs (f + 1)
/-- From the list with number i on. -/
def lruOut (a b : List Int) (ref : List Bool) : Nat → List Int → Int
 | 0, seen => lruIn ref.length (fun s => lruIn ref.length (fun s => lruFrom s ref 0) b s) a seen
 | 1, seen => lruIn ref.length (fun s => lruFrom s ref 0) b seen
 | _, seen => lruFrom seen ref 0
def lruCheck (a b : List Int) (ref : List Bool) : Int :=
 if ref.length < 1 then 2 else if 256 < ref.length then 2 else lruOut a b ref 0 []
def lru_Check.f (l0_0 : List Int) (l0_1 : List Int) (l0_2 : List Bool) : Option Int := if l0_0.length + l0_1.length ≤ 1000000 then some (lruCheck l0_0 l0_1 l0_2) else none
/-- How many have been looked at ahead of list n. -/
def lenTo (a b : List Int) : Nat → Nat
 | 0 => 0
 | 1 => a.length
 | _ => a.length + b.length
/-- The map holds just what was seen. -/
def SeenMap (D : DataW Unit) (seen : List Int) : Prop := ∀ n : Int, D.atKey (.int .i64 n) (.lit (.bool false)) = .lit (.bool (seen.contains n))
theorem seenMap_nil : SeenMap (.map []) [] := fun n => by simp [DataW.atKey]
theorem seenMap_put {D : DataW Unit} {seen : List Int} (hD : Go.Maps.IsMap D) (h : SeenMap D seen) (x : Int) : SeenMap (D.put (.int .i64 x) (.lit (.bool true))) (x :: seen) := fun n => by
 by_cases e : n = x
 ·
  subst e
  rw [Go.Maps.atKey_put_same hD (by trivial)]
  simp
 ·
  rw [Go.Maps.atKey_put_other (by simpa using e), h n]
  simp [e]
theorem wpList_lookup_own_bool {H : Type} {P : Program} (w : World) {ops : Array Oper} {rest : List Oper} {o : Oper} {a : Act} {Q : Exit → Act → World → Prop}
  (hg : o.guard = none) (m x : Operand) (t : TypeId) (hop : o.op = Op.lookup t m x false)
  (k e : TypeId) (K : Go.Maps.Keyed P k) (ht : P.underlying t = some (.map k e)) (he : P.underlying e = some .bool) (hz : (zeroValue e).run P w = .ok (.bool false) w) (b n : Nat) (D : DataW H)
  (hm : a.eval m = .map (some b)) (hown : w.ownsMap P k (plainElem P e) b n D) (key : Value) (kl : Lit) (hx : a.eval x = key) (hkey : keyOf P k key = some kl)
  (hK : ∀ c : Bool, D.atKey kl (.lit (.bool false)) = .lit (.bool c) → wpList P ops Q rest (a.put o.dst (.bool c)) w) :
  wpList P ops Q (o :: rest) a w := by
 refine wpList_plain hg fun K' hK' => ?_
 obtain ⟨v, ps, hrun, hv⟩ := hown.lookup K ht hz (plainElem_bool he false) hkey
 obtain ⟨c, rfl, hc⟩ := plainElem_bool_inv he hv
 simp only [Prod.mk.injEq] at hc
 unfold Oper.wp
 simp [execOp, hop, hm, hx, hrun, Result.andThen]
 exact hK' _ _ (hK c hc.1)
theorem lruIn_step {N : Nat} {k : List Int → Int} {xs seen : List Int} {j : Nat} {r : Int} (hj : j < xs.length) (h : lruIn N k (xs.drop j) seen = r) :
  (if xs.getD j 0 < 0 then 2 else if (N : Int) ≤ xs.getD j 0 then 2 else if seen.contains (xs.getD j 0) = true then 7 else lruIn N k (xs.drop (j + 1)) (xs.getD j 0 :: seen)) = r := by
 rw [List.drop_eq_getElem_cons hj] at h
 have e : xs[j] = xs.getD j 0 := by simp [List.getD_eq_getElem?_getD, List.getElem?_eq_getElem hj]
 rw [e] at h
 exact h
theorem lruFrom_step {seen : List Int} {bs : List Bool} {j : Nat} {r : Int} (hj : j < bs.length) (h : lruFrom seen (bs.drop j) j = r) :
  (if bs.getD j false = true then (if seen.contains (j : Int) = true then lruFrom seen (bs.drop (j + 1)) (j + 1) else 9) else lruFrom seen (bs.drop (j + 1)) (j + 1)) = r := by
 rw [List.drop_eq_getElem_cons hj] at h
 have e : bs[j] = bs.getD j false := by simp [List.getD_eq_getElem?_getD, List.getElem?_eq_getElem hj]
 rw [e] at h
 exact h
set_option maxHeartbeats 2000000 in
set_option maxRecDepth 100000 in
theorem lru_Check.calls (A0_0 : Option Addr) (c0_0 : Nat) (l0_0 : List Int) (A0_1 : Option Addr) (c0_1 : Nat) (l0_1 : List Int) (A0_2 : Option Addr) (c0_2 : Nat) (l0_2 : List Bool) (r : Int) (w : World) (hr0_0 : Kd.C (Kd.int .i64) w A0_0 l0_0.length l0_0) (hc0_0 : l0_0.length ≤ c0_0) (hr0_1 : Kd.C (Kd.int .i64) w A0_1 l0_1.length l0_1) (hc0_1 : l0_1.length ≤ c0_1) (hr0_2 : Kd.C Kd.bool w A0_2 l0_2.length l0_2) (hc0_2 : l0_2.length ≤ c0_2) (h : lru_Check.f l0_0 l0_1 l0_2 = some r) :
  Calls Try.prog 16 #[.agg #[.slice A0_0 l0_0.length c0_0, .slice A0_1 l0_1.length c0_1, .slice A0_2 l0_2.length c0_2]] w fun e w' => e = .returned (.int .i64 r) ∧ Below w.heap.size w w' := by
 have hu33 := Try.underlying25
 have hmm := @run_makeMap Try.prog
 unfold lru_Check.f at h
 by_cases c0 : l0_0.length + l0_1.length ≤ 1000000
 case neg => rw [if_neg c0] at h; cases h
 rw [if_pos c0] at h
 have H := Option.some.inj h
 clear h
 unfold lruCheck at H
 by_cases c1 : l0_2.length < 1
 ·
  rw [if_pos c1] at H
  subst H
  have e1 : decide (l0_2.length < 1) = true := decide_eq_true c1
  have e1' : decide ((l0_2.length : Int) < 1) = true := decide_eq_true (by omega)
  go_enter Try.func16, Try.ntmps16
  go_wp2
  go_ret
  exact ⟨rfl, below_alloc (Below.refl _ _) _⟩
 ·
  by_cases c2 : 256 < l0_2.length
  ·
   rw [if_neg c1, if_pos c2] at H
   subst H
   have e1 : decide (l0_2.length < 1) = false := decide_eq_false c1
   have e2 : decide (256 < l0_2.length) = true := decide_eq_true c2
   have e1' : decide ((l0_2.length : Int) < 1) = false := decide_eq_false (by omega)
   have e2' : decide ((256 : Int) < l0_2.length) = true := decide_eq_true (by omega)
   go_enter Try.func16, Try.ntmps16
   go_wp2
   go_ret
   exact ⟨rfl, below_alloc (Below.refl _ _) _⟩
  ·
   rw [if_neg c1, if_neg c2] at H
   have e1 : decide (l0_2.length < 1) = false := decide_eq_false c1
   have e2 : decide (256 < l0_2.length) = false := decide_eq_false c2
   have e1' : decide ((l0_2.length : Int) < 1) = false := decide_eq_false (by omega)
   have e2' : decide ((256 : Int) < l0_2.length) = false := decide_eq_false (by omega)
   have HH := Aside0.mk H
   clear H
   go_enter Try.func16, Try.ntmps16
   go_wp2
   go_loopg [27] 2 (fun g i wr => ∃ (n : Nat) (seen : List Int), n + g = 2 ∧ i = .int .i64 n ∧ Aside0 (lruOut l0_0 l0_1 l0_2 n seen = r) ∧ Aside0 (seen.length ≤ lenTo l0_0 l0_1 n) ∧ Aside0 (wr.heap[w.heap.size]? = some (.cells #[.slice A0_0 l0_0.length c0_0, .slice A0_1 l0_1.length c0_1, .slice A0_2 l0_2.length c0_2] 25 (0, 0))) ∧ Aside0 (wr.heap[w.heap.size + 1 + 1]? = some (.cells #[.slice A0_0 l0_0.length c0_0, .slice A0_1 l0_1.length c0_1] 22 (0, 0))) ∧ Aside0 (∃ D : DataW Unit, wr.ownsMap Try.prog 3 (plainElem Try.prog 4) (w.heap.size + 1) seen.length D ∧ Go.Maps.IsMap D ∧ SeenMap D seen) ∧ Aside0 (Below w.heap.size w wr))
   case atStart =>
    exact ⟨0, [], by omega, rfl, HH, ⟨by simp⟩, ⟨blk_alloc (blk_alloc (blk_new _ _) _) _⟩, ⟨by have := blk_new ((w.alloc (.cells #[.slice A0_0 l0_0.length c0_0, .slice A0_1 l0_1.length c0_1, .slice A0_2 l0_2.length c0_2] 25)).alloc (.map #[] 0)) (.cells #[.slice A0_0 l0_0.length c0_0, .slice A0_1 l0_1.length c0_1] 22); simpa using this⟩, ⟨.map [], by have := (World.ownsMap_made (H := Unit) (w.alloc (.cells #[.slice A0_0 l0_0.length c0_0, .slice A0_1 l0_1.length c0_1, .slice A0_2 l0_2.length c0_2] 25)) Try.prog 3 (plainElem Try.prog 4)).alloc (.cells #[.slice A0_0 l0_0.length c0_0, .slice A0_1 l0_1.length c0_1] 22); simpa using this, Go.Maps.isMap_empty, seenMap_nil⟩, ⟨below_alloc (below_alloc (below_alloc (Below.refl _ _) _) _) _⟩⟩
   case round =>
    obtain ⟨n, seen, hng, rfl, HA, HL, B1, B2, HM, HB⟩ := hrel
    obtain ⟨ga, rfl⟩ : ∃ ga, ga = gk := ⟨_, rfl⟩
    clear HH
    have hc0 := (blk_cell B1.out 0).trans rfl
    have hc1 := (blk_cell B1.out 1).trans rfl
    have hc2 := (blk_cell B1.out 2).trans rfl
    by_cases hn : n < 2
    ·
     obtain ⟨A, c, p, hcell, hr, hlt, H⟩ : ∃ (A : Option Addr) (c : Nat) (p : List Int), wr.cell? ⟨w.heap.size + 1 + 1, n, none⟩ = some (.slice A p.length c) ∧ Aside0 (Kd.C (Kd.int .i64) w A p.length p) ∧ Aside0 (lenTo l0_0 l0_1 (n + 1) = lenTo l0_0 l0_1 n + p.length ∧ lenTo l0_0 l0_1 (n + 1) ≤ 1000000) ∧ Aside0 (lruIn l0_2.length (lruOut l0_0 l0_1 l0_2 (n + 1)) (p.drop 0) seen = r) := by
      have hn2 : n = 0 ∨ n = 1 := by omega
      rcases hn2 with rfl | rfl
      ·
       exact ⟨A0_0, c0_0, l0_0, (blk_cell B2.out 0).trans rfl, ⟨hr0_0⟩, ⟨⟨(Nat.zero_add _).symm, Nat.le_trans (Nat.le_add_right _ _) c0⟩⟩, ⟨HA.out⟩⟩
      ·
       exact ⟨A0_1, c0_1, l0_1, (blk_cell B2.out 1).trans rfl, ⟨hr0_1⟩, ⟨⟨rfl, c0⟩⟩, ⟨HA.out⟩⟩
     clear HA
     have hnl : decide ((n : Int) < 2) = true := decide_eq_true (by omega)
     go_wp2
     obtain ⟨wo, hwo⟩ : ∃ wo, wo = wr := ⟨_, rfl⟩
     subst hwo
     go_loopg [33] p.length (fun g v wr => ∃ (j : Nat) (seen : List Int), j + g = p.length ∧ v = .int .i64 j ∧ Aside0 (lruIn l0_2.length (lruOut l0_0 l0_1 l0_2 (n + 1)) (p.drop j) seen = r) ∧ Aside0 (seen.length ≤ lenTo l0_0 l0_1 n + j) ∧ Aside0 (wr.heap[w.heap.size]? = some (.cells #[.slice A0_0 l0_0.length c0_0, .slice A0_1 l0_1.length c0_1, .slice A0_2 l0_2.length c0_2] 25 (0, 0))) ∧ Aside0 (wr.heap[w.heap.size + 1 + 1]? = some (.cells #[.slice A0_0 l0_0.length c0_0, .slice A0_1 l0_1.length c0_1] 22 (0, 0))) ∧ Aside0 (∃ D : DataW Unit, wr.ownsMap Try.prog 3 (plainElem Try.prog 4) (w.heap.size + 1) seen.length D ∧ Go.Maps.IsMap D ∧ SeenMap D seen) ∧ Aside0 (Below w.heap.size w wr))
     case atStart => exact ⟨0, seen, by omega, rfl, H, ⟨HL.out⟩, B1, B2, HM, HB⟩
     case round =>
      clear H HM hc0 hc1 hc2 B1 B2 HB HL hcell
      obtain ⟨j, seen, hjg, rfl, HA, HL, B1, B2, HM, HB⟩ := hrel
      have hc2 := (blk_cell B1.out 2).trans rfl
      by_cases hj : j < p.length
      ·
       have H := lruIn_step hj HA.out
       obtain ⟨ad, rfl, hcx⟩ := C_at_ hr.out 0 j hj
       have hcx' := (HB.out.cell (World.block_lt_of_cell? w _ hcx)).trans hcx
       clear HA hcx
       have hjl : decide ((j : Int) < (p.length : Int)) = true := decide_eq_true (by omega)
       have hjl' : decide (j < p.length) = true := decide_eq_true hj
       generalize p.getD j 0 = x at H hcx'
       by_cases x1 : x < 0
       ·
        rw [if_pos x1] at H
        have x1b := decide_eq_true x1
        subst H
        go_wp2
        go_ret
        exact ⟨rfl, HB.out⟩
       ·
        rw [if_neg x1] at H
        have x1b : decide (x < 0) = false := decide_eq_false x1
        by_cases x2 : (l0_2.length : Int) ≤ x
        ·
         rw [if_pos x2] at H
         have x2b := decide_eq_true x2
         subst H
         go_wp2
         go_ret
         exact ⟨rfl, HB.out⟩
        ·
         rw [if_neg x2] at H
         have x2b : decide ((l0_2.length : Int) ≤ x) = false := decide_eq_false x2
         obtain ⟨D, hown, hD, hS⟩ := HM.out
         have hkey : keyOf Try.prog 3 (.int .i64 x) = some (.int .i64 x) := Go.Maps.keyOf_int_mk Try.underlying3 (WalkArith.wf_i64 (by omega))
         have HS := Aside0.mk hS
         have HD := Aside0.mk hD
         have HO := Aside0.mk hown
         have HLt := hlt.out
         have HLs := HL.out
         clear hS hD hown HM
         by_cases x3 : seen.contains x = true
         ·
          rw [if_pos x3] at H
          subst H
          go_wp2_with (first | (at_lookup; (try (refine gate_guard (by rfl) ?_; dsimp only)); refine wpList_lookup_own_bool _ rfl _ _ _ rfl 3 4 (Go.Maps.int_keyed Try.underlying3) Try.underlying54 Try.underlying4 (by kernel_rfl) (w.heap.size + 1) seen.length _ rfl HO.out _ _ rfl hkey ?_; intro cc hcc; rw [HS.out x, x3] at hcc; obtain rfl : cc = true := by simpa using hcc.symm))
          go_ret
          exact ⟨rfl, HB.out⟩
         ·
          rw [if_neg x3] at H
          have x3f : seen.contains x = false := by simpa using x3
          have HH := Aside0.mk H
          clear H x3
          go_wp2_with (first | (at_lookup; (try (refine gate_guard (by rfl) ?_; dsimp only)); refine wpList_lookup_own_bool _ rfl _ _ _ rfl 3 4 (Go.Maps.int_keyed Try.underlying3) Try.underlying54 Try.underlying4 (by kernel_rfl) (w.heap.size + 1) seen.length _ rfl HO.out _ _ rfl hkey ?_; intro cc hcc; rw [HS.out x, x3f] at hcc; obtain rfl : cc = false := by simpa using hcc.symm) | (at_mapUpdate; refine wpList_mapUpdate_own _ rfl _ _ _ _ rfl 3 4 (Go.Maps.int_keyed Try.underlying3) Try.underlying54 _ (w.heap.size + 1) seen.length _ rfl HO.out (by unfold maxLen; omega) _ _ _ rfl rfl hkey _ [] (plainElem_bool Try.underlying4 true) ?_; intro w1 hown1 hgrow1))
          go_roundg (gk - 1)
          case measure => omega
          case rel => exact ⟨j + 1, x :: seen, by omega, by go_num, HH, ⟨by simp; omega⟩, ⟨blk_grown B1.out hgrow1 (by simp)⟩, ⟨blk_grown B2.out hgrow1 (by simp)⟩, ⟨_, hown1, Go.Maps.IsMap.put HD.out _ _, seenMap_put HD.out HS.out x⟩, ⟨HB.out.grown hgrow1 HB.out.size (by intro z hz; cases hz; omega)⟩⟩
      ·
       have hjl : decide ((j : Int) < (p.length : Int)) = false := decide_eq_false (by omega)
       have hjl' : decide (j < p.length) = false := decide_eq_false hj
       have HA2 := Aside0.mk (show lruOut l0_0 l0_1 l0_2 (n + 1) seen = r by have := HA.out; rw [List.drop_eq_nil_of_le (by omega)] at this; exact this)
       have HLt := hlt.out
       have HLs := HL.out
       go_wp2
       go_roundg (ga - 1)
       case measure => omega
       case rel => exact ⟨n + 1, seen, by omega, by go_num, HA2, ⟨by omega⟩, B1, B2, HM, HB⟩
    ·
     obtain rfl : n = 2 := by omega
     have H := Aside0.mk (show lruFrom seen (l0_2.drop 0) 0 = r from HA.out)
     clear HA
     go_wp2
     go_loopg [58] l0_2.length (fun g v wr => ∃ (j : Nat), j + g = l0_2.length ∧ v = .int .i64 j ∧ Aside0 (lruFrom seen (l0_2.drop j) j = r) ∧ Aside0 (wr.heap[w.heap.size]? = some (.cells #[.slice A0_0 l0_0.length c0_0, .slice A0_1 l0_1.length c0_1, .slice A0_2 l0_2.length c0_2] 25 (0, 0))) ∧ Aside0 (∃ D : DataW Unit, wr.ownsMap Try.prog 3 (plainElem Try.prog 4) (w.heap.size + 1) seen.length D ∧ Go.Maps.IsMap D ∧ SeenMap D seen) ∧ Aside0 (Below w.heap.size w wr))
     case atStart => exact ⟨0, by omega, rfl, H, B1, HM, HB⟩
     case round =>
      clear H HM hc0 hc1 hc2 B1 B2 HB HL
      obtain ⟨j, hjg, rfl, HA, B1, HM, HB⟩ := hrel
      by_cases hj : j < l0_2.length
      ·
       have H := lruFrom_step hj HA.out
       obtain ⟨ad, rfl, hcx⟩ := C_at_ hr0_2 false j hj
       have hcx' := (HB.out.cell (World.block_lt_of_cell? w _ hcx)).trans hcx
       clear HA hcx
       have hjl : decide ((j : Int) < (l0_2.length : Int)) = true := decide_eq_true (by omega)
       have hjl' : decide (j < l0_2.length) = true := decide_eq_true hj
       obtain ⟨D, hown, hD, hS⟩ := HM.out
       have hkey : keyOf Try.prog 3 (.int .i64 (j : Int)) = some (.int .i64 j) := Go.Maps.keyOf_int_mk Try.underlying3 (WalkArith.wf_i64 (by omega))
       have HS := Aside0.mk hS
       have HO := Aside0.mk hown
       clear hS hown hD
       generalize l0_2.getD j false = b at H hcx'
       cases b with
       | true =>
        rw [if_pos rfl] at H
        by_cases x3 : seen.contains (j : Int) = true
        ·
         rw [if_pos x3] at H
         have HH := Aside0.mk H
         clear H
         go_wp2_with (first | (at_lookup; (try (refine gate_guard (by rfl) ?_; dsimp only)); refine wpList_lookup_own_bool _ rfl _ _ _ rfl 3 4 (Go.Maps.int_keyed Try.underlying3) Try.underlying54 Try.underlying4 (by kernel_rfl) (w.heap.size + 1) seen.length _ rfl HO.out _ _ rfl hkey ?_; intro cc hcc; rw [HS.out j, x3] at hcc; obtain rfl : cc = true := by simpa using hcc.symm))
         go_roundg (gk - 1)
         case measure => omega
         case rel => exact ⟨j + 1, by omega, by go_num, HH, B1, HM, HB⟩
        ·
         rw [if_neg x3] at H
         have x3f : seen.contains (j : Int) = false := by simpa using x3
         clear x3
         subst H
         go_wp2_with (first | (at_lookup; (try (refine gate_guard (by rfl) ?_; dsimp only)); refine wpList_lookup_own_bool _ rfl _ _ _ rfl 3 4 (Go.Maps.int_keyed Try.underlying3) Try.underlying54 Try.underlying4 (by kernel_rfl) (w.heap.size + 1) seen.length _ rfl HO.out _ _ rfl hkey ?_; intro cc hcc; rw [HS.out j, x3f] at hcc; obtain rfl : cc = false := by simpa using hcc.symm))
         go_ret
         exact ⟨rfl, HB.out⟩
       | false =>
        rw [if_neg (by decide)] at H
        have HH := Aside0.mk H
        clear H
        go_wp2
        go_roundg (gk - 1)
        case measure => omega
        case rel => exact ⟨j + 1, by omega, by go_num, HH, B1, HM, HB⟩
      ·
       have hjl : decide ((j : Int) < (l0_2.length : Int)) = false := decide_eq_false (by omega)
       have hjl' : decide (j < l0_2.length) = false := decide_eq_false hj
       have hr : (0 : Int) = r := by have := HA.out; rw [List.drop_eq_nil_of_le (by omega)] at this; exact this
       subst hr
       go_wp2
       go_ret
       exact ⟨rfl, HB.out⟩


end Go.Proofs.Ytaofihdmgdpenaa.X
