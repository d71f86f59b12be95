/- What Go functions of this seat compute, told as Lean functions, and that each call of the Go code comes to that answer; for a law: its row, for every input. Written by a program of the session. -/
import Derived.Test.YtfnhoncpaheejaaX0
import Derived.Test.YtfnhoncpaheejaaX5
import Derived.Test.YtfnhoncpaheejaaX7
namespace Go.Proofs.Ytfnhoncpaheejaa.X
open Go.RowKit Go.Proofs.YtfnhoncpaheejaaW.PrintWords Go.Proofs.YtfnhoncpaheejaaW.PrintLast Go.Proofs.YtfnhoncpaheejaaW.PrintMore
attribute [local go_sem] max2_int min2_int max_two min_two max_three min_three max_four min_four   -- for this text's walks alone
set_option linter.unusedVariables false
set_option linter.unusedSimpArgs false

/-! ### held_opened: function 33 -/
/-- Is one of the numbers out of its range? Each is followed by the least and by one more than the greatest. -/
def numsBad : List Int → Bool
 | a :: lo :: hi :: r => decide (a < lo) || decide (a ≥ hi) || numsBad r
 | _ => false
def numsErr (e : Int) (ns : List Int) : Int := if e = 0 then (if numsBad ns = true then 2 else 0) else e
theorem numsErr_step (ns : List Int) (i : Nat) (h : i + 2 < ns.length) : numsBad (ns.drop i) = (decide (ns.getD i 0 < ns.getD (i + 1) 0) || decide (ns.getD i 0 ≥ ns.getD (i + 2) 0) || numsBad (ns.drop (i + 3))) := by
 rw [List.drop_eq_getElem_cons (by omega), List.drop_eq_getElem_cons (i := i + 1) (by omega), List.drop_eq_getElem_cons (i := i + 1 + 1) (by omega)]
 simp only [numsBad, List.getD_eq_getElem?_getD, List.getElem?_eq_getElem (show i < ns.length by omega), List.getElem?_eq_getElem (show i + 1 < ns.length by omega), List.getElem?_eq_getElem (show i + 2 < ns.length by omega), Option.getD_some]
theorem numsErr_short (e : Int) (ns : List Int) (i : Nat) (h : ¬ i + 2 < ns.length) : numsErr e (ns.drop i) = e := by
 have hl : (ns.drop i).length < 3 := by rw [List.length_drop]; omega
 unfold numsErr
 generalize ns.drop i = l at hl
 have hb : numsBad l = false := by
  match l, hl with
  | [], _ => rfl
  | [_], _ => rfl
  | [_, _], _ => rfl
 rw [hb]
 by_cases h0 : e = 0
 ·
  rw [if_pos h0]; simp [h0]
 ·
  rw [if_neg h0]
def OpenPost (l : List S32) (ns : List Int) (w : World) (e : Ending) (w' : World) : Prop :=
 (∃ m : Option Nat, e = .returned (.tuple #[.map m, .int .i64 (numsErr (heldCheck l).1 ns)]) ∧ ((heldCheck l).1 = 0 → ∃ b, m = some b ∧ w.heap.size ≤ b ∧ HeldMap w' b 48 (heldCheck l).2.2)) ∧ Below w.heap.size w w'
theorem openPost_mk {l : List S32} {ns : List Int} {w w' : World} {x : Int} {m : Option Nat} (hx : x = numsErr (heldCheck l).1 ns) (hm : (heldCheck l).1 = 0 → ∃ b, m = some b ∧ w.heap.size ≤ b ∧ HeldMap w' b 48 (heldCheck l).2.2) (hb : Below w.heap.size w w') : OpenPost l ns w (.returned (.tuple #[.map m, .int .i64 x])) w' := ⟨⟨m, by rw [hx], hm⟩, hb⟩
set_option maxHeartbeats 4000000 in
set_option maxRecDepth 100000 in
theorem held_opened.calls (A : Option Addr) (c : Nat) (l : List S32) (A2 : Option Addr) (c2 : Nat) (ns : List Int) (w : World) (hr : Kd.C k32 w A l.length l) (hc : l.length ≤ c) (hr2 : Kd.C (Kd.int .i64) w A2 ns.length ns) (hn : ns.length ≤ 1000) :
  Calls Try.prog 33 #[.slice A l.length c, .slice A2 ns.length c2] w (OpenPost l ns w) := by
 have HR2 := Aside0.mk hr2
 clear hr2
 go_enter Try.func33, Try.ntmps33
 go_wp2_with fail
 refine (held_check.calls A c l _ hr hc).mono ?_
 rintro e w1 ⟨⟨m, rfl, hm⟩, hb1⟩
 have HM := Aside0.mk hm
 have HB1 := Aside0.mk hb1
 clear hm hb1
 generalize hce : (heldCheck l).1 = ce
 have HCE := Aside0.mk hce
 clear hce
 go_wp2
 go_loopg [7, 9] (ns.length + 3) (fun gg v7 v9 wr => ∃ (i : Nat) (er : Int), i + gg = ns.length + 3 ∧ v9 = .int .i64 i ∧ v7 = .int .i64 er ∧ Aside0 (numsErr er (ns.drop i) = numsErr ce ns) ∧ Aside0 (∃ n, wr = w1.drewN n))
 case atStart => exact ⟨0, ce, by omega, rfl, rfl, ⟨rfl⟩, ⟨0, rfl⟩⟩
 case round =>
  obtain ⟨i, er, hi, rfl, rfl, HE, HW⟩ := hrel
  obtain ⟨nw, rfl⟩ := HW.out
  clear HW
  by_cases h1 : i + 2 < ns.length
  ·
   have d1 : decide ((i : Int) + 2 < (ns.length : Int)) = true := decide_eq_true (by omega)
   by_cases h2 : er = 0
   ·
    subst h2
    obtain ⟨ad, rfl, hx0⟩ := C_at_ HR2.out 0 i (by omega)
    obtain ⟨ad1, ha1, hx1⟩ := C_at_ HR2.out 0 (i + 1) (by omega)
    obtain ⟨ad2, ha2, hx2⟩ := C_at_ HR2.out 0 (i + 2) (by omega)
    cases ha1
    cases ha2
    have hs := HE.out
    unfold numsErr at hs
    rw [if_pos rfl, numsErr_step ns i h1] at hs
    generalize ns.getD i 0 = x at hs hx0
    generalize ns.getD (i + 1) 0 = y at hs hx1
    generalize ns.getD (i + 2) 0 = z at hs hx2
    have hy0 := pw_cell_below HB1.out hx0
    have hy1 : w1.cell? ⟨ad.block, ad.off + (i + 1), none⟩ = some (.int .i64 y) := by have := pw_cell_below HB1.out hx1; simpa [Addr.add] using this
    have hy2 : w1.cell? ⟨ad.block, ad.off + (i + 2), none⟩ = some (.int .i64 z) := by have := pw_cell_below HB1.out hx2; simpa [Addr.add] using this
    clear hx0 hx1 hx2 HE
    have u1 : IntKind.i64.wrap ((i : Int) + 1) = (i : Int) + 1 := IntWalk.i64_in _ (by omega)
    have u2 : IntKind.i64.wrap ((i : Int) + 2) = (i : Int) + 2 := IntWalk.i64_in _ (by omega)
    have t1 : ((i : Int) + 1).toNat = i + 1 := by omega
    have t2 : ((i : Int) + 2).toNat = i + 2 := by omega
    have b0 : (i : Int) < ns.length := by omega
    have b1 : (i : Int) + 1 < ns.length := by omega
    have b2 : (i : Int) + 2 < ns.length := by omega
    have g1 : (0 : Int) ≤ (i : Int) + 1 := by omega
    have g2 : (0 : Int) ≤ (i : Int) + 2 := by omega
    by_cases c1 : x < y
    ·
     have c1b := decide_eq_true c1
     rw [c1b] at hs
     have HS := Aside0.mk hs
     clear hs c1
     go_wp2
     go_quiet (fail)
     go_wp2
     go_roundg (gk - 3)
     case measure => omega
     case rel => exact ⟨i + 3, 2, by omega, by go_num, rfl, ⟨(show numsErr 2 (ns.drop (i + 3)) = 2 from rfl).trans HS.out⟩, ⟨⟨_, by first | rfl | exact World.drewN_drewN _ _ _⟩⟩⟩
    ·
     have c1b : decide (x < y) = false := decide_eq_false c1
     rw [c1b] at hs
     by_cases c2 : x ≥ z
     ·
      have c2b : decide (z ≤ x) = true := decide_eq_true c2
      rw [decide_eq_true c2] at hs
      have HS := Aside0.mk hs
      clear hs c1 c2
      go_wp2
      go_quiet (fail)
      go_wp2
      go_roundg (gk - 3)
      case measure => omega
      case rel => exact ⟨i + 3, 2, by omega, by go_num, rfl, ⟨(show numsErr 2 (ns.drop (i + 3)) = 2 from rfl).trans HS.out⟩, ⟨⟨_, by first | rfl | exact World.drewN_drewN _ _ _⟩⟩⟩
     ·
      have c2b : decide (z ≤ x) = false := decide_eq_false c2
      rw [decide_eq_false c2] at hs
      have HS := Aside0.mk (show numsErr 0 (ns.drop (i + 3)) = numsErr ce ns from hs)
      clear hs c1 c2
      go_wp2
      go_quiet (fail)
      go_wp2
      go_roundg (gk - 3)
      case measure => omega
      case rel => exact ⟨i + 3, 0, by omega, by go_num, rfl, HS, ⟨⟨_, by first | rfl | exact World.drewN_drewN _ _ _⟩⟩⟩
   ·
    have d2 : (er == 0) = false := beq_eq_false_iff_ne.mpr h2
    have HX := Aside0.mk (show er = numsErr ce ns by have := HE.out; unfold numsErr at this; rw [if_neg h2] at this; exact this)
    clear HE h2
    go_wp2
    go_ret2
    exact openPost_mk (HX.out.trans (by rw [HCE.out])) (fun h => by obtain ⟨b, h1, h2, h3⟩ := HM.out h; exact ⟨b, h1, h2, h3.drewN _⟩) (pw_below_drewN HB1.out _)
  ·
   have d1 : decide ((i : Int) + 2 < (ns.length : Int)) = false := decide_eq_false (by omega)
   have HX := Aside0.mk (show er = numsErr ce ns by have := HE.out; rw [numsErr_short _ _ _ h1] at this; exact this)
   clear HE h1
   go_wp2
   go_ret2
   exact openPost_mk (HX.out.trans (by rw [HCE.out])) (fun h => by obtain ⟨b, h1, h2, h3⟩ := HM.out h; exact ⟨b, h1, h2, h3.drewN _⟩) (pw_below_drewN HB1.out _)


end Go.Proofs.Ytfnhoncpaheejaa.X
