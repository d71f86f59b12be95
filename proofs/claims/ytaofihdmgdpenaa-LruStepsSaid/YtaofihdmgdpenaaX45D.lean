/- What Go functions of this seat compute, told as Lean functions, and that each call of the Go code comes to that answer; for a law: its row, for every input. Written by a program of the session. -/
import Derived.Test.YtaofihdmgdpenaaX0
import Derived.Test.YtaofihdmgdpenaaX43
namespace Go.Proofs.Ytaofihdmgdpenaa.X
open Go.RowKit Go.Proofs.YtaofihdmgdpenaaW.PrintWords Go.Proofs.YtaofihdmgdpenaaW.PrintLast Go.Proofs.YtaofihdmgdpenaaW.PrintMore
attribute [local go_sem] max2_int min2_int max_two min_two max_three min_three max_four min_four   -- for this text's walks alone
set_option linter.unusedVariables false
set_option linter.unusedSimpArgs false

/-! ### headgatelaw07_made: function 26 -/
def headgatelaw07_made.l0 : Nat → List Int → Int → List Int → List Int → List Bool → Option (List Int × List Int × List Bool)
 | 0, _, _, _, _, _ => none
 | k + 1, x0, x4, x443000, x443001, x443002 => if x4 < 16 then ((headgatekit_At.f x0 x4).bind fun t443 => ((headgatekit_Mod.f t443 24).bind fun t444 => (if (Int.tmod t444 3) = 1 then (if x443000.length < 17592186044416 then ((some (x443000 ++ [Int.tmod (wrap64 ((wrap64 (5 * x4)) + 3)) 16] : List Int)).bind fun y445 => (if (Int.tmod t444 3) > 0 then (if 0 ≤ (Int.tmod (wrap64 ((wrap64 (5 * x4)) + 3)) 16) then (if (Int.tmod (wrap64 ((wrap64 (5 * x4)) + 3)) 16) < (x443002.length : Int) then (headgatelaw07_made.l0 k x0 (wrap64 (x4 + 1)) y445 x443001 (x443002.set ((Int.tmod (wrap64 ((wrap64 (5 * x4)) + 3)) 16) : Int).toNat ((Int.tmod (wrap64 (Int.tdiv t444 3)) 2) == 1))) else (none)) else (none)) else (if 0 ≤ (Int.tmod (wrap64 ((wrap64 (5 * x4)) + 3)) 16) then (if (Int.tmod (wrap64 ((wrap64 (5 * x4)) + 3)) 16) < (x443002.length : Int) then (headgatelaw07_made.l0 k x0 (wrap64 (x4 + 1)) y445 x443001 (x443002.set ((Int.tmod (wrap64 ((wrap64 (5 * x4)) + 3)) 16) : Int).toNat false)) else (none)) else (none)))) else (none)) else (if (Int.tmod t444 3) = 2 then ((some (([Int.tmod (wrap64 ((wrap64 (5 * x4)) + 3)) 16] : List Int) : List Int)).bind fun y450 => (if y450.length + x443001.length < 17592186044416 then ((some (y450 ++ x443001 : List Int)).bind fun y453 => (if (Int.tmod t444 3) > 0 then (if 0 ≤ (Int.tmod (wrap64 ((wrap64 (5 * x4)) + 3)) 16) then (if (Int.tmod (wrap64 ((wrap64 (5 * x4)) + 3)) 16) < (x443002.length : Int) then (headgatelaw07_made.l0 k x0 (wrap64 (x4 + 1)) x443000 y453 (x443002.set ((Int.tmod (wrap64 ((wrap64 (5 * x4)) + 3)) 16) : Int).toNat ((Int.tmod (wrap64 (Int.tdiv t444 3)) 2) == 1))) else (none)) else (none)) else (if 0 ≤ (Int.tmod (wrap64 ((wrap64 (5 * x4)) + 3)) 16) then (if (Int.tmod (wrap64 ((wrap64 (5 * x4)) + 3)) 16) < (x443002.length : Int) then (headgatelaw07_made.l0 k x0 (wrap64 (x4 + 1)) x443000 y453 (x443002.set ((Int.tmod (wrap64 ((wrap64 (5 * x4)) + 3)) 16) : Int).toNat false)) else (none)) else (none)))) else (none))) else (if (Int.tmod t444 3) > 0 then (if 0 ≤ (Int.tmod (wrap64 ((wrap64 (5 * x4)) + 3)) 16) then (if (Int.tmod (wrap64 ((wrap64 (5 * x4)) + 3)) 16) < (x443002.length : Int) then (headgatelaw07_made.l0 k x0 (wrap64 (x4 + 1)) x443000 x443001 (x443002.set ((Int.tmod (wrap64 ((wrap64 (5 * x4)) + 3)) 16) : Int).toNat ((Int.tmod (wrap64 (Int.tdiv t444 3)) 2) == 1))) else (none)) else (none)) else (if 0 ≤ (Int.tmod (wrap64 ((wrap64 (5 * x4)) + 3)) 16) then (if (Int.tmod (wrap64 ((wrap64 (5 * x4)) + 3)) 16) < (x443002.length : Int) then (headgatelaw07_made.l0 k x0 (wrap64 (x4 + 1)) x443000 x443001 (x443002.set ((Int.tmod (wrap64 ((wrap64 (5 * x4)) + 3)) 16) : Int).toNat false)) else (none)) else (none))))))) else (some (x443000, x443001, x443002))
def headgatelaw07_made.f (k : Nat) (l0 : List Int) : Option (List Int × List Int × List Bool) := if 16 ≤ 281474976710656 then (headgatelaw07_made.l0 k l0 0 ([] : List Int) ([] : List Int) (List.replicate 16 false)) else (none)
theorem headgatelaw07_made.mono_l : ∀ k, (∀ y0 y1 y2 y3 y4, LeO (headgatelaw07_made.l0 k y0 y1 y2 y3 y4) (headgatelaw07_made.l0 (k + 1) y0 y1 y2 y3 y4))
 | 0 => fun _ _ _ _ _ r h => by simp [headgatelaw07_made.l0] at h
 | k + 1 => by
  have ih0 := headgatelaw07_made.mono_l k
  ·
   intro y0 y1 y2 y3 y4
   unfold headgatelaw07_made.l0
   repeat' first
   | (with_reducible exact ih0 _ _ _ _ _)
   | (with_reducible exact LeO.refl _)
   | (with_reducible exact LeO.none _)
   | (with_reducible refine LeO.ite ?_ ?_)
   | (with_reducible refine LeO.bind ?_ (fun _ => ?_))
   | exact ih0 _ _ _ _ _
   | exact LeO.none _
   | refine LeO.ite ?_ ?_
   | refine LeO.bind ?_ (fun _ => ?_)
theorem headgatelaw07_made.mono : ∀ a0 k, LeO (headgatelaw07_made.f k a0) (headgatelaw07_made.f (k + 1) a0) := by
 intro a0 k
 have ih0 := headgatelaw07_made.mono_l k
 unfold headgatelaw07_made.f
 repeat' first
   | (with_reducible exact ih0 _ _ _ _ _)
   | (with_reducible exact LeO.refl _)
   | (with_reducible exact LeO.none _)
   | (with_reducible refine LeO.ite ?_ ?_)
   | (with_reducible refine LeO.bind ?_ (fun _ => ?_))
   | exact ih0 _ _ _ _ _
   | exact LeO.none _
   | refine LeO.ite ?_ ?_
   | refine LeO.bind ?_ (fun _ => ?_)

end Go.Proofs.Ytaofihdmgdpenaa.X
