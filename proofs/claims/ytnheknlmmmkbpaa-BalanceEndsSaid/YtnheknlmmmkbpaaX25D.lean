/- What Go functions of this seat compute, told as Lean functions, and that each call of the Go code comes to that answer; for a law: its row, for every input. Written by a program of the session. -/
import Derived.Test.YtnheknlmmmkbpaaX0
import Derived.Test.YtnheknlmmmkbpaaX1
import Derived.Test.YtnheknlmmmkbpaaX24
namespace Go.Proofs.Ytnheknlmmmkbpaa.X
open Go.RowKit Go.Proofs.YtnheknlmmmkbpaaW.PrintWords Go.Proofs.YtnheknlmmmkbpaaW.PrintLast Go.Proofs.YtnheknlmmmkbpaaW.PrintMore
attribute [local go_sem] max2_int min2_int max_two min_two max_three min_three max_four min_four   -- for this text's walks alone
set_option linter.unusedVariables false
set_option linter.unusedSimpArgs false

/-! ### headgatelaw31_made: function 17 -/
def headgatelaw31_made.l0 : Nat → List Int → Int → List Int → List Int → List Bool → Option (List Int × List Int × List Bool)
 | 0, _, _, _, _, _ => none
 | k + 1, x0, x4, x199000, x199001, x199002 => if x4 < 16 then ((headgatekit_At.f x0 x4).bind fun t199 => ((headgatekit_Mod.f t199 24).bind fun t200 => (if (Int.tmod t200 3) = 1 then (if x199000.length < 17592186044416 then ((some (x199000 ++ [Int.tmod (wrap64 ((wrap64 (5 * x4)) + 3)) 16] : List Int)).bind fun y201 => (if (Int.tmod t200 3) > 0 then (if 0 ≤ (Int.tmod (wrap64 ((wrap64 (5 * x4)) + 3)) 16) then (if (Int.tmod (wrap64 ((wrap64 (5 * x4)) + 3)) 16) < (x199002.length : Int) then (headgatelaw31_made.l0 k x0 (wrap64 (x4 + 1)) y201 x199001 (x199002.set ((Int.tmod (wrap64 ((wrap64 (5 * x4)) + 3)) 16) : Int).toNat ((Int.tmod (wrap64 (Int.tdiv t200 3)) 2) == 1))) else (none)) else (none)) else (if 0 ≤ (Int.tmod (wrap64 ((wrap64 (5 * x4)) + 3)) 16) then (if (Int.tmod (wrap64 ((wrap64 (5 * x4)) + 3)) 16) < (x199002.length : Int) then (headgatelaw31_made.l0 k x0 (wrap64 (x4 + 1)) y201 x199001 (x199002.set ((Int.tmod (wrap64 ((wrap64 (5 * x4)) + 3)) 16) : Int).toNat false)) else (none)) else (none)))) else (none)) else (if (Int.tmod t200 3) = 2 then ((some (([Int.tmod (wrap64 ((wrap64 (5 * x4)) + 3)) 16] : List Int) : List Int)).bind fun y206 => (if y206.length + x199001.length < 17592186044416 then ((some (y206 ++ x199001 : List Int)).bind fun y209 => (if (Int.tmod t200 3) > 0 then (if 0 ≤ (Int.tmod (wrap64 ((wrap64 (5 * x4)) + 3)) 16) then (if (Int.tmod (wrap64 ((wrap64 (5 * x4)) + 3)) 16) < (x199002.length : Int) then (headgatelaw31_made.l0 k x0 (wrap64 (x4 + 1)) x199000 y209 (x199002.set ((Int.tmod (wrap64 ((wrap64 (5 * x4)) + 3)) 16) : Int).toNat ((Int.tmod (wrap64 (Int.tdiv t200 3)) 2) == 1))) else (none)) else (none)) else (if 0 ≤ (Int.tmod (wrap64 ((wrap64 (5 * x4)) + 3)) 16) then (if (Int.tmod (wrap64 ((wrap64 (5 * x4)) + 3)) 16) < (x199002.length : Int) then (headgatelaw31_made.l0 k x0 (wrap64 (x4 + 1)) x199000 y209 (x199002.set ((Int.tmod (wrap64 ((wrap64 (5 * x4)) + 3)) 16) : Int).toNat false)) else (none)) else (none)))) else (none))) else (if (Int.tmod t200 3) > 0 then (if 0 ≤ (Int.tmod (wrap64 ((wrap64 (5 * x4)) + 3)) 16) then (if (Int.tmod (wrap64 ((wrap64 (5 * x4)) + 3)) 16) < (x199002.length : Int) then (headgatelaw31_made.l0 k x0 (wrap64 (x4 + 1)) x199000 x199001 (x199002.set ((Int.tmod (wrap64 ((wrap64 (5 * x4)) + 3)) 16) : Int).toNat ((Int.tmod (wrap64 (Int.tdiv t200 3)) 2) == 1))) else (none)) else (none)) else (if 0 ≤ (Int.tmod (wrap64 ((wrap64 (5 * x4)) + 3)) 16) then (if (Int.tmod (wrap64 ((wrap64 (5 * x4)) + 3)) 16) < (x199002.length : Int) then (headgatelaw31_made.l0 k x0 (wrap64 (x4 + 1)) x199000 x199001 (x199002.set ((Int.tmod (wrap64 ((wrap64 (5 * x4)) + 3)) 16) : Int).toNat false)) else (none)) else (none))))))) else (some (x199000, x199001, x199002))
def headgatelaw31_made.f (k : Nat) (l0 : List Int) : Option (List Int × List Int × List Bool) := if 16 ≤ 281474976710656 then (headgatelaw31_made.l0 k l0 0 ([] : List Int) ([] : List Int) (List.replicate 16 false)) else (none)
theorem headgatelaw31_made.mono_l : ∀ k, (∀ y0 y1 y2 y3 y4, LeO (headgatelaw31_made.l0 k y0 y1 y2 y3 y4) (headgatelaw31_made.l0 (k + 1) y0 y1 y2 y3 y4))
 | 0 => fun _ _ _ _ _ r h => by simp [headgatelaw31_made.l0] at h
 | k + 1 => by
  have ih0 := headgatelaw31_made.mono_l k
  ·
   intro y0 y1 y2 y3 y4
   unfold headgatelaw31_made.l0
   repeat' first
   | (with_reducible exact ih0 _ _ _ _ _)
   | (with_reducible exact LeO.refl _)
   | (with_reducible exact LeO.none _)
   | (with_reducible refine LeO.ite ?_ ?_)
   | (with_reducible refine LeO.bind ?_ (fun _ => ?_))
   | exact ih0 _ _ _ _ _
   | exact LeO.none _
   | refine LeO.ite ?_ ?_
   | refine LeO.bind ?_ (fun _ => ?_)
theorem headgatelaw31_made.mono : ∀ a0 k, LeO (headgatelaw31_made.f k a0) (headgatelaw31_made.f (k + 1) a0) := by
 intro a0 k
 have ih0 := headgatelaw31_made.mono_l k
 unfold headgatelaw31_made.f
 repeat' first
   | (with_reducible exact ih0 _ _ _ _ _)
   | (with_reducible exact LeO.refl _)
   | (with_reducible exact LeO.none _)
   | (with_reducible refine LeO.ite ?_ ?_)
   | (with_reducible refine LeO.bind ?_ (fun _ => ?_))
   | exact ih0 _ _ _ _ _
   | exact LeO.none _
   | refine LeO.ite ?_ ?_
   | refine LeO.bind ?_ (fun _ => ?_)

end Go.Proofs.Ytnheknlmmmkbpaa.X
