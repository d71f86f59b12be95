/- What Go functions of this seat compute, told as Lean functions, and that each call of the Go code comes to that answer; for a law: its row, for every input. Written by a program of the session. -/
import Derived.Test.YtfnhoncpaheejaaX0
import Derived.Test.YtfnhoncpaheejaaX1
import Derived.Test.YtfnhoncpaheejaaX2
import Derived.Test.YtfnhoncpaheejaaX3
import Derived.Test.YtfnhoncpaheejaaX12
import Derived.Test.YtfnhoncpaheejaaX16
import Derived.Test.YtfnhoncpaheejaaX26
namespace Go.Proofs.Ytfnhoncpaheejaa.X
open Go.RowKit Go.Proofs.YtfnhoncpaheejaaW.PrintWords Go.Proofs.YtfnhoncpaheejaaW.PrintLast Go.Proofs.YtfnhoncpaheejaaW.PrintMore
attribute [local go_sem] max2_int min2_int max_two min_two max_three min_three max_four min_four   -- for this text's walks alone
set_option linter.unusedVariables false
set_option linter.unusedSimpArgs false

attribute [local go_sem high] eqA32
/-! ### headgatelaw19_HeldOrder: function 4 -/
def headgatelaw19_HeldOrder.f (k : Nat) (l0 : List Int) (a1 : Int) (a2 : Int) : Option (Bool) := (headgatelaw19_made.f k l0).bind fun t197 => (if (t197.length : Int) < 2 then ((headgatelaw19_awake.f k).bind fun t200 => (some t200)) else ((headgatekit_Mod.f a1 (t197.length : Int)).bind fun t201 => ((headgatekit_Mod.f a2 (wrap64 ((t197.length : Int) - 1))).bind fun t202 => (if (t197.length : Int) = 0 then (none) else (if 0 ≤ t201 then (if t201 < (t197.length : Int) then ((held_Remove.f t197 ((rd_T32 t197 t201).f0)).bind fun bt204 => (if 0 ≤ (Int.tmod (wrap64 ((wrap64 (t201 + 1)) + t202)) (t197.length : Int)) then (if (Int.tmod (wrap64 ((wrap64 (t201 + 1)) + t202)) (t197.length : Int)) < (t197.length : Int) then ((held_Remove.f bt204.1 ((rd_T32 t197 (Int.tmod (wrap64 ((wrap64 (t201 + 1)) + t202)) (t197.length : Int))).f0)).bind fun bt213 => ((held_Remove.f t197 ((rd_T32 t197 (Int.tmod (wrap64 ((wrap64 (t201 + 1)) + t202)) (t197.length : Int))).f0)).bind fun bt222 => ((held_Remove.f bt222.1 ((rd_T32 t197 t201).f0)).bind fun bt231 => (if bt204.2.2.2.2 = 0 then (if bt213.2.2.2.2 = 0 then (if bt222.2.2.2.2 = 0 then (if bt231.2.2.2.2 = 0 then (if (bt204.2.1 == bt231.2.1 && (bt204.2.2.1 == bt231.2.2.1 && (bt204.2.2.2.1 == bt231.2.2.2.1))) = true then (if (bt213.2.1 == bt222.2.1 && (bt213.2.2.1 == bt222.2.2.1 && (bt213.2.2.2.1 == bt222.2.2.2.1))) = true then (if (bt204.2.1 == ((rd_T32 t197 t201).f0) && (bt204.2.2.1 == ((rd_T32 t197 t201).f1) && (bt204.2.2.2.1 == ((rd_T32 t197 t201).f2)))) = true then (if (bt213.2.1 == ((rd_T32 t197 (Int.tmod (wrap64 ((wrap64 (t201 + 1)) + t202)) (t197.length : Int))).f0) && (bt213.2.2.1 == ((rd_T32 t197 (Int.tmod (wrap64 ((wrap64 (t201 + 1)) + t202)) (t197.length : Int))).f1) && (bt213.2.2.2.1 == ((rd_T32 t197 (Int.tmod (wrap64 ((wrap64 (t201 + 1)) + t202)) (t197.length : Int))).f2)))) = true then ((headgatekit_SameWrites.f k bt213.1 bt231.1).bind fun t241 => (if t241 = true then (if (bt213.1.length : Int) = (wrap64 ((t197.length : Int) - 2)) then ((headgatelaw19_awake.f k).bind fun t242 => (some t242)) else (some false)) else (some false))) else (some false)) else (some false)) else (some false)) else (some false)) else (some false)) else (some false)) else (some false)) else (some false))))) else (none)) else (none))) else (none)) else (none))))))
theorem headgatelaw19_HeldOrder.mono : ∀ a0 a1 a2 k, LeO (headgatelaw19_HeldOrder.f k a0 a1 a2) (headgatelaw19_HeldOrder.f (k + 1) a0 a1 a2) := by
 intro a0 a1 a2 k
 unfold headgatelaw19_HeldOrder.f
 repeat' first
   | (with_reducible exact headgatekit_SameWrites.mono _ _ _)
   | (with_reducible exact headgatelaw19_awake.mono _)
   | (with_reducible exact headgatelaw19_made.mono _ _)
   | (with_reducible exact LeO.refl _)
   | (with_reducible exact LeO.none _)
   | (with_reducible refine LeO.ite ?_ ?_)
   | (with_reducible refine LeO.bind ?_ (fun _ => ?_))
   | exact headgatekit_SameWrites.mono _ _ _
   | exact headgatelaw19_awake.mono _
   | exact headgatelaw19_made.mono _ _
   | exact LeO.none _
   | refine LeO.ite ?_ ?_
   | refine LeO.bind ?_ (fun _ => ?_)
def headgatelaw19_HeldOrder.T10 : Bool × List (List Nat × List Nat) := (true, [([], []), ([0], [0]), ([1], [1]), ([2], [2]), ([3, 2], [2, 3]), ([2, 4], [2, 4]), ([5, 2], [5]), ([6], [6]), ([7, 6], [6, 7]), ([6, 8], [6, 8]), ([9, 6], [9]), ([10], [10]), ([11, 10], [10, 11]), ([10, 12], [10, 12]), ([13, 10], [13]), ([14], [14]), ([14], [14]), ([15, 16, 14], [14, 15, 16]), ([14, 17], [14, 17]), ([18, 14], [18]), ([19], [19]), ([19], [19]), ([20, 21, 19], [19, 20, 21]), ([19, 22], [19, 22]), ([23, 19], [23]), ([24], [24]), ([24], [24]), ([24], [24]), ([26, 27, 24], [24, 26, 27]), ([28, 24], [24, 28]), ([25, 29, 24], [24, 25, 29]), ([24, 30], [24, 30]), ([31, 24], [31]), ([32], [32]), ([32], [32]), ([32], [32]), ([34, 35, 32], [32, 34, 35]), ([36, 32], [32, 36]), ([33, 37, 32], [32, 33, 37]), ([32, 38], [32, 38]), ([39, 32], [39]), ([40], [40]), ([40], [40]), ([41, 42, 40, 40], [40, 41, 42]), ([40, 43], [40, 43]), ([44, 43], [44]), ([45], [45]), ([46, 45], [45, 46]), ([45], [45]), ([48, 45], [45, 48]), ([49, 45], [45, 49]), ([47, 50, 45], [45, 47, 50]), ([45, 51], [45, 51]), ([52, 45], [52]), ([53, 53], [53]), ([53, 54], [53, 54]), ([55, 54, 0, 1, 2, 3, 4, 5, 6, 7, 8, 9, 10, 11, 12, 13, 14, 15, 16, 17, 18, 19, 20, 21, 22, 23, 24, 25, 26, 27, 28, 29, 30, 31, 32, 33, 34, 35, 36, 37, 38, 39, 40, 41, 42, 43, 44, 45, 46, 47, 48, 49, 50, 51, 52, 53, 54, 55], [55])])
def headgatelaw19_HeldOrder.B10 : List Nat := [0, 1, 3, 7, 15, 31, 63, 127, 255, 511, 1023, 2047, 4095, 8191, 16383, 32767, 32767, 131071, 262143, 524287, 1048575, 1048575, 4194303, 8388607, 16777215, 33554431, 33554431, 33554431, 234881023, 503316479, 1073741823, 2147483647, 4294967295, 8589934591, 8589934591, 8589934591, 60129542143, 128849018879, 274877906943, 549755813887, 1099511627775, 2199023255551, 2199023255551, 8796093022207, 17592186044415, 35184372088831, 70368744177663, 140737488355327, 70368744177663, 351843720888319, 914793674309631, 2251799813685247, 4503599627370495, 9007199254740991, 18014398509481983, 36028797018963967, 72057594037927935]
theorem headgatelaw19_HeldOrder.tab10 : rtab .any (opsOf Try.f4 10) = headgatelaw19_HeldOrder.T10 := by kernel_rfl
theorem headgatelaw19_HeldOrder.bits10 : waitsOk headgatelaw19_HeldOrder.T10.2 headgatelaw19_HeldOrder.B10 = true := by kernel_rfl

end Go.Proofs.Ytfnhoncpaheejaa.X
