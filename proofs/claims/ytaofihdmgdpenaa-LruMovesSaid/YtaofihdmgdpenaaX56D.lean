/- What Go functions of this seat compute, told as Lean functions, and that each call of the Go code comes to that answer; for a law: its row, for every input. Written by a program of the session. -/
import Derived.Test.YtaofihdmgdpenaaX0
import Derived.Test.YtaofihdmgdpenaaX17
import Derived.Test.YtaofihdmgdpenaaX25
import Derived.Test.YtaofihdmgdpenaaX45
import Derived.Test.YtaofihdmgdpenaaX47
import Derived.Test.YtaofihdmgdpenaaX53
namespace Go.Proofs.Ytaofihdmgdpenaa.X
open Go.RowKit Go.Proofs.YtaofihdmgdpenaaW.PrintWords Go.Proofs.YtaofihdmgdpenaaW.PrintLast Go.Proofs.YtaofihdmgdpenaaW.PrintMore
attribute [local go_sem] max2_int min2_int max_two min_two max_three min_three max_four min_four   -- for this text's walks alone
set_option linter.unusedVariables false
set_option linter.unusedSimpArgs false

/-! ### headgatelaw07_LruMoves: function 5 -/
def headgatelaw07_LruMoves.j0 : Nat → Int → List Int → List Int → List Bool → Option (Bool)
 | 0, _, _, _, _ => none
 | k + 1, x6, x517000, x517001, x517002 => (lru_Promote.f x517000 x517001 x517002).bind fun bt541 => (if bt541.2.2.2.2 = 0 then (if (bt541.1.length : Int) = 0 then (some false) else (if 0 < (bt541.1.length : Int) then (if (rd bt541.1 0) = bt541.2.2.2.1 then (if 0 ≤ (wrap64 ((x517001.length : Int) - 1)) then (if (wrap64 ((x517001.length : Int) - 1)) < (x517001.length : Int) then (if bt541.2.2.2.1 = (rd x517001 (wrap64 ((x517001.length : Int) - 1))) then ((headgatelaw07_without.f k x517001 bt541.2.2.2.1).bind fun t555 => ((headgatekit_SameInts.f k bt541.2.1 t555).bind fun t558 => (if t558 = true then (if 1 ≤ (bt541.1.length : Int) then ((headgatekit_SameInts.f k (bt541.1.drop 1) x517000).bind fun t563 => (if t563 = true then ((headgatelaw07_bits.f k bt541.1 bt541.2.1 bt541.2.2.1 x517000 x517001 x517002 bt541.2.2.2.1).bind fun t564 => (if t564 = true then (if ((x6 == 0) == (decide ((x517000.length : Int) > 0))) = true then (if ((bt541.2.2.2.2 == 0) == (decide ((x517001.length : Int) > 0))) = true then ((headgatelaw07_awake.f).bind fun t565 => (some t565)) else (some false)) else (some false)) else (some false))) else (some false))) else (none)) else (some false)))) else (some false)) else (none)) else (none)) else (some false)) else (none))) else (if ((x6 == 0) == (decide ((x517000.length : Int) > 0))) = true then (if ((bt541.2.2.2.2 == 0) == (decide ((x517001.length : Int) > 0))) = true then ((headgatelaw07_awake.f).bind fun t566 => (some t566)) else (some false)) else (some false)))
def headgatelaw07_LruMoves.f (k : Nat) (l0 : List Int) : Option (Bool) := (headgatelaw07_made.f k l0).bind fun bt507 => ((lru_Demote.f bt507.1 bt507.2.1 bt507.2.2).bind fun bt517 => (if bt517.2.2.2.2 = 0 then (if (bt517.2.1.length : Int) = 0 then (some false) else (if 0 < (bt517.2.1.length : Int) then (if (rd bt517.2.1 0) = bt517.2.2.2.1 then (if 0 ≤ (wrap64 ((bt507.1.length : Int) - 1)) then (if (wrap64 ((bt507.1.length : Int) - 1)) < (bt507.1.length : Int) then (if bt517.2.2.2.1 = (rd bt507.1 (wrap64 ((bt507.1.length : Int) - 1))) then ((headgatelaw07_without.f k bt507.1 bt517.2.2.2.1).bind fun t531 => ((headgatekit_SameInts.f k bt517.1 t531).bind fun t534 => (if t534 = true then (if 1 ≤ (bt517.2.1.length : Int) then ((headgatekit_SameInts.f k (bt517.2.1.drop 1) bt507.2.1).bind fun t539 => (if t539 = true then ((headgatelaw07_bits.f k bt517.1 bt517.2.1 bt517.2.2.1 bt507.1 bt507.2.1 bt507.2.2 bt517.2.2.2.1).bind fun t540 => (if t540 = true then (headgatelaw07_LruMoves.j0 k bt517.2.2.2.2 bt507.1 bt507.2.1 bt507.2.2) else (some false))) else (some false))) else (none)) else (some false)))) else (some false)) else (none)) else (none)) else (some false)) else (none))) else (headgatelaw07_LruMoves.j0 k bt517.2.2.2.2 bt507.1 bt507.2.1 bt507.2.2)))
theorem headgatelaw07_LruMoves.mono_l : ∀ k, (∀ y0 y1 y2 y3, LeO (headgatelaw07_LruMoves.j0 k y0 y1 y2 y3) (headgatelaw07_LruMoves.j0 (k + 1) y0 y1 y2 y3))
 | 0 => fun _ _ _ _ r h => by simp [headgatelaw07_LruMoves.j0] at h
 | k + 1 => by
  have ih0 := headgatelaw07_LruMoves.mono_l k
  ·
   intro y0 y1 y2 y3
   unfold headgatelaw07_LruMoves.j0
   repeat' first
   | (with_reducible exact ih0 _ _ _ _)
   | (with_reducible exact headgatekit_SameInts.mono _ _ _)
   | (with_reducible exact headgatelaw07_bits.mono _ _ _ _ _ _ _ _)
   | (with_reducible exact headgatelaw07_made.mono _ _)
   | (with_reducible exact headgatelaw07_without.mono _ _ _)
   | (with_reducible exact LeO.refl _)
   | (with_reducible exact LeO.none _)
   | (with_reducible refine LeO.ite ?_ ?_)
   | (with_reducible refine LeO.bind ?_ (fun _ => ?_))
   | exact ih0 _ _ _ _
   | exact headgatekit_SameInts.mono _ _ _
   | exact headgatelaw07_bits.mono _ _ _ _ _ _ _ _
   | exact headgatelaw07_made.mono _ _
   | exact headgatelaw07_without.mono _ _ _
   | exact LeO.none _
   | refine LeO.ite ?_ ?_
   | refine LeO.bind ?_ (fun _ => ?_)
theorem headgatelaw07_LruMoves.mono : ∀ a0 k, LeO (headgatelaw07_LruMoves.f k a0) (headgatelaw07_LruMoves.f (k + 1) a0) := by
 intro a0 k
 have ih0 := headgatelaw07_LruMoves.mono_l k
 unfold headgatelaw07_LruMoves.f
 repeat' first
   | (with_reducible exact ih0 _ _ _ _)
   | (with_reducible exact headgatekit_SameInts.mono _ _ _)
   | (with_reducible exact headgatelaw07_bits.mono _ _ _ _ _ _ _ _)
   | (with_reducible exact headgatelaw07_made.mono _ _)
   | (with_reducible exact headgatelaw07_without.mono _ _ _)
   | (with_reducible exact LeO.refl _)
   | (with_reducible exact LeO.none _)
   | (with_reducible refine LeO.ite ?_ ?_)
   | (with_reducible refine LeO.bind ?_ (fun _ => ?_))
   | exact ih0 _ _ _ _
   | exact headgatekit_SameInts.mono _ _ _
   | exact headgatelaw07_bits.mono _ _ _ _ _ _ _ _
   | exact headgatelaw07_made.mono _ _
   | exact headgatelaw07_without.mono _ _ _
   | exact LeO.none _
   | refine LeO.ite ?_ ?_
   | refine LeO.bind ?_ (fun _ => ?_)
def headgatelaw07_LruMoves.T4 : Bool × List (List Nat × List Nat) := (true, [([], []), ([0], [0]), ([1], [1]), ([2], [2]), ([3], [3]), ([4], [4]), ([5, 4], [4, 5]), ([6, 4], [4, 6]), ([7, 4], [4, 7]), ([4], [4]), ([8, 9, 4], [4, 8, 9]), ([4, 10], [4, 10]), ([11, 4], [11]), ([12], [12]), ([12], [12]), ([14, 12], [12, 14]), ([12], [12]), ([16, 12], [12, 16]), ([17, 12], [12, 17]), ([18, 12], [12, 18]), ([15, 19, 12], [12, 15, 19]), ([20, 12], [12, 20]), ([13, 21, 12], [12, 13, 21]), ([12, 22], [12, 22]), ([23, 12], [23]), ([24], [24]), ([25, 24], [24, 25]), ([24], [24]), ([27, 24], [24, 27]), ([24], [24]), ([28, 29, 24, 24], [24, 28, 29]), ([26, 30, 30, 24], [24, 26, 30]), ([31, 24], [24, 31]), ([24, 32], [24, 32]), ([33, 31], [33]), ([34], [34]), ([35, 34], [34, 35]), ([36, 34], [34, 36]), ([34], [34]), ([38, 34], [34, 38]), ([37, 39, 34, 34], [34, 37, 39]), ([40, 34], [34, 40]), ([34, 41], [34, 41]), ([42, 40], [42]), ([43], [43]), ([43], [43]), ([43], [43]), ([44, 45, 46, 43, 43], [43, 44, 45, 46]), ([47, 43], [43, 47]), ([43, 48], [43, 48])])
def headgatelaw07_LruMoves.B4 : List Nat := [0, 1, 3, 7, 15, 31, 63, 127, 255, 31, 1023, 2047, 4095, 8191, 8191, 24575, 8191, 73727, 204799, 466943, 1040383, 2088959, 4194303, 8388607, 16777215, 33554431, 67108863, 33554431, 167772159, 33554431, 973078527, 2147483647, 4294967295, 8589934591, 17179869183, 34359738367, 68719476735, 137438953471, 34359738367, 309237645311, 1099511627775, 2199023255551, 4398046511103, 8796093022207, 17592186044415, 17592186044415, 17592186044415, 140737488355327, 281474976710655, 562949953421311]
theorem headgatelaw07_LruMoves.tab4 : rtab .any (opsOf Try.f5 4) = headgatelaw07_LruMoves.T4 := by kernel_rfl
theorem headgatelaw07_LruMoves.bits4 : waitsOk headgatelaw07_LruMoves.T4.2 headgatelaw07_LruMoves.B4 = true := by kernel_rfl
def headgatelaw07_LruMoves.T8 : Bool × List (List Nat × List Nat) := (true, [([], []), ([0], [0]), ([1], [1]), ([2], [2]), ([3], [3]), ([4], [4]), ([5, 4], [4, 5]), ([6, 4], [4, 6]), ([7, 4], [4, 7]), ([4], [4]), ([8, 9, 4], [4, 8, 9]), ([4, 10], [4, 10]), ([11, 4], [11]), ([12], [12]), ([12], [12]), ([14, 12], [12, 14]), ([12], [12]), ([16, 12], [12, 16]), ([17, 12], [12, 17]), ([18, 12], [12, 18]), ([15, 19, 12], [12, 15, 19]), ([20, 12], [12, 20]), ([13, 21, 12], [12, 13, 21]), ([12, 22], [12, 22]), ([23, 12], [23]), ([24], [24]), ([25, 24], [24, 25]), ([24], [24]), ([27, 24], [24, 27]), ([24], [24]), ([28, 29, 24, 24], [24, 28, 29]), ([26, 30, 30, 24], [24, 26, 30]), ([31, 24], [24, 31]), ([24, 32], [24, 32]), ([33, 31], [33]), ([34], [34]), ([35, 34], [34, 35]), ([36, 34], [34, 36]), ([34], [34]), ([38, 34], [34, 38]), ([37, 39, 34, 34], [34, 37, 39]), ([40, 34], [34, 40]), ([34, 41], [34, 41]), ([42, 40], [42]), ([43], [43]), ([43], [43]), ([43], [43]), ([44, 45, 46, 43, 43], [43, 44, 45, 46]), ([47, 43], [43, 47]), ([43, 48], [43, 48])])
def headgatelaw07_LruMoves.B8 : List Nat := [0, 1, 3, 7, 15, 31, 63, 127, 255, 31, 1023, 2047, 4095, 8191, 8191, 24575, 8191, 73727, 204799, 466943, 1040383, 2088959, 4194303, 8388607, 16777215, 33554431, 67108863, 33554431, 167772159, 33554431, 973078527, 2147483647, 4294967295, 8589934591, 17179869183, 34359738367, 68719476735, 137438953471, 34359738367, 309237645311, 1099511627775, 2199023255551, 4398046511103, 8796093022207, 17592186044415, 17592186044415, 17592186044415, 140737488355327, 281474976710655, 562949953421311]
theorem headgatelaw07_LruMoves.tab8 : rtab .any (opsOf Try.f5 8) = headgatelaw07_LruMoves.T8 := by kernel_rfl
theorem headgatelaw07_LruMoves.bits8 : waitsOk headgatelaw07_LruMoves.T8.2 headgatelaw07_LruMoves.B8 = true := by kernel_rfl

end Go.Proofs.Ytaofihdmgdpenaa.X
