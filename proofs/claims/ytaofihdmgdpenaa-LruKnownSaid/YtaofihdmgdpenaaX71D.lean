/- What Go functions of this seat compute, told as Lean functions, and that each call of the Go code comes to that answer; for a law: its row, for every input. Written by a program of the session. -/
import Derived.Test.YtaofihdmgdpenaaX0
import Derived.Test.YtaofihdmgdpenaaX10
import Derived.Test.YtaofihdmgdpenaaX17
import Derived.Test.YtaofihdmgdpenaaX23
import Derived.Test.YtaofihdmgdpenaaX35
import Derived.Test.YtaofihdmgdpenaaX40
import Derived.Test.YtaofihdmgdpenaaX47
import Derived.Test.YtaofihdmgdpenaaX12
namespace Go.Proofs.Ytaofihdmgdpenaa.X
open Go.RowKit Go.Proofs.YtaofihdmgdpenaaW.PrintWords Go.Proofs.YtaofihdmgdpenaaW.PrintLast Go.Proofs.YtaofihdmgdpenaaW.PrintMore
attribute [local go_sem] max2_int min2_int max_two min_two max_three min_three max_four min_four   -- for this text's walks alone
set_option linter.unusedVariables false
set_option linter.unusedSimpArgs false

/-! ### headgatelaw07_LruKnown: function 9 -/
def headgatelaw07_LruKnown.f : Option (Bool) := some true
def headgatelaw07_LruKnown.T3 : Bool × List (List Nat × List Nat) := (true, [([], []), ([0], [0]), ([1], [1]), ([2], [2]), ([3, 2], [2, 3]), ([2, 4], [2, 4]), ([5, 2], [5]), ([6], [6]), ([6], [6]), ([6], [6]), ([8, 9, 6, 6], [6, 8, 9]), ([6], [6]), ([7, 10, 11, 10, 6], [6, 7, 10, 11]), ([12, 6], [6, 12]), ([6, 13], [6, 13]), ([14, 12], [14]), ([15], [15]), ([15], [15]), ([15], [15]), ([17, 18, 15, 15], [15, 17, 18]), ([15], [15]), ([16, 19, 20, 19, 15], [15, 16, 19, 20]), ([21, 15], [15, 21]), ([15, 22], [15, 22])])
def headgatelaw07_LruKnown.B3 : List Nat := [0, 1, 3, 7, 15, 31, 63, 127, 127, 127, 895, 127, 4095, 8191, 16383, 32767, 65535, 65535, 65535, 458751, 65535, 2097151, 4194303, 8388607]
theorem headgatelaw07_LruKnown.tab3 : rtab .any (opsOf Try.f9 3) = headgatelaw07_LruKnown.T3 := by kernel_rfl
theorem headgatelaw07_LruKnown.bits3 : waitsOk headgatelaw07_LruKnown.T3.2 headgatelaw07_LruKnown.B3 = true := by kernel_rfl
def headgatelaw07_LruKnown.T7 : Bool × List (List Nat × List Nat) := (true, [([], []), ([0], [0]), ([1], [1]), ([2], [2]), ([2], [2]), ([2], [2]), ([2], [2]), ([4, 5, 6, 2, 2], [2, 4, 5, 6]), ([2], [2]), ([3, 7, 8, 7, 2], [2, 3, 7, 8]), ([9, 2], [2, 9]), ([2, 10], [2, 10]), ([11, 9], [11]), ([12], [12]), ([12], [12]), ([12], [12]), ([14, 15, 12, 12], [12, 14, 15]), ([12], [12]), ([13, 16, 17, 16, 12], [12, 13, 16, 17]), ([18, 12], [12, 18]), ([12, 19], [12, 19])])
def headgatelaw07_LruKnown.B7 : List Nat := [0, 1, 3, 7, 7, 7, 7, 119, 7, 511, 1023, 2047, 4095, 8191, 8191, 8191, 57343, 8191, 262143, 524287, 1048575]
theorem headgatelaw07_LruKnown.tab7 : rtab .any (opsOf Try.f9 7) = headgatelaw07_LruKnown.T7 := by kernel_rfl
theorem headgatelaw07_LruKnown.bits7 : waitsOk headgatelaw07_LruKnown.T7.2 headgatelaw07_LruKnown.B7 = true := by kernel_rfl
def headgatelaw07_LruKnown.T21 : Bool × List (List Nat × List Nat) := (true, [([], []), ([], []), ([1], [1]), ([], []), ([0, 2, 3, 2], [0, 2, 3]), ([4], [4]), ([5, 4], [5]), ([6], [6]), ([7, 6], [6, 7]), ([6, 8], [6, 8]), ([9, 6], [9]), ([10], [10]), ([11, 10], [10, 11]), ([10, 12], [10, 12]), ([13, 10], [13]), ([14], [14]), ([15, 14], [14, 15]), ([14, 16], [14, 16]), ([17, 14], [17]), ([18], [18]), ([19, 18], [18, 19]), ([18, 20], [18, 20]), ([21, 18], [21]), ([22], [22]), ([22], [22]), ([23, 24, 22, 22], [22, 23, 24]), ([25, 22], [22, 25]), ([22, 26], [22, 26]), ([27, 25], [27]), ([28], [28]), ([29, 28], [28, 29]), ([28, 30], [28, 30])])
def headgatelaw07_LruKnown.B21 : List Nat := [0, 0, 2, 0, 15, 31, 63, 127, 255, 511, 1023, 2047, 4095, 8191, 16383, 32767, 65535, 131071, 262143, 524287, 1048575, 2097151, 4194303, 8388607, 8388607, 33554431, 67108863, 134217727, 268435455, 536870911, 1073741823, 2147483647]
theorem headgatelaw07_LruKnown.tab21 : rtab .any (opsOf Try.f9 21) = headgatelaw07_LruKnown.T21 := by kernel_rfl
theorem headgatelaw07_LruKnown.bits21 : waitsOk headgatelaw07_LruKnown.T21.2 headgatelaw07_LruKnown.B21 = true := by kernel_rfl

end Go.Proofs.Ytaofihdmgdpenaa.X
