/- What Go functions of this seat compute, told as Lean functions, and that each call of the Go code comes to that answer; for a law: its row, for every input. Written by a program of the session. -/
import Derived.Test.YtfnhoncpaheejaaX0
import Derived.Test.YtfnhoncpaheejaaX1
import Derived.Test.YtfnhoncpaheejaaX2
import Derived.Test.YtfnhoncpaheejaaX3
import Derived.Test.YtfnhoncpaheejaaX11
import Derived.Test.YtfnhoncpaheejaaX13
import Derived.Test.YtfnhoncpaheejaaX16
import Derived.Test.YtfnhoncpaheejaaX17
import Derived.Test.YtfnhoncpaheejaaX18
import Derived.Test.YtfnhoncpaheejaaX19
namespace Go.Proofs.Ytfnhoncpaheejaa.X
open Go.RowKit Go.Proofs.YtfnhoncpaheejaaW.PrintWords Go.Proofs.YtfnhoncpaheejaaW.PrintLast Go.Proofs.YtfnhoncpaheejaaW.PrintMore
attribute [local go_sem] max2_int min2_int max_two min_two max_three min_three max_four min_four   -- for this text's walks alone
set_option linter.unusedVariables false
set_option linter.unusedSimpArgs false

attribute [local go_sem high] eqA32
/-! ### headgatelaw19_HeldOne: function 3 -/
mutual
def headgatelaw19_HeldOne.j0 : Nat → List (S32) → Int → Int → List (S32) → Bool → Option (Bool)
 | 0, _, _, _, _, _ => none
 | k + 1, x7, x8, x9, x10, x101 => if x101 = true then (some false) else (headgatelaw19_HeldOne.l0 k x7 x8 x9 x10 0)
def headgatelaw19_HeldOne.l0 : Nat → List (S32) → Int → Int → List (S32) → Int → Option (Bool)
 | 0, _, _, _, _, _ => none
 | k + 1, x7, x8, x9, x10, x15 => if x15 < (x7.length : Int) then (if 0 ≤ x15 then (if x15 = x8 then (if x15 < (x10.length : Int) then (if (!(((rd_T32 x10 x15).f0) == ((rd_T32 x7 x15).f0)) || (!(((rd_T32 x10 x15).f1) == ((rd_T32 x7 x15).f1)) || (!(((rd_T32 x10 x15).f2) == x9)))) = true then (some false) else (headgatelaw19_HeldOne.l0 k x7 x8 x9 x10 (wrap64 (x15 + 1)))) else (none)) else (if x15 < (x10.length : Int) then (if (!(((rd_T32 x10 x15).f0) == ((rd_T32 x7 x15).f0)) || (!(((rd_T32 x10 x15).f1) == ((rd_T32 x7 x15).f1)) || (!(((rd_T32 x10 x15).f2) == ((rd_T32 x7 x15).f2))))) = true then (some false) else (headgatelaw19_HeldOne.l0 k x7 x8 x9 x10 (wrap64 (x15 + 1)))) else (none))) else (none)) else ((held_Of.f x10 x9).bind fun bt183 => ((held_Unclaim.f x10 x9).bind fun bt189 => (if bt183.2.2.2.2 = 0 then (if bt183.2.2.2.1 = true then (if 0 ≤ x8 then (if x8 < (x10.length : Int) then (if (bt183.1 == ((rd_T32 x10 x8).f0) && (bt183.2.1 == ((rd_T32 x10 x8).f1) && (bt183.2.2.1 == ((rd_T32 x10 x8).f2)))) = true then (if bt189.2.1 = true then ((headgatelaw19_is.f k bt189.1 x7 bt189.2.2).bind fun t195 => (if t195 = true then ((headgatelaw19_awake.f k).bind fun t196 => (some t196)) else (some false))) else (some false)) else (some false)) else (none)) else (none)) else (some false)) else (some false))))
end
def headgatelaw19_HeldOne.f (k : Nat) (l0 : List Int) (a1 : Int) (a2 : Int) : Option (Bool) := (headgatelaw19_made.f k l0).bind fun t152 => (if (t152.length : Int) = 0 then ((headgatelaw19_awake.f k).bind fun t155 => (some t155)) else ((headgatekit_Mod.f a1 (t152.length : Int)).bind fun t156 => ((headgatekit_Mod.f a2 8).bind fun t157 => ((headgatekit_OwnWrites.f t152).bind fun t158 => (if 0 ≤ t156 then (if t156 < (t152.length : Int) then ((held_Claim.f t158 ((rd_T32 t152 t156).f0) (wrap64 (1 + t157))).bind fun bt162 => ((held_Of.f t152 (wrap64 (1 + t157))).bind fun bt166 => (if bt166.2.2.2.2 = 0 then (if bt162.2 = 0 then (if ((rd_T32 t152 t156).f2) = 0 then (if bt166.2.2.2.1 = true then (headgatelaw19_HeldOne.j0 k t152 t156 (wrap64 (1 + t157)) bt162.1 true) else (headgatelaw19_HeldOne.j0 k t152 t156 (wrap64 (1 + t157)) bt162.1 ((bt162.1.length : Int) != (t152.length : Int)))) else (headgatelaw19_HeldOne.j0 k t152 t156 (wrap64 (1 + t157)) bt162.1 true)) else (if bt162.2 = 9 then (if ((rd_T32 t152 t156).f2) = 0 then (if bt162.2 = 7 then (if bt166.2.2.2.1 = true then (if (!(bt166.1 == ((rd_T32 t152 t156).f0)) || (!(bt166.2.1 == ((rd_T32 t152 t156).f1)) || (!(bt166.2.2.1 == ((rd_T32 t152 t156).f2))))) = true then ((headgatelaw19_awake.f k).bind fun t174 => (some t174)) else (some false)) else (some false)) else (some false)) else ((headgatelaw19_awake.f k).bind fun t175 => (some t175))) else (if bt162.2 = 7 then (if bt166.2.2.2.1 = true then (if (!(bt166.1 == ((rd_T32 t152 t156).f0)) || (!(bt166.2.1 == ((rd_T32 t152 t156).f1)) || (!(bt166.2.2.1 == ((rd_T32 t152 t156).f2))))) = true then ((headgatelaw19_awake.f k).bind fun t177 => (some t177)) else (some false)) else (some false)) else (some false)))) else (some false)))) else (none)) else (none))))))
theorem headgatelaw19_HeldOne.mono_l : ∀ k, (∀ y0 y1 y2 y3 y4, LeO (headgatelaw19_HeldOne.j0 k y0 y1 y2 y3 y4) (headgatelaw19_HeldOne.j0 (k + 1) y0 y1 y2 y3 y4)) ∧ (∀ y0 y1 y2 y3 y4, LeO (headgatelaw19_HeldOne.l0 k y0 y1 y2 y3 y4) (headgatelaw19_HeldOne.l0 (k + 1) y0 y1 y2 y3 y4))
 | 0 => ⟨fun _ _ _ _ _ r h => by simp [headgatelaw19_HeldOne.j0] at h, fun _ _ _ _ _ r h => by simp [headgatelaw19_HeldOne.l0] at h⟩
 | k + 1 => by
  obtain ⟨ih0, ih1⟩ := headgatelaw19_HeldOne.mono_l k
  refine ⟨?_, ?_⟩
  ·
   intro y0 y1 y2 y3 y4
   unfold headgatelaw19_HeldOne.j0
   repeat' first
   | (with_reducible exact ih0 _ _ _ _ _)
   | (with_reducible exact ih1 _ _ _ _ _)
   | (with_reducible exact headgatelaw19_awake.mono _)
   | (with_reducible exact headgatelaw19_is.mono _ _ _ _)
   | (with_reducible exact headgatelaw19_made.mono _ _)
   | (with_reducible exact LeO.refl _)
   | (with_reducible exact LeO.none _)
   | (with_reducible refine LeO.ite ?_ ?_)
   | (with_reducible refine LeO.bind ?_ (fun _ => ?_))
   | exact ih0 _ _ _ _ _
   | exact ih1 _ _ _ _ _
   | exact headgatelaw19_awake.mono _
   | exact headgatelaw19_is.mono _ _ _ _
   | exact headgatelaw19_made.mono _ _
   | exact LeO.none _
   | refine LeO.ite ?_ ?_
   | refine LeO.bind ?_ (fun _ => ?_)
  ·
   intro y0 y1 y2 y3 y4
   unfold headgatelaw19_HeldOne.l0
   repeat' first
   | (with_reducible exact ih0 _ _ _ _ _)
   | (with_reducible exact ih1 _ _ _ _ _)
   | (with_reducible exact headgatelaw19_awake.mono _)
   | (with_reducible exact headgatelaw19_is.mono _ _ _ _)
   | (with_reducible exact headgatelaw19_made.mono _ _)
   | (with_reducible exact LeO.refl _)
   | (with_reducible exact LeO.none _)
   | (with_reducible refine LeO.ite ?_ ?_)
   | (with_reducible refine LeO.bind ?_ (fun _ => ?_))
   | exact ih0 _ _ _ _ _
   | exact ih1 _ _ _ _ _
   | exact headgatelaw19_awake.mono _
   | exact headgatelaw19_is.mono _ _ _ _
   | exact headgatelaw19_made.mono _ _
   | exact LeO.none _
   | refine LeO.ite ?_ ?_
   | refine LeO.bind ?_ (fun _ => ?_)
theorem headgatelaw19_HeldOne.mono : ∀ a0 a1 a2 k, LeO (headgatelaw19_HeldOne.f k a0 a1 a2) (headgatelaw19_HeldOne.f (k + 1) a0 a1 a2) := by
 intro a0 a1 a2 k
 obtain ⟨ih0, ih1⟩ := headgatelaw19_HeldOne.mono_l k
 unfold headgatelaw19_HeldOne.f
 repeat' first
   | (with_reducible exact ih0 _ _ _ _ _)
   | (with_reducible exact ih1 _ _ _ _ _)
   | (with_reducible exact headgatelaw19_awake.mono _)
   | (with_reducible exact headgatelaw19_is.mono _ _ _ _)
   | (with_reducible exact headgatelaw19_made.mono _ _)
   | (with_reducible exact LeO.refl _)
   | (with_reducible exact LeO.none _)
   | (with_reducible refine LeO.ite ?_ ?_)
   | (with_reducible refine LeO.bind ?_ (fun _ => ?_))
   | exact ih0 _ _ _ _ _
   | exact ih1 _ _ _ _ _
   | exact headgatelaw19_awake.mono _
   | exact headgatelaw19_is.mono _ _ _ _
   | exact headgatelaw19_made.mono _ _
   | exact LeO.none _
   | refine LeO.ite ?_ ?_
   | refine LeO.bind ?_ (fun _ => ?_)
def headgatelaw19_HeldOne.T5 : Bool × List (List Nat × List Nat) := (true, [([], []), ([0], [0]), ([], []), ([], []), ([2, 3], [2, 3]), ([4], [4]), ([5], [5]), ([], []), ([1, 6, 7, 1], [1, 6, 7]), ([8], [8]), ([9], [9]), ([9], [9]), ([10, 8, 0, 1, 2, 3, 4, 5, 6, 7, 8, 9, 10], [10]), ([11, 12, 0, 1, 2, 3, 4, 5, 6, 7, 8, 9, 10, 11, 12], [11])])
def headgatelaw19_HeldOne.B5 : List Nat := [0, 1, 0, 0, 12, 28, 60, 0, 255, 511, 1023, 1023, 2047, 8191]
theorem headgatelaw19_HeldOne.tab5 : rtab .any (opsOf Try.f3 5) = headgatelaw19_HeldOne.T5 := by kernel_rfl
theorem headgatelaw19_HeldOne.bits5 : waitsOk headgatelaw19_HeldOne.T5.2 headgatelaw19_HeldOne.B5 = true := by kernel_rfl
def headgatelaw19_HeldOne.T10 : Bool × List (List Nat × List Nat) := (true, [([], []), ([0], [0]), ([1], [1]), ([2], [2]), ([2], [2]), ([3, 4, 2], [2, 3, 4]), ([5, 2], [2, 5]), ([6, 2], [2, 6]), ([7, 2], [2, 7]), ([2, 8], [2, 8]), ([9, 2], [9]), ([10], [10]), ([11, 10], [10, 11]), ([12, 10, 10], [10, 12]), ([13], [13]), ([13, 14, 10], [10, 13, 14]), ([15, 13, 10], [10, 15]), ([16], [16]), ([16], [16]), ([16], [16]), ([18, 19, 16], [16, 18, 19]), ([20, 16], [16, 20]), ([17, 21, 16], [16, 17, 21]), ([16, 22, 10], [10, 16, 22]), ([10, 23], [10, 23]), ([24, 16], [24]), ([25, 25], [25]), ([25, 26], [25, 26]), ([27, 26, 0, 1, 2, 3, 4, 5, 6, 7, 8, 9, 10, 11, 12, 13, 14, 15, 16, 17, 18, 19, 20, 21, 22, 23, 24, 25, 26, 27], [27])])
def headgatelaw19_HeldOne.B10 : List Nat := [0, 1, 3, 7, 7, 31, 63, 127, 255, 511, 1023, 2047, 4095, 8191, 16383, 32767, 65535, 131071, 131071, 131071, 917503, 1966079, 4194303, 8388607, 16777215, 33554431, 67108863, 134217727, 268435455]
theorem headgatelaw19_HeldOne.tab10 : rtab .any (opsOf Try.f3 10) = headgatelaw19_HeldOne.T10 := by kernel_rfl
theorem headgatelaw19_HeldOne.bits10 : waitsOk headgatelaw19_HeldOne.T10.2 headgatelaw19_HeldOne.B10 = true := by kernel_rfl
def headgatelaw19_HeldOne.T23 : Bool × List (List Nat × List Nat) := (true, [([], []), ([0], [0]), ([1], [1]), ([2], [2]), ([2, 3], [2, 3]), ([4, 2], [4]), ([5], [5]), ([5], [5]), ([5], [5]), ([7, 8, 5], [5, 7, 8]), ([9, 5], [5, 9]), ([6, 10, 5], [5, 6, 10]), ([5, 11], [5, 11]), ([12, 5], [12]), ([13], [13]), ([13, 14], [13, 14]), ([15, 13], [15]), ([16], [16]), ([16], [16]), ([16], [16]), ([17, 18, 19, 16, 16], [16, 17, 18, 19]), ([16, 20], [16, 20]), ([21, 20], [21]), ([22, 22], [22]), ([22, 23], [22, 23]), ([24, 23, 0, 1, 2, 3, 4, 5, 6, 7, 8, 9, 10, 11, 12, 13, 14, 15, 16, 17, 18, 19, 20, 21, 22, 23, 24], [24])])
def headgatelaw19_HeldOne.B23 : List Nat := [0, 1, 3, 7, 15, 31, 63, 63, 63, 447, 959, 2047, 4095, 8191, 16383, 32767, 65535, 131071, 131071, 131071, 1048575, 2097151, 4194303, 8388607, 16777215, 33554431]
theorem headgatelaw19_HeldOne.tab23 : rtab .any (opsOf Try.f3 23) = headgatelaw19_HeldOne.T23 := by kernel_rfl
theorem headgatelaw19_HeldOne.bits23 : waitsOk headgatelaw19_HeldOne.T23.2 headgatelaw19_HeldOne.B23 = true := by kernel_rfl

end Go.Proofs.Ytfnhoncpaheejaa.X
