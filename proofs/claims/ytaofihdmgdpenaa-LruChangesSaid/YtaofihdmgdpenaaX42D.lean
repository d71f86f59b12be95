/- What Go functions of this seat compute, told as Lean functions, and that each call of the Go code comes to that answer; for a law: its row, for every input. Written by a program of the session. -/
import Derived.Test.YtaofihdmgdpenaaX0
import Derived.Test.YtaofihdmgdpenaaX1
import Derived.Test.YtaofihdmgdpenaaX2
import Derived.Test.YtaofihdmgdpenaaX17
import Derived.Test.YtaofihdmgdpenaaX23
import Derived.Test.YtaofihdmgdpenaaX27
import Derived.Test.YtaofihdmgdpenaaX31
import Derived.Test.YtaofihdmgdpenaaX35
import Derived.Test.YtaofihdmgdpenaaX38
import Derived.Test.YtaofihdmgdpenaaX40
namespace Go.Proofs.Ytaofihdmgdpenaa.X
open Go.RowKit Go.Proofs.YtaofihdmgdpenaaW.PrintWords Go.Proofs.YtaofihdmgdpenaaW.PrintLast Go.Proofs.YtaofihdmgdpenaaW.PrintMore
attribute [local go_sem] max2_int min2_int max_two min_two max_three min_three max_four min_four   -- for this text's walks alone
set_option linter.unusedVariables false
set_option linter.unusedSimpArgs false

/-! ### headgatelaw07_LruChanges: function 3 -/
mutual
def headgatelaw07_LruChanges.j0 : Nat → Int → Bool → List Int → List Int → List Bool → List Int → List Int → List Bool → Option (Bool)
 | 0, _, _, _, _, _, _, _, _ => none
 | k + 1, x1, x47, x291000, x291001, x291002, x303000, x303001, x303002 => if x47 = true then (some false) else ((lru_Add.f k x303000 x303001 x303002 x1).bind fun bt328 => ((headgateref07_Add.f k x291000 x291001 x291002 x1).bind fun bt338 => ((headgatekit_SameLists.f k bt328.1 bt328.2.1 bt328.2.2.1 bt338.1 bt338.2.1 bt338.2.2.1).bind fun t348 => (if t348 = true then (headgatelaw07_LruChanges.j1 k x1 (bt328.2.2.2 != bt338.2.2.2) x291000 x291001 x291002 x303000 x303001 x303002) else (headgatelaw07_LruChanges.j1 k x1 true x291000 x291001 x291002 x303000 x303001 x303002)))))
def headgatelaw07_LruChanges.j1 : Nat → Int → Bool → List Int → List Int → List Bool → List Int → List Int → List Bool → Option (Bool)
 | 0, _, _, _, _, _, _, _, _ => none
 | k + 1, x1, x68, x291000, x291001, x291002, x303000, x303001, x303002 => if x68 = true then (some false) else ((lru_Remove.f k x303000 x303001 x303002 x1).bind fun bt349 => ((headgateref07_Remove.f k x291000 x291001 x291002 x1).bind fun bt359 => ((headgatekit_SameLists.f k bt349.1 bt349.2.1 bt349.2.2.1 bt359.1 bt359.2.1 bt359.2.2.1).bind fun t369 => (if t369 = true then (headgatelaw07_LruChanges.j2 k x1 (bt349.2.2.2 != bt359.2.2.2) x291000 x291001 x291002 x303000 x303001 x303002) else (headgatelaw07_LruChanges.j2 k x1 true x291000 x291001 x291002 x303000 x303001 x303002)))))
def headgatelaw07_LruChanges.j2 : Nat → Int → Bool → List Int → List Int → List Bool → List Int → List Int → List Bool → Option (Bool)
 | 0, _, _, _, _, _, _, _, _ => none
 | k + 1, x1, x89, x291000, x291001, x291002, x303000, x303001, x303002 => if x89 = true then (some false) else ((lru_Touch.f k x303000 x303001 x303002 x1).bind fun bt370 => ((headgateref07_Touch.f k x291000 x291001 x291002 x1).bind fun bt380 => ((lru_Where.f k x303000 x303001 x303002 x1).bind fun bt390 => ((headgateref07_Where.f k x291000 x291001 x291002 x1).bind fun bt392 => ((headgatekit_SameLists.f k bt370.1 bt370.2.1 bt370.2.2.1 bt380.1 bt380.2.1 bt380.2.2.1).bind fun t394 => (if t394 = true then (if bt370.2.2.2 = bt380.2.2.2 then (if bt390.1 = bt392.1 then (if bt390.2 = bt392.2 then ((headgatekit_SameLists.f k x303000 x303001 x303002 x291000 x291001 x291002).bind fun t395 => (if t395 = true then ((headgatelaw07_awake.f).bind fun t396 => (some t396)) else (some false))) else (some false)) else (some false)) else (some false)) else (some false)))))))
end
def headgatelaw07_LruChanges.f (k : Nat) (l0_0 : List Int) (l0_1 : List Int) (l0_2 : List Bool) (a1 : Int) (a2 : Int) : Option (Bool) := (headgatelaw07_light.f l0_0 l0_1 l0_2).bind fun t291 => (if t291 = true then ((headgatekit_OwnLists.f l0_0 l0_1 l0_2).bind fun bt293 => ((lru_New.f a2).bind fun bt303 => ((headgateref07_New.f a2).bind fun bt314 => ((headgatekit_SameLists.f k bt303.1 bt303.2.1 bt303.2.2.1 bt314.1 bt314.2.1 bt314.2.2.1).bind fun t325 => (if t325 = true then (if bt303.2.2.2 = bt314.2.2.2 then ((lru_Check.f bt293.1 bt293.2.1 bt293.2.2).bind fun t326 => ((headgateref07_Check.f l0_0 l0_1 l0_2).bind fun t327 => (headgatelaw07_LruChanges.j0 k a1 (t326 != t327) l0_0 l0_1 l0_2 bt293.1 bt293.2.1 bt293.2.2))) else (headgatelaw07_LruChanges.j0 k a1 true l0_0 l0_1 l0_2 bt293.1 bt293.2.1 bt293.2.2)) else (headgatelaw07_LruChanges.j0 k a1 true l0_0 l0_1 l0_2 bt293.1 bt293.2.1 bt293.2.2)))))) else ((headgatelaw07_awake.f).bind fun t292 => (some t292)))
theorem headgatelaw07_LruChanges.mono_l : ∀ k, (∀ y0 y1 y2 y3 y4 y5 y6 y7, LeO (headgatelaw07_LruChanges.j0 k y0 y1 y2 y3 y4 y5 y6 y7) (headgatelaw07_LruChanges.j0 (k + 1) y0 y1 y2 y3 y4 y5 y6 y7)) ∧ (∀ y0 y1 y2 y3 y4 y5 y6 y7, LeO (headgatelaw07_LruChanges.j1 k y0 y1 y2 y3 y4 y5 y6 y7) (headgatelaw07_LruChanges.j1 (k + 1) y0 y1 y2 y3 y4 y5 y6 y7)) ∧ (∀ y0 y1 y2 y3 y4 y5 y6 y7, LeO (headgatelaw07_LruChanges.j2 k y0 y1 y2 y3 y4 y5 y6 y7) (headgatelaw07_LruChanges.j2 (k + 1) y0 y1 y2 y3 y4 y5 y6 y7))
 | 0 => ⟨fun _ _ _ _ _ _ _ _ r h => by simp [headgatelaw07_LruChanges.j0] at h, fun _ _ _ _ _ _ _ _ r h => by simp [headgatelaw07_LruChanges.j1] at h, fun _ _ _ _ _ _ _ _ r h => by simp [headgatelaw07_LruChanges.j2] at h⟩
 | k + 1 => by
  obtain ⟨ih0, ih1, ih2⟩ := headgatelaw07_LruChanges.mono_l k
  refine ⟨?_, ?_, ?_⟩
  ·
   intro y0 y1 y2 y3 y4 y5 y6 y7
   unfold headgatelaw07_LruChanges.j0
   repeat' first
   | (with_reducible exact ih0 _ _ _ _ _ _ _ _)
   | (with_reducible exact ih1 _ _ _ _ _ _ _ _)
   | (with_reducible exact ih2 _ _ _ _ _ _ _ _)
   | (with_reducible exact headgatekit_SameLists.mono _ _ _ _ _ _ _)
   | (with_reducible exact headgateref07_Add.mono _ _ _ _ _)
   | (with_reducible exact headgateref07_Remove.mono _ _ _ _ _)
   | (with_reducible exact headgateref07_Touch.mono _ _ _ _ _)
   | (with_reducible exact headgateref07_Where.mono _ _ _ _ _)
   | (with_reducible exact lru_Add.mono _ _ _ _ _)
   | (with_reducible exact lru_Remove.mono _ _ _ _ _)
   | (with_reducible exact lru_Touch.mono _ _ _ _ _)
   | (with_reducible exact lru_Where.mono _ _ _ _ _)
   | (with_reducible exact LeO.refl _)
   | (with_reducible exact LeO.none _)
   | (with_reducible refine LeO.ite ?_ ?_)
   | (with_reducible refine LeO.bind ?_ (fun _ => ?_))
   | exact ih0 _ _ _ _ _ _ _ _
   | exact ih1 _ _ _ _ _ _ _ _
   | exact ih2 _ _ _ _ _ _ _ _
   | exact headgatekit_SameLists.mono _ _ _ _ _ _ _
   | exact headgateref07_Add.mono _ _ _ _ _
   | exact headgateref07_Remove.mono _ _ _ _ _
   | exact headgateref07_Touch.mono _ _ _ _ _
   | exact headgateref07_Where.mono _ _ _ _ _
   | exact lru_Add.mono _ _ _ _ _
   | exact lru_Remove.mono _ _ _ _ _
   | exact lru_Touch.mono _ _ _ _ _
   | exact lru_Where.mono _ _ _ _ _
   | exact LeO.none _
   | refine LeO.ite ?_ ?_
   | refine LeO.bind ?_ (fun _ => ?_)
  ·
   intro y0 y1 y2 y3 y4 y5 y6 y7
   unfold headgatelaw07_LruChanges.j1
   repeat' first
   | (with_reducible exact ih0 _ _ _ _ _ _ _ _)
   | (with_reducible exact ih1 _ _ _ _ _ _ _ _)
   | (with_reducible exact ih2 _ _ _ _ _ _ _ _)
   | (with_reducible exact headgatekit_SameLists.mono _ _ _ _ _ _ _)
   | (with_reducible exact headgateref07_Add.mono _ _ _ _ _)
   | (with_reducible exact headgateref07_Remove.mono _ _ _ _ _)
   | (with_reducible exact headgateref07_Touch.mono _ _ _ _ _)
   | (with_reducible exact headgateref07_Where.mono _ _ _ _ _)
   | (with_reducible exact lru_Add.mono _ _ _ _ _)
   | (with_reducible exact lru_Remove.mono _ _ _ _ _)
   | (with_reducible exact lru_Touch.mono _ _ _ _ _)
   | (with_reducible exact lru_Where.mono _ _ _ _ _)
   | (with_reducible exact LeO.refl _)
   | (with_reducible exact LeO.none _)
   | (with_reducible refine LeO.ite ?_ ?_)
   | (with_reducible refine LeO.bind ?_ (fun _ => ?_))
   | exact ih0 _ _ _ _ _ _ _ _
   | exact ih1 _ _ _ _ _ _ _ _
   | exact ih2 _ _ _ _ _ _ _ _
   | exact headgatekit_SameLists.mono _ _ _ _ _ _ _
   | exact headgateref07_Add.mono _ _ _ _ _
   | exact headgateref07_Remove.mono _ _ _ _ _
   | exact headgateref07_Touch.mono _ _ _ _ _
   | exact headgateref07_Where.mono _ _ _ _ _
   | exact lru_Add.mono _ _ _ _ _
   | exact lru_Remove.mono _ _ _ _ _
   | exact lru_Touch.mono _ _ _ _ _
   | exact lru_Where.mono _ _ _ _ _
   | exact LeO.none _
   | refine LeO.ite ?_ ?_
   | refine LeO.bind ?_ (fun _ => ?_)
  ·
   intro y0 y1 y2 y3 y4 y5 y6 y7
   unfold headgatelaw07_LruChanges.j2
   repeat' first
   | (with_reducible exact ih0 _ _ _ _ _ _ _ _)
   | (with_reducible exact ih1 _ _ _ _ _ _ _ _)
   | (with_reducible exact ih2 _ _ _ _ _ _ _ _)
   | (with_reducible exact headgatekit_SameLists.mono _ _ _ _ _ _ _)
   | (with_reducible exact headgateref07_Add.mono _ _ _ _ _)
   | (with_reducible exact headgateref07_Remove.mono _ _ _ _ _)
   | (with_reducible exact headgateref07_Touch.mono _ _ _ _ _)
   | (with_reducible exact headgateref07_Where.mono _ _ _ _ _)
   | (with_reducible exact lru_Add.mono _ _ _ _ _)
   | (with_reducible exact lru_Remove.mono _ _ _ _ _)
   | (with_reducible exact lru_Touch.mono _ _ _ _ _)
   | (with_reducible exact lru_Where.mono _ _ _ _ _)
   | (with_reducible exact LeO.refl _)
   | (with_reducible exact LeO.none _)
   | (with_reducible refine LeO.ite ?_ ?_)
   | (with_reducible refine LeO.bind ?_ (fun _ => ?_))
   | exact ih0 _ _ _ _ _ _ _ _
   | exact ih1 _ _ _ _ _ _ _ _
   | exact ih2 _ _ _ _ _ _ _ _
   | exact headgatekit_SameLists.mono _ _ _ _ _ _ _
   | exact headgateref07_Add.mono _ _ _ _ _
   | exact headgateref07_Remove.mono _ _ _ _ _
   | exact headgateref07_Touch.mono _ _ _ _ _
   | exact headgateref07_Where.mono _ _ _ _ _
   | exact lru_Add.mono _ _ _ _ _
   | exact lru_Remove.mono _ _ _ _ _
   | exact lru_Touch.mono _ _ _ _ _
   | exact lru_Where.mono _ _ _ _ _
   | exact LeO.none _
   | refine LeO.ite ?_ ?_
   | refine LeO.bind ?_ (fun _ => ?_)
theorem headgatelaw07_LruChanges.mono : ∀ a0 a1 a2 a3 a4 k, LeO (headgatelaw07_LruChanges.f k a0 a1 a2 a3 a4) (headgatelaw07_LruChanges.f (k + 1) a0 a1 a2 a3 a4) := by
 intro a0 a1 a2 a3 a4 k
 obtain ⟨ih0, ih1, ih2⟩ := headgatelaw07_LruChanges.mono_l k
 unfold headgatelaw07_LruChanges.f
 repeat' first
   | (with_reducible exact ih0 _ _ _ _ _ _ _ _)
   | (with_reducible exact ih1 _ _ _ _ _ _ _ _)
   | (with_reducible exact ih2 _ _ _ _ _ _ _ _)
   | (with_reducible exact headgatekit_SameLists.mono _ _ _ _ _ _ _)
   | (with_reducible exact headgateref07_Add.mono _ _ _ _ _)
   | (with_reducible exact headgateref07_Remove.mono _ _ _ _ _)
   | (with_reducible exact headgateref07_Touch.mono _ _ _ _ _)
   | (with_reducible exact headgateref07_Where.mono _ _ _ _ _)
   | (with_reducible exact lru_Add.mono _ _ _ _ _)
   | (with_reducible exact lru_Remove.mono _ _ _ _ _)
   | (with_reducible exact lru_Touch.mono _ _ _ _ _)
   | (with_reducible exact lru_Where.mono _ _ _ _ _)
   | (with_reducible exact LeO.refl _)
   | (with_reducible exact LeO.none _)
   | (with_reducible refine LeO.ite ?_ ?_)
   | (with_reducible refine LeO.bind ?_ (fun _ => ?_))
   | exact ih0 _ _ _ _ _ _ _ _
   | exact ih1 _ _ _ _ _ _ _ _
   | exact ih2 _ _ _ _ _ _ _ _
   | exact headgatekit_SameLists.mono _ _ _ _ _ _ _
   | exact headgateref07_Add.mono _ _ _ _ _
   | exact headgateref07_Remove.mono _ _ _ _ _
   | exact headgateref07_Touch.mono _ _ _ _ _
   | exact headgateref07_Where.mono _ _ _ _ _
   | exact lru_Add.mono _ _ _ _ _
   | exact lru_Remove.mono _ _ _ _ _
   | exact lru_Touch.mono _ _ _ _ _
   | exact lru_Where.mono _ _ _ _ _
   | exact LeO.none _
   | refine LeO.ite ?_ ?_
   | refine LeO.bind ?_ (fun _ => ?_)
def headgatelaw07_LruChanges.T6 : Bool × List (List Nat × List Nat) := (true, [([], []), ([], []), ([0, 1], [0, 1]), ([2], [2]), ([3, 2], [3]), ([4], [4]), ([4], [4]), ([5, 6, 4], [4, 5, 6]), ([4, 7], [4, 7]), ([8, 4], [8]), ([9], [9]), ([10, 9, 9], [9, 10]), ([9], [9]), ([12, 11, 9], [9, 12]), ([11, 13, 9], [9, 11, 13]), ([9, 14], [9, 14])])
def headgatelaw07_LruChanges.B6 : List Nat := [0, 0, 3, 7, 15, 31, 31, 127, 255, 511, 1023, 2047, 1023, 8191, 16383, 32767]
theorem headgatelaw07_LruChanges.tab6 : rtab .any (opsOf Try.f3 6) = headgatelaw07_LruChanges.T6 := by kernel_rfl
theorem headgatelaw07_LruChanges.bits6 : waitsOk headgatelaw07_LruChanges.T6.2 headgatelaw07_LruChanges.B6 = true := by kernel_rfl

end Go.Proofs.Ytaofihdmgdpenaa.X
