/- What Go functions of this seat compute, told as Lean functions, and that each call of the Go code comes to that answer; for a law: its row, for every input. Written by a program of the session. -/
import Derived.Test.YtofonnfkffbjkaaX0
import Derived.Test.YtofonnfkffbjkaaX1
import Derived.Test.YtofonnfkffbjkaaX15
import Derived.Test.YtofonnfkffbjkaaX23
import Derived.Test.YtofonnfkffbjkaaX26
import Derived.Test.YtofonnfkffbjkaaX27
import Derived.Test.YtofonnfkffbjkaaX28
namespace Go.Proofs.Ytofonnfkffbjkaa.X
open Go.RowKit Go.Proofs.YtofonnfkffbjkaaW.PrintWords Go.Proofs.YtofonnfkffbjkaaW.PrintLast Go.Proofs.YtofonnfkffbjkaaW.PrintMore
attribute [local go_sem] max2_int min2_int max_two min_two max_three min_three max_four min_four   -- for this text's walks alone
set_option linter.unusedVariables false
set_option linter.unusedSimpArgs false

/-! ### headgatelaw18_SlotsFree: function 6 -/
mutual
def headgatelaw18_SlotsFree.j0 : Nat → Int → List Int → Bool → Bool → List Int → List Bool → Option (Bool)
 | 0, _, _, _, _, _, _ => none
 | k + 1, x0, x1, x5, x38, x293000, x293001 => if x38 = true then (some false) else (headgatelaw18_SlotsFree.l0 k x0 x1 x5 0 x293000 x293001)
def headgatelaw18_SlotsFree.l0 : Nat → Int → List Int → Bool → Int → List Int → List Bool → Option (Bool)
 | 0, _, _, _, _, _, _ => none
 | k + 1, x0, x1, x5, x8, x293000, x293001 => if x8 < (x1.length : Int) then (headgatelaw18_SlotsFree.j2 k x0 x1 x5 x8 (decide (x8 < 60)) x293000 x293001) else (headgatelaw18_SlotsFree.j2 k x0 x1 x5 x8 false x293000 x293001)
def headgatelaw18_SlotsFree.j2 : Nat → Int → List Int → Bool → Int → Bool → List Int → List Bool → Option (Bool)
 | 0, _, _, _, _, _, _, _ => none
 | k + 1, x0, x1, x5, x8, x46, x293000, x293001 => if x46 = true then (if 0 ≤ x8 then (if x8 < (x1.length : Int) then ((headgatelaw18_step.f k x293000 x293001 (rd x1 x8)).bind fun bt294 => (if bt294.2.2.2 = 0 then ((slots_Check.f k bt294.1 bt294.2.1).bind fun bt303 => ((slots_Count.f k bt294.1 bt294.2.1).bind fun bt305 => (if bt303.1 = 0 then (if bt305.2.2.2 = 0 then (headgatelaw18_SlotsFree.j3 k x0 x1 x5 x8 bt294.2.2.1 bt305.1 bt305.2.1 bt305.2.2.1 ((bt294.1.length : Int) != x0) x293000 x293001 bt294.1 bt294.2.1) else (headgatelaw18_SlotsFree.j3 k x0 x1 x5 x8 bt294.2.2.1 bt305.1 bt305.2.1 bt305.2.2.1 true x293000 x293001 bt294.1 bt294.2.1)) else (headgatelaw18_SlotsFree.j3 k x0 x1 x5 x8 bt294.2.2.1 bt305.1 bt305.2.1 bt305.2.2.1 true x293000 x293001 bt294.1 bt294.2.1)))) else (headgatelaw18_SlotsFree.l0 k x0 x1 x5 (wrap64 (x8 + 1)) x293000 x293001))) else (none)) else (none)) else (some x5)
def headgatelaw18_SlotsFree.j3 : Nat → Int → List Int → Bool → Int → Int → Int → Int → Int → Bool → List Int → List Bool → List Int → List Bool → Option (Bool)
 | 0, _, _, _, _, _, _, _, _, _, _, _, _, _ => none
 | k + 1, x0, x1, x5, x8, x10, x14, x15, x16, x85, x293000, x293001, x303000, x303001 => if x85 = true then (some false) else (headgatelaw18_SlotsFree.l1 k x0 x1 x5 x8 x10 x14 x15 x16 0 0 0 x293000 x293001 x303000 x303001)
def headgatelaw18_SlotsFree.l1 : Nat → Int → List Int → Bool → Int → Int → Int → Int → Int → Int → Int → Int → List Int → List Bool → List Int → List Bool → Option (Bool)
 | 0, _, _, _, _, _, _, _, _, _, _, _, _, _, _, _ => none
 | k + 1, x0, x1, x5, x8, x10, x14, x15, x16, x18, x19, x20, x293000, x293001, x303000, x303001 => if x20 < x0 then (if 0 ≤ x20 then (if x20 < (x303000.length : Int) then (if (rd x303000 x20) > 0 then (if x20 < (x303001.length : Int) then (headgatelaw18_SlotsFree.j5 k x0 x1 x5 x8 x10 x14 x15 x16 x18 (wrap64 (x19 + (rd x303000 x20))) x20 (!(rdOf false x303001 x20)) x293000 x293001 x303000 x303001) else (none)) else (headgatelaw18_SlotsFree.j5 k x0 x1 x5 x8 x10 x14 x15 x16 x18 (wrap64 (x19 + (rd x303000 x20))) x20 false x293000 x293001 x303000 x303001)) else (none)) else (none)) else (if x10 ≥ x0 then (some false) else (if x10 ≥ 0 then (if 0 ≤ x10 then (if x10 < (x293000.length : Int) then (if (rd x293000 x10) = 0 then (if x10 < (x293001.length : Int) then (if rdOf false x293001 x10 = true then (some false) else (if x10 < (x303001.length : Int) then (if rdOf false x303001 x10 = true then (if (wrap64 ((wrap64 (x14 + x15)) + x18)) = x0 then (if x16 = x19 then (headgatelaw18_SlotsFree.l0 k x0 x1 x5 (wrap64 (x8 + 1)) x303000 x303001) else (some false)) else (some false)) else (some false)) else (none))) else (none)) else (some false)) else (none)) else (none)) else (if (wrap64 ((wrap64 (x14 + x15)) + x18)) = x0 then (if x16 = x19 then (headgatelaw18_SlotsFree.l0 k x0 x1 x5 (wrap64 (x8 + 1)) x303000 x303001) else (some false)) else (some false))))
def headgatelaw18_SlotsFree.j5 : Nat → Int → List Int → Bool → Int → Int → Int → Int → Int → Int → Int → Int → Bool → List Int → List Bool → List Int → List Bool → Option (Bool)
 | 0, _, _, _, _, _, _, _, _, _, _, _, _, _, _, _, _ => none
 | k + 1, x0, x1, x5, x8, x10, x14, x15, x16, x18, x19, x20, x111, x293000, x293001, x303000, x303001 => if x111 = true then (if x10 ≥ 0 then (if x20 < x10 then (if 0 ≤ x20 then (if x20 < (x293000.length : Int) then (if (rd x293000 x20) = 0 then (if x20 < (x293001.length : Int) then (if rdOf false x293001 x20 = true then (headgatelaw18_SlotsFree.l1 k x0 x1 x5 x8 x10 x14 x15 x16 (wrap64 (x18 + 1)) x19 (wrap64 (x20 + 1)) x293000 x293001 x303000 x303001) else (some false)) else (none)) else (headgatelaw18_SlotsFree.l1 k x0 x1 x5 x8 x10 x14 x15 x16 (wrap64 (x18 + 1)) x19 (wrap64 (x20 + 1)) x293000 x293001 x303000 x303001)) else (none)) else (none)) else (headgatelaw18_SlotsFree.l1 k x0 x1 x5 x8 x10 x14 x15 x16 (wrap64 (x18 + 1)) x19 (wrap64 (x20 + 1)) x293000 x293001 x303000 x303001)) else (headgatelaw18_SlotsFree.l1 k x0 x1 x5 x8 x10 x14 x15 x16 (wrap64 (x18 + 1)) x19 (wrap64 (x20 + 1)) x293000 x293001 x303000 x303001)) else (if x10 ≥ 0 then (if x20 < x10 then (if 0 ≤ x20 then (if x20 < (x293000.length : Int) then (if (rd x293000 x20) = 0 then (if x20 < (x293001.length : Int) then (if rdOf false x293001 x20 = true then (headgatelaw18_SlotsFree.l1 k x0 x1 x5 x8 x10 x14 x15 x16 x18 x19 (wrap64 (x20 + 1)) x293000 x293001 x303000 x303001) else (some false)) else (none)) else (headgatelaw18_SlotsFree.l1 k x0 x1 x5 x8 x10 x14 x15 x16 x18 x19 (wrap64 (x20 + 1)) x293000 x293001 x303000 x303001)) else (none)) else (none)) else (headgatelaw18_SlotsFree.l1 k x0 x1 x5 x8 x10 x14 x15 x16 x18 x19 (wrap64 (x20 + 1)) x293000 x293001 x303000 x303001)) else (headgatelaw18_SlotsFree.l1 k x0 x1 x5 x8 x10 x14 x15 x16 x18 x19 (wrap64 (x20 + 1)) x293000 x293001 x303000 x303001))
end
def headgatelaw18_SlotsFree.f (k : Nat) (a0 : Int) (l1 : List Int) : Option (Bool) := (headgatelaw18_SlotsKnown.f).bind fun t283 => ((headgatekit_Mod.f a0 8).bind fun t284 => ((slots_New.f (wrap64 (1 + t284))).bind fun bt285 => (if bt285.2.2 = 0 then (headgatelaw18_SlotsFree.j0 k (wrap64 (1 + t284)) l1 t283 ((bt285.1.length : Int) != (wrap64 (1 + t284))) bt285.1 bt285.2.1) else (headgatelaw18_SlotsFree.j0 k (wrap64 (1 + t284)) l1 t283 true bt285.1 bt285.2.1))))
theorem headgatelaw18_SlotsFree.mono_l : ∀ k, (∀ y0 y1 y2 y3 y4 y5, LeO (headgatelaw18_SlotsFree.j0 k y0 y1 y2 y3 y4 y5) (headgatelaw18_SlotsFree.j0 (k + 1) y0 y1 y2 y3 y4 y5)) ∧ (∀ y0 y1 y2 y3 y4 y5, LeO (headgatelaw18_SlotsFree.l0 k y0 y1 y2 y3 y4 y5) (headgatelaw18_SlotsFree.l0 (k + 1) y0 y1 y2 y3 y4 y5)) ∧ (∀ y0 y1 y2 y3 y4 y5 y6, LeO (headgatelaw18_SlotsFree.j2 k y0 y1 y2 y3 y4 y5 y6) (headgatelaw18_SlotsFree.j2 (k + 1) y0 y1 y2 y3 y4 y5 y6)) ∧ (∀ y0 y1 y2 y3 y4 y5 y6 y7 y8 y9 y10 y11 y12, LeO (headgatelaw18_SlotsFree.j3 k y0 y1 y2 y3 y4 y5 y6 y7 y8 y9 y10 y11 y12) (headgatelaw18_SlotsFree.j3 (k + 1) y0 y1 y2 y3 y4 y5 y6 y7 y8 y9 y10 y11 y12)) ∧ (∀ y0 y1 y2 y3 y4 y5 y6 y7 y8 y9 y10 y11 y12 y13 y14, LeO (headgatelaw18_SlotsFree.l1 k y0 y1 y2 y3 y4 y5 y6 y7 y8 y9 y10 y11 y12 y13 y14) (headgatelaw18_SlotsFree.l1 (k + 1) y0 y1 y2 y3 y4 y5 y6 y7 y8 y9 y10 y11 y12 y13 y14)) ∧ (∀ y0 y1 y2 y3 y4 y5 y6 y7 y8 y9 y10 y11 y12 y13 y14 y15, LeO (headgatelaw18_SlotsFree.j5 k y0 y1 y2 y3 y4 y5 y6 y7 y8 y9 y10 y11 y12 y13 y14 y15) (headgatelaw18_SlotsFree.j5 (k + 1) y0 y1 y2 y3 y4 y5 y6 y7 y8 y9 y10 y11 y12 y13 y14 y15))
 | 0 => ⟨fun _ _ _ _ _ _ r h => by simp [headgatelaw18_SlotsFree.j0] at h, fun _ _ _ _ _ _ r h => by simp [headgatelaw18_SlotsFree.l0] at h, fun _ _ _ _ _ _ _ r h => by simp [headgatelaw18_SlotsFree.j2] at h, fun _ _ _ _ _ _ _ _ _ _ _ _ _ r h => by simp [headgatelaw18_SlotsFree.j3] at h, fun _ _ _ _ _ _ _ _ _ _ _ _ _ _ _ r h => by simp [headgatelaw18_SlotsFree.l1] at h, fun _ _ _ _ _ _ _ _ _ _ _ _ _ _ _ _ r h => by simp [headgatelaw18_SlotsFree.j5] at h⟩
 | k + 1 => by
  obtain ⟨ih0, ih1, ih2, ih3, ih4, ih5⟩ := headgatelaw18_SlotsFree.mono_l k
  refine ⟨?_, ?_, ?_, ?_, ?_, ?_⟩
  ·
   intro y0 y1 y2 y3 y4 y5
   unfold headgatelaw18_SlotsFree.j0
   repeat' first
   | (with_reducible exact ih0 _ _ _ _ _ _)
   | (with_reducible exact ih1 _ _ _ _ _ _)
   | (with_reducible exact ih2 _ _ _ _ _ _ _)
   | (with_reducible exact ih3 _ _ _ _ _ _ _ _ _ _ _ _ _)
   | (with_reducible exact ih4 _ _ _ _ _ _ _ _ _ _ _ _ _ _ _)
   | (with_reducible exact ih5 _ _ _ _ _ _ _ _ _ _ _ _ _ _ _ _)
   | (with_reducible exact headgatelaw18_step.mono _ _ _ _)
   | (with_reducible exact slots_Check.mono _ _ _)
   | (with_reducible exact slots_Count.mono _ _ _)
   | (with_reducible exact LeO.refl _)
   | (with_reducible exact LeO.none _)
   | (with_reducible refine LeO.ite ?_ ?_)
   | (with_reducible refine LeO.bind ?_ (fun _ => ?_))
   | exact ih0 _ _ _ _ _ _
   | exact ih1 _ _ _ _ _ _
   | exact ih2 _ _ _ _ _ _ _
   | exact ih3 _ _ _ _ _ _ _ _ _ _ _ _ _
   | exact ih4 _ _ _ _ _ _ _ _ _ _ _ _ _ _ _
   | exact ih5 _ _ _ _ _ _ _ _ _ _ _ _ _ _ _ _
   | exact headgatelaw18_step.mono _ _ _ _
   | exact slots_Check.mono _ _ _
   | exact slots_Count.mono _ _ _
   | exact LeO.none _
   | refine LeO.ite ?_ ?_
   | refine LeO.bind ?_ (fun _ => ?_)
  ·
   intro y0 y1 y2 y3 y4 y5
   unfold headgatelaw18_SlotsFree.l0
   repeat' first
   | (with_reducible exact ih0 _ _ _ _ _ _)
   | (with_reducible exact ih1 _ _ _ _ _ _)
   | (with_reducible exact ih2 _ _ _ _ _ _ _)
   | (with_reducible exact ih3 _ _ _ _ _ _ _ _ _ _ _ _ _)
   | (with_reducible exact ih4 _ _ _ _ _ _ _ _ _ _ _ _ _ _ _)
   | (with_reducible exact ih5 _ _ _ _ _ _ _ _ _ _ _ _ _ _ _ _)
   | (with_reducible exact headgatelaw18_step.mono _ _ _ _)
   | (with_reducible exact slots_Check.mono _ _ _)
   | (with_reducible exact slots_Count.mono _ _ _)
   | (with_reducible exact LeO.refl _)
   | (with_reducible exact LeO.none _)
   | (with_reducible refine LeO.ite ?_ ?_)
   | (with_reducible refine LeO.bind ?_ (fun _ => ?_))
   | exact ih0 _ _ _ _ _ _
   | exact ih1 _ _ _ _ _ _
   | exact ih2 _ _ _ _ _ _ _
   | exact ih3 _ _ _ _ _ _ _ _ _ _ _ _ _
   | exact ih4 _ _ _ _ _ _ _ _ _ _ _ _ _ _ _
   | exact ih5 _ _ _ _ _ _ _ _ _ _ _ _ _ _ _ _
   | exact headgatelaw18_step.mono _ _ _ _
   | exact slots_Check.mono _ _ _
   | exact slots_Count.mono _ _ _
   | exact LeO.none _
   | refine LeO.ite ?_ ?_
   | refine LeO.bind ?_ (fun _ => ?_)
  ·
   intro y0 y1 y2 y3 y4 y5 y6
   unfold headgatelaw18_SlotsFree.j2
   repeat' first
   | (with_reducible exact ih0 _ _ _ _ _ _)
   | (with_reducible exact ih1 _ _ _ _ _ _)
   | (with_reducible exact ih2 _ _ _ _ _ _ _)
   | (with_reducible exact ih3 _ _ _ _ _ _ _ _ _ _ _ _ _)
   | (with_reducible exact ih4 _ _ _ _ _ _ _ _ _ _ _ _ _ _ _)
   | (with_reducible exact ih5 _ _ _ _ _ _ _ _ _ _ _ _ _ _ _ _)
   | (with_reducible exact headgatelaw18_step.mono _ _ _ _)
   | (with_reducible exact slots_Check.mono _ _ _)
   | (with_reducible exact slots_Count.mono _ _ _)
   | (with_reducible exact LeO.refl _)
   | (with_reducible exact LeO.none _)
   | (with_reducible refine LeO.ite ?_ ?_)
   | (with_reducible refine LeO.bind ?_ (fun _ => ?_))
   | exact ih0 _ _ _ _ _ _
   | exact ih1 _ _ _ _ _ _
   | exact ih2 _ _ _ _ _ _ _
   | exact ih3 _ _ _ _ _ _ _ _ _ _ _ _ _
   | exact ih4 _ _ _ _ _ _ _ _ _ _ _ _ _ _ _
   | exact ih5 _ _ _ _ _ _ _ _ _ _ _ _ _ _ _ _
   | exact headgatelaw18_step.mono _ _ _ _
   | exact slots_Check.mono _ _ _
   | exact slots_Count.mono _ _ _
   | exact LeO.none _
   | refine LeO.ite ?_ ?_
   | refine LeO.bind ?_ (fun _ => ?_)
  ·
   intro y0 y1 y2 y3 y4 y5 y6 y7 y8 y9 y10 y11 y12
   unfold headgatelaw18_SlotsFree.j3
   repeat' first
   | (with_reducible exact ih0 _ _ _ _ _ _)
   | (with_reducible exact ih1 _ _ _ _ _ _)
   | (with_reducible exact ih2 _ _ _ _ _ _ _)
   | (with_reducible exact ih3 _ _ _ _ _ _ _ _ _ _ _ _ _)
   | (with_reducible exact ih4 _ _ _ _ _ _ _ _ _ _ _ _ _ _ _)
   | (with_reducible exact ih5 _ _ _ _ _ _ _ _ _ _ _ _ _ _ _ _)
   | (with_reducible exact headgatelaw18_step.mono _ _ _ _)
   | (with_reducible exact slots_Check.mono _ _ _)
   | (with_reducible exact slots_Count.mono _ _ _)
   | (with_reducible exact LeO.refl _)
   | (with_reducible exact LeO.none _)
   | (with_reducible refine LeO.ite ?_ ?_)
   | (with_reducible refine LeO.bind ?_ (fun _ => ?_))
   | exact ih0 _ _ _ _ _ _
   | exact ih1 _ _ _ _ _ _
   | exact ih2 _ _ _ _ _ _ _
   | exact ih3 _ _ _ _ _ _ _ _ _ _ _ _ _
   | exact ih4 _ _ _ _ _ _ _ _ _ _ _ _ _ _ _
   | exact ih5 _ _ _ _ _ _ _ _ _ _ _ _ _ _ _ _
   | exact headgatelaw18_step.mono _ _ _ _
   | exact slots_Check.mono _ _ _
   | exact slots_Count.mono _ _ _
   | exact LeO.none _
   | refine LeO.ite ?_ ?_
   | refine LeO.bind ?_ (fun _ => ?_)
  ·
   intro y0 y1 y2 y3 y4 y5 y6 y7 y8 y9 y10 y11 y12 y13 y14
   unfold headgatelaw18_SlotsFree.l1
   repeat' first
   | (with_reducible exact ih0 _ _ _ _ _ _)
   | (with_reducible exact ih1 _ _ _ _ _ _)
   | (with_reducible exact ih2 _ _ _ _ _ _ _)
   | (with_reducible exact ih3 _ _ _ _ _ _ _ _ _ _ _ _ _)
   | (with_reducible exact ih4 _ _ _ _ _ _ _ _ _ _ _ _ _ _ _)
   | (with_reducible exact ih5 _ _ _ _ _ _ _ _ _ _ _ _ _ _ _ _)
   | (with_reducible exact headgatelaw18_step.mono _ _ _ _)
   | (with_reducible exact slots_Check.mono _ _ _)
   | (with_reducible exact slots_Count.mono _ _ _)
   | (with_reducible exact LeO.refl _)
   | (with_reducible exact LeO.none _)
   | (with_reducible refine LeO.ite ?_ ?_)
   | (with_reducible refine LeO.bind ?_ (fun _ => ?_))
   | exact ih0 _ _ _ _ _ _
   | exact ih1 _ _ _ _ _ _
   | exact ih2 _ _ _ _ _ _ _
   | exact ih3 _ _ _ _ _ _ _ _ _ _ _ _ _
   | exact ih4 _ _ _ _ _ _ _ _ _ _ _ _ _ _ _
   | exact ih5 _ _ _ _ _ _ _ _ _ _ _ _ _ _ _ _
   | exact headgatelaw18_step.mono _ _ _ _
   | exact slots_Check.mono _ _ _
   | exact slots_Count.mono _ _ _
   | exact LeO.none _
   | refine LeO.ite ?_ ?_
   | refine LeO.bind ?_ (fun _ => ?_)
  ·
   intro y0 y1 y2 y3 y4 y5 y6 y7 y8 y9 y10 y11 y12 y13 y14 y15
   unfold headgatelaw18_SlotsFree.j5
   repeat' first
   | (with_reducible exact ih0 _ _ _ _ _ _)
   | (with_reducible exact ih1 _ _ _ _ _ _)
   | (with_reducible exact ih2 _ _ _ _ _ _ _)
   | (with_reducible exact ih3 _ _ _ _ _ _ _ _ _ _ _ _ _)
   | (with_reducible exact ih4 _ _ _ _ _ _ _ _ _ _ _ _ _ _ _)
   | (with_reducible exact ih5 _ _ _ _ _ _ _ _ _ _ _ _ _ _ _ _)
   | (with_reducible exact headgatelaw18_step.mono _ _ _ _)
   | (with_reducible exact slots_Check.mono _ _ _)
   | (with_reducible exact slots_Count.mono _ _ _)
   | (with_reducible exact LeO.refl _)
   | (with_reducible exact LeO.none _)
   | (with_reducible refine LeO.ite ?_ ?_)
   | (with_reducible refine LeO.bind ?_ (fun _ => ?_))
   | exact ih0 _ _ _ _ _ _
   | exact ih1 _ _ _ _ _ _
   | exact ih2 _ _ _ _ _ _ _
   | exact ih3 _ _ _ _ _ _ _ _ _ _ _ _ _
   | exact ih4 _ _ _ _ _ _ _ _ _ _ _ _ _ _ _
   | exact ih5 _ _ _ _ _ _ _ _ _ _ _ _ _ _ _ _
   | exact headgatelaw18_step.mono _ _ _ _
   | exact slots_Check.mono _ _ _
   | exact slots_Count.mono _ _ _
   | exact LeO.none _
   | refine LeO.ite ?_ ?_
   | refine LeO.bind ?_ (fun _ => ?_)
theorem headgatelaw18_SlotsFree.mono : ∀ a0 a1 k, LeO (headgatelaw18_SlotsFree.f k a0 a1) (headgatelaw18_SlotsFree.f (k + 1) a0 a1) := by
 intro a0 a1 k
 obtain ⟨ih0, ih1, ih2, ih3, ih4, ih5⟩ := headgatelaw18_SlotsFree.mono_l k
 unfold headgatelaw18_SlotsFree.f
 repeat' first
   | (with_reducible exact ih0 _ _ _ _ _ _)
   | (with_reducible exact ih1 _ _ _ _ _ _)
   | (with_reducible exact ih2 _ _ _ _ _ _ _)
   | (with_reducible exact ih3 _ _ _ _ _ _ _ _ _ _ _ _ _)
   | (with_reducible exact ih4 _ _ _ _ _ _ _ _ _ _ _ _ _ _ _)
   | (with_reducible exact ih5 _ _ _ _ _ _ _ _ _ _ _ _ _ _ _ _)
   | (with_reducible exact headgatelaw18_step.mono _ _ _ _)
   | (with_reducible exact slots_Check.mono _ _ _)
   | (with_reducible exact slots_Count.mono _ _ _)
   | (with_reducible exact LeO.refl _)
   | (with_reducible exact LeO.none _)
   | (with_reducible refine LeO.ite ?_ ?_)
   | (with_reducible refine LeO.bind ?_ (fun _ => ?_))
   | exact ih0 _ _ _ _ _ _
   | exact ih1 _ _ _ _ _ _
   | exact ih2 _ _ _ _ _ _ _
   | exact ih3 _ _ _ _ _ _ _ _ _ _ _ _ _
   | exact ih4 _ _ _ _ _ _ _ _ _ _ _ _ _ _ _
   | exact ih5 _ _ _ _ _ _ _ _ _ _ _ _ _ _ _ _
   | exact headgatelaw18_step.mono _ _ _ _
   | exact slots_Check.mono _ _ _
   | exact slots_Count.mono _ _ _
   | exact LeO.none _
   | refine LeO.ite ?_ ?_
   | refine LeO.bind ?_ (fun _ => ?_)
def headgatelaw18_SlotsFree.T9 : Bool × List (List Nat × List Nat) := (true, [([], []), ([], []), ([], []), ([1, 2], [1, 2]), ([3], [3]), ([0, 4], [0, 4]), ([5], [5]), ([6], [6]), ([6], [6]), ([6], [6]), ([], []), ([10, 7, 5, 0, 1, 2, 3, 4, 5, 6, 7, 10], [7, 10]), ([8, 11, 0, 1, 2, 3, 4, 5, 6, 7, 8, 10, 11], [8]), ([9, 12, 0, 1, 2, 3, 4, 5, 6, 7, 8, 9, 10, 11, 12], [9])])
def headgatelaw18_SlotsFree.B9 : List Nat := [0, 0, 0, 6, 14, 31, 63, 127, 127, 127, 0, 1279, 3583, 8191]
theorem headgatelaw18_SlotsFree.tab9 : rtab .any (opsOf Try.f6 9) = headgatelaw18_SlotsFree.T9 := by kernel_rfl
theorem headgatelaw18_SlotsFree.bits9 : waitsOk headgatelaw18_SlotsFree.T9.2 headgatelaw18_SlotsFree.B9 = true := by kernel_rfl

end Go.Proofs.Ytofonnfkffbjkaa.X
