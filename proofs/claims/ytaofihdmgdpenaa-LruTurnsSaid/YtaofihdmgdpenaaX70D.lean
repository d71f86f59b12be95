/- What Go functions of this seat compute, told as Lean functions, and that each call of the Go code comes to that answer; for a law: its row, for every input. Written by a program of the session. -/
import Derived.Test.YtaofihdmgdpenaaX0
import Derived.Test.YtaofihdmgdpenaaX1
import Derived.Test.YtaofihdmgdpenaaX17
import Derived.Test.YtaofihdmgdpenaaX23
import Derived.Test.YtaofihdmgdpenaaX47
import Derived.Test.YtaofihdmgdpenaaX12
import Derived.Test.YtaofihdmgdpenaaX66
import Derived.Test.YtaofihdmgdpenaaX68
namespace Go.Proofs.Ytaofihdmgdpenaa.X
open Go.RowKit Go.Proofs.YtaofihdmgdpenaaW.PrintWords Go.Proofs.YtaofihdmgdpenaaW.PrintLast Go.Proofs.YtaofihdmgdpenaaW.PrintMore
attribute [local go_sem] max2_int min2_int max_two min_two max_three min_three max_four min_four   -- for this text's walks alone
set_option linter.unusedVariables false
set_option linter.unusedSimpArgs false

/-! ### headgatelaw07_LruTurns: function 8 -/
mutual
def headgatelaw07_LruTurns.j0 : Nat → Bool → List Int → List Int → List Bool → List Int → List Int → List Bool → Option (Bool)
 | 0, _, _, _, _, _, _, _ => none
 | k + 1, x37, x741000, x741001, x741002, x753000, x753001, x753002 => if x37 = true then (some false) else ((lru_Demote.f x753000 x753001 x753002).bind fun bt757 => ((headgateref07_Demote.f k x741000 x741001 x741002).bind fun bt769 => ((headgatekit_SameLists.f k bt757.1 bt757.2.1 bt757.2.2.1 bt769.1 bt769.2.1 bt769.2.2.1).bind fun t781 => (if t781 = true then (if bt757.2.2.2.1 = bt769.2.2.2.1 then (headgatelaw07_LruTurns.j1 k (bt757.2.2.2.2 != bt769.2.2.2.2) x741000 x741001 x741002 x753000 x753001 x753002) else (headgatelaw07_LruTurns.j1 k true x741000 x741001 x741002 x753000 x753001 x753002)) else (headgatelaw07_LruTurns.j1 k true x741000 x741001 x741002 x753000 x753001 x753002)))))
def headgatelaw07_LruTurns.j1 : Nat → Bool → List Int → List Int → List Bool → List Int → List Int → List Bool → Option (Bool)
 | 0, _, _, _, _, _, _, _ => none
 | k + 1, x63, x741000, x741001, x741002, x753000, x753001, x753002 => if x63 = true then (some false) else ((lru_Promote.f x753000 x753001 x753002).bind fun bt782 => ((headgateref07_Promote.f k x741000 x741001 x741002).bind fun bt793 => ((lru_Order.f k x753000 x753001 x753002).bind fun bt804 => ((headgateref07_Order.f k x741000 x741001 x741002).bind fun bt808 => ((headgatekit_SameLists.f k bt782.1 bt782.2.1 bt782.2.2.1 bt793.1 bt793.2.1 bt793.2.2.1).bind fun t812 => (if t812 = true then (if bt782.2.2.2.1 = bt793.2.2.2.1 then (if bt782.2.2.2.2 = bt793.2.2.2.2 then ((headgatekit_SameInts.f k bt804.1 bt808.1).bind fun t813 => (if t813 = true then (if bt804.2 = bt808.2 then ((headgatekit_SameLists.f k x753000 x753001 x753002 x741000 x741001 x741002).bind fun t814 => (if t814 = true then ((headgatelaw07_awake.f).bind fun t815 => (some t815)) else (some false))) else (some false)) else (some false))) else (some false)) else (some false)) else (some false)))))))
end
def headgatelaw07_LruTurns.f (k : Nat) (l0_0 : List Int) (l0_1 : List Int) (l0_2 : List Bool) : Option (Bool) := (headgatelaw07_light.f l0_0 l0_1 l0_2).bind fun t741 => (if t741 = true then ((headgatekit_OwnLists.f l0_0 l0_1 l0_2).bind fun bt743 => ((lru_Last.f bt743.1 bt743.2.1 bt743.2.2).bind fun bt753 => ((headgateref07_Last.f l0_0 l0_1 l0_2).bind fun bt755 => (if bt753.1 = bt755.1 then (headgatelaw07_LruTurns.j0 k (bt753.2 != bt755.2) l0_0 l0_1 l0_2 bt743.1 bt743.2.1 bt743.2.2) else (headgatelaw07_LruTurns.j0 k true l0_0 l0_1 l0_2 bt743.1 bt743.2.1 bt743.2.2))))) else ((headgatelaw07_awake.f).bind fun t742 => (some t742)))
theorem headgatelaw07_LruTurns.mono_l : ∀ k, (∀ y0 y1 y2 y3 y4 y5 y6, LeO (headgatelaw07_LruTurns.j0 k y0 y1 y2 y3 y4 y5 y6) (headgatelaw07_LruTurns.j0 (k + 1) y0 y1 y2 y3 y4 y5 y6)) ∧ (∀ y0 y1 y2 y3 y4 y5 y6, LeO (headgatelaw07_LruTurns.j1 k y0 y1 y2 y3 y4 y5 y6) (headgatelaw07_LruTurns.j1 (k + 1) y0 y1 y2 y3 y4 y5 y6))
 | 0 => ⟨fun _ _ _ _ _ _ _ r h => by simp [headgatelaw07_LruTurns.j0] at h, fun _ _ _ _ _ _ _ r h => by simp [headgatelaw07_LruTurns.j1] at h⟩
 | k + 1 => by
  obtain ⟨ih0, ih1⟩ := headgatelaw07_LruTurns.mono_l k
  refine ⟨?_, ?_⟩
  ·
   intro y0 y1 y2 y3 y4 y5 y6
   unfold headgatelaw07_LruTurns.j0
   repeat' first
   | (with_reducible exact ih0 _ _ _ _ _ _ _)
   | (with_reducible exact ih1 _ _ _ _ _ _ _)
   | (with_reducible exact headgatekit_SameInts.mono _ _ _)
   | (with_reducible exact headgatekit_SameLists.mono _ _ _ _ _ _ _)
   | (with_reducible exact headgateref07_Demote.mono _ _ _ _)
   | (with_reducible exact headgateref07_Order.mono _ _ _ _)
   | (with_reducible exact headgateref07_Promote.mono _ _ _ _)
   | (with_reducible exact lru_Order.mono _ _ _ _)
   | (with_reducible exact LeO.refl _)
   | (with_reducible exact LeO.none _)
   | (with_reducible refine LeO.ite ?_ ?_)
   | (with_reducible refine LeO.bind ?_ (fun _ => ?_))
   | exact ih0 _ _ _ _ _ _ _
   | exact ih1 _ _ _ _ _ _ _
   | exact headgatekit_SameInts.mono _ _ _
   | exact headgatekit_SameLists.mono _ _ _ _ _ _ _
   | exact headgateref07_Demote.mono _ _ _ _
   | exact headgateref07_Order.mono _ _ _ _
   | exact headgateref07_Promote.mono _ _ _ _
   | exact lru_Order.mono _ _ _ _
   | exact LeO.none _
   | refine LeO.ite ?_ ?_
   | refine LeO.bind ?_ (fun _ => ?_)
  ·
   intro y0 y1 y2 y3 y4 y5 y6
   unfold headgatelaw07_LruTurns.j1
   repeat' first
   | (with_reducible exact ih0 _ _ _ _ _ _ _)
   | (with_reducible exact ih1 _ _ _ _ _ _ _)
   | (with_reducible exact headgatekit_SameInts.mono _ _ _)
   | (with_reducible exact headgatekit_SameLists.mono _ _ _ _ _ _ _)
   | (with_reducible exact headgateref07_Demote.mono _ _ _ _)
   | (with_reducible exact headgateref07_Order.mono _ _ _ _)
   | (with_reducible exact headgateref07_Promote.mono _ _ _ _)
   | (with_reducible exact lru_Order.mono _ _ _ _)
   | (with_reducible exact LeO.refl _)
   | (with_reducible exact LeO.none _)
   | (with_reducible refine LeO.ite ?_ ?_)
   | (with_reducible refine LeO.bind ?_ (fun _ => ?_))
   | exact ih0 _ _ _ _ _ _ _
   | exact ih1 _ _ _ _ _ _ _
   | exact headgatekit_SameInts.mono _ _ _
   | exact headgatekit_SameLists.mono _ _ _ _ _ _ _
   | exact headgateref07_Demote.mono _ _ _ _
   | exact headgateref07_Order.mono _ _ _ _
   | exact headgateref07_Promote.mono _ _ _ _
   | exact lru_Order.mono _ _ _ _
   | exact LeO.none _
   | refine LeO.ite ?_ ?_
   | refine LeO.bind ?_ (fun _ => ?_)
theorem headgatelaw07_LruTurns.mono : ∀ a0 a1 a2 k, LeO (headgatelaw07_LruTurns.f k a0 a1 a2) (headgatelaw07_LruTurns.f (k + 1) a0 a1 a2) := by
 intro a0 a1 a2 k
 obtain ⟨ih0, ih1⟩ := headgatelaw07_LruTurns.mono_l k
 unfold headgatelaw07_LruTurns.f
 repeat' first
   | (with_reducible exact ih0 _ _ _ _ _ _ _)
   | (with_reducible exact ih1 _ _ _ _ _ _ _)
   | (with_reducible exact headgatekit_SameInts.mono _ _ _)
   | (with_reducible exact headgatekit_SameLists.mono _ _ _ _ _ _ _)
   | (with_reducible exact headgateref07_Demote.mono _ _ _ _)
   | (with_reducible exact headgateref07_Order.mono _ _ _ _)
   | (with_reducible exact headgateref07_Promote.mono _ _ _ _)
   | (with_reducible exact lru_Order.mono _ _ _ _)
   | (with_reducible exact LeO.refl _)
   | (with_reducible exact LeO.none _)
   | (with_reducible refine LeO.ite ?_ ?_)
   | (with_reducible refine LeO.bind ?_ (fun _ => ?_))
   | exact ih0 _ _ _ _ _ _ _
   | exact ih1 _ _ _ _ _ _ _
   | exact headgatekit_SameInts.mono _ _ _
   | exact headgatekit_SameLists.mono _ _ _ _ _ _ _
   | exact headgateref07_Demote.mono _ _ _ _
   | exact headgateref07_Order.mono _ _ _ _
   | exact headgateref07_Promote.mono _ _ _ _
   | exact lru_Order.mono _ _ _ _
   | exact LeO.none _
   | refine LeO.ite ?_ ?_
   | refine LeO.bind ?_ (fun _ => ?_)

end Go.Proofs.Ytaofihdmgdpenaa.X
