/- What Go functions of this seat compute, told as Lean functions, and that each call of the Go code comes to that answer; for a law: its row, for every input. Written by a program of the session. -/
import Derived.Test.YtaofihdmgdpenaaX0
import Derived.Test.YtaofihdmgdpenaaX2
import Derived.Test.YtaofihdmgdpenaaX17
import Derived.Test.YtaofihdmgdpenaaX25
import Derived.Test.YtaofihdmgdpenaaX35
import Derived.Test.YtaofihdmgdpenaaX40
import Derived.Test.YtaofihdmgdpenaaX43
import Derived.Test.YtaofihdmgdpenaaX45
import Derived.Test.YtaofihdmgdpenaaX47
import Derived.Test.YtaofihdmgdpenaaX61
namespace Go.Proofs.Ytaofihdmgdpenaa.X
open Go.RowKit Go.Proofs.YtaofihdmgdpenaaW.PrintWords Go.Proofs.YtaofihdmgdpenaaW.PrintLast Go.Proofs.YtaofihdmgdpenaaW.PrintMore
attribute [local go_sem] max2_int min2_int max_two min_two max_three min_three max_four min_four   -- for this text's walks alone
set_option linter.unusedVariables false
set_option linter.unusedSimpArgs false

/-! ### headgatelaw07_LruSteps: function 7 -/
mutual
def headgatelaw07_LruSteps.l0 : Nat → List Int → Int → List Int → List Int → List Bool → Option (Bool)
 | 0, _, _, _, _, _ => none
 | k + 1, x1, x6, x620000, x620001, x620002 => if x6 < (x1.length : Int) then (headgatelaw07_LruSteps.j1 k x1 x6 (decide (x6 < 30)) x620000 x620001 x620002) else (headgatelaw07_LruSteps.j1 k x1 x6 false x620000 x620001 x620002)
def headgatelaw07_LruSteps.j1 : Nat → List Int → Int → Bool → List Int → List Int → List Bool → Option (Bool)
 | 0, _, _, _, _, _, _ => none
 | k + 1, x1, x6, x23, x620000, x620001, x620002 => if x23 = true then (if 0 ≤ x6 then (if x6 < (x1.length : Int) then ((headgatekit_Mod.f (rd x1 x6) 80).bind fun t622 => ((headgatelaw07_size.f x620000 x620001 x620002).bind fun t623 => ((lru_Where.f k x620000 x620001 x620002 (wrap64 (Int.tdiv t622 5))).bind fun bt624 => (if bt624.2 = 0 then (if (Int.tmod t622 5) = 0 then ((lru_Add.f k x620000 x620001 x620002 (wrap64 (Int.tdiv t622 5))).bind fun bt627 => (headgatelaw07_LruSteps.j2 k x1 x6 t622 bt624.1 bt627.2.2.2 (wrap64 (t623 + 1)) x620000 x620001 x620002 bt627.1 bt627.2.1 bt627.2.2.1)) else (if (Int.tmod t622 5) = 1 then ((lru_Remove.f k x620000 x620001 x620002 (wrap64 (Int.tdiv t622 5))).bind fun bt637 => (headgatelaw07_LruSteps.j2 k x1 x6 t622 bt624.1 bt637.2.2.2 (wrap64 (t623 - 1)) x620000 x620001 x620002 bt637.1 bt637.2.1 bt637.2.2.1)) else (if (Int.tmod t622 5) = 2 then ((lru_Touch.f k x620000 x620001 x620002 (wrap64 (Int.tdiv t622 5))).bind fun bt647 => (headgatelaw07_LruSteps.j2 k x1 x6 t622 bt624.1 bt647.2.2.2 t623 x620000 x620001 x620002 bt647.1 bt647.2.1 bt647.2.2.1)) else (if (Int.tmod t622 5) = 3 then ((lru_Demote.f x620000 x620001 x620002).bind fun bt657 => (headgatelaw07_LruSteps.j2 k x1 x6 t622 bt624.1 bt657.2.2.2.2 t623 x620000 x620001 x620002 bt657.1 bt657.2.1 bt657.2.2.1)) else (if (Int.tmod t622 5) = 4 then ((lru_Promote.f x620000 x620001 x620002).bind fun bt668 => (headgatelaw07_LruSteps.j2 k x1 x6 t622 bt624.1 bt668.2.2.2.2 t623 x620000 x620001 x620002 bt668.1 bt668.2.1 bt668.2.2.1)) else (headgatelaw07_LruSteps.j2 k x1 x6 t622 bt624.1 bt624.2 t623 x620000 x620001 x620002 ([] : List Int) ([] : List Int) ([] : List Bool))))))) else (some false))))) else (none)) else (none)) else ((headgatelaw07_awake.f).bind fun t620 => (some t620))
def headgatelaw07_LruSteps.j2 : Nat → List Int → Int → Int → Int → Int → Int → List Int → List Int → List Bool → List Int → List Int → List Bool → Option (Bool)
 | 0, _, _, _, _, _, _, _, _, _, _, _, _ => none
 | k + 1, x1, x6, x7, x10, x11, x13, x620000, x620001, x620002, x627000, x627001, x627002 => if x11 = 0 then ((lru_Check.f x627000 x627001 x627002).bind fun t679 => (if t679 = 0 then ((headgatelaw07_size.f x627000 x627001 x627002).bind fun t680 => (if t680 = x13 then (headgatelaw07_LruSteps.l0 k x1 (wrap64 (x6 + 1)) x627000 x627001 x627002) else (some false))) else (some false))) else (if (Int.tmod x7 5) = 0 then (if x10 = 0 then (some false) else (if (Int.tmod x7 5) = 1 then (some false) else (if (Int.tmod x7 5) = 2 then (some false) else (if (Int.tmod x7 5) = 3 then (if (x620000.length : Int) > 0 then (some false) else (if (Int.tmod x7 5) = 4 then (if (x620001.length : Int) > 0 then (some false) else (headgatelaw07_LruSteps.l0 k x1 (wrap64 (x6 + 1)) x620000 x620001 x620002)) else (headgatelaw07_LruSteps.l0 k x1 (wrap64 (x6 + 1)) x620000 x620001 x620002))) else (if (Int.tmod x7 5) = 4 then (if (x620001.length : Int) > 0 then (some false) else (headgatelaw07_LruSteps.l0 k x1 (wrap64 (x6 + 1)) x620000 x620001 x620002)) else (headgatelaw07_LruSteps.l0 k x1 (wrap64 (x6 + 1)) x620000 x620001 x620002)))))) else (if (Int.tmod x7 5) = 1 then (if x10 = 0 then (if (Int.tmod x7 5) = 2 then (if (Int.tmod x7 5) = 3 then (if (x620000.length : Int) > 0 then (some false) else (if (Int.tmod x7 5) = 4 then (if (x620001.length : Int) > 0 then (some false) else (headgatelaw07_LruSteps.l0 k x1 (wrap64 (x6 + 1)) x620000 x620001 x620002)) else (headgatelaw07_LruSteps.l0 k x1 (wrap64 (x6 + 1)) x620000 x620001 x620002))) else (if (Int.tmod x7 5) = 4 then (if (x620001.length : Int) > 0 then (some false) else (headgatelaw07_LruSteps.l0 k x1 (wrap64 (x6 + 1)) x620000 x620001 x620002)) else (headgatelaw07_LruSteps.l0 k x1 (wrap64 (x6 + 1)) x620000 x620001 x620002))) else (if (Int.tmod x7 5) = 3 then (if (x620000.length : Int) > 0 then (some false) else (if (Int.tmod x7 5) = 4 then (if (x620001.length : Int) > 0 then (some false) else (headgatelaw07_LruSteps.l0 k x1 (wrap64 (x6 + 1)) x620000 x620001 x620002)) else (headgatelaw07_LruSteps.l0 k x1 (wrap64 (x6 + 1)) x620000 x620001 x620002))) else (if (Int.tmod x7 5) = 4 then (if (x620001.length : Int) > 0 then (some false) else (headgatelaw07_LruSteps.l0 k x1 (wrap64 (x6 + 1)) x620000 x620001 x620002)) else (headgatelaw07_LruSteps.l0 k x1 (wrap64 (x6 + 1)) x620000 x620001 x620002)))) else (some false)) else (if (Int.tmod x7 5) = 2 then (if x10 = 0 then (if (Int.tmod x7 5) = 3 then (if (x620000.length : Int) > 0 then (some false) else (if (Int.tmod x7 5) = 4 then (if (x620001.length : Int) > 0 then (some false) else (headgatelaw07_LruSteps.l0 k x1 (wrap64 (x6 + 1)) x620000 x620001 x620002)) else (headgatelaw07_LruSteps.l0 k x1 (wrap64 (x6 + 1)) x620000 x620001 x620002))) else (if (Int.tmod x7 5) = 4 then (if (x620001.length : Int) > 0 then (some false) else (headgatelaw07_LruSteps.l0 k x1 (wrap64 (x6 + 1)) x620000 x620001 x620002)) else (headgatelaw07_LruSteps.l0 k x1 (wrap64 (x6 + 1)) x620000 x620001 x620002))) else (some false)) else (if (Int.tmod x7 5) = 3 then (if (x620000.length : Int) > 0 then (some false) else (if (Int.tmod x7 5) = 4 then (if (x620001.length : Int) > 0 then (some false) else (headgatelaw07_LruSteps.l0 k x1 (wrap64 (x6 + 1)) x620000 x620001 x620002)) else (headgatelaw07_LruSteps.l0 k x1 (wrap64 (x6 + 1)) x620000 x620001 x620002))) else (if (Int.tmod x7 5) = 4 then (if (x620001.length : Int) > 0 then (some false) else (headgatelaw07_LruSteps.l0 k x1 (wrap64 (x6 + 1)) x620000 x620001 x620002)) else (headgatelaw07_LruSteps.l0 k x1 (wrap64 (x6 + 1)) x620000 x620001 x620002))))))
end
def headgatelaw07_LruSteps.f (k : Nat) (l0 : List Int) (l1 : List Int) : Option (Bool) := (headgatelaw07_made.f k l0).bind fun bt610 => (headgatelaw07_LruSteps.l0 k l1 0 bt610.1 bt610.2.1 bt610.2.2)
theorem headgatelaw07_LruSteps.mono_l : ∀ k, (∀ y0 y1 y2 y3 y4, LeO (headgatelaw07_LruSteps.l0 k y0 y1 y2 y3 y4) (headgatelaw07_LruSteps.l0 (k + 1) y0 y1 y2 y3 y4)) ∧ (∀ y0 y1 y2 y3 y4 y5, LeO (headgatelaw07_LruSteps.j1 k y0 y1 y2 y3 y4 y5) (headgatelaw07_LruSteps.j1 (k + 1) y0 y1 y2 y3 y4 y5)) ∧ (∀ y0 y1 y2 y3 y4 y5 y6 y7 y8 y9 y10 y11, LeO (headgatelaw07_LruSteps.j2 k y0 y1 y2 y3 y4 y5 y6 y7 y8 y9 y10 y11) (headgatelaw07_LruSteps.j2 (k + 1) y0 y1 y2 y3 y4 y5 y6 y7 y8 y9 y10 y11))
 | 0 => ⟨fun _ _ _ _ _ r h => by simp [headgatelaw07_LruSteps.l0] at h, fun _ _ _ _ _ _ r h => by simp [headgatelaw07_LruSteps.j1] at h, fun _ _ _ _ _ _ _ _ _ _ _ _ r h => by simp [headgatelaw07_LruSteps.j2] at h⟩
 | k + 1 => by
  obtain ⟨ih0, ih1, ih2⟩ := headgatelaw07_LruSteps.mono_l k
  refine ⟨?_, ?_, ?_⟩
  ·
   intro y0 y1 y2 y3 y4
   unfold headgatelaw07_LruSteps.l0
   repeat' first
   | (with_reducible exact ih0 _ _ _ _ _)
   | (with_reducible exact ih1 _ _ _ _ _ _)
   | (with_reducible exact ih2 _ _ _ _ _ _ _ _ _ _ _ _)
   | (with_reducible exact headgatelaw07_made.mono _ _)
   | (with_reducible exact lru_Add.mono _ _ _ _ _)
   | (with_reducible exact lru_Remove.mono _ _ _ _ _)
   | (with_reducible exact lru_Touch.mono _ _ _ _ _)
   | (with_reducible exact lru_Where.mono _ _ _ _ _)
   | (with_reducible exact LeO.refl _)
   | (with_reducible exact LeO.none _)
   | (with_reducible refine LeO.ite ?_ ?_)
   | (with_reducible refine LeO.bind ?_ (fun _ => ?_))
   | exact ih0 _ _ _ _ _
   | exact ih1 _ _ _ _ _ _
   | exact ih2 _ _ _ _ _ _ _ _ _ _ _ _
   | exact headgatelaw07_made.mono _ _
   | exact lru_Add.mono _ _ _ _ _
   | exact lru_Remove.mono _ _ _ _ _
   | exact lru_Touch.mono _ _ _ _ _
   | exact lru_Where.mono _ _ _ _ _
   | exact LeO.none _
   | refine LeO.ite ?_ ?_
   | refine LeO.bind ?_ (fun _ => ?_)
  ·
   intro y0 y1 y2 y3 y4 y5
   unfold headgatelaw07_LruSteps.j1
   repeat' first
   | (with_reducible exact ih0 _ _ _ _ _)
   | (with_reducible exact ih1 _ _ _ _ _ _)
   | (with_reducible exact ih2 _ _ _ _ _ _ _ _ _ _ _ _)
   | (with_reducible exact headgatelaw07_made.mono _ _)
   | (with_reducible exact lru_Add.mono _ _ _ _ _)
   | (with_reducible exact lru_Remove.mono _ _ _ _ _)
   | (with_reducible exact lru_Touch.mono _ _ _ _ _)
   | (with_reducible exact lru_Where.mono _ _ _ _ _)
   | (with_reducible exact LeO.refl _)
   | (with_reducible exact LeO.none _)
   | (with_reducible refine LeO.ite ?_ ?_)
   | (with_reducible refine LeO.bind ?_ (fun _ => ?_))
   | exact ih0 _ _ _ _ _
   | exact ih1 _ _ _ _ _ _
   | exact ih2 _ _ _ _ _ _ _ _ _ _ _ _
   | exact headgatelaw07_made.mono _ _
   | exact lru_Add.mono _ _ _ _ _
   | exact lru_Remove.mono _ _ _ _ _
   | exact lru_Touch.mono _ _ _ _ _
   | exact lru_Where.mono _ _ _ _ _
   | exact LeO.none _
   | refine LeO.ite ?_ ?_
   | refine LeO.bind ?_ (fun _ => ?_)
  ·
   intro y0 y1 y2 y3 y4 y5 y6 y7 y8 y9 y10 y11
   unfold headgatelaw07_LruSteps.j2
   repeat' first
   | (with_reducible exact ih0 _ _ _ _ _)
   | (with_reducible exact ih1 _ _ _ _ _ _)
   | (with_reducible exact ih2 _ _ _ _ _ _ _ _ _ _ _ _)
   | (with_reducible exact headgatelaw07_made.mono _ _)
   | (with_reducible exact lru_Add.mono _ _ _ _ _)
   | (with_reducible exact lru_Remove.mono _ _ _ _ _)
   | (with_reducible exact lru_Touch.mono _ _ _ _ _)
   | (with_reducible exact lru_Where.mono _ _ _ _ _)
   | (with_reducible exact LeO.refl _)
   | (with_reducible exact LeO.none _)
   | (with_reducible refine LeO.ite ?_ ?_)
   | (with_reducible refine LeO.bind ?_ (fun _ => ?_))
   | exact ih0 _ _ _ _ _
   | exact ih1 _ _ _ _ _ _
   | exact ih2 _ _ _ _ _ _ _ _ _ _ _ _
   | exact headgatelaw07_made.mono _ _
   | exact lru_Add.mono _ _ _ _ _
   | exact lru_Remove.mono _ _ _ _ _
   | exact lru_Touch.mono _ _ _ _ _
   | exact lru_Where.mono _ _ _ _ _
   | exact LeO.none _
   | refine LeO.ite ?_ ?_
   | refine LeO.bind ?_ (fun _ => ?_)
theorem headgatelaw07_LruSteps.mono : ∀ a0 a1 k, LeO (headgatelaw07_LruSteps.f k a0 a1) (headgatelaw07_LruSteps.f (k + 1) a0 a1) := by
 intro a0 a1 k
 obtain ⟨ih0, ih1, ih2⟩ := headgatelaw07_LruSteps.mono_l k
 unfold headgatelaw07_LruSteps.f
 repeat' first
   | (with_reducible exact ih0 _ _ _ _ _)
   | (with_reducible exact ih1 _ _ _ _ _ _)
   | (with_reducible exact ih2 _ _ _ _ _ _ _ _ _ _ _ _)
   | (with_reducible exact headgatelaw07_made.mono _ _)
   | (with_reducible exact lru_Add.mono _ _ _ _ _)
   | (with_reducible exact lru_Remove.mono _ _ _ _ _)
   | (with_reducible exact lru_Touch.mono _ _ _ _ _)
   | (with_reducible exact lru_Where.mono _ _ _ _ _)
   | (with_reducible exact LeO.refl _)
   | (with_reducible exact LeO.none _)
   | (with_reducible refine LeO.ite ?_ ?_)
   | (with_reducible refine LeO.bind ?_ (fun _ => ?_))
   | exact ih0 _ _ _ _ _
   | exact ih1 _ _ _ _ _ _
   | exact ih2 _ _ _ _ _ _ _ _ _ _ _ _
   | exact headgatelaw07_made.mono _ _
   | exact lru_Add.mono _ _ _ _ _
   | exact lru_Remove.mono _ _ _ _ _
   | exact lru_Touch.mono _ _ _ _ _
   | exact lru_Where.mono _ _ _ _ _
   | exact LeO.none _
   | refine LeO.ite ?_ ?_
   | refine LeO.bind ?_ (fun _ => ?_)

end Go.Proofs.Ytaofihdmgdpenaa.X
