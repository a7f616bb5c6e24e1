-- Written by a program of this session (pr2.py) that drives the kit's print. Lean checks it.
import Derived.Test.YtiiphlfgdkjjiaaQ0
import Derived.Test.YtiiphlfgdkjjiaaQ3
import Derived.Test.YtiiphlfgdkjjiaaQ6
import Derived.Test.YtiiphlfgdkjjiaaQ7
import Derived.Test.YtiiphlfgdkjjiaaQ10
import Derived.Test.YtiiphlfgdkjjiaaQ14
import Derived.Test.YtiiphlfgdkjjiaaQ15
namespace Go.Proofs.Ytiiphlfgdkjjiaa.Q
open Go.RowKit Go.Proofs.YtiiphlfgdkjjiaaW.PrintWords Go.Proofs.YtiiphlfgdkjjiaaW.PrintLast Go.Proofs.YtiiphlfgdkjjiaaW.PrintMore
attribute [local go_sem] max2_int min2_int max_two min_two max_three min_three max_four min_four   -- for this text's walks alone
set_option linter.unusedVariables false
set_option linter.unusedSimpArgs false

/-! ### transeptlaw04_DiskTorn: function 8 -/
mutual
def transeptlaw04_DiskTorn.j0 : Nat → Int → Int → List Int → List Int → Int → Bool → List (List Int) → List (S61) → Option (Bool)
  | 0, _, _, _, _, _, _, _, _ => none
  | k + 1, x0, x1, x2, x3, x4, x104, x468000, x468001 => if x104 = true then (none) else (transeptlaw04_DiskTorn.l0 k x0 x1 x2 x3 (mx 0 (mn x4 64)) 0 x468000 x468001)
def transeptlaw04_DiskTorn.l0 : Nat → Int → Int → List Int → List Int → Int → Int → List (List Int) → List (S61) → Option (Bool)
  | 0, _, _, _, _, _, _, _, _ => none
  | k + 1, x0, x1, x2, x3, x18, x19, x468000, x468001 => if x19 < x0 then (transeptlaw04_DiskTorn.l1 k x0 x1 x2 x3 x18 x19 0 x468000 x468001) else (some true)
def transeptlaw04_DiskTorn.l1 : Nat → Int → Int → List Int → List Int → Int → Int → Int → List (List Int) → List (S61) → Option (Bool)
  | 0, _, _, _, _, _, _, _, _, _ => none
  | k + 1, x0, x1, x2, x3, x18, x19, x20, x468000, x468001 => if x20 < 64 then (if x19 = x1 then (if x20 < x18 then (transeptlaw04_DiskTorn.j3 k x0 x1 x2 x3 x18 x19 x20 0 (decide (x20 < (x3.length : Int))) x468000 x468001) else (transeptlaw04_DiskTorn.j3 k x0 x1 x2 x3 x18 x19 x20 0 false x468000 x468001)) else (transeptlaw04_DiskTorn.j3 k x0 x1 x2 x3 x18 x19 x20 0 false x468000 x468001)) else (transeptlaw04_DiskTorn.l0 k x0 x1 x2 x3 x18 (wrap64 (x19 + 1)) x468000 x468001)
def transeptlaw04_DiskTorn.j3 : Nat → Int → Int → List Int → List Int → Int → Int → Int → Int → Bool → List (List Int) → List (S61) → Option (Bool)
  | 0, _, _, _, _, _, _, _, _, _, _, _ => none
  | k + 1, x0, x1, x2, x3, x18, x19, x20, x21, x130, x468000, x468001 => if x130 = true then (if 0 ≤ x20 then (if x20 < (x3.length : Int) then (transeptlaw04_DiskTorn.j4 k x0 x1 x2 x3 x18 x19 x20 (rd x3 x20) x468000 x468001) else (none)) else (none)) else (transeptlaw04_DiskTorn.j4 k x0 x1 x2 x3 x18 x19 x20 x21 x468000 x468001)
def transeptlaw04_DiskTorn.j4 : Nat → Int → Int → List Int → List Int → Int → Int → Int → Int → List (List Int) → List (S61) → Option (Bool)
  | 0, _, _, _, _, _, _, _, _, _, _ => none
  | k + 1, x0, x1, x2, x3, x18, x19, x20, x21, x468000, x468001 => if x19 = x1 then (if x20 ≥ x18 then (transeptlaw04_DiskTorn.j5 k x0 x1 x2 x3 x18 x19 x20 x21 (decide (x20 < (x2.length : Int))) x468000 x468001) else (transeptlaw04_DiskTorn.j5 k x0 x1 x2 x3 x18 x19 x20 x21 false x468000 x468001)) else (transeptlaw04_DiskTorn.j5 k x0 x1 x2 x3 x18 x19 x20 x21 false x468000 x468001)
def transeptlaw04_DiskTorn.j5 : Nat → Int → Int → List Int → List Int → Int → Int → Int → Int → Bool → List (List Int) → List (S61) → Option (Bool)
  | 0, _, _, _, _, _, _, _, _, _, _, _ => none
  | k + 1, x0, x1, x2, x3, x18, x19, x20, x21, x148, x468000, x468001 => if x148 = true then (if 0 ≤ x20 then (if x20 < (x2.length : Int) then (if 0 ≤ x19 then (if x19 < (x468000.length : Int) then (if x20 < ((rd_L2 x468000 x19).length : Int) then (if (rd (rd_L2 x468000 x19) x20) = (rd x2 x20) then (transeptlaw04_DiskTorn.l1 k x0 x1 x2 x3 x18 x19 (wrap64 (x20 + 1)) x468000 x468001) else (none)) else (none)) else (none)) else (none)) else (none)) else (none)) else (if 0 ≤ x19 then (if x19 < (x468000.length : Int) then (if 0 ≤ x20 then (if x20 < ((rd_L2 x468000 x19).length : Int) then (if (rd (rd_L2 x468000 x19) x20) = x21 then (transeptlaw04_DiskTorn.l1 k x0 x1 x2 x3 x18 x19 (wrap64 (x20 + 1)) x468000 x468001) else (none)) else (none)) else (none)) else (none)) else (none))
end
def transeptlaw04_DiskTorn.f (k : Nat) (a0 : Int) (a1 : Int) (l2 : List Int) (l3 : List Int) (a4 : Int) : Option (Bool) := (transeptlaw04_alive.f).bind fun t425 => (if t425 = true then (if (wrap64 (1 + (Int.tmod (wrap64 ((Int.tmod a0 20) + 20)) 20))) = 0 then (none) else (if 0 ≤ (mn (l2.length : Int) 64) then (if (mn (l2.length : Int) 64) ≤ (l2.length : Int) then (if 0 ≤ (mn (l3.length : Int) 64) then (if (mn (l3.length : Int) 64) ≤ (l3.length : Int) then ((disk_New.f (wrap64 (1 + (Int.tmod (wrap64 ((Int.tmod a0 20) + 20)) 20)))).bind fun bt428 => ((disk_Put.f k bt428.1 bt428.2.1 (Int.tmod (wrap64 ((Int.tmod a1 (wrap64 (1 + (Int.tmod (wrap64 ((Int.tmod a0 20) + 20)) 20)))) + (wrap64 (1 + (Int.tmod (wrap64 ((Int.tmod a0 20) + 20)) 20))))) (wrap64 (1 + (Int.tmod (wrap64 ((Int.tmod a0 20) + 20)) 20)))) (l2.take ((mn (l2.length : Int) 64) : Int).toNat)).bind fun bt436 => ((disk_Flush.f k bt436.1 bt436.2.1).bind fun bt443 => ((disk_Put.f k bt443.1 bt443.2.1 (Int.tmod (wrap64 ((Int.tmod a1 (wrap64 (1 + (Int.tmod (wrap64 ((Int.tmod a0 20) + 20)) 20)))) + (wrap64 (1 + (Int.tmod (wrap64 ((Int.tmod a0 20) + 20)) 20))))) (wrap64 (1 + (Int.tmod (wrap64 ((Int.tmod a0 20) + 20)) 20)))) (l3.take ((mn (l3.length : Int) 64) : Int).toNat)).bind fun bt450 => ((disk_Crash.f k bt450.1 bt450.2.1 (([true] : List Bool)) 0 a4).bind fun bt460 => ((transeptlaw04_num.f bt428.2.2).bind fun t468 => ((transeptlaw04_num.f bt436.2.2).bind fun t469 => ((transeptlaw04_num.f bt443.2.2).bind fun t470 => ((transeptlaw04_num.f bt450.2.2).bind fun t471 => ((transeptlaw04_num.f bt460.2.2).bind fun t472 => (if (wrap64 ((wrap64 ((wrap64 ((wrap64 (t468 + t469)) + t470)) + t471)) + t472)) = 0 then (if (bt460.1.length : Int) = (wrap64 (1 + (Int.tmod (wrap64 ((Int.tmod a0 20) + 20)) 20))) then (transeptlaw04_DiskTorn.j0 k (wrap64 (1 + (Int.tmod (wrap64 ((Int.tmod a0 20) + 20)) 20))) (Int.tmod (wrap64 ((Int.tmod a1 (wrap64 (1 + (Int.tmod (wrap64 ((Int.tmod a0 20) + 20)) 20)))) + (wrap64 (1 + (Int.tmod (wrap64 ((Int.tmod a0 20) + 20)) 20))))) (wrap64 (1 + (Int.tmod (wrap64 ((Int.tmod a0 20) + 20)) 20)))) (l2.take ((mn (l2.length : Int) 64) : Int).toNat) (l3.take ((mn (l3.length : Int) 64) : Int).toNat) a4 ((bt460.2.1.length : Int) != 0) bt460.1 bt460.2.1) else (transeptlaw04_DiskTorn.j0 k (wrap64 (1 + (Int.tmod (wrap64 ((Int.tmod a0 20) + 20)) 20))) (Int.tmod (wrap64 ((Int.tmod a1 (wrap64 (1 + (Int.tmod (wrap64 ((Int.tmod a0 20) + 20)) 20)))) + (wrap64 (1 + (Int.tmod (wrap64 ((Int.tmod a0 20) + 20)) 20))))) (wrap64 (1 + (Int.tmod (wrap64 ((Int.tmod a0 20) + 20)) 20)))) (l2.take ((mn (l2.length : Int) 64) : Int).toNat) (l3.take ((mn (l3.length : Int) 64) : Int).toNat) a4 true bt460.1 bt460.2.1)) else (transeptlaw04_DiskTorn.j0 k (wrap64 (1 + (Int.tmod (wrap64 ((Int.tmod a0 20) + 20)) 20))) (Int.tmod (wrap64 ((Int.tmod a1 (wrap64 (1 + (Int.tmod (wrap64 ((Int.tmod a0 20) + 20)) 20)))) + (wrap64 (1 + (Int.tmod (wrap64 ((Int.tmod a0 20) + 20)) 20))))) (wrap64 (1 + (Int.tmod (wrap64 ((Int.tmod a0 20) + 20)) 20)))) (l2.take ((mn (l2.length : Int) 64) : Int).toNat) (l3.take ((mn (l3.length : Int) 64) : Int).toNat) a4 true bt460.1 bt460.2.1)))))))))))) else (none)) else (none)) else (none)) else (none))) else (none))
theorem transeptlaw04_DiskTorn.mono_l : ∀ k, (∀ y0 y1 y2 y3 y4 y5 y6 y7, LeO (transeptlaw04_DiskTorn.j0 k y0 y1 y2 y3 y4 y5 y6 y7) (transeptlaw04_DiskTorn.j0 (k + 1) y0 y1 y2 y3 y4 y5 y6 y7)) ∧ (∀ y0 y1 y2 y3 y4 y5 y6 y7, LeO (transeptlaw04_DiskTorn.l0 k y0 y1 y2 y3 y4 y5 y6 y7) (transeptlaw04_DiskTorn.l0 (k + 1) y0 y1 y2 y3 y4 y5 y6 y7)) ∧ (∀ y0 y1 y2 y3 y4 y5 y6 y7 y8, LeO (transeptlaw04_DiskTorn.l1 k y0 y1 y2 y3 y4 y5 y6 y7 y8) (transeptlaw04_DiskTorn.l1 (k + 1) y0 y1 y2 y3 y4 y5 y6 y7 y8)) ∧ (∀ y0 y1 y2 y3 y4 y5 y6 y7 y8 y9 y10, LeO (transeptlaw04_DiskTorn.j3 k y0 y1 y2 y3 y4 y5 y6 y7 y8 y9 y10) (transeptlaw04_DiskTorn.j3 (k + 1) y0 y1 y2 y3 y4 y5 y6 y7 y8 y9 y10)) ∧ (∀ y0 y1 y2 y3 y4 y5 y6 y7 y8 y9, LeO (transeptlaw04_DiskTorn.j4 k y0 y1 y2 y3 y4 y5 y6 y7 y8 y9) (transeptlaw04_DiskTorn.j4 (k + 1) y0 y1 y2 y3 y4 y5 y6 y7 y8 y9)) ∧ (∀ y0 y1 y2 y3 y4 y5 y6 y7 y8 y9 y10, LeO (transeptlaw04_DiskTorn.j5 k y0 y1 y2 y3 y4 y5 y6 y7 y8 y9 y10) (transeptlaw04_DiskTorn.j5 (k + 1) y0 y1 y2 y3 y4 y5 y6 y7 y8 y9 y10))
  | 0 => ⟨fun _ _ _ _ _ _ _ _ r h => by simp [transeptlaw04_DiskTorn.j0] at h, fun _ _ _ _ _ _ _ _ r h => by simp [transeptlaw04_DiskTorn.l0] at h, fun _ _ _ _ _ _ _ _ _ r h => by simp [transeptlaw04_DiskTorn.l1] at h, fun _ _ _ _ _ _ _ _ _ _ _ r h => by simp [transeptlaw04_DiskTorn.j3] at h, fun _ _ _ _ _ _ _ _ _ _ r h => by simp [transeptlaw04_DiskTorn.j4] at h, fun _ _ _ _ _ _ _ _ _ _ _ r h => by simp [transeptlaw04_DiskTorn.j5] at h⟩
  | k + 1 => by
    obtain ⟨ih0, ih1, ih2, ih3, ih4, ih5⟩ := transeptlaw04_DiskTorn.mono_l k
    refine ⟨?_, ?_, ?_, ?_, ?_, ?_⟩
    · intro y0 y1 y2 y3 y4 y5 y6 y7
      unfold transeptlaw04_DiskTorn.j0
      repeat' first
      | (with_reducible exact ih0 _ _ _ _ _ _ _ _)
      | (with_reducible exact ih1 _ _ _ _ _ _ _ _)
      | (with_reducible exact ih2 _ _ _ _ _ _ _ _ _)
      | (with_reducible exact ih3 _ _ _ _ _ _ _ _ _ _ _)
      | (with_reducible exact ih4 _ _ _ _ _ _ _ _ _ _)
      | (with_reducible exact ih5 _ _ _ _ _ _ _ _ _ _ _)
      | (with_reducible exact disk_Crash.mono _ _ _ _ _ _)
      | (with_reducible exact disk_Flush.mono _ _ _)
      | (with_reducible exact disk_Put.mono _ _ _ _ _)
      | (with_reducible exact LeO.refl _)
      | (with_reducible exact LeO.none _)
      | (with_reducible refine LeO.ite ?_ ?_)
      | (with_reducible refine LeO.bind ?_ (fun _ => ?_))
      | exact ih0 _ _ _ _ _ _ _ _
      | exact ih1 _ _ _ _ _ _ _ _
      | exact ih2 _ _ _ _ _ _ _ _ _
      | exact ih3 _ _ _ _ _ _ _ _ _ _ _
      | exact ih4 _ _ _ _ _ _ _ _ _ _
      | exact ih5 _ _ _ _ _ _ _ _ _ _ _
      | exact disk_Crash.mono _ _ _ _ _ _
      | exact disk_Flush.mono _ _ _
      | exact disk_Put.mono _ _ _ _ _
      | exact LeO.none _
      | refine LeO.ite ?_ ?_
      | refine LeO.bind ?_ (fun _ => ?_)
    · intro y0 y1 y2 y3 y4 y5 y6 y7
      unfold transeptlaw04_DiskTorn.l0
      repeat' first
      | (with_reducible exact ih0 _ _ _ _ _ _ _ _)
      | (with_reducible exact ih1 _ _ _ _ _ _ _ _)
      | (with_reducible exact ih2 _ _ _ _ _ _ _ _ _)
      | (with_reducible exact ih3 _ _ _ _ _ _ _ _ _ _ _)
      | (with_reducible exact ih4 _ _ _ _ _ _ _ _ _ _)
      | (with_reducible exact ih5 _ _ _ _ _ _ _ _ _ _ _)
      | (with_reducible exact disk_Crash.mono _ _ _ _ _ _)
      | (with_reducible exact disk_Flush.mono _ _ _)
      | (with_reducible exact disk_Put.mono _ _ _ _ _)
      | (with_reducible exact LeO.refl _)
      | (with_reducible exact LeO.none _)
      | (with_reducible refine LeO.ite ?_ ?_)
      | (with_reducible refine LeO.bind ?_ (fun _ => ?_))
      | exact ih0 _ _ _ _ _ _ _ _
      | exact ih1 _ _ _ _ _ _ _ _
      | exact ih2 _ _ _ _ _ _ _ _ _
      | exact ih3 _ _ _ _ _ _ _ _ _ _ _
      | exact ih4 _ _ _ _ _ _ _ _ _ _
      | exact ih5 _ _ _ _ _ _ _ _ _ _ _
      | exact disk_Crash.mono _ _ _ _ _ _
      | exact disk_Flush.mono _ _ _
      | exact disk_Put.mono _ _ _ _ _
      | exact LeO.none _
      | refine LeO.ite ?_ ?_
      | refine LeO.bind ?_ (fun _ => ?_)
    · intro y0 y1 y2 y3 y4 y5 y6 y7 y8
      unfold transeptlaw04_DiskTorn.l1
      repeat' first
      | (with_reducible exact ih0 _ _ _ _ _ _ _ _)
      | (with_reducible exact ih1 _ _ _ _ _ _ _ _)
      | (with_reducible exact ih2 _ _ _ _ _ _ _ _ _)
      | (with_reducible exact ih3 _ _ _ _ _ _ _ _ _ _ _)
      | (with_reducible exact ih4 _ _ _ _ _ _ _ _ _ _)
      | (with_reducible exact ih5 _ _ _ _ _ _ _ _ _ _ _)
      | (with_reducible exact disk_Crash.mono _ _ _ _ _ _)
      | (with_reducible exact disk_Flush.mono _ _ _)
      | (with_reducible exact disk_Put.mono _ _ _ _ _)
      | (with_reducible exact LeO.refl _)
      | (with_reducible exact LeO.none _)
      | (with_reducible refine LeO.ite ?_ ?_)
      | (with_reducible refine LeO.bind ?_ (fun _ => ?_))
      | exact ih0 _ _ _ _ _ _ _ _
      | exact ih1 _ _ _ _ _ _ _ _
      | exact ih2 _ _ _ _ _ _ _ _ _
      | exact ih3 _ _ _ _ _ _ _ _ _ _ _
      | exact ih4 _ _ _ _ _ _ _ _ _ _
      | exact ih5 _ _ _ _ _ _ _ _ _ _ _
      | exact disk_Crash.mono _ _ _ _ _ _
      | exact disk_Flush.mono _ _ _
      | exact disk_Put.mono _ _ _ _ _
      | exact LeO.none _
      | refine LeO.ite ?_ ?_
      | refine LeO.bind ?_ (fun _ => ?_)
    · intro y0 y1 y2 y3 y4 y5 y6 y7 y8 y9 y10
      unfold transeptlaw04_DiskTorn.j3
      repeat' first
      | (with_reducible exact ih0 _ _ _ _ _ _ _ _)
      | (with_reducible exact ih1 _ _ _ _ _ _ _ _)
      | (with_reducible exact ih2 _ _ _ _ _ _ _ _ _)
      | (with_reducible exact ih3 _ _ _ _ _ _ _ _ _ _ _)
      | (with_reducible exact ih4 _ _ _ _ _ _ _ _ _ _)
      | (with_reducible exact ih5 _ _ _ _ _ _ _ _ _ _ _)
      | (with_reducible exact disk_Crash.mono _ _ _ _ _ _)
      | (with_reducible exact disk_Flush.mono _ _ _)
      | (with_reducible exact disk_Put.mono _ _ _ _ _)
      | (with_reducible exact LeO.refl _)
      | (with_reducible exact LeO.none _)
      | (with_reducible refine LeO.ite ?_ ?_)
      | (with_reducible refine LeO.bind ?_ (fun _ => ?_))
      | exact ih0 _ _ _ _ _ _ _ _
      | exact ih1 _ _ _ _ _ _ _ _
      | exact ih2 _ _ _ _ _ _ _ _ _
      | exact ih3 _ _ _ _ _ _ _ _ _ _ _
      | exact ih4 _ _ _ _ _ _ _ _ _ _
      | exact ih5 _ _ _ _ _ _ _ _ _ _ _
      | exact disk_Crash.mono _ _ _ _ _ _
      | exact disk_Flush.mono _ _ _
      | exact disk_Put.mono _ _ _ _ _
      | exact LeO.none _
      | refine LeO.ite ?_ ?_
      | refine LeO.bind ?_ (fun _ => ?_)
    · intro y0 y1 y2 y3 y4 y5 y6 y7 y8 y9
      unfold transeptlaw04_DiskTorn.j4
      repeat' first
      | (with_reducible exact ih0 _ _ _ _ _ _ _ _)
      | (with_reducible exact ih1 _ _ _ _ _ _ _ _)
      | (with_reducible exact ih2 _ _ _ _ _ _ _ _ _)
      | (with_reducible exact ih3 _ _ _ _ _ _ _ _ _ _ _)
      | (with_reducible exact ih4 _ _ _ _ _ _ _ _ _ _)
      | (with_reducible exact ih5 _ _ _ _ _ _ _ _ _ _ _)
      | (with_reducible exact disk_Crash.mono _ _ _ _ _ _)
      | (with_reducible exact disk_Flush.mono _ _ _)
      | (with_reducible exact disk_Put.mono _ _ _ _ _)
      | (with_reducible exact LeO.refl _)
      | (with_reducible exact LeO.none _)
      | (with_reducible refine LeO.ite ?_ ?_)
      | (with_reducible refine LeO.bind ?_ (fun _ => ?_))
      | exact ih0 _ _ _ _ _ _ _ _
      | exact ih1 _ _ _ _ _ _ _ _
      | exact ih2 _ _ _ _ _ _ _ _ _
      | exact ih3 _ _ _ _ _ _ _ _ _ _ _
      | exact ih4 _ _ _ _ _ _ _ _ _ _
      | exact ih5 _ _ _ _ _ _ _ _ _ _ _
      | exact disk_Crash.mono _ _ _ _ _ _
      | exact disk_Flush.mono _ _ _
      | exact disk_Put.mono _ _ _ _ _
      | exact LeO.none _
      | refine LeO.ite ?_ ?_
      | refine LeO.bind ?_ (fun _ => ?_)
    · intro y0 y1 y2 y3 y4 y5 y6 y7 y8 y9 y10
      unfold transeptlaw04_DiskTorn.j5
      repeat' first
      | (with_reducible exact ih0 _ _ _ _ _ _ _ _)
      | (with_reducible exact ih1 _ _ _ _ _ _ _ _)
      | (with_reducible exact ih2 _ _ _ _ _ _ _ _ _)
      | (with_reducible exact ih3 _ _ _ _ _ _ _ _ _ _ _)
      | (with_reducible exact ih4 _ _ _ _ _ _ _ _ _ _)
      | (with_reducible exact ih5 _ _ _ _ _ _ _ _ _ _ _)
      | (with_reducible exact disk_Crash.mono _ _ _ _ _ _)
      | (with_reducible exact disk_Flush.mono _ _ _)
      | (with_reducible exact disk_Put.mono _ _ _ _ _)
      | (with_reducible exact LeO.refl _)
      | (with_reducible exact LeO.none _)
      | (with_reducible refine LeO.ite ?_ ?_)
      | (with_reducible refine LeO.bind ?_ (fun _ => ?_))
      | exact ih0 _ _ _ _ _ _ _ _
      | exact ih1 _ _ _ _ _ _ _ _
      | exact ih2 _ _ _ _ _ _ _ _ _
      | exact ih3 _ _ _ _ _ _ _ _ _ _ _
      | exact ih4 _ _ _ _ _ _ _ _ _ _
      | exact ih5 _ _ _ _ _ _ _ _ _ _ _
      | exact disk_Crash.mono _ _ _ _ _ _
      | exact disk_Flush.mono _ _ _
      | exact disk_Put.mono _ _ _ _ _
      | exact LeO.none _
      | refine LeO.ite ?_ ?_
      | refine LeO.bind ?_ (fun _ => ?_)
theorem transeptlaw04_DiskTorn.mono : ∀ a0 a1 a2 a3 a4 k, LeO (transeptlaw04_DiskTorn.f k a0 a1 a2 a3 a4) (transeptlaw04_DiskTorn.f (k + 1) a0 a1 a2 a3 a4) := by
  intro a0 a1 a2 a3 a4 k
  obtain ⟨ih0, ih1, ih2, ih3, ih4, ih5⟩ := transeptlaw04_DiskTorn.mono_l k
  unfold transeptlaw04_DiskTorn.f
  repeat' first
      | (with_reducible exact ih0 _ _ _ _ _ _ _ _)
      | (with_reducible exact ih1 _ _ _ _ _ _ _ _)
      | (with_reducible exact ih2 _ _ _ _ _ _ _ _ _)
      | (with_reducible exact ih3 _ _ _ _ _ _ _ _ _ _ _)
      | (with_reducible exact ih4 _ _ _ _ _ _ _ _ _ _)
      | (with_reducible exact ih5 _ _ _ _ _ _ _ _ _ _ _)
      | (with_reducible exact disk_Crash.mono _ _ _ _ _ _)
      | (with_reducible exact disk_Flush.mono _ _ _)
      | (with_reducible exact disk_Put.mono _ _ _ _ _)
      | (with_reducible exact LeO.refl _)
      | (with_reducible exact LeO.none _)
      | (with_reducible refine LeO.ite ?_ ?_)
      | (with_reducible refine LeO.bind ?_ (fun _ => ?_))
      | exact ih0 _ _ _ _ _ _ _ _
      | exact ih1 _ _ _ _ _ _ _ _
      | exact ih2 _ _ _ _ _ _ _ _ _
      | exact ih3 _ _ _ _ _ _ _ _ _ _ _
      | exact ih4 _ _ _ _ _ _ _ _ _ _
      | exact ih5 _ _ _ _ _ _ _ _ _ _ _
      | exact disk_Crash.mono _ _ _ _ _ _
      | exact disk_Flush.mono _ _ _
      | exact disk_Put.mono _ _ _ _ _
      | exact LeO.none _
      | refine LeO.ite ?_ ?_
      | refine LeO.bind ?_ (fun _ => ?_)
set_option maxHeartbeats 8000000 in
set_option maxRecDepth 100000 in
theorem transeptlaw04_DiskTorn.calls (k : Nat) (a0 : Int) (a1 : Int) (A2 : Option Addr) (c2 : Nat) (l2 : List Int) (A3 : Option Addr) (c3 : Nat) (l3 : List Int) (a4 : Int) (r : Bool) (w : World) (hr2 : Kd.C (Kd.int .u8) w A2 l2.length l2) (hc2 : l2.length ≤ c2) (hr3 : Kd.C (Kd.int .u8) w A3 l3.length l3) (hc3 : l3.length ≤ c3) (h : transeptlaw04_DiskTorn.f k a0 a1 l2 l3 a4 = some r) :
    Calls Try.prog 8 #[.int .i64 a0, .int .i64 a1, .slice A2 l2.length c2, .slice A3 l3.length c3, .int .i64 a4] w fun e w' => e = .returned (.bool r) ∧ Below w.heap.size w w' := by
 have hu28 := Try.underlying28
 have HR2 := Aside0.mk hr2
 have HC2 := Aside0.mk hc2
 clear hr2 hc2
 have HR3 := Aside0.mk hr3
 have HC3 := Aside0.mk hc3
 clear hr3 hc3
 have HB := Aside0.mk (Below.refl w.heap.size w)
 have H : ((transeptlaw04_alive.f).bind fun t425 => (if t425 = true then (if (wrap64 (1 + (Int.tmod (wrap64 ((Int.tmod a0 20) + 20)) 20))) = 0 then (none) else (if 0 ≤ (mn (l2.length : Int) 64) then (if (mn (l2.length : Int) 64) ≤ (l2.length : Int) then (if 0 ≤ (mn (l3.length : Int) 64) then (if (mn (l3.length : Int) 64) ≤ (l3.length : Int) then ((disk_New.f (wrap64 (1 + (Int.tmod (wrap64 ((Int.tmod a0 20) + 20)) 20)))).bind fun bt428 => ((disk_Put.f k bt428.1 bt428.2.1 (Int.tmod (wrap64 ((Int.tmod a1 (wrap64 (1 + (Int.tmod (wrap64 ((Int.tmod a0 20) + 20)) 20)))) + (wrap64 (1 + (Int.tmod (wrap64 ((Int.tmod a0 20) + 20)) 20))))) (wrap64 (1 + (Int.tmod (wrap64 ((Int.tmod a0 20) + 20)) 20)))) (l2.take ((mn (l2.length : Int) 64) : Int).toNat)).bind fun bt436 => ((disk_Flush.f k bt436.1 bt436.2.1).bind fun bt443 => ((disk_Put.f k bt443.1 bt443.2.1 (Int.tmod (wrap64 ((Int.tmod a1 (wrap64 (1 + (Int.tmod (wrap64 ((Int.tmod a0 20) + 20)) 20)))) + (wrap64 (1 + (Int.tmod (wrap64 ((Int.tmod a0 20) + 20)) 20))))) (wrap64 (1 + (Int.tmod (wrap64 ((Int.tmod a0 20) + 20)) 20)))) (l3.take ((mn (l3.length : Int) 64) : Int).toNat)).bind fun bt450 => ((disk_Crash.f k bt450.1 bt450.2.1 (([true] : List Bool)) 0 a4).bind fun bt460 => ((transeptlaw04_num.f bt428.2.2).bind fun t468 => ((transeptlaw04_num.f bt436.2.2).bind fun t469 => ((transeptlaw04_num.f bt443.2.2).bind fun t470 => ((transeptlaw04_num.f bt450.2.2).bind fun t471 => ((transeptlaw04_num.f bt460.2.2).bind fun t472 => (if (wrap64 ((wrap64 ((wrap64 ((wrap64 (t468 + t469)) + t470)) + t471)) + t472)) = 0 then (if (bt460.1.length : Int) = (wrap64 (1 + (Int.tmod (wrap64 ((Int.tmod a0 20) + 20)) 20))) then (transeptlaw04_DiskTorn.j0 k (wrap64 (1 + (Int.tmod (wrap64 ((Int.tmod a0 20) + 20)) 20))) (Int.tmod (wrap64 ((Int.tmod a1 (wrap64 (1 + (Int.tmod (wrap64 ((Int.tmod a0 20) + 20)) 20)))) + (wrap64 (1 + (Int.tmod (wrap64 ((Int.tmod a0 20) + 20)) 20))))) (wrap64 (1 + (Int.tmod (wrap64 ((Int.tmod a0 20) + 20)) 20)))) (l2.take ((mn (l2.length : Int) 64) : Int).toNat) (l3.take ((mn (l3.length : Int) 64) : Int).toNat) a4 ((bt460.2.1.length : Int) != 0) bt460.1 bt460.2.1) else (transeptlaw04_DiskTorn.j0 k (wrap64 (1 + (Int.tmod (wrap64 ((Int.tmod a0 20) + 20)) 20))) (Int.tmod (wrap64 ((Int.tmod a1 (wrap64 (1 + (Int.tmod (wrap64 ((Int.tmod a0 20) + 20)) 20)))) + (wrap64 (1 + (Int.tmod (wrap64 ((Int.tmod a0 20) + 20)) 20))))) (wrap64 (1 + (Int.tmod (wrap64 ((Int.tmod a0 20) + 20)) 20)))) (l2.take ((mn (l2.length : Int) 64) : Int).toNat) (l3.take ((mn (l3.length : Int) 64) : Int).toNat) a4 true bt460.1 bt460.2.1)) else (transeptlaw04_DiskTorn.j0 k (wrap64 (1 + (Int.tmod (wrap64 ((Int.tmod a0 20) + 20)) 20))) (Int.tmod (wrap64 ((Int.tmod a1 (wrap64 (1 + (Int.tmod (wrap64 ((Int.tmod a0 20) + 20)) 20)))) + (wrap64 (1 + (Int.tmod (wrap64 ((Int.tmod a0 20) + 20)) 20))))) (wrap64 (1 + (Int.tmod (wrap64 ((Int.tmod a0 20) + 20)) 20)))) (l2.take ((mn (l2.length : Int) 64) : Int).toNat) (l3.take ((mn (l3.length : Int) 64) : Int).toNat) a4 true bt460.1 bt460.2.1)))))))))))) else (none)) else (none)) else (none)) else (none))) else (none))) = some r := h
 clear h
 replace H := Option.bind_eq_some_iff.mp H
 obtain ⟨t425, A60, H⟩ := H
 replace H : (if t425 = true then (if (wrap64 (1 + (Int.tmod (wrap64 ((Int.tmod a0 20) + 20)) 20))) = 0 then (none) else (if 0 ≤ (mn (l2.length : Int) 64) then (if (mn (l2.length : Int) 64) ≤ (l2.length : Int) then (if 0 ≤ (mn (l3.length : Int) 64) then (if (mn (l3.length : Int) 64) ≤ (l3.length : Int) then ((disk_New.f (wrap64 (1 + (Int.tmod (wrap64 ((Int.tmod a0 20) + 20)) 20)))).bind fun bt428 => ((disk_Put.f k bt428.1 bt428.2.1 (Int.tmod (wrap64 ((Int.tmod a1 (wrap64 (1 + (Int.tmod (wrap64 ((Int.tmod a0 20) + 20)) 20)))) + (wrap64 (1 + (Int.tmod (wrap64 ((Int.tmod a0 20) + 20)) 20))))) (wrap64 (1 + (Int.tmod (wrap64 ((Int.tmod a0 20) + 20)) 20)))) (l2.take ((mn (l2.length : Int) 64) : Int).toNat)).bind fun bt436 => ((disk_Flush.f k bt436.1 bt436.2.1).bind fun bt443 => ((disk_Put.f k bt443.1 bt443.2.1 (Int.tmod (wrap64 ((Int.tmod a1 (wrap64 (1 + (Int.tmod (wrap64 ((Int.tmod a0 20) + 20)) 20)))) + (wrap64 (1 + (Int.tmod (wrap64 ((Int.tmod a0 20) + 20)) 20))))) (wrap64 (1 + (Int.tmod (wrap64 ((Int.tmod a0 20) + 20)) 20)))) (l3.take ((mn (l3.length : Int) 64) : Int).toNat)).bind fun bt450 => ((disk_Crash.f k bt450.1 bt450.2.1 (([true] : List Bool)) 0 a4).bind fun bt460 => ((transeptlaw04_num.f bt428.2.2).bind fun t468 => ((transeptlaw04_num.f bt436.2.2).bind fun t469 => ((transeptlaw04_num.f bt443.2.2).bind fun t470 => ((transeptlaw04_num.f bt450.2.2).bind fun t471 => ((transeptlaw04_num.f bt460.2.2).bind fun t472 => (if (wrap64 ((wrap64 ((wrap64 ((wrap64 (t468 + t469)) + t470)) + t471)) + t472)) = 0 then (if (bt460.1.length : Int) = (wrap64 (1 + (Int.tmod (wrap64 ((Int.tmod a0 20) + 20)) 20))) then (transeptlaw04_DiskTorn.j0 k (wrap64 (1 + (Int.tmod (wrap64 ((Int.tmod a0 20) + 20)) 20))) (Int.tmod (wrap64 ((Int.tmod a1 (wrap64 (1 + (Int.tmod (wrap64 ((Int.tmod a0 20) + 20)) 20)))) + (wrap64 (1 + (Int.tmod (wrap64 ((Int.tmod a0 20) + 20)) 20))))) (wrap64 (1 + (Int.tmod (wrap64 ((Int.tmod a0 20) + 20)) 20)))) (l2.take ((mn (l2.length : Int) 64) : Int).toNat) (l3.take ((mn (l3.length : Int) 64) : Int).toNat) a4 ((bt460.2.1.length : Int) != 0) bt460.1 bt460.2.1) else (transeptlaw04_DiskTorn.j0 k (wrap64 (1 + (Int.tmod (wrap64 ((Int.tmod a0 20) + 20)) 20))) (Int.tmod (wrap64 ((Int.tmod a1 (wrap64 (1 + (Int.tmod (wrap64 ((Int.tmod a0 20) + 20)) 20)))) + (wrap64 (1 + (Int.tmod (wrap64 ((Int.tmod a0 20) + 20)) 20))))) (wrap64 (1 + (Int.tmod (wrap64 ((Int.tmod a0 20) + 20)) 20)))) (l2.take ((mn (l2.length : Int) 64) : Int).toNat) (l3.take ((mn (l3.length : Int) 64) : Int).toNat) a4 true bt460.1 bt460.2.1)) else (transeptlaw04_DiskTorn.j0 k (wrap64 (1 + (Int.tmod (wrap64 ((Int.tmod a0 20) + 20)) 20))) (Int.tmod (wrap64 ((Int.tmod a1 (wrap64 (1 + (Int.tmod (wrap64 ((Int.tmod a0 20) + 20)) 20)))) + (wrap64 (1 + (Int.tmod (wrap64 ((Int.tmod a0 20) + 20)) 20))))) (wrap64 (1 + (Int.tmod (wrap64 ((Int.tmod a0 20) + 20)) 20)))) (l2.take ((mn (l2.length : Int) 64) : Int).toNat) (l3.take ((mn (l3.length : Int) 64) : Int).toNat) a4 true bt460.1 bt460.2.1)))))))))))) else (none)) else (none)) else (none)) else (none))) else (none)) = some r := H
 have A6 := Aside0.mk A60
 clear A60
 by_cases c7 : t425 = true
 ·
  subst c7
  have H1 : (if (wrap64 (1 + (Int.tmod (wrap64 ((Int.tmod a0 20) + 20)) 20))) = 0 then (none) else (if 0 ≤ (mn (l2.length : Int) 64) then (if (mn (l2.length : Int) 64) ≤ (l2.length : Int) then (if 0 ≤ (mn (l3.length : Int) 64) then (if (mn (l3.length : Int) 64) ≤ (l3.length : Int) then ((disk_New.f (wrap64 (1 + (Int.tmod (wrap64 ((Int.tmod a0 20) + 20)) 20)))).bind fun bt428 => ((disk_Put.f k bt428.1 bt428.2.1 (Int.tmod (wrap64 ((Int.tmod a1 (wrap64 (1 + (Int.tmod (wrap64 ((Int.tmod a0 20) + 20)) 20)))) + (wrap64 (1 + (Int.tmod (wrap64 ((Int.tmod a0 20) + 20)) 20))))) (wrap64 (1 + (Int.tmod (wrap64 ((Int.tmod a0 20) + 20)) 20)))) (l2.take ((mn (l2.length : Int) 64) : Int).toNat)).bind fun bt436 => ((disk_Flush.f k bt436.1 bt436.2.1).bind fun bt443 => ((disk_Put.f k bt443.1 bt443.2.1 (Int.tmod (wrap64 ((Int.tmod a1 (wrap64 (1 + (Int.tmod (wrap64 ((Int.tmod a0 20) + 20)) 20)))) + (wrap64 (1 + (Int.tmod (wrap64 ((Int.tmod a0 20) + 20)) 20))))) (wrap64 (1 + (Int.tmod (wrap64 ((Int.tmod a0 20) + 20)) 20)))) (l3.take ((mn (l3.length : Int) 64) : Int).toNat)).bind fun bt450 => ((disk_Crash.f k bt450.1 bt450.2.1 (([true] : List Bool)) 0 a4).bind fun bt460 => ((transeptlaw04_num.f bt428.2.2).bind fun t468 => ((transeptlaw04_num.f bt436.2.2).bind fun t469 => ((transeptlaw04_num.f bt443.2.2).bind fun t470 => ((transeptlaw04_num.f bt450.2.2).bind fun t471 => ((transeptlaw04_num.f bt460.2.2).bind fun t472 => (if (wrap64 ((wrap64 ((wrap64 ((wrap64 (t468 + t469)) + t470)) + t471)) + t472)) = 0 then (if (bt460.1.length : Int) = (wrap64 (1 + (Int.tmod (wrap64 ((Int.tmod a0 20) + 20)) 20))) then (transeptlaw04_DiskTorn.j0 k (wrap64 (1 + (Int.tmod (wrap64 ((Int.tmod a0 20) + 20)) 20))) (Int.tmod (wrap64 ((Int.tmod a1 (wrap64 (1 + (Int.tmod (wrap64 ((Int.tmod a0 20) + 20)) 20)))) + (wrap64 (1 + (Int.tmod (wrap64 ((Int.tmod a0 20) + 20)) 20))))) (wrap64 (1 + (Int.tmod (wrap64 ((Int.tmod a0 20) + 20)) 20)))) (l2.take ((mn (l2.length : Int) 64) : Int).toNat) (l3.take ((mn (l3.length : Int) 64) : Int).toNat) a4 ((bt460.2.1.length : Int) != 0) bt460.1 bt460.2.1) else (transeptlaw04_DiskTorn.j0 k (wrap64 (1 + (Int.tmod (wrap64 ((Int.tmod a0 20) + 20)) 20))) (Int.tmod (wrap64 ((Int.tmod a1 (wrap64 (1 + (Int.tmod (wrap64 ((Int.tmod a0 20) + 20)) 20)))) + (wrap64 (1 + (Int.tmod (wrap64 ((Int.tmod a0 20) + 20)) 20))))) (wrap64 (1 + (Int.tmod (wrap64 ((Int.tmod a0 20) + 20)) 20)))) (l2.take ((mn (l2.length : Int) 64) : Int).toNat) (l3.take ((mn (l3.length : Int) 64) : Int).toNat) a4 true bt460.1 bt460.2.1)) else (transeptlaw04_DiskTorn.j0 k (wrap64 (1 + (Int.tmod (wrap64 ((Int.tmod a0 20) + 20)) 20))) (Int.tmod (wrap64 ((Int.tmod a1 (wrap64 (1 + (Int.tmod (wrap64 ((Int.tmod a0 20) + 20)) 20)))) + (wrap64 (1 + (Int.tmod (wrap64 ((Int.tmod a0 20) + 20)) 20))))) (wrap64 (1 + (Int.tmod (wrap64 ((Int.tmod a0 20) + 20)) 20)))) (l2.take ((mn (l2.length : Int) 64) : Int).toNat) (l3.take ((mn (l3.length : Int) 64) : Int).toNat) a4 true bt460.1 bt460.2.1)))))))))))) else (none)) else (none)) else (none)) else (none))) = some r := by rw [if_pos rfl] at H; exact H
  clear H
  have H := H1
  clear H1
  by_cases c8 : (wrap64 (1 + (Int.tmod (wrap64 ((Int.tmod a0 20) + 20)) 20))) = 0
  ·
   rw [if_pos c8] at H
   exact absurd H (by simp)
  ·
   rw [if_neg c8] at H
   have c8b0 : ((wrap64 (1 + (Int.tmod (wrap64 ((Int.tmod a0 20) + 20)) 20))) == 0) = false := beq_eq_false_iff_ne.mpr c8
   have c8b1 : ((wrap64 (1 + (Int.tmod (wrap64 ((Int.tmod a0 20) + 20)) 20))) != 0) = true := bne_iff_ne.mpr c8
   obtain ⟨ji9, hji9⟩ : ∃ j_ : Int, (mn (l2.length : Int) 64) = j_ := ⟨_, rfl⟩
   replace H : (if 0 ≤ (ji9) then (if (ji9) ≤ (l2.length : Int) then (if 0 ≤ (mn (l3.length : Int) 64) then (if (mn (l3.length : Int) 64) ≤ (l3.length : Int) then ((disk_New.f (wrap64 (1 + (Int.tmod (wrap64 ((Int.tmod a0 20) + 20)) 20)))).bind fun bt428 => ((disk_Put.f k bt428.1 bt428.2.1 (Int.tmod (wrap64 ((Int.tmod a1 (wrap64 (1 + (Int.tmod (wrap64 ((Int.tmod a0 20) + 20)) 20)))) + (wrap64 (1 + (Int.tmod (wrap64 ((Int.tmod a0 20) + 20)) 20))))) (wrap64 (1 + (Int.tmod (wrap64 ((Int.tmod a0 20) + 20)) 20)))) (l2.take ((ji9) : Int).toNat)).bind fun bt436 => ((disk_Flush.f k bt436.1 bt436.2.1).bind fun bt443 => ((disk_Put.f k bt443.1 bt443.2.1 (Int.tmod (wrap64 ((Int.tmod a1 (wrap64 (1 + (Int.tmod (wrap64 ((Int.tmod a0 20) + 20)) 20)))) + (wrap64 (1 + (Int.tmod (wrap64 ((Int.tmod a0 20) + 20)) 20))))) (wrap64 (1 + (Int.tmod (wrap64 ((Int.tmod a0 20) + 20)) 20)))) (l3.take ((mn (l3.length : Int) 64) : Int).toNat)).bind fun bt450 => ((disk_Crash.f k bt450.1 bt450.2.1 (([true] : List Bool)) 0 a4).bind fun bt460 => ((transeptlaw04_num.f bt428.2.2).bind fun t468 => ((transeptlaw04_num.f bt436.2.2).bind fun t469 => ((transeptlaw04_num.f bt443.2.2).bind fun t470 => ((transeptlaw04_num.f bt450.2.2).bind fun t471 => ((transeptlaw04_num.f bt460.2.2).bind fun t472 => (if (wrap64 ((wrap64 ((wrap64 ((wrap64 (t468 + t469)) + t470)) + t471)) + t472)) = 0 then (if (bt460.1.length : Int) = (wrap64 (1 + (Int.tmod (wrap64 ((Int.tmod a0 20) + 20)) 20))) then (transeptlaw04_DiskTorn.j0 k (wrap64 (1 + (Int.tmod (wrap64 ((Int.tmod a0 20) + 20)) 20))) (Int.tmod (wrap64 ((Int.tmod a1 (wrap64 (1 + (Int.tmod (wrap64 ((Int.tmod a0 20) + 20)) 20)))) + (wrap64 (1 + (Int.tmod (wrap64 ((Int.tmod a0 20) + 20)) 20))))) (wrap64 (1 + (Int.tmod (wrap64 ((Int.tmod a0 20) + 20)) 20)))) (l2.take ((ji9) : Int).toNat) (l3.take ((mn (l3.length : Int) 64) : Int).toNat) a4 ((bt460.2.1.length : Int) != 0) bt460.1 bt460.2.1) else (transeptlaw04_DiskTorn.j0 k (wrap64 (1 + (Int.tmod (wrap64 ((Int.tmod a0 20) + 20)) 20))) (Int.tmod (wrap64 ((Int.tmod a1 (wrap64 (1 + (Int.tmod (wrap64 ((Int.tmod a0 20) + 20)) 20)))) + (wrap64 (1 + (Int.tmod (wrap64 ((Int.tmod a0 20) + 20)) 20))))) (wrap64 (1 + (Int.tmod (wrap64 ((Int.tmod a0 20) + 20)) 20)))) (l2.take ((ji9) : Int).toNat) (l3.take ((mn (l3.length : Int) 64) : Int).toNat) a4 true bt460.1 bt460.2.1)) else (transeptlaw04_DiskTorn.j0 k (wrap64 (1 + (Int.tmod (wrap64 ((Int.tmod a0 20) + 20)) 20))) (Int.tmod (wrap64 ((Int.tmod a1 (wrap64 (1 + (Int.tmod (wrap64 ((Int.tmod a0 20) + 20)) 20)))) + (wrap64 (1 + (Int.tmod (wrap64 ((Int.tmod a0 20) + 20)) 20))))) (wrap64 (1 + (Int.tmod (wrap64 ((Int.tmod a0 20) + 20)) 20)))) (l2.take ((ji9) : Int).toNat) (l3.take ((mn (l3.length : Int) 64) : Int).toNat) a4 true bt460.1 bt460.2.1)))))))))))) else (none)) else (none)) else (none)) else (none)) = some r := by first | (rw [hji9] at H; exact H) | (simp only [hji9] at H ⊢; exact H)
   (try rw [hji9] at A6)
   (try (have hji9h : ji9 ≤ 64 := by (rw [← hji9]; unfold mn; (repeat' split) <;> omega)))
   (try (have hji9g : ji9 ≤ 64 := by omega))
   (try (have hji9l : 0 ≤ ji9 := by (rw [← hji9]; unfold mn; (repeat' split) <;> omega)))
   (try (have hji9m : 0 ≤ ji9 := by omega))
   have hji9_ : (if 64 < (l2.length : Int) then 64 else (l2.length : Int)) = ji9 := hji9
   obtain ⟨yc9, hyc9⟩ : ∃ y_ : List Int, y_ = (l2.take ((ji9) : Int).toNat) := ⟨_, rfl⟩
   rw [← hyc9] at H
   have NC9 := Aside0.mk hyc9
   clear hyc9
   by_cases c10 : 0 ≤ (ji9)
   ·
    rw [if_pos c10] at H
    have c10b0 := eq_true c10
    have c10b1 : decide (0 ≤ (ji9)) = true := decide_eq_true c10
    clear c10
    by_cases c11 : (ji9) ≤ (l2.length : Int)
    ·
     rw [if_pos c11] at H
     have c11b0 := eq_true c11
     have c11b1 : decide ((ji9) ≤ (l2.length : Int)) = true := decide_eq_true c11
     clear c11
     obtain ⟨ji12, hji12⟩ : ∃ j_ : Int, (mn (l3.length : Int) 64) = j_ := ⟨_, rfl⟩
     (try rw [hji12] at hji9_)
     replace H : (if 0 ≤ (ji12) then (if (ji12) ≤ (l3.length : Int) then ((disk_New.f (wrap64 (1 + (Int.tmod (wrap64 ((Int.tmod a0 20) + 20)) 20)))).bind fun bt428 => ((disk_Put.f k bt428.1 bt428.2.1 (Int.tmod (wrap64 ((Int.tmod a1 (wrap64 (1 + (Int.tmod (wrap64 ((Int.tmod a0 20) + 20)) 20)))) + (wrap64 (1 + (Int.tmod (wrap64 ((Int.tmod a0 20) + 20)) 20))))) (wrap64 (1 + (Int.tmod (wrap64 ((Int.tmod a0 20) + 20)) 20)))) yc9).bind fun bt436 => ((disk_Flush.f k bt436.1 bt436.2.1).bind fun bt443 => ((disk_Put.f k bt443.1 bt443.2.1 (Int.tmod (wrap64 ((Int.tmod a1 (wrap64 (1 + (Int.tmod (wrap64 ((Int.tmod a0 20) + 20)) 20)))) + (wrap64 (1 + (Int.tmod (wrap64 ((Int.tmod a0 20) + 20)) 20))))) (wrap64 (1 + (Int.tmod (wrap64 ((Int.tmod a0 20) + 20)) 20)))) (l3.take ((ji12) : Int).toNat)).bind fun bt450 => ((disk_Crash.f k bt450.1 bt450.2.1 (([true] : List Bool)) 0 a4).bind fun bt460 => ((transeptlaw04_num.f bt428.2.2).bind fun t468 => ((transeptlaw04_num.f bt436.2.2).bind fun t469 => ((transeptlaw04_num.f bt443.2.2).bind fun t470 => ((transeptlaw04_num.f bt450.2.2).bind fun t471 => ((transeptlaw04_num.f bt460.2.2).bind fun t472 => (if (wrap64 ((wrap64 ((wrap64 ((wrap64 (t468 + t469)) + t470)) + t471)) + t472)) = 0 then (if (bt460.1.length : Int) = (wrap64 (1 + (Int.tmod (wrap64 ((Int.tmod a0 20) + 20)) 20))) then (transeptlaw04_DiskTorn.j0 k (wrap64 (1 + (Int.tmod (wrap64 ((Int.tmod a0 20) + 20)) 20))) (Int.tmod (wrap64 ((Int.tmod a1 (wrap64 (1 + (Int.tmod (wrap64 ((Int.tmod a0 20) + 20)) 20)))) + (wrap64 (1 + (Int.tmod (wrap64 ((Int.tmod a0 20) + 20)) 20))))) (wrap64 (1 + (Int.tmod (wrap64 ((Int.tmod a0 20) + 20)) 20)))) yc9 (l3.take ((ji12) : Int).toNat) a4 ((bt460.2.1.length : Int) != 0) bt460.1 bt460.2.1) else (transeptlaw04_DiskTorn.j0 k (wrap64 (1 + (Int.tmod (wrap64 ((Int.tmod a0 20) + 20)) 20))) (Int.tmod (wrap64 ((Int.tmod a1 (wrap64 (1 + (Int.tmod (wrap64 ((Int.tmod a0 20) + 20)) 20)))) + (wrap64 (1 + (Int.tmod (wrap64 ((Int.tmod a0 20) + 20)) 20))))) (wrap64 (1 + (Int.tmod (wrap64 ((Int.tmod a0 20) + 20)) 20)))) yc9 (l3.take ((ji12) : Int).toNat) a4 true bt460.1 bt460.2.1)) else (transeptlaw04_DiskTorn.j0 k (wrap64 (1 + (Int.tmod (wrap64 ((Int.tmod a0 20) + 20)) 20))) (Int.tmod (wrap64 ((Int.tmod a1 (wrap64 (1 + (Int.tmod (wrap64 ((Int.tmod a0 20) + 20)) 20)))) + (wrap64 (1 + (Int.tmod (wrap64 ((Int.tmod a0 20) + 20)) 20))))) (wrap64 (1 + (Int.tmod (wrap64 ((Int.tmod a0 20) + 20)) 20)))) yc9 (l3.take ((ji12) : Int).toNat) a4 true bt460.1 bt460.2.1)))))))))))) else (none)) else (none)) = some r := by first | (rw [hji12] at H; exact H) | (simp only [hji12] at H ⊢; exact H)
     (try rw [hji12] at A6)
     (try (have hji12h : ji12 ≤ 64 := by (rw [← hji12]; unfold mn; (repeat' split) <;> omega)))
     (try (have hji12g : ji12 ≤ 64 := by omega))
     (try (have hji12l : 0 ≤ ji12 := by (rw [← hji12]; unfold mn; (repeat' split) <;> omega)))
     (try (have hji12m : 0 ≤ ji12 := by omega))
     have hji12_ : (if 64 < (l3.length : Int) then 64 else (l3.length : Int)) = ji12 := hji12
     obtain ⟨yc12, hyc12⟩ : ∃ y_ : List Int, y_ = (l3.take ((ji12) : Int).toNat) := ⟨_, rfl⟩
     rw [← hyc12] at H
     have NC12 := Aside0.mk hyc12
     clear hyc12
     by_cases c13 : 0 ≤ (ji12)
     ·
      rw [if_pos c13] at H
      have c13b0 := eq_true c13
      have c13b1 : decide (0 ≤ (ji12)) = true := decide_eq_true c13
      clear c13
      by_cases c14 : (ji12) ≤ (l3.length : Int)
      ·
       rw [if_pos c14] at H
       have c14b0 := eq_true c14
       have c14b1 : decide ((ji12) ≤ (l3.length : Int)) = true := decide_eq_true c14
       clear c14
       replace H := Option.bind_eq_some_iff.mp H
       obtain ⟨⟨t428, t431, t434⟩, A150, H⟩ := H
       replace H : ((disk_Put.f k t428 t431 (Int.tmod (wrap64 ((Int.tmod a1 (wrap64 (1 + (Int.tmod (wrap64 ((Int.tmod a0 20) + 20)) 20)))) + (wrap64 (1 + (Int.tmod (wrap64 ((Int.tmod a0 20) + 20)) 20))))) (wrap64 (1 + (Int.tmod (wrap64 ((Int.tmod a0 20) + 20)) 20)))) yc9).bind fun bt436 => ((disk_Flush.f k bt436.1 bt436.2.1).bind fun bt443 => ((disk_Put.f k bt443.1 bt443.2.1 (Int.tmod (wrap64 ((Int.tmod a1 (wrap64 (1 + (Int.tmod (wrap64 ((Int.tmod a0 20) + 20)) 20)))) + (wrap64 (1 + (Int.tmod (wrap64 ((Int.tmod a0 20) + 20)) 20))))) (wrap64 (1 + (Int.tmod (wrap64 ((Int.tmod a0 20) + 20)) 20)))) yc12).bind fun bt450 => ((disk_Crash.f k bt450.1 bt450.2.1 (([true] : List Bool)) 0 a4).bind fun bt460 => ((transeptlaw04_num.f t434).bind fun t468 => ((transeptlaw04_num.f bt436.2.2).bind fun t469 => ((transeptlaw04_num.f bt443.2.2).bind fun t470 => ((transeptlaw04_num.f bt450.2.2).bind fun t471 => ((transeptlaw04_num.f bt460.2.2).bind fun t472 => (if (wrap64 ((wrap64 ((wrap64 ((wrap64 (t468 + t469)) + t470)) + t471)) + t472)) = 0 then (if (bt460.1.length : Int) = (wrap64 (1 + (Int.tmod (wrap64 ((Int.tmod a0 20) + 20)) 20))) then (transeptlaw04_DiskTorn.j0 k (wrap64 (1 + (Int.tmod (wrap64 ((Int.tmod a0 20) + 20)) 20))) (Int.tmod (wrap64 ((Int.tmod a1 (wrap64 (1 + (Int.tmod (wrap64 ((Int.tmod a0 20) + 20)) 20)))) + (wrap64 (1 + (Int.tmod (wrap64 ((Int.tmod a0 20) + 20)) 20))))) (wrap64 (1 + (Int.tmod (wrap64 ((Int.tmod a0 20) + 20)) 20)))) yc9 yc12 a4 ((bt460.2.1.length : Int) != 0) bt460.1 bt460.2.1) else (transeptlaw04_DiskTorn.j0 k (wrap64 (1 + (Int.tmod (wrap64 ((Int.tmod a0 20) + 20)) 20))) (Int.tmod (wrap64 ((Int.tmod a1 (wrap64 (1 + (Int.tmod (wrap64 ((Int.tmod a0 20) + 20)) 20)))) + (wrap64 (1 + (Int.tmod (wrap64 ((Int.tmod a0 20) + 20)) 20))))) (wrap64 (1 + (Int.tmod (wrap64 ((Int.tmod a0 20) + 20)) 20)))) yc9 yc12 a4 true bt460.1 bt460.2.1)) else (transeptlaw04_DiskTorn.j0 k (wrap64 (1 + (Int.tmod (wrap64 ((Int.tmod a0 20) + 20)) 20))) (Int.tmod (wrap64 ((Int.tmod a1 (wrap64 (1 + (Int.tmod (wrap64 ((Int.tmod a0 20) + 20)) 20)))) + (wrap64 (1 + (Int.tmod (wrap64 ((Int.tmod a0 20) + 20)) 20))))) (wrap64 (1 + (Int.tmod (wrap64 ((Int.tmod a0 20) + 20)) 20)))) yc9 yc12 a4 true bt460.1 bt460.2.1))))))))))) = some r := H
       have A15 := Aside0.mk A150
       clear A150
       replace H := Option.bind_eq_some_iff.mp H
       obtain ⟨⟨t436, t439, t442⟩, A160, H⟩ := H
       replace H : ((disk_Flush.f k t436 t439).bind fun bt443 => ((disk_Put.f k bt443.1 bt443.2.1 (Int.tmod (wrap64 ((Int.tmod a1 (wrap64 (1 + (Int.tmod (wrap64 ((Int.tmod a0 20) + 20)) 20)))) + (wrap64 (1 + (Int.tmod (wrap64 ((Int.tmod a0 20) + 20)) 20))))) (wrap64 (1 + (Int.tmod (wrap64 ((Int.tmod a0 20) + 20)) 20)))) yc12).bind fun bt450 => ((disk_Crash.f k bt450.1 bt450.2.1 (([true] : List Bool)) 0 a4).bind fun bt460 => ((transeptlaw04_num.f t434).bind fun t468 => ((transeptlaw04_num.f t442).bind fun t469 => ((transeptlaw04_num.f bt443.2.2).bind fun t470 => ((transeptlaw04_num.f bt450.2.2).bind fun t471 => ((transeptlaw04_num.f bt460.2.2).bind fun t472 => (if (wrap64 ((wrap64 ((wrap64 ((wrap64 (t468 + t469)) + t470)) + t471)) + t472)) = 0 then (if (bt460.1.length : Int) = (wrap64 (1 + (Int.tmod (wrap64 ((Int.tmod a0 20) + 20)) 20))) then (transeptlaw04_DiskTorn.j0 k (wrap64 (1 + (Int.tmod (wrap64 ((Int.tmod a0 20) + 20)) 20))) (Int.tmod (wrap64 ((Int.tmod a1 (wrap64 (1 + (Int.tmod (wrap64 ((Int.tmod a0 20) + 20)) 20)))) + (wrap64 (1 + (Int.tmod (wrap64 ((Int.tmod a0 20) + 20)) 20))))) (wrap64 (1 + (Int.tmod (wrap64 ((Int.tmod a0 20) + 20)) 20)))) yc9 yc12 a4 ((bt460.2.1.length : Int) != 0) bt460.1 bt460.2.1) else (transeptlaw04_DiskTorn.j0 k (wrap64 (1 + (Int.tmod (wrap64 ((Int.tmod a0 20) + 20)) 20))) (Int.tmod (wrap64 ((Int.tmod a1 (wrap64 (1 + (Int.tmod (wrap64 ((Int.tmod a0 20) + 20)) 20)))) + (wrap64 (1 + (Int.tmod (wrap64 ((Int.tmod a0 20) + 20)) 20))))) (wrap64 (1 + (Int.tmod (wrap64 ((Int.tmod a0 20) + 20)) 20)))) yc9 yc12 a4 true bt460.1 bt460.2.1)) else (transeptlaw04_DiskTorn.j0 k (wrap64 (1 + (Int.tmod (wrap64 ((Int.tmod a0 20) + 20)) 20))) (Int.tmod (wrap64 ((Int.tmod a1 (wrap64 (1 + (Int.tmod (wrap64 ((Int.tmod a0 20) + 20)) 20)))) + (wrap64 (1 + (Int.tmod (wrap64 ((Int.tmod a0 20) + 20)) 20))))) (wrap64 (1 + (Int.tmod (wrap64 ((Int.tmod a0 20) + 20)) 20)))) yc9 yc12 a4 true bt460.1 bt460.2.1)))))))))) = some r := H
       have A16 := Aside0.mk A160
       clear A160
       replace H := Option.bind_eq_some_iff.mp H
       obtain ⟨⟨t443, t446, t449⟩, A170, H⟩ := H
       replace H : ((disk_Put.f k t443 t446 (Int.tmod (wrap64 ((Int.tmod a1 (wrap64 (1 + (Int.tmod (wrap64 ((Int.tmod a0 20) + 20)) 20)))) + (wrap64 (1 + (Int.tmod (wrap64 ((Int.tmod a0 20) + 20)) 20))))) (wrap64 (1 + (Int.tmod (wrap64 ((Int.tmod a0 20) + 20)) 20)))) yc12).bind fun bt450 => ((disk_Crash.f k bt450.1 bt450.2.1 (([true] : List Bool)) 0 a4).bind fun bt460 => ((transeptlaw04_num.f t434).bind fun t468 => ((transeptlaw04_num.f t442).bind fun t469 => ((transeptlaw04_num.f t449).bind fun t470 => ((transeptlaw04_num.f bt450.2.2).bind fun t471 => ((transeptlaw04_num.f bt460.2.2).bind fun t472 => (if (wrap64 ((wrap64 ((wrap64 ((wrap64 (t468 + t469)) + t470)) + t471)) + t472)) = 0 then (if (bt460.1.length : Int) = (wrap64 (1 + (Int.tmod (wrap64 ((Int.tmod a0 20) + 20)) 20))) then (transeptlaw04_DiskTorn.j0 k (wrap64 (1 + (Int.tmod (wrap64 ((Int.tmod a0 20) + 20)) 20))) (Int.tmod (wrap64 ((Int.tmod a1 (wrap64 (1 + (Int.tmod (wrap64 ((Int.tmod a0 20) + 20)) 20)))) + (wrap64 (1 + (Int.tmod (wrap64 ((Int.tmod a0 20) + 20)) 20))))) (wrap64 (1 + (Int.tmod (wrap64 ((Int.tmod a0 20) + 20)) 20)))) yc9 yc12 a4 ((bt460.2.1.length : Int) != 0) bt460.1 bt460.2.1) else (transeptlaw04_DiskTorn.j0 k (wrap64 (1 + (Int.tmod (wrap64 ((Int.tmod a0 20) + 20)) 20))) (Int.tmod (wrap64 ((Int.tmod a1 (wrap64 (1 + (Int.tmod (wrap64 ((Int.tmod a0 20) + 20)) 20)))) + (wrap64 (1 + (Int.tmod (wrap64 ((Int.tmod a0 20) + 20)) 20))))) (wrap64 (1 + (Int.tmod (wrap64 ((Int.tmod a0 20) + 20)) 20)))) yc9 yc12 a4 true bt460.1 bt460.2.1)) else (transeptlaw04_DiskTorn.j0 k (wrap64 (1 + (Int.tmod (wrap64 ((Int.tmod a0 20) + 20)) 20))) (Int.tmod (wrap64 ((Int.tmod a1 (wrap64 (1 + (Int.tmod (wrap64 ((Int.tmod a0 20) + 20)) 20)))) + (wrap64 (1 + (Int.tmod (wrap64 ((Int.tmod a0 20) + 20)) 20))))) (wrap64 (1 + (Int.tmod (wrap64 ((Int.tmod a0 20) + 20)) 20)))) yc9 yc12 a4 true bt460.1 bt460.2.1))))))))) = some r := H
       have A17 := Aside0.mk A170
       clear A170
       replace H := Option.bind_eq_some_iff.mp H
       obtain ⟨⟨t450, t453, t456⟩, A180, H⟩ := H
       replace H : ((disk_Crash.f k t450 t453 (([true] : List Bool)) 0 a4).bind fun bt460 => ((transeptlaw04_num.f t434).bind fun t468 => ((transeptlaw04_num.f t442).bind fun t469 => ((transeptlaw04_num.f t449).bind fun t470 => ((transeptlaw04_num.f t456).bind fun t471 => ((transeptlaw04_num.f bt460.2.2).bind fun t472 => (if (wrap64 ((wrap64 ((wrap64 ((wrap64 (t468 + t469)) + t470)) + t471)) + t472)) = 0 then (if (bt460.1.length : Int) = (wrap64 (1 + (Int.tmod (wrap64 ((Int.tmod a0 20) + 20)) 20))) then (transeptlaw04_DiskTorn.j0 k (wrap64 (1 + (Int.tmod (wrap64 ((Int.tmod a0 20) + 20)) 20))) (Int.tmod (wrap64 ((Int.tmod a1 (wrap64 (1 + (Int.tmod (wrap64 ((Int.tmod a0 20) + 20)) 20)))) + (wrap64 (1 + (Int.tmod (wrap64 ((Int.tmod a0 20) + 20)) 20))))) (wrap64 (1 + (Int.tmod (wrap64 ((Int.tmod a0 20) + 20)) 20)))) yc9 yc12 a4 ((bt460.2.1.length : Int) != 0) bt460.1 bt460.2.1) else (transeptlaw04_DiskTorn.j0 k (wrap64 (1 + (Int.tmod (wrap64 ((Int.tmod a0 20) + 20)) 20))) (Int.tmod (wrap64 ((Int.tmod a1 (wrap64 (1 + (Int.tmod (wrap64 ((Int.tmod a0 20) + 20)) 20)))) + (wrap64 (1 + (Int.tmod (wrap64 ((Int.tmod a0 20) + 20)) 20))))) (wrap64 (1 + (Int.tmod (wrap64 ((Int.tmod a0 20) + 20)) 20)))) yc9 yc12 a4 true bt460.1 bt460.2.1)) else (transeptlaw04_DiskTorn.j0 k (wrap64 (1 + (Int.tmod (wrap64 ((Int.tmod a0 20) + 20)) 20))) (Int.tmod (wrap64 ((Int.tmod a1 (wrap64 (1 + (Int.tmod (wrap64 ((Int.tmod a0 20) + 20)) 20)))) + (wrap64 (1 + (Int.tmod (wrap64 ((Int.tmod a0 20) + 20)) 20))))) (wrap64 (1 + (Int.tmod (wrap64 ((Int.tmod a0 20) + 20)) 20)))) yc9 yc12 a4 true bt460.1 bt460.2.1)))))))) = some r := H
       have A18 := Aside0.mk A180
       clear A180
       obtain ⟨y457, hy457⟩ : ∃ y_ : List Bool, y_ = (([true] : List Bool)) := ⟨_, rfl⟩
       replace H : ((disk_Crash.f k t450 t453 y457 0 a4).bind fun bt460 => ((transeptlaw04_num.f t434).bind fun t468 => ((transeptlaw04_num.f t442).bind fun t469 => ((transeptlaw04_num.f t449).bind fun t470 => ((transeptlaw04_num.f t456).bind fun t471 => ((transeptlaw04_num.f bt460.2.2).bind fun t472 => (if (wrap64 ((wrap64 ((wrap64 ((wrap64 (t468 + t469)) + t470)) + t471)) + t472)) = 0 then (if (bt460.1.length : Int) = (wrap64 (1 + (Int.tmod (wrap64 ((Int.tmod a0 20) + 20)) 20))) then (transeptlaw04_DiskTorn.j0 k (wrap64 (1 + (Int.tmod (wrap64 ((Int.tmod a0 20) + 20)) 20))) (Int.tmod (wrap64 ((Int.tmod a1 (wrap64 (1 + (Int.tmod (wrap64 ((Int.tmod a0 20) + 20)) 20)))) + (wrap64 (1 + (Int.tmod (wrap64 ((Int.tmod a0 20) + 20)) 20))))) (wrap64 (1 + (Int.tmod (wrap64 ((Int.tmod a0 20) + 20)) 20)))) yc9 yc12 a4 ((bt460.2.1.length : Int) != 0) bt460.1 bt460.2.1) else (transeptlaw04_DiskTorn.j0 k (wrap64 (1 + (Int.tmod (wrap64 ((Int.tmod a0 20) + 20)) 20))) (Int.tmod (wrap64 ((Int.tmod a1 (wrap64 (1 + (Int.tmod (wrap64 ((Int.tmod a0 20) + 20)) 20)))) + (wrap64 (1 + (Int.tmod (wrap64 ((Int.tmod a0 20) + 20)) 20))))) (wrap64 (1 + (Int.tmod (wrap64 ((Int.tmod a0 20) + 20)) 20)))) yc9 yc12 a4 true bt460.1 bt460.2.1)) else (transeptlaw04_DiskTorn.j0 k (wrap64 (1 + (Int.tmod (wrap64 ((Int.tmod a0 20) + 20)) 20))) (Int.tmod (wrap64 ((Int.tmod a1 (wrap64 (1 + (Int.tmod (wrap64 ((Int.tmod a0 20) + 20)) 20)))) + (wrap64 (1 + (Int.tmod (wrap64 ((Int.tmod a0 20) + 20)) 20))))) (wrap64 (1 + (Int.tmod (wrap64 ((Int.tmod a0 20) + 20)) 20)))) yc9 yc12 a4 true bt460.1 bt460.2.1)))))))) = some r := by first | (rw [hy457]; with_reducible exact H) | (have H2_ := (Option.bind_some _ _).symm.trans H; rw [hy457]; with_reducible exact H2_) | (have H2_ := (Option.bind_some _ _).symm.trans H; with_reducible exact H2_) | with_reducible exact H | (rw [hy457]; exact H) | exact H
       have Ny457 := Aside0.mk hy457
       clear hy457
       replace H := Option.bind_eq_some_iff.mp H
       obtain ⟨⟨t460, t463, t466⟩, A190, H⟩ := H
       replace H : ((transeptlaw04_num.f t434).bind fun t468 => ((transeptlaw04_num.f t442).bind fun t469 => ((transeptlaw04_num.f t449).bind fun t470 => ((transeptlaw04_num.f t456).bind fun t471 => ((transeptlaw04_num.f t466).bind fun t472 => (if (wrap64 ((wrap64 ((wrap64 ((wrap64 (t468 + t469)) + t470)) + t471)) + t472)) = 0 then (if (t460.length : Int) = (wrap64 (1 + (Int.tmod (wrap64 ((Int.tmod a0 20) + 20)) 20))) then (transeptlaw04_DiskTorn.j0 k (wrap64 (1 + (Int.tmod (wrap64 ((Int.tmod a0 20) + 20)) 20))) (Int.tmod (wrap64 ((Int.tmod a1 (wrap64 (1 + (Int.tmod (wrap64 ((Int.tmod a0 20) + 20)) 20)))) + (wrap64 (1 + (Int.tmod (wrap64 ((Int.tmod a0 20) + 20)) 20))))) (wrap64 (1 + (Int.tmod (wrap64 ((Int.tmod a0 20) + 20)) 20)))) yc9 yc12 a4 ((t463.length : Int) != 0) t460 t463) else (transeptlaw04_DiskTorn.j0 k (wrap64 (1 + (Int.tmod (wrap64 ((Int.tmod a0 20) + 20)) 20))) (Int.tmod (wrap64 ((Int.tmod a1 (wrap64 (1 + (Int.tmod (wrap64 ((Int.tmod a0 20) + 20)) 20)))) + (wrap64 (1 + (Int.tmod (wrap64 ((Int.tmod a0 20) + 20)) 20))))) (wrap64 (1 + (Int.tmod (wrap64 ((Int.tmod a0 20) + 20)) 20)))) yc9 yc12 a4 true t460 t463)) else (transeptlaw04_DiskTorn.j0 k (wrap64 (1 + (Int.tmod (wrap64 ((Int.tmod a0 20) + 20)) 20))) (Int.tmod (wrap64 ((Int.tmod a1 (wrap64 (1 + (Int.tmod (wrap64 ((Int.tmod a0 20) + 20)) 20)))) + (wrap64 (1 + (Int.tmod (wrap64 ((Int.tmod a0 20) + 20)) 20))))) (wrap64 (1 + (Int.tmod (wrap64 ((Int.tmod a0 20) + 20)) 20)))) yc9 yc12 a4 true t460 t463))))))) = some r := H
       have A19 := Aside0.mk A190
       clear A190
       have HC20 := Aside0.mk H
       clear H
       go_enter Try.func8, Try.ntmps8
       go_upto_region 11 with (first | (go_at_call 26; (with_reducible refine (transeptlaw04_alive.calls  true _ A6.out).mono ?_); rintro e w21 ⟨rfl, hb⟩; have n0_ := Aside0.mk (below_step (by repeat (first | (with_reducible first | exact HB.out | apply below_alloc | apply pw_below_drewN | apply below_drew1) | exact HB.out)) hb); clear HB; have HB := n0_; clear n0_; (try clear hb); (try clear hb2); (try clear hk); (try clear hi); obtain ⟨i022, hi022, _, hsz22, _⟩ := info_parts info5; obtain ⟨hcut22, hA22, hC22⟩ := print_take_of (P := Try.prog) (Value.int .u8) 0 50 5 .i64 Try.underlying50 hi022 hsz22 A2 c2 l2 (ji9) (of_decide_eq_true (by first | (with_reducible assumption) | assumption)) (of_decide_eq_true (by first | (with_reducible assumption) | assumption)) HC2.out; rw [← NC9.out] at hcut22 hA22 hC22; have HR426 := Aside0.mk (Kd.C_of_reads (h1 := fun _ => rfl) (hA22 _ (Kd.reads_of_C HR2.out))); have HC426 := Aside0.mk hC22; clear hA22 hC22 hi022 hsz22; obtain ⟨i023, hi023, _, hsz23, _⟩ := info_parts info5; obtain ⟨hcut23, hA23, hC23⟩ := print_take_of (P := Try.prog) (Value.int .u8) 0 50 5 .i64 Try.underlying50 hi023 hsz23 A3 c3 l3 (ji12) (of_decide_eq_true (by first | (with_reducible assumption) | assumption)) (of_decide_eq_true (by first | (with_reducible assumption) | assumption)) HC3.out; rw [← NC12.out] at hcut23 hA23 hC23; have HR427 := Aside0.mk (Kd.C_of_reads (h1 := fun _ => rfl) (hA23 _ (Kd.reads_of_C HR3.out))); have HC427 := Aside0.mk hC23; clear hA23 hC23 hi023 hsz23) | (go_at_call 15; (with_reducible refine (disk_New.calls (wrap64 (1 + (Int.tmod (wrap64 ((Int.tmod a0 20) + 20)) 20))) t428 t431 t434 _ A15.out).mono ?_); rintro e w24 ⟨v429, v432, rfl, ho0, ho1, hb⟩; have n0_ := Aside0.mk (Kd.S_lower ho0 (below_size (by repeat (first | (with_reducible first | exact HB.out | apply below_alloc | apply pw_below_drewN | apply below_drew1) | exact HB.out)))); have n1_ := Aside0.mk (Kd.S_lower ho1 (below_size (by repeat (first | (with_reducible first | exact HB.out | apply below_alloc | apply pw_below_drewN | apply below_drew1) | exact HB.out)))); have n2_ := Aside0.mk (below_step (by repeat (first | (with_reducible first | exact HB.out | apply below_alloc | apply pw_below_drewN | apply below_drew1) | exact HB.out)) hb); clear HB; have HO430 := n0_; have HO433 := n1_; have HB := n2_; clear n0_ n1_ n2_; (try clear hb); (try clear hb2); (try clear hk); (try clear hi); (try clear ho0); (try clear ho1)) | ((with_reducible refine gate_dst (N := 11) rfl ?_); (try (refine gate_guard (by rfl) ?_; dsimp only)); refine box_event ?hg (N := 11) ?hd (cs := #[.slice none 0 0, .slice none 0 0]) (t := 28) ?hr ?_; (case hd => rfl); (case hg => rfl); (case hr => first | (go_simp; done) | (go_simp; rfl)); intro gb435 hg w25 hbox hb; have n0_ := Aside0.mk (Kd.S_below (by (with_reducible repeat (first | apply Kd.S_alloc | apply Kd.S_drewN | apply Kd.S_drew)); exact HO430.out) hb); have n1_ := Aside0.mk (Kd.S_below (by (with_reducible repeat (first | apply Kd.S_alloc | apply Kd.S_drewN | apply Kd.S_drew)); exact HO433.out) hb); have n2_ := Aside0.mk (below_step (by repeat (first | (with_reducible first | exact HB.out | apply below_alloc | apply pw_below_drewN | apply below_drew1) | exact HB.out)) hb); have n3_ := Aside0.mk (hbox); have n4_ := Aside0.mk ((by rw [hg]; exact (below_size (by repeat (first | (with_reducible first | exact HB.out | apply below_alloc | apply pw_below_drewN | apply below_drew1) | exact HB.out))) : w.heap.size ≤ gb435)); have n5_ := Aside0.mk ((by rw [hg]; exact (below_size (by repeat (first | (with_reducible first | exact HB.out | apply below_alloc | apply pw_below_drewN | apply below_drew1) | exact HB.out))) : w.heap.size ≤ gb435)); clear HO430; clear HO433; clear HB; have HO430 := n0_; have HO433 := n1_; have HB := n2_; have BK435 := n3_; have GW435 := n4_; have GE435 := n5_; clear n0_ n1_ n2_ n3_ n4_ n5_; clear hb hbox hg; obtain ⟨Ao26, co26, eo26⟩ := Kd.S_slice HO430.out; subst eo26; have hcz27_0 : w25.cell? ⟨gb435, 0, none⟩ = some (.slice none 0 0) := (blk_cell BK435.out 0).trans rfl; have hcz27_1 : w25.cell? ⟨gb435, 1, none⟩ = some (.slice none 0 0) := (blk_cell BK435.out 1).trans rfl; have hfz27_0 := blk_frozen BK435.out 0; have hfz27_1 := blk_frozen BK435.out 1; obtain ⟨Ao28, co28, eo28⟩ := Kd.S_slice HO433.out; subst eo28) | (go_at_call 30; (with_reducible refine (disk_Put.calls k _ _ t428 _ _ t431 (Int.tmod (wrap64 ((Int.tmod a1 (wrap64 (1 + (Int.tmod (wrap64 ((Int.tmod a0 20) + 20)) 20)))) + (wrap64 (1 + (Int.tmod (wrap64 ((Int.tmod a0 20) + 20)) 20))))) (wrap64 (1 + (Int.tmod (wrap64 ((Int.tmod a0 20) + 20)) 20)))) _ _ yc9 t436 t439 t442 _ ?side1 ?side2 ?side3 ?side4 ?side5 ?side6 A16.out).mono ?_); (case side1 => refine (Kd.S_reads' (e := 50) (base := w.heap.size) (ok := fun k_ => True) (n := t428.length) (c := co26) ?_).2.2; exact (by (with_reducible repeat (first | apply Kd.S_alloc | apply Kd.S_drewN | apply Kd.S_drew)); exact (Kd.S_mono (Kd.S_far (p := ⟨gb435, 1, none⟩) (Kd.S_far (p := ⟨gb435, 0, none⟩) (Kd.S_types HO430.out BK435.out (by decide)) (fun _ hk => hk.2) (.slice Ao26 t428.length co26)) (fun _ hk => hk.2) (.slice Ao28 t431.length co28)) (fun _ h_ => h_.1)))); (case side2 => exact (Kd.S_reads' HO430.out).2.1); (case side3 => refine (Kd.S_reads' (e := 61) (base := w.heap.size) (ok := fun k_ => True) (n := t431.length) (c := co28) ?_).2.2; exact (by (with_reducible repeat (first | apply Kd.S_alloc | apply Kd.S_drewN | apply Kd.S_drew)); exact (Kd.S_mono (Kd.S_far (p := ⟨gb435, 1, none⟩) (Kd.S_far (p := ⟨gb435, 0, none⟩) (Kd.S_types HO433.out BK435.out (by decide)) (fun _ hk => hk.2) (.slice Ao26 t428.length co26)) (fun _ hk => hk.2) (.slice Ao28 t431.length co28)) (fun _ h_ => h_.1)))); (case side4 => exact (Kd.S_reads' HO433.out).2.1); (case side5 => exact Kd.C_below HR426.out (by repeat (first | (with_reducible first | exact HB.out | apply below_alloc | apply pw_below_drewN | apply below_drew1 | refine below_set ?_ GE435.out) | exact HB.out))); (case side6 => exact HC426.out); rintro e w29 ⟨v437, v440, rfl, ho0, ho1, hb⟩; have n0_ := Aside0.mk (Kd.S_elder' (by (with_reducible repeat (first | apply Kd.S_alloc | apply Kd.S_drewN | apply Kd.S_drew)); exact (Kd.S_mono (Kd.S_far (p := ⟨gb435, 1, none⟩) (Kd.S_far (p := ⟨gb435, 0, none⟩) (Kd.S_types HO430.out BK435.out (by decide)) (fun _ hk => hk.2) (.slice Ao26 t428.length co26)) (fun _ hk => hk.2) (.slice Ao28 t431.length co28)) (fun _ h_ => h_.1))) (Kd.S_base ho0) hb); have n1_ := Aside0.mk (Kd.S_elder' (by (with_reducible repeat (first | apply Kd.S_alloc | apply Kd.S_drewN | apply Kd.S_drew)); exact (Kd.S_mono (Kd.S_far (p := ⟨gb435, 1, none⟩) (Kd.S_far (p := ⟨gb435, 0, none⟩) (Kd.S_types HO433.out BK435.out (by decide)) (fun _ hk => hk.2) (.slice Ao26 t428.length co26)) (fun _ hk => hk.2) (.slice Ao28 t431.length co28)) (fun _ h_ => h_.1))) (Kd.S_base ho1) hb); have n2_ := Aside0.mk (Kd.S_lower (Kd.S_new' ho0 (Kd.S_lt (by (with_reducible repeat (first | apply Kd.S_alloc | apply Kd.S_drewN | apply Kd.S_drew)); exact (Kd.S_mono (Kd.S_far (p := ⟨gb435, 1, none⟩) (Kd.S_far (p := ⟨gb435, 0, none⟩) (Kd.S_types HO430.out BK435.out (by decide)) (fun _ hk => hk.2) (.slice Ao26 t428.length co26)) (fun _ hk => hk.2) (.slice Ao28 t431.length co28)) (fun _ h_ => h_.1))))) (below_size (by repeat (first | (with_reducible first | exact HB.out | apply below_alloc | apply pw_below_drewN | apply below_drew1 | refine below_set ?_ GE435.out) | exact HB.out)))); have n3_ := Aside0.mk (Kd.S_lower (Kd.S_new' ho1 (Kd.S_lt (by (with_reducible repeat (first | apply Kd.S_alloc | apply Kd.S_drewN | apply Kd.S_drew)); exact (Kd.S_mono (Kd.S_far (p := ⟨gb435, 1, none⟩) (Kd.S_far (p := ⟨gb435, 0, none⟩) (Kd.S_types HO433.out BK435.out (by decide)) (fun _ hk => hk.2) (.slice Ao26 t428.length co26)) (fun _ hk => hk.2) (.slice Ao28 t431.length co28)) (fun _ h_ => h_.1))))) (below_size (by repeat (first | (with_reducible first | exact HB.out | apply below_alloc | apply pw_below_drewN | apply below_drew1 | refine below_set ?_ GE435.out) | exact HB.out)))); have n4_ := Aside0.mk (blk_below (g := gb435) (o := .cells #[.slice Ao26 t428.length co26, .slice Ao28 t431.length co28] 28 (0, 0)) (by (with_reducible repeat (first | refine blk_drewN ?_ _ | refine blk_drew ?_ | refine blk_alloc ?_ _)); refine blk_put (cs := #[.slice Ao26 t428.length co26, .slice none 0 0]) ?_ 1 _ rfl; (with_reducible repeat (first | refine blk_drewN ?_ _ | refine blk_drew ?_ | refine blk_alloc ?_ _)); refine blk_put (cs := #[.slice none 0 0, .slice none 0 0]) ?_ 0 _ rfl; (with_reducible repeat (first | refine blk_drewN ?_ _ | refine blk_drew ?_ | refine blk_alloc ?_ _)); exact BK435.out) hb); have n5_ := Aside0.mk (below_step (by repeat (first | (with_reducible first | exact HB.out | apply below_alloc | apply pw_below_drewN | apply below_drew1 | refine below_set ?_ GE435.out) | exact HB.out)) hb); clear HO430; clear HO433; clear BK435; clear HB; have HO430 := n0_; have HO433 := n1_; have HO438 := n2_; have HO441 := n3_; have BK435 := n4_; have HB := n5_; clear n0_ n1_ n2_ n3_ n4_ n5_; (try clear hb); (try clear hb2); (try clear hk); (try clear hi); (try clear ho0); (try clear ho1); obtain ⟨Ao30, co30, eo30⟩ := Kd.S_slice HO438.out; subst eo30; have hcz31_0 : w29.cell? ⟨gb435, 0, none⟩ = some (.slice Ao26 t428.length co26) := (blk_cell BK435.out 0).trans rfl; have hcz31_1 : w29.cell? ⟨gb435, 1, none⟩ = some (.slice Ao28 t431.length co28) := (blk_cell BK435.out 1).trans rfl; have hfz31_0 := blk_frozen BK435.out 0; have hfz31_1 := blk_frozen BK435.out 1; obtain ⟨Ao32, co32, eo32⟩ := Kd.S_slice HO441.out; subst eo32) | (go_at_call 33; (with_reducible refine (disk_Flush.calls k _ _ t436 _ _ t439 t443 t446 t449 _ ?side1 ?side2 ?side3 ?side4 A17.out).mono ?_); (case side1 => refine (Kd.S_reads' (e := 50) (base := w.heap.size) (ok := fun k_ => (True ∧ some k_ ≠ (.slice Ao26 t428.length co26 : Value).ownBlock)) (n := t436.length) (c := co30) ?_).2.2; exact (by (with_reducible repeat (first | apply Kd.S_alloc | apply Kd.S_drewN | apply Kd.S_drew)); exact (Kd.S_mono (Kd.S_far (p := ⟨gb435, 1, none⟩) (Kd.S_far (p := ⟨gb435, 0, none⟩) (Kd.S_types HO438.out BK435.out (by decide)) (fun _ hk => hk.2) (.slice Ao30 t436.length co30)) (fun _ hk => hk.2) (.slice Ao32 t439.length co32)) (fun _ h_ => h_.1)))); (case side2 => exact (Kd.S_reads' HO438.out).2.1); (case side3 => refine (Kd.S_reads' (e := 61) (base := w.heap.size) (ok := fun k_ => (True ∧ some k_ ≠ (.slice Ao28 t431.length co28 : Value).ownBlock)) (n := t439.length) (c := co32) ?_).2.2; exact (by (with_reducible repeat (first | apply Kd.S_alloc | apply Kd.S_drewN | apply Kd.S_drew)); exact (Kd.S_mono (Kd.S_far (p := ⟨gb435, 1, none⟩) (Kd.S_far (p := ⟨gb435, 0, none⟩) (Kd.S_types HO441.out BK435.out (by decide)) (fun _ hk => hk.2) (.slice Ao30 t436.length co30)) (fun _ hk => hk.2) (.slice Ao32 t439.length co32)) (fun _ h_ => h_.1)))); (case side4 => exact (Kd.S_reads' HO441.out).2.1); rintro e w33 ⟨v444, v447, rfl, ho0, ho1, hb⟩; have n0_ := Aside0.mk (Kd.S_elder' (by (with_reducible repeat (first | apply Kd.S_alloc | apply Kd.S_drewN | apply Kd.S_drew)); exact (Kd.S_mono (Kd.S_far (p := ⟨gb435, 1, none⟩) (Kd.S_far (p := ⟨gb435, 0, none⟩) (Kd.S_types HO430.out BK435.out (by decide)) (fun _ hk => hk.2) (.slice Ao30 t436.length co30)) (fun _ hk => hk.2) (.slice Ao32 t439.length co32)) (fun _ h_ => h_.1))) (Kd.S_base ho0) hb); have n1_ := Aside0.mk (Kd.S_elder' (by (with_reducible repeat (first | apply Kd.S_alloc | apply Kd.S_drewN | apply Kd.S_drew)); exact (Kd.S_mono (Kd.S_far (p := ⟨gb435, 1, none⟩) (Kd.S_far (p := ⟨gb435, 0, none⟩) (Kd.S_types HO433.out BK435.out (by decide)) (fun _ hk => hk.2) (.slice Ao30 t436.length co30)) (fun _ hk => hk.2) (.slice Ao32 t439.length co32)) (fun _ h_ => h_.1))) (Kd.S_base ho1) hb); have n2_ := Aside0.mk (Kd.S_elder' (by (with_reducible repeat (first | apply Kd.S_alloc | apply Kd.S_drewN | apply Kd.S_drew)); exact (Kd.S_mono (Kd.S_far (p := ⟨gb435, 1, none⟩) (Kd.S_far (p := ⟨gb435, 0, none⟩) (Kd.S_types HO438.out BK435.out (by decide)) (fun _ hk => hk.2) (.slice Ao30 t436.length co30)) (fun _ hk => hk.2) (.slice Ao32 t439.length co32)) (fun _ h_ => h_.1))) (Kd.S_base ho0) hb); have n3_ := Aside0.mk (Kd.S_elder' (by (with_reducible repeat (first | apply Kd.S_alloc | apply Kd.S_drewN | apply Kd.S_drew)); exact (Kd.S_mono (Kd.S_far (p := ⟨gb435, 1, none⟩) (Kd.S_far (p := ⟨gb435, 0, none⟩) (Kd.S_types HO441.out BK435.out (by decide)) (fun _ hk => hk.2) (.slice Ao30 t436.length co30)) (fun _ hk => hk.2) (.slice Ao32 t439.length co32)) (fun _ h_ => h_.1))) (Kd.S_base ho1) hb); have n4_ := Aside0.mk (Kd.S_lower (Kd.S_new' (Kd.S_new' ho0 (Kd.S_lt (by (with_reducible repeat (first | apply Kd.S_alloc | apply Kd.S_drewN | apply Kd.S_drew)); exact (Kd.S_mono (Kd.S_far (p := ⟨gb435, 1, none⟩) (Kd.S_far (p := ⟨gb435, 0, none⟩) (Kd.S_types HO430.out BK435.out (by decide)) (fun _ hk => hk.2) (.slice Ao30 t436.length co30)) (fun _ hk => hk.2) (.slice Ao32 t439.length co32)) (fun _ h_ => h_.1))))) (Kd.S_lt (by (with_reducible repeat (first | apply Kd.S_alloc | apply Kd.S_drewN | apply Kd.S_drew)); exact (Kd.S_mono (Kd.S_far (p := ⟨gb435, 1, none⟩) (Kd.S_far (p := ⟨gb435, 0, none⟩) (Kd.S_types HO438.out BK435.out (by decide)) (fun _ hk => hk.2) (.slice Ao30 t436.length co30)) (fun _ hk => hk.2) (.slice Ao32 t439.length co32)) (fun _ h_ => h_.1))))) (below_size (by repeat (first | (with_reducible first | exact HB.out | apply below_alloc | apply pw_below_drewN | apply below_drew1 | refine below_set ?_ GE435.out) | exact HB.out)))); have n5_ := Aside0.mk (Kd.S_lower (Kd.S_new' (Kd.S_new' ho1 (Kd.S_lt (by (with_reducible repeat (first | apply Kd.S_alloc | apply Kd.S_drewN | apply Kd.S_drew)); exact (Kd.S_mono (Kd.S_far (p := ⟨gb435, 1, none⟩) (Kd.S_far (p := ⟨gb435, 0, none⟩) (Kd.S_types HO433.out BK435.out (by decide)) (fun _ hk => hk.2) (.slice Ao30 t436.length co30)) (fun _ hk => hk.2) (.slice Ao32 t439.length co32)) (fun _ h_ => h_.1))))) (Kd.S_lt (by (with_reducible repeat (first | apply Kd.S_alloc | apply Kd.S_drewN | apply Kd.S_drew)); exact (Kd.S_mono (Kd.S_far (p := ⟨gb435, 1, none⟩) (Kd.S_far (p := ⟨gb435, 0, none⟩) (Kd.S_types HO441.out BK435.out (by decide)) (fun _ hk => hk.2) (.slice Ao30 t436.length co30)) (fun _ hk => hk.2) (.slice Ao32 t439.length co32)) (fun _ h_ => h_.1))))) (below_size (by repeat (first | (with_reducible first | exact HB.out | apply below_alloc | apply pw_below_drewN | apply below_drew1 | refine below_set ?_ GE435.out) | exact HB.out)))); have n6_ := Aside0.mk (blk_below (g := gb435) (o := .cells #[.slice Ao30 t436.length co30, .slice Ao32 t439.length co32] 28 (0, 0)) (by (with_reducible repeat (first | refine blk_drewN ?_ _ | refine blk_drew ?_ | refine blk_alloc ?_ _)); refine blk_put (cs := #[.slice Ao30 t436.length co30, .slice Ao28 t431.length co28]) ?_ 1 _ rfl; (with_reducible repeat (first | refine blk_drewN ?_ _ | refine blk_drew ?_ | refine blk_alloc ?_ _)); refine blk_put (cs := #[.slice Ao26 t428.length co26, .slice Ao28 t431.length co28]) ?_ 0 _ rfl; (with_reducible repeat (first | refine blk_drewN ?_ _ | refine blk_drew ?_ | refine blk_alloc ?_ _)); exact BK435.out) hb); have n7_ := Aside0.mk (below_step (by repeat (first | (with_reducible first | exact HB.out | apply below_alloc | apply pw_below_drewN | apply below_drew1 | refine below_set ?_ GE435.out) | exact HB.out)) hb); clear HO430; clear HO433; clear HO438; clear HO441; clear BK435; clear HB; have HO430 := n0_; have HO433 := n1_; have HO438 := n2_; have HO441 := n3_; have HO445 := n4_; have HO448 := n5_; have BK435 := n6_; have HB := n7_; clear n0_ n1_ n2_ n3_ n4_ n5_ n6_ n7_; (try clear hb); (try clear hb2); (try clear hk); (try clear hi); (try clear ho0); (try clear ho1); obtain ⟨Ao34, co34, eo34⟩ := Kd.S_slice HO445.out; subst eo34; have hcz35_0 : w33.cell? ⟨gb435, 0, none⟩ = some (.slice Ao30 t436.length co30) := (blk_cell BK435.out 0).trans rfl; have hcz35_1 : w33.cell? ⟨gb435, 1, none⟩ = some (.slice Ao32 t439.length co32) := (blk_cell BK435.out 1).trans rfl; have hfz35_0 := blk_frozen BK435.out 0; have hfz35_1 := blk_frozen BK435.out 1; obtain ⟨Ao36, co36, eo36⟩ := Kd.S_slice HO448.out; subst eo36) | (go_at_call 30; (with_reducible refine (disk_Put.calls k _ _ t443 _ _ t446 (Int.tmod (wrap64 ((Int.tmod a1 (wrap64 (1 + (Int.tmod (wrap64 ((Int.tmod a0 20) + 20)) 20)))) + (wrap64 (1 + (Int.tmod (wrap64 ((Int.tmod a0 20) + 20)) 20))))) (wrap64 (1 + (Int.tmod (wrap64 ((Int.tmod a0 20) + 20)) 20)))) _ _ yc12 t450 t453 t456 _ ?side1 ?side2 ?side3 ?side4 ?side5 ?side6 A18.out).mono ?_); (case side1 => refine (Kd.S_reads' (e := 50) (base := w.heap.size) (ok := fun k_ => ((True ∧ some k_ ≠ (.slice Ao26 t428.length co26 : Value).ownBlock) ∧ some k_ ≠ (.slice Ao30 t436.length co30 : Value).ownBlock)) (n := t443.length) (c := co34) ?_).2.2; exact (by (with_reducible repeat (first | apply Kd.S_alloc | apply Kd.S_drewN | apply Kd.S_drew)); exact (Kd.S_mono (Kd.S_far (p := ⟨gb435, 1, none⟩) (Kd.S_far (p := ⟨gb435, 0, none⟩) (Kd.S_types HO445.out BK435.out (by decide)) (fun _ hk => hk.2) (.slice Ao34 t443.length co34)) (fun _ hk => hk.2) (.slice Ao36 t446.length co36)) (fun _ h_ => h_.1)))); (case side2 => exact (Kd.S_reads' HO445.out).2.1); (case side3 => refine (Kd.S_reads' (e := 61) (base := w.heap.size) (ok := fun k_ => ((True ∧ some k_ ≠ (.slice Ao28 t431.length co28 : Value).ownBlock) ∧ some k_ ≠ (.slice Ao32 t439.length co32 : Value).ownBlock)) (n := t446.length) (c := co36) ?_).2.2; exact (by (with_reducible repeat (first | apply Kd.S_alloc | apply Kd.S_drewN | apply Kd.S_drew)); exact (Kd.S_mono (Kd.S_far (p := ⟨gb435, 1, none⟩) (Kd.S_far (p := ⟨gb435, 0, none⟩) (Kd.S_types HO448.out BK435.out (by decide)) (fun _ hk => hk.2) (.slice Ao34 t443.length co34)) (fun _ hk => hk.2) (.slice Ao36 t446.length co36)) (fun _ h_ => h_.1)))); (case side4 => exact (Kd.S_reads' HO448.out).2.1); (case side5 => exact Kd.C_below HR427.out (by repeat (first | (with_reducible first | exact HB.out | apply below_alloc | apply pw_below_drewN | apply below_drew1 | refine below_set ?_ GE435.out) | exact HB.out))); (case side6 => exact HC427.out); rintro e w37 ⟨v451, v454, rfl, ho0, ho1, hb⟩; have n0_ := Aside0.mk (Kd.S_elder' (by (with_reducible repeat (first | apply Kd.S_alloc | apply Kd.S_drewN | apply Kd.S_drew)); exact (Kd.S_mono (Kd.S_far (p := ⟨gb435, 1, none⟩) (Kd.S_far (p := ⟨gb435, 0, none⟩) (Kd.S_types HO430.out BK435.out (by decide)) (fun _ hk => hk.2) (.slice Ao34 t443.length co34)) (fun _ hk => hk.2) (.slice Ao36 t446.length co36)) (fun _ h_ => h_.1))) (Kd.S_base ho0) hb); have n1_ := Aside0.mk (Kd.S_elder' (by (with_reducible repeat (first | apply Kd.S_alloc | apply Kd.S_drewN | apply Kd.S_drew)); exact (Kd.S_mono (Kd.S_far (p := ⟨gb435, 1, none⟩) (Kd.S_far (p := ⟨gb435, 0, none⟩) (Kd.S_types HO433.out BK435.out (by decide)) (fun _ hk => hk.2) (.slice Ao34 t443.length co34)) (fun _ hk => hk.2) (.slice Ao36 t446.length co36)) (fun _ h_ => h_.1))) (Kd.S_base ho1) hb); have n2_ := Aside0.mk (Kd.S_elder' (by (with_reducible repeat (first | apply Kd.S_alloc | apply Kd.S_drewN | apply Kd.S_drew)); exact (Kd.S_mono (Kd.S_far (p := ⟨gb435, 1, none⟩) (Kd.S_far (p := ⟨gb435, 0, none⟩) (Kd.S_types HO438.out BK435.out (by decide)) (fun _ hk => hk.2) (.slice Ao34 t443.length co34)) (fun _ hk => hk.2) (.slice Ao36 t446.length co36)) (fun _ h_ => h_.1))) (Kd.S_base ho0) hb); have n3_ := Aside0.mk (Kd.S_elder' (by (with_reducible repeat (first | apply Kd.S_alloc | apply Kd.S_drewN | apply Kd.S_drew)); exact (Kd.S_mono (Kd.S_far (p := ⟨gb435, 1, none⟩) (Kd.S_far (p := ⟨gb435, 0, none⟩) (Kd.S_types HO441.out BK435.out (by decide)) (fun _ hk => hk.2) (.slice Ao34 t443.length co34)) (fun _ hk => hk.2) (.slice Ao36 t446.length co36)) (fun _ h_ => h_.1))) (Kd.S_base ho1) hb); have n4_ := Aside0.mk (Kd.S_elder' (by (with_reducible repeat (first | apply Kd.S_alloc | apply Kd.S_drewN | apply Kd.S_drew)); exact (Kd.S_mono (Kd.S_far (p := ⟨gb435, 1, none⟩) (Kd.S_far (p := ⟨gb435, 0, none⟩) (Kd.S_types HO445.out BK435.out (by decide)) (fun _ hk => hk.2) (.slice Ao34 t443.length co34)) (fun _ hk => hk.2) (.slice Ao36 t446.length co36)) (fun _ h_ => h_.1))) (Kd.S_base ho0) hb); have n5_ := Aside0.mk (Kd.S_elder' (by (with_reducible repeat (first | apply Kd.S_alloc | apply Kd.S_drewN | apply Kd.S_drew)); exact (Kd.S_mono (Kd.S_far (p := ⟨gb435, 1, none⟩) (Kd.S_far (p := ⟨gb435, 0, none⟩) (Kd.S_types HO448.out BK435.out (by decide)) (fun _ hk => hk.2) (.slice Ao34 t443.length co34)) (fun _ hk => hk.2) (.slice Ao36 t446.length co36)) (fun _ h_ => h_.1))) (Kd.S_base ho1) hb); have n6_ := Aside0.mk (Kd.S_lower (Kd.S_new' (Kd.S_new' (Kd.S_new' ho0 (Kd.S_lt (by (with_reducible repeat (first | apply Kd.S_alloc | apply Kd.S_drewN | apply Kd.S_drew)); exact (Kd.S_mono (Kd.S_far (p := ⟨gb435, 1, none⟩) (Kd.S_far (p := ⟨gb435, 0, none⟩) (Kd.S_types HO430.out BK435.out (by decide)) (fun _ hk => hk.2) (.slice Ao34 t443.length co34)) (fun _ hk => hk.2) (.slice Ao36 t446.length co36)) (fun _ h_ => h_.1))))) (Kd.S_lt (by (with_reducible repeat (first | apply Kd.S_alloc | apply Kd.S_drewN | apply Kd.S_drew)); exact (Kd.S_mono (Kd.S_far (p := ⟨gb435, 1, none⟩) (Kd.S_far (p := ⟨gb435, 0, none⟩) (Kd.S_types HO438.out BK435.out (by decide)) (fun _ hk => hk.2) (.slice Ao34 t443.length co34)) (fun _ hk => hk.2) (.slice Ao36 t446.length co36)) (fun _ h_ => h_.1))))) (Kd.S_lt (by (with_reducible repeat (first | apply Kd.S_alloc | apply Kd.S_drewN | apply Kd.S_drew)); exact (Kd.S_mono (Kd.S_far (p := ⟨gb435, 1, none⟩) (Kd.S_far (p := ⟨gb435, 0, none⟩) (Kd.S_types HO445.out BK435.out (by decide)) (fun _ hk => hk.2) (.slice Ao34 t443.length co34)) (fun _ hk => hk.2) (.slice Ao36 t446.length co36)) (fun _ h_ => h_.1))))) (below_size (by repeat (first | (with_reducible first | exact HB.out | apply below_alloc | apply pw_below_drewN | apply below_drew1 | refine below_set ?_ GE435.out) | exact HB.out)))); have n7_ := Aside0.mk (Kd.S_lower (Kd.S_new' (Kd.S_new' (Kd.S_new' ho1 (Kd.S_lt (by (with_reducible repeat (first | apply Kd.S_alloc | apply Kd.S_drewN | apply Kd.S_drew)); exact (Kd.S_mono (Kd.S_far (p := ⟨gb435, 1, none⟩) (Kd.S_far (p := ⟨gb435, 0, none⟩) (Kd.S_types HO433.out BK435.out (by decide)) (fun _ hk => hk.2) (.slice Ao34 t443.length co34)) (fun _ hk => hk.2) (.slice Ao36 t446.length co36)) (fun _ h_ => h_.1))))) (Kd.S_lt (by (with_reducible repeat (first | apply Kd.S_alloc | apply Kd.S_drewN | apply Kd.S_drew)); exact (Kd.S_mono (Kd.S_far (p := ⟨gb435, 1, none⟩) (Kd.S_far (p := ⟨gb435, 0, none⟩) (Kd.S_types HO441.out BK435.out (by decide)) (fun _ hk => hk.2) (.slice Ao34 t443.length co34)) (fun _ hk => hk.2) (.slice Ao36 t446.length co36)) (fun _ h_ => h_.1))))) (Kd.S_lt (by (with_reducible repeat (first | apply Kd.S_alloc | apply Kd.S_drewN | apply Kd.S_drew)); exact (Kd.S_mono (Kd.S_far (p := ⟨gb435, 1, none⟩) (Kd.S_far (p := ⟨gb435, 0, none⟩) (Kd.S_types HO448.out BK435.out (by decide)) (fun _ hk => hk.2) (.slice Ao34 t443.length co34)) (fun _ hk => hk.2) (.slice Ao36 t446.length co36)) (fun _ h_ => h_.1))))) (below_size (by repeat (first | (with_reducible first | exact HB.out | apply below_alloc | apply pw_below_drewN | apply below_drew1 | refine below_set ?_ GE435.out) | exact HB.out)))); have n8_ := Aside0.mk (blk_below (g := gb435) (o := .cells #[.slice Ao34 t443.length co34, .slice Ao36 t446.length co36] 28 (0, 0)) (by (with_reducible repeat (first | refine blk_drewN ?_ _ | refine blk_drew ?_ | refine blk_alloc ?_ _)); refine blk_put (cs := #[.slice Ao34 t443.length co34, .slice Ao32 t439.length co32]) ?_ 1 _ rfl; (with_reducible repeat (first | refine blk_drewN ?_ _ | refine blk_drew ?_ | refine blk_alloc ?_ _)); refine blk_put (cs := #[.slice Ao30 t436.length co30, .slice Ao32 t439.length co32]) ?_ 0 _ rfl; (with_reducible repeat (first | refine blk_drewN ?_ _ | refine blk_drew ?_ | refine blk_alloc ?_ _)); exact BK435.out) hb); have n9_ := Aside0.mk (below_step (by repeat (first | (with_reducible first | exact HB.out | apply below_alloc | apply pw_below_drewN | apply below_drew1 | refine below_set ?_ GE435.out) | exact HB.out)) hb); clear HO430; clear HO433; clear HO438; clear HO441; clear HO445; clear HO448; clear BK435; clear HB; have HO430 := n0_; have HO433 := n1_; have HO438 := n2_; have HO441 := n3_; have HO445 := n4_; have HO448 := n5_; have HO452 := n6_; have HO455 := n7_; have BK435 := n8_; have HB := n9_; clear n0_ n1_ n2_ n3_ n4_ n5_ n6_ n7_ n8_ n9_; (try clear hb); (try clear hb2); (try clear hk); (try clear hi); (try clear ho0); (try clear ho1); obtain ⟨Ao38, co38, eo38⟩ := Kd.S_slice HO452.out; subst eo38; have hcz39_0 : w37.cell? ⟨gb435, 0, none⟩ = some (.slice Ao34 t443.length co34) := (blk_cell BK435.out 0).trans rfl; have hcz39_1 : w37.cell? ⟨gb435, 1, none⟩ = some (.slice Ao36 t446.length co36) := (blk_cell BK435.out 1).trans rfl; have hfz39_0 := blk_frozen BK435.out 0; have hfz39_1 := blk_frozen BK435.out 1; obtain ⟨Ao40, co40, eo40⟩ := Kd.S_slice HO455.out; subst eo40) | ((with_reducible refine gate_dst (N := 72) rfl ?_); (try (refine gate_guard (by rfl) ?_; dsimp only)); refine Kd.R_lit Kd.bool _ 4 ?hg (N := 72) ?hd (xs := ([true] : List Bool)) (inner := [.bool true]) (ok := fun _ => True) (okp := fun _ => True) ?hr ?hp (fun _ hk => hk) trivial (Below.refl _ _) (Nat.le_refl _) (by simp) ?_; (case hd => rfl); (case hg => rfl); (case hr => first | (go_simp; done) | (go_simp; rfl)); (case hp => exact (Reps.one (show Kd.M Kd.bool _ _ _ true [.bool true] from rfl) (Reps.none _ _))); intro v458 w41 ho42 hb hg_ hnew_; clear hg_ hnew_; (first | rw [← Ny457.out] at ho42 | (simp only [Int.reduceToNat] at ho42; rw [← Ny457.out] at ho42)); have n0_ := Aside0.mk (Kd.S_below (by (with_reducible repeat (first | apply Kd.S_alloc | apply Kd.S_drewN | apply Kd.S_drew)); exact (Kd.S_mono (Kd.S_far (p := ⟨gb435, 1, none⟩) (Kd.S_far (p := ⟨gb435, 0, none⟩) (Kd.S_types HO430.out BK435.out (by decide)) (fun _ hk => hk.2) (.slice Ao38 t450.length co38)) (fun _ hk => hk.2) (.slice Ao40 t453.length co40)) (fun _ h_ => h_.1))) hb); have n1_ := Aside0.mk (Kd.S_below (by (with_reducible repeat (first | apply Kd.S_alloc | apply Kd.S_drewN | apply Kd.S_drew)); exact (Kd.S_mono (Kd.S_far (p := ⟨gb435, 1, none⟩) (Kd.S_far (p := ⟨gb435, 0, none⟩) (Kd.S_types HO433.out BK435.out (by decide)) (fun _ hk => hk.2) (.slice Ao38 t450.length co38)) (fun _ hk => hk.2) (.slice Ao40 t453.length co40)) (fun _ h_ => h_.1))) hb); have n2_ := Aside0.mk (Kd.S_below (by (with_reducible repeat (first | apply Kd.S_alloc | apply Kd.S_drewN | apply Kd.S_drew)); exact (Kd.S_mono (Kd.S_far (p := ⟨gb435, 1, none⟩) (Kd.S_far (p := ⟨gb435, 0, none⟩) (Kd.S_types HO438.out BK435.out (by decide)) (fun _ hk => hk.2) (.slice Ao38 t450.length co38)) (fun _ hk => hk.2) (.slice Ao40 t453.length co40)) (fun _ h_ => h_.1))) hb); have n3_ := Aside0.mk (Kd.S_below (by (with_reducible repeat (first | apply Kd.S_alloc | apply Kd.S_drewN | apply Kd.S_drew)); exact (Kd.S_mono (Kd.S_far (p := ⟨gb435, 1, none⟩) (Kd.S_far (p := ⟨gb435, 0, none⟩) (Kd.S_types HO441.out BK435.out (by decide)) (fun _ hk => hk.2) (.slice Ao38 t450.length co38)) (fun _ hk => hk.2) (.slice Ao40 t453.length co40)) (fun _ h_ => h_.1))) hb); have n4_ := Aside0.mk (Kd.S_below (by (with_reducible repeat (first | apply Kd.S_alloc | apply Kd.S_drewN | apply Kd.S_drew)); exact (Kd.S_mono (Kd.S_far (p := ⟨gb435, 1, none⟩) (Kd.S_far (p := ⟨gb435, 0, none⟩) (Kd.S_types HO445.out BK435.out (by decide)) (fun _ hk => hk.2) (.slice Ao38 t450.length co38)) (fun _ hk => hk.2) (.slice Ao40 t453.length co40)) (fun _ h_ => h_.1))) hb); have n5_ := Aside0.mk (Kd.S_below (by (with_reducible repeat (first | apply Kd.S_alloc | apply Kd.S_drewN | apply Kd.S_drew)); exact (Kd.S_mono (Kd.S_far (p := ⟨gb435, 1, none⟩) (Kd.S_far (p := ⟨gb435, 0, none⟩) (Kd.S_types HO448.out BK435.out (by decide)) (fun _ hk => hk.2) (.slice Ao38 t450.length co38)) (fun _ hk => hk.2) (.slice Ao40 t453.length co40)) (fun _ h_ => h_.1))) hb); have n6_ := Aside0.mk (Kd.S_below (by (with_reducible repeat (first | apply Kd.S_alloc | apply Kd.S_drewN | apply Kd.S_drew)); exact (Kd.S_mono (Kd.S_far (p := ⟨gb435, 1, none⟩) (Kd.S_far (p := ⟨gb435, 0, none⟩) (Kd.S_types HO452.out BK435.out (by decide)) (fun _ hk => hk.2) (.slice Ao38 t450.length co38)) (fun _ hk => hk.2) (.slice Ao40 t453.length co40)) (fun _ h_ => h_.1))) hb); have n7_ := Aside0.mk (Kd.S_below (by (with_reducible repeat (first | apply Kd.S_alloc | apply Kd.S_drewN | apply Kd.S_drew)); exact (Kd.S_mono (Kd.S_far (p := ⟨gb435, 1, none⟩) (Kd.S_far (p := ⟨gb435, 0, none⟩) (Kd.S_types HO455.out BK435.out (by decide)) (fun _ hk => hk.2) (.slice Ao38 t450.length co38)) (fun _ hk => hk.2) (.slice Ao40 t453.length co40)) (fun _ h_ => h_.1))) hb); have n8_ := Aside0.mk (Kd.R_lower ho42 (below_size (by repeat (first | (with_reducible first | exact HB.out | apply below_alloc | apply pw_below_drewN | apply below_drew1 | refine below_set ?_ GE435.out) | exact HB.out)))); have n9_ := Aside0.mk (blk_below (g := gb435) (o := .cells #[.slice Ao38 t450.length co38, .slice Ao40 t453.length co40] 28 (0, 0)) (by (with_reducible repeat (first | refine blk_drewN ?_ _ | refine blk_drew ?_ | refine blk_alloc ?_ _)); refine blk_put (cs := #[.slice Ao38 t450.length co38, .slice Ao36 t446.length co36]) ?_ 1 _ rfl; (with_reducible repeat (first | refine blk_drewN ?_ _ | refine blk_drew ?_ | refine blk_alloc ?_ _)); refine blk_put (cs := #[.slice Ao34 t443.length co34, .slice Ao36 t446.length co36]) ?_ 0 _ rfl; (with_reducible repeat (first | refine blk_drewN ?_ _ | refine blk_drew ?_ | refine blk_alloc ?_ _)); exact BK435.out) hb); have n10_ := Aside0.mk (below_step (by repeat (first | (with_reducible first | exact HB.out | apply below_alloc | apply pw_below_drewN | apply below_drew1 | refine below_set ?_ GE435.out) | exact HB.out)) hb); clear HO430; clear HO433; clear HO438; clear HO441; clear HO445; clear HO448; clear HO452; clear HO455; clear BK435; clear HB; have HO430 := n0_; have HO433 := n1_; have HO438 := n2_; have HO441 := n3_; have HO445 := n4_; have HO448 := n5_; have HO452 := n6_; have HO455 := n7_; have HO459 := n8_; have BK435 := n9_; have HB := n10_; clear n0_ n1_ n2_ n3_ n4_ n5_ n6_ n7_ n8_ n9_ n10_; clear hb ho42; obtain ⟨Ao43, co43, eo43⟩ := Kd.R_slice HO459.out; subst eo43) | (go_at_call 22; (with_reducible refine (disk_Crash.calls k _ _ t450 _ _ t453 _ _ y457 0 a4 t460 t463 t466 _ ?side1 ?side2 ?side3 ?side4 ?side5 ?side6 A19.out).mono ?_); (case side1 => repeat (first | exact (Kd.S_reads' HO452.out).2.2 | (with_reducible refine Kd.C_alloc ?_ _) | (with_reducible refine Kd.C_drewN ?_ _) | (with_reducible refine Kd.C_drew ?_))); (case side2 => exact (Kd.S_reads' HO452.out).2.1); (case side3 => repeat (first | exact (Kd.S_reads' HO455.out).2.2 | (with_reducible refine Kd.C_alloc ?_ _) | (with_reducible refine Kd.C_drewN ?_ _) | (with_reducible refine Kd.C_drew ?_))); (case side4 => exact (Kd.S_reads' HO455.out).2.1); (case side5 => repeat (first | exact (Kd.R_reads' HO459.out).2.2 | (with_reducible refine Kd.C_alloc ?_ _) | (with_reducible refine Kd.C_drewN ?_ _) | (with_reducible refine Kd.C_drew ?_))); (case side6 => exact (Kd.R_reads' HO459.out).2.1); rintro e w44 ⟨v461, v464, rfl, ho0, ho1, hb⟩; have n0_ := Aside0.mk (Kd.S_elder' (by (with_reducible repeat (first | apply Kd.S_alloc | apply Kd.S_drewN | apply Kd.S_drew)); exact HO430.out) (Kd.S_base ho0) hb); have n1_ := Aside0.mk (Kd.S_elder' (by (with_reducible repeat (first | apply Kd.S_alloc | apply Kd.S_drewN | apply Kd.S_drew)); exact HO433.out) (Kd.S_base ho1) hb); have n2_ := Aside0.mk (Kd.S_elder' (by (with_reducible repeat (first | apply Kd.S_alloc | apply Kd.S_drewN | apply Kd.S_drew)); exact HO438.out) (Kd.S_base ho0) hb); have n3_ := Aside0.mk (Kd.S_elder' (by (with_reducible repeat (first | apply Kd.S_alloc | apply Kd.S_drewN | apply Kd.S_drew)); exact HO441.out) (Kd.S_base ho1) hb); have n4_ := Aside0.mk (Kd.S_elder' (by (with_reducible repeat (first | apply Kd.S_alloc | apply Kd.S_drewN | apply Kd.S_drew)); exact HO445.out) (Kd.S_base ho0) hb); have n5_ := Aside0.mk (Kd.S_elder' (by (with_reducible repeat (first | apply Kd.S_alloc | apply Kd.S_drewN | apply Kd.S_drew)); exact HO448.out) (Kd.S_base ho1) hb); have n6_ := Aside0.mk (Kd.S_elder' (by (with_reducible repeat (first | apply Kd.S_alloc | apply Kd.S_drewN | apply Kd.S_drew)); exact HO452.out) (Kd.S_base ho0) hb); have n7_ := Aside0.mk (Kd.S_elder' (by (with_reducible repeat (first | apply Kd.S_alloc | apply Kd.S_drewN | apply Kd.S_drew)); exact HO455.out) (Kd.S_base ho1) hb); have n8_ := Aside0.mk (Kd.R_below (by (with_reducible repeat (first | apply Kd.R_alloc | apply Kd.R_drewN | apply Kd.R_drew)); exact HO459.out) hb); have n9_ := Aside0.mk (Kd.S_lower (Kd.S_new' (Kd.S_new' (Kd.S_new' (Kd.S_new' ho0 (Kd.S_lt (by (with_reducible repeat (first | apply Kd.S_alloc | apply Kd.S_drewN | apply Kd.S_drew)); exact HO430.out))) (Kd.S_lt (by (with_reducible repeat (first | apply Kd.S_alloc | apply Kd.S_drewN | apply Kd.S_drew)); exact HO438.out))) (Kd.S_lt (by (with_reducible repeat (first | apply Kd.S_alloc | apply Kd.S_drewN | apply Kd.S_drew)); exact HO445.out))) (Kd.S_lt (by (with_reducible repeat (first | apply Kd.S_alloc | apply Kd.S_drewN | apply Kd.S_drew)); exact HO452.out))) (below_size (by repeat (first | (with_reducible first | exact HB.out | apply below_alloc | apply pw_below_drewN | apply below_drew1 | refine below_set ?_ GE435.out) | exact HB.out)))); have n10_ := Aside0.mk (Kd.S_lower (Kd.S_new' (Kd.S_new' (Kd.S_new' (Kd.S_new' ho1 (Kd.S_lt (by (with_reducible repeat (first | apply Kd.S_alloc | apply Kd.S_drewN | apply Kd.S_drew)); exact HO433.out))) (Kd.S_lt (by (with_reducible repeat (first | apply Kd.S_alloc | apply Kd.S_drewN | apply Kd.S_drew)); exact HO441.out))) (Kd.S_lt (by (with_reducible repeat (first | apply Kd.S_alloc | apply Kd.S_drewN | apply Kd.S_drew)); exact HO448.out))) (Kd.S_lt (by (with_reducible repeat (first | apply Kd.S_alloc | apply Kd.S_drewN | apply Kd.S_drew)); exact HO455.out))) (below_size (by repeat (first | (with_reducible first | exact HB.out | apply below_alloc | apply pw_below_drewN | apply below_drew1 | refine below_set ?_ GE435.out) | exact HB.out)))); have n11_ := Aside0.mk (blk_below (g := gb435) (o := .cells #[.slice Ao38 t450.length co38, .slice Ao40 t453.length co40] 28 (0, 0)) (by (with_reducible repeat (first | refine blk_drewN ?_ _ | refine blk_drew ?_ | refine blk_alloc ?_ _)); exact BK435.out) hb); have n12_ := Aside0.mk (below_step (by repeat (first | (with_reducible first | exact HB.out | apply below_alloc | apply pw_below_drewN | apply below_drew1 | refine below_set ?_ GE435.out) | exact HB.out)) hb); clear HO430; clear HO433; clear HO438; clear HO441; clear HO445; clear HO448; clear HO452; clear HO455; clear HO459; clear BK435; clear HB; have HO430 := n0_; have HO433 := n1_; have HO438 := n2_; have HO441 := n3_; have HO445 := n4_; have HO448 := n5_; have HO452 := n6_; have HO455 := n7_; have HO459 := n8_; have HO462 := n9_; have HO465 := n10_; have BK435 := n11_; have HB := n12_; clear n0_ n1_ n2_ n3_ n4_ n5_ n6_ n7_ n8_ n9_ n10_ n11_ n12_; (try clear hb); (try clear hb2); (try clear hk); (try clear hi); (try clear ho0); (try clear ho1)) | ((with_reducible refine gate_dst (N := 16) rfl ?_); (try (refine gate_guard (by rfl) ?_; dsimp only)); refine box_event ?hg (N := 16) ?hd (cs := #[.slice none 0 0, .slice none 0 0]) (t := 28) ?hr ?_; (case hd => rfl); (case hg => rfl); (case hr => first | (go_simp; done) | (go_simp; rfl)); intro gb467 hg w45 hbox hb; have n0_ := Aside0.mk (Kd.S_below (by (with_reducible repeat (first | apply Kd.S_alloc | apply Kd.S_drewN | apply Kd.S_drew)); exact HO430.out) hb); have n1_ := Aside0.mk (Kd.S_below (by (with_reducible repeat (first | apply Kd.S_alloc | apply Kd.S_drewN | apply Kd.S_drew)); exact HO433.out) hb); have n2_ := Aside0.mk (Kd.S_below (by (with_reducible repeat (first | apply Kd.S_alloc | apply Kd.S_drewN | apply Kd.S_drew)); exact HO438.out) hb); have n3_ := Aside0.mk (Kd.S_below (by (with_reducible repeat (first | apply Kd.S_alloc | apply Kd.S_drewN | apply Kd.S_drew)); exact HO441.out) hb); have n4_ := Aside0.mk (Kd.S_below (by (with_reducible repeat (first | apply Kd.S_alloc | apply Kd.S_drewN | apply Kd.S_drew)); exact HO445.out) hb); have n5_ := Aside0.mk (Kd.S_below (by (with_reducible repeat (first | apply Kd.S_alloc | apply Kd.S_drewN | apply Kd.S_drew)); exact HO448.out) hb); have n6_ := Aside0.mk (Kd.S_below (by (with_reducible repeat (first | apply Kd.S_alloc | apply Kd.S_drewN | apply Kd.S_drew)); exact HO452.out) hb); have n7_ := Aside0.mk (Kd.S_below (by (with_reducible repeat (first | apply Kd.S_alloc | apply Kd.S_drewN | apply Kd.S_drew)); exact HO455.out) hb); have n8_ := Aside0.mk (Kd.R_below (by (with_reducible repeat (first | apply Kd.R_alloc | apply Kd.R_drewN | apply Kd.R_drew)); exact HO459.out) hb); have n9_ := Aside0.mk (Kd.S_below (by (with_reducible repeat (first | apply Kd.S_alloc | apply Kd.S_drewN | apply Kd.S_drew)); exact HO462.out) hb); have n10_ := Aside0.mk (Kd.S_below (by (with_reducible repeat (first | apply Kd.S_alloc | apply Kd.S_drewN | apply Kd.S_drew)); exact HO465.out) hb); have n11_ := Aside0.mk (blk_below (g := gb435) (o := .cells #[.slice Ao38 t450.length co38, .slice Ao40 t453.length co40] 28 (0, 0)) (by (with_reducible repeat (first | refine blk_drewN ?_ _ | refine blk_drew ?_ | refine blk_alloc ?_ _)); exact BK435.out) hb); have n12_ := Aside0.mk (below_step (by repeat (first | (with_reducible first | exact HB.out | apply below_alloc | apply pw_below_drewN | apply below_drew1 | refine below_set ?_ GE435.out) | exact HB.out)) hb); have n13_ := Aside0.mk (hbox); have n14_ := Aside0.mk ((by rw [hg]; exact (below_size (by repeat (first | (with_reducible first | exact HB.out | apply below_alloc | apply pw_below_drewN | apply below_drew1 | refine below_set ?_ GE435.out) | exact HB.out))) : w.heap.size ≤ gb467)); have n15_ := Aside0.mk ((by rw [hg]; exact (below_size (by repeat (first | (with_reducible first | exact HB.out | apply below_alloc | apply pw_below_drewN | apply below_drew1 | refine below_set ?_ GE435.out) | exact HB.out))) : w.heap.size ≤ gb467)); have n16_ := Aside0.mk ((by rw [hg]; exact Nat.ne_of_lt (blk_lt (g := gb435) (o := .cells #[.slice Ao38 t450.length co38, .slice Ao40 t453.length co40] 28 (0, 0)) (by (with_reducible repeat (first | refine blk_drewN ?_ _ | refine blk_drew ?_ | refine blk_alloc ?_ _)); exact BK435.out)) : gb435 ≠ gb467)); have n17_ := Aside0.mk ((by rw [hg]; exact Nat.ne_of_gt (blk_lt (g := gb435) (o := .cells #[.slice Ao38 t450.length co38, .slice Ao40 t453.length co40] 28 (0, 0)) (by (with_reducible repeat (first | refine blk_drewN ?_ _ | refine blk_drew ?_ | refine blk_alloc ?_ _)); exact BK435.out)) : gb467 ≠ gb435)); clear HO430; clear HO433; clear HO438; clear HO441; clear HO445; clear HO448; clear HO452; clear HO455; clear HO459; clear HO462; clear HO465; clear BK435; clear HB; have HO430 := n0_; have HO433 := n1_; have HO438 := n2_; have HO441 := n3_; have HO445 := n4_; have HO448 := n5_; have HO452 := n6_; have HO455 := n7_; have HO459 := n8_; have HO462 := n9_; have HO465 := n10_; have BK435 := n11_; have HB := n12_; have BK467 := n13_; have GW467 := n14_; have GE467 := n15_; have NB435_467 := n16_; have NB467_435 := n17_; clear n0_ n1_ n2_ n3_ n4_ n5_ n6_ n7_ n8_ n9_ n10_ n11_ n12_ n13_ n14_ n15_ n16_ n17_; clear hb hbox hg; obtain ⟨Ao46, co46, eo46⟩ := Kd.S_slice HO462.out; subst eo46; have hnb47 := NB467_435.out; have hnc47 := NB435_467.out; have hcz48_0 : w45.cell? ⟨gb467, 0, none⟩ = some (.slice none 0 0) := (blk_cell BK467.out 0).trans rfl; have hcz48_1 : w45.cell? ⟨gb467, 1, none⟩ = some (.slice none 0 0) := (blk_cell BK467.out 1).trans rfl; have hfz48_0 := blk_frozen BK467.out 0; have hfz48_1 := blk_frozen BK467.out 1; obtain ⟨Ao49, co49, eo49⟩ := Kd.S_slice HO465.out; subst eo49))
       repeat (go_quiet (first | (go_at_call 26; (with_reducible refine (transeptlaw04_alive.calls  true _ A6.out).mono ?_); rintro e w21 ⟨rfl, hb⟩; have n0_ := Aside0.mk (below_step (by repeat (first | (with_reducible first | exact HB.out | apply below_alloc | apply pw_below_drewN | apply below_drew1) | exact HB.out)) hb); clear HB; have HB := n0_; clear n0_; (try clear hb); (try clear hb2); (try clear hk); (try clear hi); obtain ⟨i022, hi022, _, hsz22, _⟩ := info_parts info5; obtain ⟨hcut22, hA22, hC22⟩ := print_take_of (P := Try.prog) (Value.int .u8) 0 50 5 .i64 Try.underlying50 hi022 hsz22 A2 c2 l2 (ji9) (of_decide_eq_true (by first | (with_reducible assumption) | assumption)) (of_decide_eq_true (by first | (with_reducible assumption) | assumption)) HC2.out; rw [← NC9.out] at hcut22 hA22 hC22; have HR426 := Aside0.mk (Kd.C_of_reads (h1 := fun _ => rfl) (hA22 _ (Kd.reads_of_C HR2.out))); have HC426 := Aside0.mk hC22; clear hA22 hC22 hi022 hsz22; obtain ⟨i023, hi023, _, hsz23, _⟩ := info_parts info5; obtain ⟨hcut23, hA23, hC23⟩ := print_take_of (P := Try.prog) (Value.int .u8) 0 50 5 .i64 Try.underlying50 hi023 hsz23 A3 c3 l3 (ji12) (of_decide_eq_true (by first | (with_reducible assumption) | assumption)) (of_decide_eq_true (by first | (with_reducible assumption) | assumption)) HC3.out; rw [← NC12.out] at hcut23 hA23 hC23; have HR427 := Aside0.mk (Kd.C_of_reads (h1 := fun _ => rfl) (hA23 _ (Kd.reads_of_C HR3.out))); have HC427 := Aside0.mk hC23; clear hA23 hC23 hi023 hsz23) | (go_at_call 15; (with_reducible refine (disk_New.calls (wrap64 (1 + (Int.tmod (wrap64 ((Int.tmod a0 20) + 20)) 20))) t428 t431 t434 _ A15.out).mono ?_); rintro e w24 ⟨v429, v432, rfl, ho0, ho1, hb⟩; have n0_ := Aside0.mk (Kd.S_lower ho0 (below_size (by repeat (first | (with_reducible first | exact HB.out | apply below_alloc | apply pw_below_drewN | apply below_drew1) | exact HB.out)))); have n1_ := Aside0.mk (Kd.S_lower ho1 (below_size (by repeat (first | (with_reducible first | exact HB.out | apply below_alloc | apply pw_below_drewN | apply below_drew1) | exact HB.out)))); have n2_ := Aside0.mk (below_step (by repeat (first | (with_reducible first | exact HB.out | apply below_alloc | apply pw_below_drewN | apply below_drew1) | exact HB.out)) hb); clear HB; have HO430 := n0_; have HO433 := n1_; have HB := n2_; clear n0_ n1_ n2_; (try clear hb); (try clear hb2); (try clear hk); (try clear hi); (try clear ho0); (try clear ho1)) | ((with_reducible refine gate_dst (N := 11) rfl ?_); (try (refine gate_guard (by rfl) ?_; dsimp only)); refine box_event ?hg (N := 11) ?hd (cs := #[.slice none 0 0, .slice none 0 0]) (t := 28) ?hr ?_; (case hd => rfl); (case hg => rfl); (case hr => first | (go_simp; done) | (go_simp; rfl)); intro gb435 hg w25 hbox hb; have n0_ := Aside0.mk (Kd.S_below (by (with_reducible repeat (first | apply Kd.S_alloc | apply Kd.S_drewN | apply Kd.S_drew)); exact HO430.out) hb); have n1_ := Aside0.mk (Kd.S_below (by (with_reducible repeat (first | apply Kd.S_alloc | apply Kd.S_drewN | apply Kd.S_drew)); exact HO433.out) hb); have n2_ := Aside0.mk (below_step (by repeat (first | (with_reducible first | exact HB.out | apply below_alloc | apply pw_below_drewN | apply below_drew1) | exact HB.out)) hb); have n3_ := Aside0.mk (hbox); have n4_ := Aside0.mk ((by rw [hg]; exact (below_size (by repeat (first | (with_reducible first | exact HB.out | apply below_alloc | apply pw_below_drewN | apply below_drew1) | exact HB.out))) : w.heap.size ≤ gb435)); have n5_ := Aside0.mk ((by rw [hg]; exact (below_size (by repeat (first | (with_reducible first | exact HB.out | apply below_alloc | apply pw_below_drewN | apply below_drew1) | exact HB.out))) : w.heap.size ≤ gb435)); clear HO430; clear HO433; clear HB; have HO430 := n0_; have HO433 := n1_; have HB := n2_; have BK435 := n3_; have GW435 := n4_; have GE435 := n5_; clear n0_ n1_ n2_ n3_ n4_ n5_; clear hb hbox hg; obtain ⟨Ao26, co26, eo26⟩ := Kd.S_slice HO430.out; subst eo26; have hcz27_0 : w25.cell? ⟨gb435, 0, none⟩ = some (.slice none 0 0) := (blk_cell BK435.out 0).trans rfl; have hcz27_1 : w25.cell? ⟨gb435, 1, none⟩ = some (.slice none 0 0) := (blk_cell BK435.out 1).trans rfl; have hfz27_0 := blk_frozen BK435.out 0; have hfz27_1 := blk_frozen BK435.out 1; obtain ⟨Ao28, co28, eo28⟩ := Kd.S_slice HO433.out; subst eo28) | (go_at_call 30; (with_reducible refine (disk_Put.calls k _ _ t428 _ _ t431 (Int.tmod (wrap64 ((Int.tmod a1 (wrap64 (1 + (Int.tmod (wrap64 ((Int.tmod a0 20) + 20)) 20)))) + (wrap64 (1 + (Int.tmod (wrap64 ((Int.tmod a0 20) + 20)) 20))))) (wrap64 (1 + (Int.tmod (wrap64 ((Int.tmod a0 20) + 20)) 20)))) _ _ yc9 t436 t439 t442 _ ?side1 ?side2 ?side3 ?side4 ?side5 ?side6 A16.out).mono ?_); (case side1 => refine (Kd.S_reads' (e := 50) (base := w.heap.size) (ok := fun k_ => True) (n := t428.length) (c := co26) ?_).2.2; exact (by (with_reducible repeat (first | apply Kd.S_alloc | apply Kd.S_drewN | apply Kd.S_drew)); exact (Kd.S_mono (Kd.S_far (p := ⟨gb435, 1, none⟩) (Kd.S_far (p := ⟨gb435, 0, none⟩) (Kd.S_types HO430.out BK435.out (by decide)) (fun _ hk => hk.2) (.slice Ao26 t428.length co26)) (fun _ hk => hk.2) (.slice Ao28 t431.length co28)) (fun _ h_ => h_.1)))); (case side2 => exact (Kd.S_reads' HO430.out).2.1); (case side3 => refine (Kd.S_reads' (e := 61) (base := w.heap.size) (ok := fun k_ => True) (n := t431.length) (c := co28) ?_).2.2; exact (by (with_reducible repeat (first | apply Kd.S_alloc | apply Kd.S_drewN | apply Kd.S_drew)); exact (Kd.S_mono (Kd.S_far (p := ⟨gb435, 1, none⟩) (Kd.S_far (p := ⟨gb435, 0, none⟩) (Kd.S_types HO433.out BK435.out (by decide)) (fun _ hk => hk.2) (.slice Ao26 t428.length co26)) (fun _ hk => hk.2) (.slice Ao28 t431.length co28)) (fun _ h_ => h_.1)))); (case side4 => exact (Kd.S_reads' HO433.out).2.1); (case side5 => exact Kd.C_below HR426.out (by repeat (first | (with_reducible first | exact HB.out | apply below_alloc | apply pw_below_drewN | apply below_drew1 | refine below_set ?_ GE435.out) | exact HB.out))); (case side6 => exact HC426.out); rintro e w29 ⟨v437, v440, rfl, ho0, ho1, hb⟩; have n0_ := Aside0.mk (Kd.S_elder' (by (with_reducible repeat (first | apply Kd.S_alloc | apply Kd.S_drewN | apply Kd.S_drew)); exact (Kd.S_mono (Kd.S_far (p := ⟨gb435, 1, none⟩) (Kd.S_far (p := ⟨gb435, 0, none⟩) (Kd.S_types HO430.out BK435.out (by decide)) (fun _ hk => hk.2) (.slice Ao26 t428.length co26)) (fun _ hk => hk.2) (.slice Ao28 t431.length co28)) (fun _ h_ => h_.1))) (Kd.S_base ho0) hb); have n1_ := Aside0.mk (Kd.S_elder' (by (with_reducible repeat (first | apply Kd.S_alloc | apply Kd.S_drewN | apply Kd.S_drew)); exact (Kd.S_mono (Kd.S_far (p := ⟨gb435, 1, none⟩) (Kd.S_far (p := ⟨gb435, 0, none⟩) (Kd.S_types HO433.out BK435.out (by decide)) (fun _ hk => hk.2) (.slice Ao26 t428.length co26)) (fun _ hk => hk.2) (.slice Ao28 t431.length co28)) (fun _ h_ => h_.1))) (Kd.S_base ho1) hb); have n2_ := Aside0.mk (Kd.S_lower (Kd.S_new' ho0 (Kd.S_lt (by (with_reducible repeat (first | apply Kd.S_alloc | apply Kd.S_drewN | apply Kd.S_drew)); exact (Kd.S_mono (Kd.S_far (p := ⟨gb435, 1, none⟩) (Kd.S_far (p := ⟨gb435, 0, none⟩) (Kd.S_types HO430.out BK435.out (by decide)) (fun _ hk => hk.2) (.slice Ao26 t428.length co26)) (fun _ hk => hk.2) (.slice Ao28 t431.length co28)) (fun _ h_ => h_.1))))) (below_size (by repeat (first | (with_reducible first | exact HB.out | apply below_alloc | apply pw_below_drewN | apply below_drew1 | refine below_set ?_ GE435.out) | exact HB.out)))); have n3_ := Aside0.mk (Kd.S_lower (Kd.S_new' ho1 (Kd.S_lt (by (with_reducible repeat (first | apply Kd.S_alloc | apply Kd.S_drewN | apply Kd.S_drew)); exact (Kd.S_mono (Kd.S_far (p := ⟨gb435, 1, none⟩) (Kd.S_far (p := ⟨gb435, 0, none⟩) (Kd.S_types HO433.out BK435.out (by decide)) (fun _ hk => hk.2) (.slice Ao26 t428.length co26)) (fun _ hk => hk.2) (.slice Ao28 t431.length co28)) (fun _ h_ => h_.1))))) (below_size (by repeat (first | (with_reducible first | exact HB.out | apply below_alloc | apply pw_below_drewN | apply below_drew1 | refine below_set ?_ GE435.out) | exact HB.out)))); have n4_ := Aside0.mk (blk_below (g := gb435) (o := .cells #[.slice Ao26 t428.length co26, .slice Ao28 t431.length co28] 28 (0, 0)) (by (with_reducible repeat (first | refine blk_drewN ?_ _ | refine blk_drew ?_ | refine blk_alloc ?_ _)); refine blk_put (cs := #[.slice Ao26 t428.length co26, .slice none 0 0]) ?_ 1 _ rfl; (with_reducible repeat (first | refine blk_drewN ?_ _ | refine blk_drew ?_ | refine blk_alloc ?_ _)); refine blk_put (cs := #[.slice none 0 0, .slice none 0 0]) ?_ 0 _ rfl; (with_reducible repeat (first | refine blk_drewN ?_ _ | refine blk_drew ?_ | refine blk_alloc ?_ _)); exact BK435.out) hb); have n5_ := Aside0.mk (below_step (by repeat (first | (with_reducible first | exact HB.out | apply below_alloc | apply pw_below_drewN | apply below_drew1 | refine below_set ?_ GE435.out) | exact HB.out)) hb); clear HO430; clear HO433; clear BK435; clear HB; have HO430 := n0_; have HO433 := n1_; have HO438 := n2_; have HO441 := n3_; have BK435 := n4_; have HB := n5_; clear n0_ n1_ n2_ n3_ n4_ n5_; (try clear hb); (try clear hb2); (try clear hk); (try clear hi); (try clear ho0); (try clear ho1); obtain ⟨Ao30, co30, eo30⟩ := Kd.S_slice HO438.out; subst eo30; have hcz31_0 : w29.cell? ⟨gb435, 0, none⟩ = some (.slice Ao26 t428.length co26) := (blk_cell BK435.out 0).trans rfl; have hcz31_1 : w29.cell? ⟨gb435, 1, none⟩ = some (.slice Ao28 t431.length co28) := (blk_cell BK435.out 1).trans rfl; have hfz31_0 := blk_frozen BK435.out 0; have hfz31_1 := blk_frozen BK435.out 1; obtain ⟨Ao32, co32, eo32⟩ := Kd.S_slice HO441.out; subst eo32) | (go_at_call 33; (with_reducible refine (disk_Flush.calls k _ _ t436 _ _ t439 t443 t446 t449 _ ?side1 ?side2 ?side3 ?side4 A17.out).mono ?_); (case side1 => refine (Kd.S_reads' (e := 50) (base := w.heap.size) (ok := fun k_ => (True ∧ some k_ ≠ (.slice Ao26 t428.length co26 : Value).ownBlock)) (n := t436.length) (c := co30) ?_).2.2; exact (by (with_reducible repeat (first | apply Kd.S_alloc | apply Kd.S_drewN | apply Kd.S_drew)); exact (Kd.S_mono (Kd.S_far (p := ⟨gb435, 1, none⟩) (Kd.S_far (p := ⟨gb435, 0, none⟩) (Kd.S_types HO438.out BK435.out (by decide)) (fun _ hk => hk.2) (.slice Ao30 t436.length co30)) (fun _ hk => hk.2) (.slice Ao32 t439.length co32)) (fun _ h_ => h_.1)))); (case side2 => exact (Kd.S_reads' HO438.out).2.1); (case side3 => refine (Kd.S_reads' (e := 61) (base := w.heap.size) (ok := fun k_ => (True ∧ some k_ ≠ (.slice Ao28 t431.length co28 : Value).ownBlock)) (n := t439.length) (c := co32) ?_).2.2; exact (by (with_reducible repeat (first | apply Kd.S_alloc | apply Kd.S_drewN | apply Kd.S_drew)); exact (Kd.S_mono (Kd.S_far (p := ⟨gb435, 1, none⟩) (Kd.S_far (p := ⟨gb435, 0, none⟩) (Kd.S_types HO441.out BK435.out (by decide)) (fun _ hk => hk.2) (.slice Ao30 t436.length co30)) (fun _ hk => hk.2) (.slice Ao32 t439.length co32)) (fun _ h_ => h_.1)))); (case side4 => exact (Kd.S_reads' HO441.out).2.1); rintro e w33 ⟨v444, v447, rfl, ho0, ho1, hb⟩; have n0_ := Aside0.mk (Kd.S_elder' (by (with_reducible repeat (first | apply Kd.S_alloc | apply Kd.S_drewN | apply Kd.S_drew)); exact (Kd.S_mono (Kd.S_far (p := ⟨gb435, 1, none⟩) (Kd.S_far (p := ⟨gb435, 0, none⟩) (Kd.S_types HO430.out BK435.out (by decide)) (fun _ hk => hk.2) (.slice Ao30 t436.length co30)) (fun _ hk => hk.2) (.slice Ao32 t439.length co32)) (fun _ h_ => h_.1))) (Kd.S_base ho0) hb); have n1_ := Aside0.mk (Kd.S_elder' (by (with_reducible repeat (first | apply Kd.S_alloc | apply Kd.S_drewN | apply Kd.S_drew)); exact (Kd.S_mono (Kd.S_far (p := ⟨gb435, 1, none⟩) (Kd.S_far (p := ⟨gb435, 0, none⟩) (Kd.S_types HO433.out BK435.out (by decide)) (fun _ hk => hk.2) (.slice Ao30 t436.length co30)) (fun _ hk => hk.2) (.slice Ao32 t439.length co32)) (fun _ h_ => h_.1))) (Kd.S_base ho1) hb); have n2_ := Aside0.mk (Kd.S_elder' (by (with_reducible repeat (first | apply Kd.S_alloc | apply Kd.S_drewN | apply Kd.S_drew)); exact (Kd.S_mono (Kd.S_far (p := ⟨gb435, 1, none⟩) (Kd.S_far (p := ⟨gb435, 0, none⟩) (Kd.S_types HO438.out BK435.out (by decide)) (fun _ hk => hk.2) (.slice Ao30 t436.length co30)) (fun _ hk => hk.2) (.slice Ao32 t439.length co32)) (fun _ h_ => h_.1))) (Kd.S_base ho0) hb); have n3_ := Aside0.mk (Kd.S_elder' (by (with_reducible repeat (first | apply Kd.S_alloc | apply Kd.S_drewN | apply Kd.S_drew)); exact (Kd.S_mono (Kd.S_far (p := ⟨gb435, 1, none⟩) (Kd.S_far (p := ⟨gb435, 0, none⟩) (Kd.S_types HO441.out BK435.out (by decide)) (fun _ hk => hk.2) (.slice Ao30 t436.length co30)) (fun _ hk => hk.2) (.slice Ao32 t439.length co32)) (fun _ h_ => h_.1))) (Kd.S_base ho1) hb); have n4_ := Aside0.mk (Kd.S_lower (Kd.S_new' (Kd.S_new' ho0 (Kd.S_lt (by (with_reducible repeat (first | apply Kd.S_alloc | apply Kd.S_drewN | apply Kd.S_drew)); exact (Kd.S_mono (Kd.S_far (p := ⟨gb435, 1, none⟩) (Kd.S_far (p := ⟨gb435, 0, none⟩) (Kd.S_types HO430.out BK435.out (by decide)) (fun _ hk => hk.2) (.slice Ao30 t436.length co30)) (fun _ hk => hk.2) (.slice Ao32 t439.length co32)) (fun _ h_ => h_.1))))) (Kd.S_lt (by (with_reducible repeat (first | apply Kd.S_alloc | apply Kd.S_drewN | apply Kd.S_drew)); exact (Kd.S_mono (Kd.S_far (p := ⟨gb435, 1, none⟩) (Kd.S_far (p := ⟨gb435, 0, none⟩) (Kd.S_types HO438.out BK435.out (by decide)) (fun _ hk => hk.2) (.slice Ao30 t436.length co30)) (fun _ hk => hk.2) (.slice Ao32 t439.length co32)) (fun _ h_ => h_.1))))) (below_size (by repeat (first | (with_reducible first | exact HB.out | apply below_alloc | apply pw_below_drewN | apply below_drew1 | refine below_set ?_ GE435.out) | exact HB.out)))); have n5_ := Aside0.mk (Kd.S_lower (Kd.S_new' (Kd.S_new' ho1 (Kd.S_lt (by (with_reducible repeat (first | apply Kd.S_alloc | apply Kd.S_drewN | apply Kd.S_drew)); exact (Kd.S_mono (Kd.S_far (p := ⟨gb435, 1, none⟩) (Kd.S_far (p := ⟨gb435, 0, none⟩) (Kd.S_types HO433.out BK435.out (by decide)) (fun _ hk => hk.2) (.slice Ao30 t436.length co30)) (fun _ hk => hk.2) (.slice Ao32 t439.length co32)) (fun _ h_ => h_.1))))) (Kd.S_lt (by (with_reducible repeat (first | apply Kd.S_alloc | apply Kd.S_drewN | apply Kd.S_drew)); exact (Kd.S_mono (Kd.S_far (p := ⟨gb435, 1, none⟩) (Kd.S_far (p := ⟨gb435, 0, none⟩) (Kd.S_types HO441.out BK435.out (by decide)) (fun _ hk => hk.2) (.slice Ao30 t436.length co30)) (fun _ hk => hk.2) (.slice Ao32 t439.length co32)) (fun _ h_ => h_.1))))) (below_size (by repeat (first | (with_reducible first | exact HB.out | apply below_alloc | apply pw_below_drewN | apply below_drew1 | refine below_set ?_ GE435.out) | exact HB.out)))); have n6_ := Aside0.mk (blk_below (g := gb435) (o := .cells #[.slice Ao30 t436.length co30, .slice Ao32 t439.length co32] 28 (0, 0)) (by (with_reducible repeat (first | refine blk_drewN ?_ _ | refine blk_drew ?_ | refine blk_alloc ?_ _)); refine blk_put (cs := #[.slice Ao30 t436.length co30, .slice Ao28 t431.length co28]) ?_ 1 _ rfl; (with_reducible repeat (first | refine blk_drewN ?_ _ | refine blk_drew ?_ | refine blk_alloc ?_ _)); refine blk_put (cs := #[.slice Ao26 t428.length co26, .slice Ao28 t431.length co28]) ?_ 0 _ rfl; (with_reducible repeat (first | refine blk_drewN ?_ _ | refine blk_drew ?_ | refine blk_alloc ?_ _)); exact BK435.out) hb); have n7_ := Aside0.mk (below_step (by repeat (first | (with_reducible first | exact HB.out | apply below_alloc | apply pw_below_drewN | apply below_drew1 | refine below_set ?_ GE435.out) | exact HB.out)) hb); clear HO430; clear HO433; clear HO438; clear HO441; clear BK435; clear HB; have HO430 := n0_; have HO433 := n1_; have HO438 := n2_; have HO441 := n3_; have HO445 := n4_; have HO448 := n5_; have BK435 := n6_; have HB := n7_; clear n0_ n1_ n2_ n3_ n4_ n5_ n6_ n7_; (try clear hb); (try clear hb2); (try clear hk); (try clear hi); (try clear ho0); (try clear ho1); obtain ⟨Ao34, co34, eo34⟩ := Kd.S_slice HO445.out; subst eo34; have hcz35_0 : w33.cell? ⟨gb435, 0, none⟩ = some (.slice Ao30 t436.length co30) := (blk_cell BK435.out 0).trans rfl; have hcz35_1 : w33.cell? ⟨gb435, 1, none⟩ = some (.slice Ao32 t439.length co32) := (blk_cell BK435.out 1).trans rfl; have hfz35_0 := blk_frozen BK435.out 0; have hfz35_1 := blk_frozen BK435.out 1; obtain ⟨Ao36, co36, eo36⟩ := Kd.S_slice HO448.out; subst eo36) | (go_at_call 30; (with_reducible refine (disk_Put.calls k _ _ t443 _ _ t446 (Int.tmod (wrap64 ((Int.tmod a1 (wrap64 (1 + (Int.tmod (wrap64 ((Int.tmod a0 20) + 20)) 20)))) + (wrap64 (1 + (Int.tmod (wrap64 ((Int.tmod a0 20) + 20)) 20))))) (wrap64 (1 + (Int.tmod (wrap64 ((Int.tmod a0 20) + 20)) 20)))) _ _ yc12 t450 t453 t456 _ ?side1 ?side2 ?side3 ?side4 ?side5 ?side6 A18.out).mono ?_); (case side1 => refine (Kd.S_reads' (e := 50) (base := w.heap.size) (ok := fun k_ => ((True ∧ some k_ ≠ (.slice Ao26 t428.length co26 : Value).ownBlock) ∧ some k_ ≠ (.slice Ao30 t436.length co30 : Value).ownBlock)) (n := t443.length) (c := co34) ?_).2.2; exact (by (with_reducible repeat (first | apply Kd.S_alloc | apply Kd.S_drewN | apply Kd.S_drew)); exact (Kd.S_mono (Kd.S_far (p := ⟨gb435, 1, none⟩) (Kd.S_far (p := ⟨gb435, 0, none⟩) (Kd.S_types HO445.out BK435.out (by decide)) (fun _ hk => hk.2) (.slice Ao34 t443.length co34)) (fun _ hk => hk.2) (.slice Ao36 t446.length co36)) (fun _ h_ => h_.1)))); (case side2 => exact (Kd.S_reads' HO445.out).2.1); (case side3 => refine (Kd.S_reads' (e := 61) (base := w.heap.size) (ok := fun k_ => ((True ∧ some k_ ≠ (.slice Ao28 t431.length co28 : Value).ownBlock) ∧ some k_ ≠ (.slice Ao32 t439.length co32 : Value).ownBlock)) (n := t446.length) (c := co36) ?_).2.2; exact (by (with_reducible repeat (first | apply Kd.S_alloc | apply Kd.S_drewN | apply Kd.S_drew)); exact (Kd.S_mono (Kd.S_far (p := ⟨gb435, 1, none⟩) (Kd.S_far (p := ⟨gb435, 0, none⟩) (Kd.S_types HO448.out BK435.out (by decide)) (fun _ hk => hk.2) (.slice Ao34 t443.length co34)) (fun _ hk => hk.2) (.slice Ao36 t446.length co36)) (fun _ h_ => h_.1)))); (case side4 => exact (Kd.S_reads' HO448.out).2.1); (case side5 => exact Kd.C_below HR427.out (by repeat (first | (with_reducible first | exact HB.out | apply below_alloc | apply pw_below_drewN | apply below_drew1 | refine below_set ?_ GE435.out) | exact HB.out))); (case side6 => exact HC427.out); rintro e w37 ⟨v451, v454, rfl, ho0, ho1, hb⟩; have n0_ := Aside0.mk (Kd.S_elder' (by (with_reducible repeat (first | apply Kd.S_alloc | apply Kd.S_drewN | apply Kd.S_drew)); exact (Kd.S_mono (Kd.S_far (p := ⟨gb435, 1, none⟩) (Kd.S_far (p := ⟨gb435, 0, none⟩) (Kd.S_types HO430.out BK435.out (by decide)) (fun _ hk => hk.2) (.slice Ao34 t443.length co34)) (fun _ hk => hk.2) (.slice Ao36 t446.length co36)) (fun _ h_ => h_.1))) (Kd.S_base ho0) hb); have n1_ := Aside0.mk (Kd.S_elder' (by (with_reducible repeat (first | apply Kd.S_alloc | apply Kd.S_drewN | apply Kd.S_drew)); exact (Kd.S_mono (Kd.S_far (p := ⟨gb435, 1, none⟩) (Kd.S_far (p := ⟨gb435, 0, none⟩) (Kd.S_types HO433.out BK435.out (by decide)) (fun _ hk => hk.2) (.slice Ao34 t443.length co34)) (fun _ hk => hk.2) (.slice Ao36 t446.length co36)) (fun _ h_ => h_.1))) (Kd.S_base ho1) hb); have n2_ := Aside0.mk (Kd.S_elder' (by (with_reducible repeat (first | apply Kd.S_alloc | apply Kd.S_drewN | apply Kd.S_drew)); exact (Kd.S_mono (Kd.S_far (p := ⟨gb435, 1, none⟩) (Kd.S_far (p := ⟨gb435, 0, none⟩) (Kd.S_types HO438.out BK435.out (by decide)) (fun _ hk => hk.2) (.slice Ao34 t443.length co34)) (fun _ hk => hk.2) (.slice Ao36 t446.length co36)) (fun _ h_ => h_.1))) (Kd.S_base ho0) hb); have n3_ := Aside0.mk (Kd.S_elder' (by (with_reducible repeat (first | apply Kd.S_alloc | apply Kd.S_drewN | apply Kd.S_drew)); exact (Kd.S_mono (Kd.S_far (p := ⟨gb435, 1, none⟩) (Kd.S_far (p := ⟨gb435, 0, none⟩) (Kd.S_types HO441.out BK435.out (by decide)) (fun _ hk => hk.2) (.slice Ao34 t443.length co34)) (fun _ hk => hk.2) (.slice Ao36 t446.length co36)) (fun _ h_ => h_.1))) (Kd.S_base ho1) hb); have n4_ := Aside0.mk (Kd.S_elder' (by (with_reducible repeat (first | apply Kd.S_alloc | apply Kd.S_drewN | apply Kd.S_drew)); exact (Kd.S_mono (Kd.S_far (p := ⟨gb435, 1, none⟩) (Kd.S_far (p := ⟨gb435, 0, none⟩) (Kd.S_types HO445.out BK435.out (by decide)) (fun _ hk => hk.2) (.slice Ao34 t443.length co34)) (fun _ hk => hk.2) (.slice Ao36 t446.length co36)) (fun _ h_ => h_.1))) (Kd.S_base ho0) hb); have n5_ := Aside0.mk (Kd.S_elder' (by (with_reducible repeat (first | apply Kd.S_alloc | apply Kd.S_drewN | apply Kd.S_drew)); exact (Kd.S_mono (Kd.S_far (p := ⟨gb435, 1, none⟩) (Kd.S_far (p := ⟨gb435, 0, none⟩) (Kd.S_types HO448.out BK435.out (by decide)) (fun _ hk => hk.2) (.slice Ao34 t443.length co34)) (fun _ hk => hk.2) (.slice Ao36 t446.length co36)) (fun _ h_ => h_.1))) (Kd.S_base ho1) hb); have n6_ := Aside0.mk (Kd.S_lower (Kd.S_new' (Kd.S_new' (Kd.S_new' ho0 (Kd.S_lt (by (with_reducible repeat (first | apply Kd.S_alloc | apply Kd.S_drewN | apply Kd.S_drew)); exact (Kd.S_mono (Kd.S_far (p := ⟨gb435, 1, none⟩) (Kd.S_far (p := ⟨gb435, 0, none⟩) (Kd.S_types HO430.out BK435.out (by decide)) (fun _ hk => hk.2) (.slice Ao34 t443.length co34)) (fun _ hk => hk.2) (.slice Ao36 t446.length co36)) (fun _ h_ => h_.1))))) (Kd.S_lt (by (with_reducible repeat (first | apply Kd.S_alloc | apply Kd.S_drewN | apply Kd.S_drew)); exact (Kd.S_mono (Kd.S_far (p := ⟨gb435, 1, none⟩) (Kd.S_far (p := ⟨gb435, 0, none⟩) (Kd.S_types HO438.out BK435.out (by decide)) (fun _ hk => hk.2) (.slice Ao34 t443.length co34)) (fun _ hk => hk.2) (.slice Ao36 t446.length co36)) (fun _ h_ => h_.1))))) (Kd.S_lt (by (with_reducible repeat (first | apply Kd.S_alloc | apply Kd.S_drewN | apply Kd.S_drew)); exact (Kd.S_mono (Kd.S_far (p := ⟨gb435, 1, none⟩) (Kd.S_far (p := ⟨gb435, 0, none⟩) (Kd.S_types HO445.out BK435.out (by decide)) (fun _ hk => hk.2) (.slice Ao34 t443.length co34)) (fun _ hk => hk.2) (.slice Ao36 t446.length co36)) (fun _ h_ => h_.1))))) (below_size (by repeat (first | (with_reducible first | exact HB.out | apply below_alloc | apply pw_below_drewN | apply below_drew1 | refine below_set ?_ GE435.out) | exact HB.out)))); have n7_ := Aside0.mk (Kd.S_lower (Kd.S_new' (Kd.S_new' (Kd.S_new' ho1 (Kd.S_lt (by (with_reducible repeat (first | apply Kd.S_alloc | apply Kd.S_drewN | apply Kd.S_drew)); exact (Kd.S_mono (Kd.S_far (p := ⟨gb435, 1, none⟩) (Kd.S_far (p := ⟨gb435, 0, none⟩) (Kd.S_types HO433.out BK435.out (by decide)) (fun _ hk => hk.2) (.slice Ao34 t443.length co34)) (fun _ hk => hk.2) (.slice Ao36 t446.length co36)) (fun _ h_ => h_.1))))) (Kd.S_lt (by (with_reducible repeat (first | apply Kd.S_alloc | apply Kd.S_drewN | apply Kd.S_drew)); exact (Kd.S_mono (Kd.S_far (p := ⟨gb435, 1, none⟩) (Kd.S_far (p := ⟨gb435, 0, none⟩) (Kd.S_types HO441.out BK435.out (by decide)) (fun _ hk => hk.2) (.slice Ao34 t443.length co34)) (fun _ hk => hk.2) (.slice Ao36 t446.length co36)) (fun _ h_ => h_.1))))) (Kd.S_lt (by (with_reducible repeat (first | apply Kd.S_alloc | apply Kd.S_drewN | apply Kd.S_drew)); exact (Kd.S_mono (Kd.S_far (p := ⟨gb435, 1, none⟩) (Kd.S_far (p := ⟨gb435, 0, none⟩) (Kd.S_types HO448.out BK435.out (by decide)) (fun _ hk => hk.2) (.slice Ao34 t443.length co34)) (fun _ hk => hk.2) (.slice Ao36 t446.length co36)) (fun _ h_ => h_.1))))) (below_size (by repeat (first | (with_reducible first | exact HB.out | apply below_alloc | apply pw_below_drewN | apply below_drew1 | refine below_set ?_ GE435.out) | exact HB.out)))); have n8_ := Aside0.mk (blk_below (g := gb435) (o := .cells #[.slice Ao34 t443.length co34, .slice Ao36 t446.length co36] 28 (0, 0)) (by (with_reducible repeat (first | refine blk_drewN ?_ _ | refine blk_drew ?_ | refine blk_alloc ?_ _)); refine blk_put (cs := #[.slice Ao34 t443.length co34, .slice Ao32 t439.length co32]) ?_ 1 _ rfl; (with_reducible repeat (first | refine blk_drewN ?_ _ | refine blk_drew ?_ | refine blk_alloc ?_ _)); refine blk_put (cs := #[.slice Ao30 t436.length co30, .slice Ao32 t439.length co32]) ?_ 0 _ rfl; (with_reducible repeat (first | refine blk_drewN ?_ _ | refine blk_drew ?_ | refine blk_alloc ?_ _)); exact BK435.out) hb); have n9_ := Aside0.mk (below_step (by repeat (first | (with_reducible first | exact HB.out | apply below_alloc | apply pw_below_drewN | apply below_drew1 | refine below_set ?_ GE435.out) | exact HB.out)) hb); clear HO430; clear HO433; clear HO438; clear HO441; clear HO445; clear HO448; clear BK435; clear HB; have HO430 := n0_; have HO433 := n1_; have HO438 := n2_; have HO441 := n3_; have HO445 := n4_; have HO448 := n5_; have HO452 := n6_; have HO455 := n7_; have BK435 := n8_; have HB := n9_; clear n0_ n1_ n2_ n3_ n4_ n5_ n6_ n7_ n8_ n9_; (try clear hb); (try clear hb2); (try clear hk); (try clear hi); (try clear ho0); (try clear ho1); obtain ⟨Ao38, co38, eo38⟩ := Kd.S_slice HO452.out; subst eo38; have hcz39_0 : w37.cell? ⟨gb435, 0, none⟩ = some (.slice Ao34 t443.length co34) := (blk_cell BK435.out 0).trans rfl; have hcz39_1 : w37.cell? ⟨gb435, 1, none⟩ = some (.slice Ao36 t446.length co36) := (blk_cell BK435.out 1).trans rfl; have hfz39_0 := blk_frozen BK435.out 0; have hfz39_1 := blk_frozen BK435.out 1; obtain ⟨Ao40, co40, eo40⟩ := Kd.S_slice HO455.out; subst eo40) | ((with_reducible refine gate_dst (N := 72) rfl ?_); (try (refine gate_guard (by rfl) ?_; dsimp only)); refine Kd.R_lit Kd.bool _ 4 ?hg (N := 72) ?hd (xs := ([true] : List Bool)) (inner := [.bool true]) (ok := fun _ => True) (okp := fun _ => True) ?hr ?hp (fun _ hk => hk) trivial (Below.refl _ _) (Nat.le_refl _) (by simp) ?_; (case hd => rfl); (case hg => rfl); (case hr => first | (go_simp; done) | (go_simp; rfl)); (case hp => exact (Reps.one (show Kd.M Kd.bool _ _ _ true [.bool true] from rfl) (Reps.none _ _))); intro v458 w41 ho42 hb hg_ hnew_; clear hg_ hnew_; (first | rw [← Ny457.out] at ho42 | (simp only [Int.reduceToNat] at ho42; rw [← Ny457.out] at ho42)); have n0_ := Aside0.mk (Kd.S_below (by (with_reducible repeat (first | apply Kd.S_alloc | apply Kd.S_drewN | apply Kd.S_drew)); exact (Kd.S_mono (Kd.S_far (p := ⟨gb435, 1, none⟩) (Kd.S_far (p := ⟨gb435, 0, none⟩) (Kd.S_types HO430.out BK435.out (by decide)) (fun _ hk => hk.2) (.slice Ao38 t450.length co38)) (fun _ hk => hk.2) (.slice Ao40 t453.length co40)) (fun _ h_ => h_.1))) hb); have n1_ := Aside0.mk (Kd.S_below (by (with_reducible repeat (first | apply Kd.S_alloc | apply Kd.S_drewN | apply Kd.S_drew)); exact (Kd.S_mono (Kd.S_far (p := ⟨gb435, 1, none⟩) (Kd.S_far (p := ⟨gb435, 0, none⟩) (Kd.S_types HO433.out BK435.out (by decide)) (fun _ hk => hk.2) (.slice Ao38 t450.length co38)) (fun _ hk => hk.2) (.slice Ao40 t453.length co40)) (fun _ h_ => h_.1))) hb); have n2_ := Aside0.mk (Kd.S_below (by (with_reducible repeat (first | apply Kd.S_alloc | apply Kd.S_drewN | apply Kd.S_drew)); exact (Kd.S_mono (Kd.S_far (p := ⟨gb435, 1, none⟩) (Kd.S_far (p := ⟨gb435, 0, none⟩) (Kd.S_types HO438.out BK435.out (by decide)) (fun _ hk => hk.2) (.slice Ao38 t450.length co38)) (fun _ hk => hk.2) (.slice Ao40 t453.length co40)) (fun _ h_ => h_.1))) hb); have n3_ := Aside0.mk (Kd.S_below (by (with_reducible repeat (first | apply Kd.S_alloc | apply Kd.S_drewN | apply Kd.S_drew)); exact (Kd.S_mono (Kd.S_far (p := ⟨gb435, 1, none⟩) (Kd.S_far (p := ⟨gb435, 0, none⟩) (Kd.S_types HO441.out BK435.out (by decide)) (fun _ hk => hk.2) (.slice Ao38 t450.length co38)) (fun _ hk => hk.2) (.slice Ao40 t453.length co40)) (fun _ h_ => h_.1))) hb); have n4_ := Aside0.mk (Kd.S_below (by (with_reducible repeat (first | apply Kd.S_alloc | apply Kd.S_drewN | apply Kd.S_drew)); exact (Kd.S_mono (Kd.S_far (p := ⟨gb435, 1, none⟩) (Kd.S_far (p := ⟨gb435, 0, none⟩) (Kd.S_types HO445.out BK435.out (by decide)) (fun _ hk => hk.2) (.slice Ao38 t450.length co38)) (fun _ hk => hk.2) (.slice Ao40 t453.length co40)) (fun _ h_ => h_.1))) hb); have n5_ := Aside0.mk (Kd.S_below (by (with_reducible repeat (first | apply Kd.S_alloc | apply Kd.S_drewN | apply Kd.S_drew)); exact (Kd.S_mono (Kd.S_far (p := ⟨gb435, 1, none⟩) (Kd.S_far (p := ⟨gb435, 0, none⟩) (Kd.S_types HO448.out BK435.out (by decide)) (fun _ hk => hk.2) (.slice Ao38 t450.length co38)) (fun _ hk => hk.2) (.slice Ao40 t453.length co40)) (fun _ h_ => h_.1))) hb); have n6_ := Aside0.mk (Kd.S_below (by (with_reducible repeat (first | apply Kd.S_alloc | apply Kd.S_drewN | apply Kd.S_drew)); exact (Kd.S_mono (Kd.S_far (p := ⟨gb435, 1, none⟩) (Kd.S_far (p := ⟨gb435, 0, none⟩) (Kd.S_types HO452.out BK435.out (by decide)) (fun _ hk => hk.2) (.slice Ao38 t450.length co38)) (fun _ hk => hk.2) (.slice Ao40 t453.length co40)) (fun _ h_ => h_.1))) hb); have n7_ := Aside0.mk (Kd.S_below (by (with_reducible repeat (first | apply Kd.S_alloc | apply Kd.S_drewN | apply Kd.S_drew)); exact (Kd.S_mono (Kd.S_far (p := ⟨gb435, 1, none⟩) (Kd.S_far (p := ⟨gb435, 0, none⟩) (Kd.S_types HO455.out BK435.out (by decide)) (fun _ hk => hk.2) (.slice Ao38 t450.length co38)) (fun _ hk => hk.2) (.slice Ao40 t453.length co40)) (fun _ h_ => h_.1))) hb); have n8_ := Aside0.mk (Kd.R_lower ho42 (below_size (by repeat (first | (with_reducible first | exact HB.out | apply below_alloc | apply pw_below_drewN | apply below_drew1 | refine below_set ?_ GE435.out) | exact HB.out)))); have n9_ := Aside0.mk (blk_below (g := gb435) (o := .cells #[.slice Ao38 t450.length co38, .slice Ao40 t453.length co40] 28 (0, 0)) (by (with_reducible repeat (first | refine blk_drewN ?_ _ | refine blk_drew ?_ | refine blk_alloc ?_ _)); refine blk_put (cs := #[.slice Ao38 t450.length co38, .slice Ao36 t446.length co36]) ?_ 1 _ rfl; (with_reducible repeat (first | refine blk_drewN ?_ _ | refine blk_drew ?_ | refine blk_alloc ?_ _)); refine blk_put (cs := #[.slice Ao34 t443.length co34, .slice Ao36 t446.length co36]) ?_ 0 _ rfl; (with_reducible repeat (first | refine blk_drewN ?_ _ | refine blk_drew ?_ | refine blk_alloc ?_ _)); exact BK435.out) hb); have n10_ := Aside0.mk (below_step (by repeat (first | (with_reducible first | exact HB.out | apply below_alloc | apply pw_below_drewN | apply below_drew1 | refine below_set ?_ GE435.out) | exact HB.out)) hb); clear HO430; clear HO433; clear HO438; clear HO441; clear HO445; clear HO448; clear HO452; clear HO455; clear BK435; clear HB; have HO430 := n0_; have HO433 := n1_; have HO438 := n2_; have HO441 := n3_; have HO445 := n4_; have HO448 := n5_; have HO452 := n6_; have HO455 := n7_; have HO459 := n8_; have BK435 := n9_; have HB := n10_; clear n0_ n1_ n2_ n3_ n4_ n5_ n6_ n7_ n8_ n9_ n10_; clear hb ho42; obtain ⟨Ao43, co43, eo43⟩ := Kd.R_slice HO459.out; subst eo43) | (go_at_call 22; (with_reducible refine (disk_Crash.calls k _ _ t450 _ _ t453 _ _ y457 0 a4 t460 t463 t466 _ ?side1 ?side2 ?side3 ?side4 ?side5 ?side6 A19.out).mono ?_); (case side1 => repeat (first | exact (Kd.S_reads' HO452.out).2.2 | (with_reducible refine Kd.C_alloc ?_ _) | (with_reducible refine Kd.C_drewN ?_ _) | (with_reducible refine Kd.C_drew ?_))); (case side2 => exact (Kd.S_reads' HO452.out).2.1); (case side3 => repeat (first | exact (Kd.S_reads' HO455.out).2.2 | (with_reducible refine Kd.C_alloc ?_ _) | (with_reducible refine Kd.C_drewN ?_ _) | (with_reducible refine Kd.C_drew ?_))); (case side4 => exact (Kd.S_reads' HO455.out).2.1); (case side5 => repeat (first | exact (Kd.R_reads' HO459.out).2.2 | (with_reducible refine Kd.C_alloc ?_ _) | (with_reducible refine Kd.C_drewN ?_ _) | (with_reducible refine Kd.C_drew ?_))); (case side6 => exact (Kd.R_reads' HO459.out).2.1); rintro e w44 ⟨v461, v464, rfl, ho0, ho1, hb⟩; have n0_ := Aside0.mk (Kd.S_elder' (by (with_reducible repeat (first | apply Kd.S_alloc | apply Kd.S_drewN | apply Kd.S_drew)); exact HO430.out) (Kd.S_base ho0) hb); have n1_ := Aside0.mk (Kd.S_elder' (by (with_reducible repeat (first | apply Kd.S_alloc | apply Kd.S_drewN | apply Kd.S_drew)); exact HO433.out) (Kd.S_base ho1) hb); have n2_ := Aside0.mk (Kd.S_elder' (by (with_reducible repeat (first | apply Kd.S_alloc | apply Kd.S_drewN | apply Kd.S_drew)); exact HO438.out) (Kd.S_base ho0) hb); have n3_ := Aside0.mk (Kd.S_elder' (by (with_reducible repeat (first | apply Kd.S_alloc | apply Kd.S_drewN | apply Kd.S_drew)); exact HO441.out) (Kd.S_base ho1) hb); have n4_ := Aside0.mk (Kd.S_elder' (by (with_reducible repeat (first | apply Kd.S_alloc | apply Kd.S_drewN | apply Kd.S_drew)); exact HO445.out) (Kd.S_base ho0) hb); have n5_ := Aside0.mk (Kd.S_elder' (by (with_reducible repeat (first | apply Kd.S_alloc | apply Kd.S_drewN | apply Kd.S_drew)); exact HO448.out) (Kd.S_base ho1) hb); have n6_ := Aside0.mk (Kd.S_elder' (by (with_reducible repeat (first | apply Kd.S_alloc | apply Kd.S_drewN | apply Kd.S_drew)); exact HO452.out) (Kd.S_base ho0) hb); have n7_ := Aside0.mk (Kd.S_elder' (by (with_reducible repeat (first | apply Kd.S_alloc | apply Kd.S_drewN | apply Kd.S_drew)); exact HO455.out) (Kd.S_base ho1) hb); have n8_ := Aside0.mk (Kd.R_below (by (with_reducible repeat (first | apply Kd.R_alloc | apply Kd.R_drewN | apply Kd.R_drew)); exact HO459.out) hb); have n9_ := Aside0.mk (Kd.S_lower (Kd.S_new' (Kd.S_new' (Kd.S_new' (Kd.S_new' ho0 (Kd.S_lt (by (with_reducible repeat (first | apply Kd.S_alloc | apply Kd.S_drewN | apply Kd.S_drew)); exact HO430.out))) (Kd.S_lt (by (with_reducible repeat (first | apply Kd.S_alloc | apply Kd.S_drewN | apply Kd.S_drew)); exact HO438.out))) (Kd.S_lt (by (with_reducible repeat (first | apply Kd.S_alloc | apply Kd.S_drewN | apply Kd.S_drew)); exact HO445.out))) (Kd.S_lt (by (with_reducible repeat (first | apply Kd.S_alloc | apply Kd.S_drewN | apply Kd.S_drew)); exact HO452.out))) (below_size (by repeat (first | (with_reducible first | exact HB.out | apply below_alloc | apply pw_below_drewN | apply below_drew1 | refine below_set ?_ GE435.out) | exact HB.out)))); have n10_ := Aside0.mk (Kd.S_lower (Kd.S_new' (Kd.S_new' (Kd.S_new' (Kd.S_new' ho1 (Kd.S_lt (by (with_reducible repeat (first | apply Kd.S_alloc | apply Kd.S_drewN | apply Kd.S_drew)); exact HO433.out))) (Kd.S_lt (by (with_reducible repeat (first | apply Kd.S_alloc | apply Kd.S_drewN | apply Kd.S_drew)); exact HO441.out))) (Kd.S_lt (by (with_reducible repeat (first | apply Kd.S_alloc | apply Kd.S_drewN | apply Kd.S_drew)); exact HO448.out))) (Kd.S_lt (by (with_reducible repeat (first | apply Kd.S_alloc | apply Kd.S_drewN | apply Kd.S_drew)); exact HO455.out))) (below_size (by repeat (first | (with_reducible first | exact HB.out | apply below_alloc | apply pw_below_drewN | apply below_drew1 | refine below_set ?_ GE435.out) | exact HB.out)))); have n11_ := Aside0.mk (blk_below (g := gb435) (o := .cells #[.slice Ao38 t450.length co38, .slice Ao40 t453.length co40] 28 (0, 0)) (by (with_reducible repeat (first | refine blk_drewN ?_ _ | refine blk_drew ?_ | refine blk_alloc ?_ _)); exact BK435.out) hb); have n12_ := Aside0.mk (below_step (by repeat (first | (with_reducible first | exact HB.out | apply below_alloc | apply pw_below_drewN | apply below_drew1 | refine below_set ?_ GE435.out) | exact HB.out)) hb); clear HO430; clear HO433; clear HO438; clear HO441; clear HO445; clear HO448; clear HO452; clear HO455; clear HO459; clear BK435; clear HB; have HO430 := n0_; have HO433 := n1_; have HO438 := n2_; have HO441 := n3_; have HO445 := n4_; have HO448 := n5_; have HO452 := n6_; have HO455 := n7_; have HO459 := n8_; have HO462 := n9_; have HO465 := n10_; have BK435 := n11_; have HB := n12_; clear n0_ n1_ n2_ n3_ n4_ n5_ n6_ n7_ n8_ n9_ n10_ n11_ n12_; (try clear hb); (try clear hb2); (try clear hk); (try clear hi); (try clear ho0); (try clear ho1)) | ((with_reducible refine gate_dst (N := 16) rfl ?_); (try (refine gate_guard (by rfl) ?_; dsimp only)); refine box_event ?hg (N := 16) ?hd (cs := #[.slice none 0 0, .slice none 0 0]) (t := 28) ?hr ?_; (case hd => rfl); (case hg => rfl); (case hr => first | (go_simp; done) | (go_simp; rfl)); intro gb467 hg w45 hbox hb; have n0_ := Aside0.mk (Kd.S_below (by (with_reducible repeat (first | apply Kd.S_alloc | apply Kd.S_drewN | apply Kd.S_drew)); exact HO430.out) hb); have n1_ := Aside0.mk (Kd.S_below (by (with_reducible repeat (first | apply Kd.S_alloc | apply Kd.S_drewN | apply Kd.S_drew)); exact HO433.out) hb); have n2_ := Aside0.mk (Kd.S_below (by (with_reducible repeat (first | apply Kd.S_alloc | apply Kd.S_drewN | apply Kd.S_drew)); exact HO438.out) hb); have n3_ := Aside0.mk (Kd.S_below (by (with_reducible repeat (first | apply Kd.S_alloc | apply Kd.S_drewN | apply Kd.S_drew)); exact HO441.out) hb); have n4_ := Aside0.mk (Kd.S_below (by (with_reducible repeat (first | apply Kd.S_alloc | apply Kd.S_drewN | apply Kd.S_drew)); exact HO445.out) hb); have n5_ := Aside0.mk (Kd.S_below (by (with_reducible repeat (first | apply Kd.S_alloc | apply Kd.S_drewN | apply Kd.S_drew)); exact HO448.out) hb); have n6_ := Aside0.mk (Kd.S_below (by (with_reducible repeat (first | apply Kd.S_alloc | apply Kd.S_drewN | apply Kd.S_drew)); exact HO452.out) hb); have n7_ := Aside0.mk (Kd.S_below (by (with_reducible repeat (first | apply Kd.S_alloc | apply Kd.S_drewN | apply Kd.S_drew)); exact HO455.out) hb); have n8_ := Aside0.mk (Kd.R_below (by (with_reducible repeat (first | apply Kd.R_alloc | apply Kd.R_drewN | apply Kd.R_drew)); exact HO459.out) hb); have n9_ := Aside0.mk (Kd.S_below (by (with_reducible repeat (first | apply Kd.S_alloc | apply Kd.S_drewN | apply Kd.S_drew)); exact HO462.out) hb); have n10_ := Aside0.mk (Kd.S_below (by (with_reducible repeat (first | apply Kd.S_alloc | apply Kd.S_drewN | apply Kd.S_drew)); exact HO465.out) hb); have n11_ := Aside0.mk (blk_below (g := gb435) (o := .cells #[.slice Ao38 t450.length co38, .slice Ao40 t453.length co40] 28 (0, 0)) (by (with_reducible repeat (first | refine blk_drewN ?_ _ | refine blk_drew ?_ | refine blk_alloc ?_ _)); exact BK435.out) hb); have n12_ := Aside0.mk (below_step (by repeat (first | (with_reducible first | exact HB.out | apply below_alloc | apply pw_below_drewN | apply below_drew1 | refine below_set ?_ GE435.out) | exact HB.out)) hb); have n13_ := Aside0.mk (hbox); have n14_ := Aside0.mk ((by rw [hg]; exact (below_size (by repeat (first | (with_reducible first | exact HB.out | apply below_alloc | apply pw_below_drewN | apply below_drew1 | refine below_set ?_ GE435.out) | exact HB.out))) : w.heap.size ≤ gb467)); have n15_ := Aside0.mk ((by rw [hg]; exact (below_size (by repeat (first | (with_reducible first | exact HB.out | apply below_alloc | apply pw_below_drewN | apply below_drew1 | refine below_set ?_ GE435.out) | exact HB.out))) : w.heap.size ≤ gb467)); have n16_ := Aside0.mk ((by rw [hg]; exact Nat.ne_of_lt (blk_lt (g := gb435) (o := .cells #[.slice Ao38 t450.length co38, .slice Ao40 t453.length co40] 28 (0, 0)) (by (with_reducible repeat (first | refine blk_drewN ?_ _ | refine blk_drew ?_ | refine blk_alloc ?_ _)); exact BK435.out)) : gb435 ≠ gb467)); have n17_ := Aside0.mk ((by rw [hg]; exact Nat.ne_of_gt (blk_lt (g := gb435) (o := .cells #[.slice Ao38 t450.length co38, .slice Ao40 t453.length co40] 28 (0, 0)) (by (with_reducible repeat (first | refine blk_drewN ?_ _ | refine blk_drew ?_ | refine blk_alloc ?_ _)); exact BK435.out)) : gb467 ≠ gb435)); clear HO430; clear HO433; clear HO438; clear HO441; clear HO445; clear HO448; clear HO452; clear HO455; clear HO459; clear HO462; clear HO465; clear BK435; clear HB; have HO430 := n0_; have HO433 := n1_; have HO438 := n2_; have HO441 := n3_; have HO445 := n4_; have HO448 := n5_; have HO452 := n6_; have HO455 := n7_; have HO459 := n8_; have HO462 := n9_; have HO465 := n10_; have BK435 := n11_; have HB := n12_; have BK467 := n13_; have GW467 := n14_; have GE467 := n15_; have NB435_467 := n16_; have NB467_435 := n17_; clear n0_ n1_ n2_ n3_ n4_ n5_ n6_ n7_ n8_ n9_ n10_ n11_ n12_ n13_ n14_ n15_ n16_ n17_; clear hb hbox hg; obtain ⟨Ao46, co46, eo46⟩ := Kd.S_slice HO462.out; subst eo46; have hnb47 := NB467_435.out; have hnc47 := NB435_467.out; have hcz48_0 : w45.cell? ⟨gb467, 0, none⟩ = some (.slice none 0 0) := (blk_cell BK467.out 0).trans rfl; have hcz48_1 : w45.cell? ⟨gb467, 1, none⟩ = some (.slice none 0 0) := (blk_cell BK467.out 1).trans rfl; have hfz48_0 := blk_frozen BK467.out 0; have hfz48_1 := blk_frozen BK467.out 1; obtain ⟨Ao49, co49, eo49⟩ := Kd.S_slice HO465.out; subst eo49)); go_upto_region 11 with (first | (go_at_call 26; (with_reducible refine (transeptlaw04_alive.calls  true _ A6.out).mono ?_); rintro e w21 ⟨rfl, hb⟩; have n0_ := Aside0.mk (below_step (by repeat (first | (with_reducible first | exact HB.out | apply below_alloc | apply pw_below_drewN | apply below_drew1) | exact HB.out)) hb); clear HB; have HB := n0_; clear n0_; (try clear hb); (try clear hb2); (try clear hk); (try clear hi); obtain ⟨i022, hi022, _, hsz22, _⟩ := info_parts info5; obtain ⟨hcut22, hA22, hC22⟩ := print_take_of (P := Try.prog) (Value.int .u8) 0 50 5 .i64 Try.underlying50 hi022 hsz22 A2 c2 l2 (ji9) (of_decide_eq_true (by first | (with_reducible assumption) | assumption)) (of_decide_eq_true (by first | (with_reducible assumption) | assumption)) HC2.out; rw [← NC9.out] at hcut22 hA22 hC22; have HR426 := Aside0.mk (Kd.C_of_reads (h1 := fun _ => rfl) (hA22 _ (Kd.reads_of_C HR2.out))); have HC426 := Aside0.mk hC22; clear hA22 hC22 hi022 hsz22; obtain ⟨i023, hi023, _, hsz23, _⟩ := info_parts info5; obtain ⟨hcut23, hA23, hC23⟩ := print_take_of (P := Try.prog) (Value.int .u8) 0 50 5 .i64 Try.underlying50 hi023 hsz23 A3 c3 l3 (ji12) (of_decide_eq_true (by first | (with_reducible assumption) | assumption)) (of_decide_eq_true (by first | (with_reducible assumption) | assumption)) HC3.out; rw [← NC12.out] at hcut23 hA23 hC23; have HR427 := Aside0.mk (Kd.C_of_reads (h1 := fun _ => rfl) (hA23 _ (Kd.reads_of_C HR3.out))); have HC427 := Aside0.mk hC23; clear hA23 hC23 hi023 hsz23) | (go_at_call 15; (with_reducible refine (disk_New.calls (wrap64 (1 + (Int.tmod (wrap64 ((Int.tmod a0 20) + 20)) 20))) t428 t431 t434 _ A15.out).mono ?_); rintro e w24 ⟨v429, v432, rfl, ho0, ho1, hb⟩; have n0_ := Aside0.mk (Kd.S_lower ho0 (below_size (by repeat (first | (with_reducible first | exact HB.out | apply below_alloc | apply pw_below_drewN | apply below_drew1) | exact HB.out)))); have n1_ := Aside0.mk (Kd.S_lower ho1 (below_size (by repeat (first | (with_reducible first | exact HB.out | apply below_alloc | apply pw_below_drewN | apply below_drew1) | exact HB.out)))); have n2_ := Aside0.mk (below_step (by repeat (first | (with_reducible first | exact HB.out | apply below_alloc | apply pw_below_drewN | apply below_drew1) | exact HB.out)) hb); clear HB; have HO430 := n0_; have HO433 := n1_; have HB := n2_; clear n0_ n1_ n2_; (try clear hb); (try clear hb2); (try clear hk); (try clear hi); (try clear ho0); (try clear ho1)) | ((with_reducible refine gate_dst (N := 11) rfl ?_); (try (refine gate_guard (by rfl) ?_; dsimp only)); refine box_event ?hg (N := 11) ?hd (cs := #[.slice none 0 0, .slice none 0 0]) (t := 28) ?hr ?_; (case hd => rfl); (case hg => rfl); (case hr => first | (go_simp; done) | (go_simp; rfl)); intro gb435 hg w25 hbox hb; have n0_ := Aside0.mk (Kd.S_below (by (with_reducible repeat (first | apply Kd.S_alloc | apply Kd.S_drewN | apply Kd.S_drew)); exact HO430.out) hb); have n1_ := Aside0.mk (Kd.S_below (by (with_reducible repeat (first | apply Kd.S_alloc | apply Kd.S_drewN | apply Kd.S_drew)); exact HO433.out) hb); have n2_ := Aside0.mk (below_step (by repeat (first | (with_reducible first | exact HB.out | apply below_alloc | apply pw_below_drewN | apply below_drew1) | exact HB.out)) hb); have n3_ := Aside0.mk (hbox); have n4_ := Aside0.mk ((by rw [hg]; exact (below_size (by repeat (first | (with_reducible first | exact HB.out | apply below_alloc | apply pw_below_drewN | apply below_drew1) | exact HB.out))) : w.heap.size ≤ gb435)); have n5_ := Aside0.mk ((by rw [hg]; exact (below_size (by repeat (first | (with_reducible first | exact HB.out | apply below_alloc | apply pw_below_drewN | apply below_drew1) | exact HB.out))) : w.heap.size ≤ gb435)); clear HO430; clear HO433; clear HB; have HO430 := n0_; have HO433 := n1_; have HB := n2_; have BK435 := n3_; have GW435 := n4_; have GE435 := n5_; clear n0_ n1_ n2_ n3_ n4_ n5_; clear hb hbox hg; obtain ⟨Ao26, co26, eo26⟩ := Kd.S_slice HO430.out; subst eo26; have hcz27_0 : w25.cell? ⟨gb435, 0, none⟩ = some (.slice none 0 0) := (blk_cell BK435.out 0).trans rfl; have hcz27_1 : w25.cell? ⟨gb435, 1, none⟩ = some (.slice none 0 0) := (blk_cell BK435.out 1).trans rfl; have hfz27_0 := blk_frozen BK435.out 0; have hfz27_1 := blk_frozen BK435.out 1; obtain ⟨Ao28, co28, eo28⟩ := Kd.S_slice HO433.out; subst eo28) | (go_at_call 30; (with_reducible refine (disk_Put.calls k _ _ t428 _ _ t431 (Int.tmod (wrap64 ((Int.tmod a1 (wrap64 (1 + (Int.tmod (wrap64 ((Int.tmod a0 20) + 20)) 20)))) + (wrap64 (1 + (Int.tmod (wrap64 ((Int.tmod a0 20) + 20)) 20))))) (wrap64 (1 + (Int.tmod (wrap64 ((Int.tmod a0 20) + 20)) 20)))) _ _ yc9 t436 t439 t442 _ ?side1 ?side2 ?side3 ?side4 ?side5 ?side6 A16.out).mono ?_); (case side1 => refine (Kd.S_reads' (e := 50) (base := w.heap.size) (ok := fun k_ => True) (n := t428.length) (c := co26) ?_).2.2; exact (by (with_reducible repeat (first | apply Kd.S_alloc | apply Kd.S_drewN | apply Kd.S_drew)); exact (Kd.S_mono (Kd.S_far (p := ⟨gb435, 1, none⟩) (Kd.S_far (p := ⟨gb435, 0, none⟩) (Kd.S_types HO430.out BK435.out (by decide)) (fun _ hk => hk.2) (.slice Ao26 t428.length co26)) (fun _ hk => hk.2) (.slice Ao28 t431.length co28)) (fun _ h_ => h_.1)))); (case side2 => exact (Kd.S_reads' HO430.out).2.1); (case side3 => refine (Kd.S_reads' (e := 61) (base := w.heap.size) (ok := fun k_ => True) (n := t431.length) (c := co28) ?_).2.2; exact (by (with_reducible repeat (first | apply Kd.S_alloc | apply Kd.S_drewN | apply Kd.S_drew)); exact (Kd.S_mono (Kd.S_far (p := ⟨gb435, 1, none⟩) (Kd.S_far (p := ⟨gb435, 0, none⟩) (Kd.S_types HO433.out BK435.out (by decide)) (fun _ hk => hk.2) (.slice Ao26 t428.length co26)) (fun _ hk => hk.2) (.slice Ao28 t431.length co28)) (fun _ h_ => h_.1)))); (case side4 => exact (Kd.S_reads' HO433.out).2.1); (case side5 => exact Kd.C_below HR426.out (by repeat (first | (with_reducible first | exact HB.out | apply below_alloc | apply pw_below_drewN | apply below_drew1 | refine below_set ?_ GE435.out) | exact HB.out))); (case side6 => exact HC426.out); rintro e w29 ⟨v437, v440, rfl, ho0, ho1, hb⟩; have n0_ := Aside0.mk (Kd.S_elder' (by (with_reducible repeat (first | apply Kd.S_alloc | apply Kd.S_drewN | apply Kd.S_drew)); exact (Kd.S_mono (Kd.S_far (p := ⟨gb435, 1, none⟩) (Kd.S_far (p := ⟨gb435, 0, none⟩) (Kd.S_types HO430.out BK435.out (by decide)) (fun _ hk => hk.2) (.slice Ao26 t428.length co26)) (fun _ hk => hk.2) (.slice Ao28 t431.length co28)) (fun _ h_ => h_.1))) (Kd.S_base ho0) hb); have n1_ := Aside0.mk (Kd.S_elder' (by (with_reducible repeat (first | apply Kd.S_alloc | apply Kd.S_drewN | apply Kd.S_drew)); exact (Kd.S_mono (Kd.S_far (p := ⟨gb435, 1, none⟩) (Kd.S_far (p := ⟨gb435, 0, none⟩) (Kd.S_types HO433.out BK435.out (by decide)) (fun _ hk => hk.2) (.slice Ao26 t428.length co26)) (fun _ hk => hk.2) (.slice Ao28 t431.length co28)) (fun _ h_ => h_.1))) (Kd.S_base ho1) hb); have n2_ := Aside0.mk (Kd.S_lower (Kd.S_new' ho0 (Kd.S_lt (by (with_reducible repeat (first | apply Kd.S_alloc | apply Kd.S_drewN | apply Kd.S_drew)); exact (Kd.S_mono (Kd.S_far (p := ⟨gb435, 1, none⟩) (Kd.S_far (p := ⟨gb435, 0, none⟩) (Kd.S_types HO430.out BK435.out (by decide)) (fun _ hk => hk.2) (.slice Ao26 t428.length co26)) (fun _ hk => hk.2) (.slice Ao28 t431.length co28)) (fun _ h_ => h_.1))))) (below_size (by repeat (first | (with_reducible first | exact HB.out | apply below_alloc | apply pw_below_drewN | apply below_drew1 | refine below_set ?_ GE435.out) | exact HB.out)))); have n3_ := Aside0.mk (Kd.S_lower (Kd.S_new' ho1 (Kd.S_lt (by (with_reducible repeat (first | apply Kd.S_alloc | apply Kd.S_drewN | apply Kd.S_drew)); exact (Kd.S_mono (Kd.S_far (p := ⟨gb435, 1, none⟩) (Kd.S_far (p := ⟨gb435, 0, none⟩) (Kd.S_types HO433.out BK435.out (by decide)) (fun _ hk => hk.2) (.slice Ao26 t428.length co26)) (fun _ hk => hk.2) (.slice Ao28 t431.length co28)) (fun _ h_ => h_.1))))) (below_size (by repeat (first | (with_reducible first | exact HB.out | apply below_alloc | apply pw_below_drewN | apply below_drew1 | refine below_set ?_ GE435.out) | exact HB.out)))); have n4_ := Aside0.mk (blk_below (g := gb435) (o := .cells #[.slice Ao26 t428.length co26, .slice Ao28 t431.length co28] 28 (0, 0)) (by (with_reducible repeat (first | refine blk_drewN ?_ _ | refine blk_drew ?_ | refine blk_alloc ?_ _)); refine blk_put (cs := #[.slice Ao26 t428.length co26, .slice none 0 0]) ?_ 1 _ rfl; (with_reducible repeat (first | refine blk_drewN ?_ _ | refine blk_drew ?_ | refine blk_alloc ?_ _)); refine blk_put (cs := #[.slice none 0 0, .slice none 0 0]) ?_ 0 _ rfl; (with_reducible repeat (first | refine blk_drewN ?_ _ | refine blk_drew ?_ | refine blk_alloc ?_ _)); exact BK435.out) hb); have n5_ := Aside0.mk (below_step (by repeat (first | (with_reducible first | exact HB.out | apply below_alloc | apply pw_below_drewN | apply below_drew1 | refine below_set ?_ GE435.out) | exact HB.out)) hb); clear HO430; clear HO433; clear BK435; clear HB; have HO430 := n0_; have HO433 := n1_; have HO438 := n2_; have HO441 := n3_; have BK435 := n4_; have HB := n5_; clear n0_ n1_ n2_ n3_ n4_ n5_; (try clear hb); (try clear hb2); (try clear hk); (try clear hi); (try clear ho0); (try clear ho1); obtain ⟨Ao30, co30, eo30⟩ := Kd.S_slice HO438.out; subst eo30; have hcz31_0 : w29.cell? ⟨gb435, 0, none⟩ = some (.slice Ao26 t428.length co26) := (blk_cell BK435.out 0).trans rfl; have hcz31_1 : w29.cell? ⟨gb435, 1, none⟩ = some (.slice Ao28 t431.length co28) := (blk_cell BK435.out 1).trans rfl; have hfz31_0 := blk_frozen BK435.out 0; have hfz31_1 := blk_frozen BK435.out 1; obtain ⟨Ao32, co32, eo32⟩ := Kd.S_slice HO441.out; subst eo32) | (go_at_call 33; (with_reducible refine (disk_Flush.calls k _ _ t436 _ _ t439 t443 t446 t449 _ ?side1 ?side2 ?side3 ?side4 A17.out).mono ?_); (case side1 => refine (Kd.S_reads' (e := 50) (base := w.heap.size) (ok := fun k_ => (True ∧ some k_ ≠ (.slice Ao26 t428.length co26 : Value).ownBlock)) (n := t436.length) (c := co30) ?_).2.2; exact (by (with_reducible repeat (first | apply Kd.S_alloc | apply Kd.S_drewN | apply Kd.S_drew)); exact (Kd.S_mono (Kd.S_far (p := ⟨gb435, 1, none⟩) (Kd.S_far (p := ⟨gb435, 0, none⟩) (Kd.S_types HO438.out BK435.out (by decide)) (fun _ hk => hk.2) (.slice Ao30 t436.length co30)) (fun _ hk => hk.2) (.slice Ao32 t439.length co32)) (fun _ h_ => h_.1)))); (case side2 => exact (Kd.S_reads' HO438.out).2.1); (case side3 => refine (Kd.S_reads' (e := 61) (base := w.heap.size) (ok := fun k_ => (True ∧ some k_ ≠ (.slice Ao28 t431.length co28 : Value).ownBlock)) (n := t439.length) (c := co32) ?_).2.2; exact (by (with_reducible repeat (first | apply Kd.S_alloc | apply Kd.S_drewN | apply Kd.S_drew)); exact (Kd.S_mono (Kd.S_far (p := ⟨gb435, 1, none⟩) (Kd.S_far (p := ⟨gb435, 0, none⟩) (Kd.S_types HO441.out BK435.out (by decide)) (fun _ hk => hk.2) (.slice Ao30 t436.length co30)) (fun _ hk => hk.2) (.slice Ao32 t439.length co32)) (fun _ h_ => h_.1)))); (case side4 => exact (Kd.S_reads' HO441.out).2.1); rintro e w33 ⟨v444, v447, rfl, ho0, ho1, hb⟩; have n0_ := Aside0.mk (Kd.S_elder' (by (with_reducible repeat (first | apply Kd.S_alloc | apply Kd.S_drewN | apply Kd.S_drew)); exact (Kd.S_mono (Kd.S_far (p := ⟨gb435, 1, none⟩) (Kd.S_far (p := ⟨gb435, 0, none⟩) (Kd.S_types HO430.out BK435.out (by decide)) (fun _ hk => hk.2) (.slice Ao30 t436.length co30)) (fun _ hk => hk.2) (.slice Ao32 t439.length co32)) (fun _ h_ => h_.1))) (Kd.S_base ho0) hb); have n1_ := Aside0.mk (Kd.S_elder' (by (with_reducible repeat (first | apply Kd.S_alloc | apply Kd.S_drewN | apply Kd.S_drew)); exact (Kd.S_mono (Kd.S_far (p := ⟨gb435, 1, none⟩) (Kd.S_far (p := ⟨gb435, 0, none⟩) (Kd.S_types HO433.out BK435.out (by decide)) (fun _ hk => hk.2) (.slice Ao30 t436.length co30)) (fun _ hk => hk.2) (.slice Ao32 t439.length co32)) (fun _ h_ => h_.1))) (Kd.S_base ho1) hb); have n2_ := Aside0.mk (Kd.S_elder' (by (with_reducible repeat (first | apply Kd.S_alloc | apply Kd.S_drewN | apply Kd.S_drew)); exact (Kd.S_mono (Kd.S_far (p := ⟨gb435, 1, none⟩) (Kd.S_far (p := ⟨gb435, 0, none⟩) (Kd.S_types HO438.out BK435.out (by decide)) (fun _ hk => hk.2) (.slice Ao30 t436.length co30)) (fun _ hk => hk.2) (.slice Ao32 t439.length co32)) (fun _ h_ => h_.1))) (Kd.S_base ho0) hb); have n3_ := Aside0.mk (Kd.S_elder' (by (with_reducible repeat (first | apply Kd.S_alloc | apply Kd.S_drewN | apply Kd.S_drew)); exact (Kd.S_mono (Kd.S_far (p := ⟨gb435, 1, none⟩) (Kd.S_far (p := ⟨gb435, 0, none⟩) (Kd.S_types HO441.out BK435.out (by decide)) (fun _ hk => hk.2) (.slice Ao30 t436.length co30)) (fun _ hk => hk.2) (.slice Ao32 t439.length co32)) (fun _ h_ => h_.1))) (Kd.S_base ho1) hb); have n4_ := Aside0.mk (Kd.S_lower (Kd.S_new' (Kd.S_new' ho0 (Kd.S_lt (by (with_reducible repeat (first | apply Kd.S_alloc | apply Kd.S_drewN | apply Kd.S_drew)); exact (Kd.S_mono (Kd.S_far (p := ⟨gb435, 1, none⟩) (Kd.S_far (p := ⟨gb435, 0, none⟩) (Kd.S_types HO430.out BK435.out (by decide)) (fun _ hk => hk.2) (.slice Ao30 t436.length co30)) (fun _ hk => hk.2) (.slice Ao32 t439.length co32)) (fun _ h_ => h_.1))))) (Kd.S_lt (by (with_reducible repeat (first | apply Kd.S_alloc | apply Kd.S_drewN | apply Kd.S_drew)); exact (Kd.S_mono (Kd.S_far (p := ⟨gb435, 1, none⟩) (Kd.S_far (p := ⟨gb435, 0, none⟩) (Kd.S_types HO438.out BK435.out (by decide)) (fun _ hk => hk.2) (.slice Ao30 t436.length co30)) (fun _ hk => hk.2) (.slice Ao32 t439.length co32)) (fun _ h_ => h_.1))))) (below_size (by repeat (first | (with_reducible first | exact HB.out | apply below_alloc | apply pw_below_drewN | apply below_drew1 | refine below_set ?_ GE435.out) | exact HB.out)))); have n5_ := Aside0.mk (Kd.S_lower (Kd.S_new' (Kd.S_new' ho1 (Kd.S_lt (by (with_reducible repeat (first | apply Kd.S_alloc | apply Kd.S_drewN | apply Kd.S_drew)); exact (Kd.S_mono (Kd.S_far (p := ⟨gb435, 1, none⟩) (Kd.S_far (p := ⟨gb435, 0, none⟩) (Kd.S_types HO433.out BK435.out (by decide)) (fun _ hk => hk.2) (.slice Ao30 t436.length co30)) (fun _ hk => hk.2) (.slice Ao32 t439.length co32)) (fun _ h_ => h_.1))))) (Kd.S_lt (by (with_reducible repeat (first | apply Kd.S_alloc | apply Kd.S_drewN | apply Kd.S_drew)); exact (Kd.S_mono (Kd.S_far (p := ⟨gb435, 1, none⟩) (Kd.S_far (p := ⟨gb435, 0, none⟩) (Kd.S_types HO441.out BK435.out (by decide)) (fun _ hk => hk.2) (.slice Ao30 t436.length co30)) (fun _ hk => hk.2) (.slice Ao32 t439.length co32)) (fun _ h_ => h_.1))))) (below_size (by repeat (first | (with_reducible first | exact HB.out | apply below_alloc | apply pw_below_drewN | apply below_drew1 | refine below_set ?_ GE435.out) | exact HB.out)))); have n6_ := Aside0.mk (blk_below (g := gb435) (o := .cells #[.slice Ao30 t436.length co30, .slice Ao32 t439.length co32] 28 (0, 0)) (by (with_reducible repeat (first | refine blk_drewN ?_ _ | refine blk_drew ?_ | refine blk_alloc ?_ _)); refine blk_put (cs := #[.slice Ao30 t436.length co30, .slice Ao28 t431.length co28]) ?_ 1 _ rfl; (with_reducible repeat (first | refine blk_drewN ?_ _ | refine blk_drew ?_ | refine blk_alloc ?_ _)); refine blk_put (cs := #[.slice Ao26 t428.length co26, .slice Ao28 t431.length co28]) ?_ 0 _ rfl; (with_reducible repeat (first | refine blk_drewN ?_ _ | refine blk_drew ?_ | refine blk_alloc ?_ _)); exact BK435.out) hb); have n7_ := Aside0.mk (below_step (by repeat (first | (with_reducible first | exact HB.out | apply below_alloc | apply pw_below_drewN | apply below_drew1 | refine below_set ?_ GE435.out) | exact HB.out)) hb); clear HO430; clear HO433; clear HO438; clear HO441; clear BK435; clear HB; have HO430 := n0_; have HO433 := n1_; have HO438 := n2_; have HO441 := n3_; have HO445 := n4_; have HO448 := n5_; have BK435 := n6_; have HB := n7_; clear n0_ n1_ n2_ n3_ n4_ n5_ n6_ n7_; (try clear hb); (try clear hb2); (try clear hk); (try clear hi); (try clear ho0); (try clear ho1); obtain ⟨Ao34, co34, eo34⟩ := Kd.S_slice HO445.out; subst eo34; have hcz35_0 : w33.cell? ⟨gb435, 0, none⟩ = some (.slice Ao30 t436.length co30) := (blk_cell BK435.out 0).trans rfl; have hcz35_1 : w33.cell? ⟨gb435, 1, none⟩ = some (.slice Ao32 t439.length co32) := (blk_cell BK435.out 1).trans rfl; have hfz35_0 := blk_frozen BK435.out 0; have hfz35_1 := blk_frozen BK435.out 1; obtain ⟨Ao36, co36, eo36⟩ := Kd.S_slice HO448.out; subst eo36) | (go_at_call 30; (with_reducible refine (disk_Put.calls k _ _ t443 _ _ t446 (Int.tmod (wrap64 ((Int.tmod a1 (wrap64 (1 + (Int.tmod (wrap64 ((Int.tmod a0 20) + 20)) 20)))) + (wrap64 (1 + (Int.tmod (wrap64 ((Int.tmod a0 20) + 20)) 20))))) (wrap64 (1 + (Int.tmod (wrap64 ((Int.tmod a0 20) + 20)) 20)))) _ _ yc12 t450 t453 t456 _ ?side1 ?side2 ?side3 ?side4 ?side5 ?side6 A18.out).mono ?_); (case side1 => refine (Kd.S_reads' (e := 50) (base := w.heap.size) (ok := fun k_ => ((True ∧ some k_ ≠ (.slice Ao26 t428.length co26 : Value).ownBlock) ∧ some k_ ≠ (.slice Ao30 t436.length co30 : Value).ownBlock)) (n := t443.length) (c := co34) ?_).2.2; exact (by (with_reducible repeat (first | apply Kd.S_alloc | apply Kd.S_drewN | apply Kd.S_drew)); exact (Kd.S_mono (Kd.S_far (p := ⟨gb435, 1, none⟩) (Kd.S_far (p := ⟨gb435, 0, none⟩) (Kd.S_types HO445.out BK435.out (by decide)) (fun _ hk => hk.2) (.slice Ao34 t443.length co34)) (fun _ hk => hk.2) (.slice Ao36 t446.length co36)) (fun _ h_ => h_.1)))); (case side2 => exact (Kd.S_reads' HO445.out).2.1); (case side3 => refine (Kd.S_reads' (e := 61) (base := w.heap.size) (ok := fun k_ => ((True ∧ some k_ ≠ (.slice Ao28 t431.length co28 : Value).ownBlock) ∧ some k_ ≠ (.slice Ao32 t439.length co32 : Value).ownBlock)) (n := t446.length) (c := co36) ?_).2.2; exact (by (with_reducible repeat (first | apply Kd.S_alloc | apply Kd.S_drewN | apply Kd.S_drew)); exact (Kd.S_mono (Kd.S_far (p := ⟨gb435, 1, none⟩) (Kd.S_far (p := ⟨gb435, 0, none⟩) (Kd.S_types HO448.out BK435.out (by decide)) (fun _ hk => hk.2) (.slice Ao34 t443.length co34)) (fun _ hk => hk.2) (.slice Ao36 t446.length co36)) (fun _ h_ => h_.1)))); (case side4 => exact (Kd.S_reads' HO448.out).2.1); (case side5 => exact Kd.C_below HR427.out (by repeat (first | (with_reducible first | exact HB.out | apply below_alloc | apply pw_below_drewN | apply below_drew1 | refine below_set ?_ GE435.out) | exact HB.out))); (case side6 => exact HC427.out); rintro e w37 ⟨v451, v454, rfl, ho0, ho1, hb⟩; have n0_ := Aside0.mk (Kd.S_elder' (by (with_reducible repeat (first | apply Kd.S_alloc | apply Kd.S_drewN | apply Kd.S_drew)); exact (Kd.S_mono (Kd.S_far (p := ⟨gb435, 1, none⟩) (Kd.S_far (p := ⟨gb435, 0, none⟩) (Kd.S_types HO430.out BK435.out (by decide)) (fun _ hk => hk.2) (.slice Ao34 t443.length co34)) (fun _ hk => hk.2) (.slice Ao36 t446.length co36)) (fun _ h_ => h_.1))) (Kd.S_base ho0) hb); have n1_ := Aside0.mk (Kd.S_elder' (by (with_reducible repeat (first | apply Kd.S_alloc | apply Kd.S_drewN | apply Kd.S_drew)); exact (Kd.S_mono (Kd.S_far (p := ⟨gb435, 1, none⟩) (Kd.S_far (p := ⟨gb435, 0, none⟩) (Kd.S_types HO433.out BK435.out (by decide)) (fun _ hk => hk.2) (.slice Ao34 t443.length co34)) (fun _ hk => hk.2) (.slice Ao36 t446.length co36)) (fun _ h_ => h_.1))) (Kd.S_base ho1) hb); have n2_ := Aside0.mk (Kd.S_elder' (by (with_reducible repeat (first | apply Kd.S_alloc | apply Kd.S_drewN | apply Kd.S_drew)); exact (Kd.S_mono (Kd.S_far (p := ⟨gb435, 1, none⟩) (Kd.S_far (p := ⟨gb435, 0, none⟩) (Kd.S_types HO438.out BK435.out (by decide)) (fun _ hk => hk.2) (.slice Ao34 t443.length co34)) (fun _ hk => hk.2) (.slice Ao36 t446.length co36)) (fun _ h_ => h_.1))) (Kd.S_base ho0) hb); have n3_ := Aside0.mk (Kd.S_elder' (by (with_reducible repeat (first | apply Kd.S_alloc | apply Kd.S_drewN | apply Kd.S_drew)); exact (Kd.S_mono (Kd.S_far (p := ⟨gb435, 1, none⟩) (Kd.S_far (p := ⟨gb435, 0, none⟩) (Kd.S_types HO441.out BK435.out (by decide)) (fun _ hk => hk.2) (.slice Ao34 t443.length co34)) (fun _ hk => hk.2) (.slice Ao36 t446.length co36)) (fun _ h_ => h_.1))) (Kd.S_base ho1) hb); have n4_ := Aside0.mk (Kd.S_elder' (by (with_reducible repeat (first | apply Kd.S_alloc | apply Kd.S_drewN | apply Kd.S_drew)); exact (Kd.S_mono (Kd.S_far (p := ⟨gb435, 1, none⟩) (Kd.S_far (p := ⟨gb435, 0, none⟩) (Kd.S_types HO445.out BK435.out (by decide)) (fun _ hk => hk.2) (.slice Ao34 t443.length co34)) (fun _ hk => hk.2) (.slice Ao36 t446.length co36)) (fun _ h_ => h_.1))) (Kd.S_base ho0) hb); have n5_ := Aside0.mk (Kd.S_elder' (by (with_reducible repeat (first | apply Kd.S_alloc | apply Kd.S_drewN | apply Kd.S_drew)); exact (Kd.S_mono (Kd.S_far (p := ⟨gb435, 1, none⟩) (Kd.S_far (p := ⟨gb435, 0, none⟩) (Kd.S_types HO448.out BK435.out (by decide)) (fun _ hk => hk.2) (.slice Ao34 t443.length co34)) (fun _ hk => hk.2) (.slice Ao36 t446.length co36)) (fun _ h_ => h_.1))) (Kd.S_base ho1) hb); have n6_ := Aside0.mk (Kd.S_lower (Kd.S_new' (Kd.S_new' (Kd.S_new' ho0 (Kd.S_lt (by (with_reducible repeat (first | apply Kd.S_alloc | apply Kd.S_drewN | apply Kd.S_drew)); exact (Kd.S_mono (Kd.S_far (p := ⟨gb435, 1, none⟩) (Kd.S_far (p := ⟨gb435, 0, none⟩) (Kd.S_types HO430.out BK435.out (by decide)) (fun _ hk => hk.2) (.slice Ao34 t443.length co34)) (fun _ hk => hk.2) (.slice Ao36 t446.length co36)) (fun _ h_ => h_.1))))) (Kd.S_lt (by (with_reducible repeat (first | apply Kd.S_alloc | apply Kd.S_drewN | apply Kd.S_drew)); exact (Kd.S_mono (Kd.S_far (p := ⟨gb435, 1, none⟩) (Kd.S_far (p := ⟨gb435, 0, none⟩) (Kd.S_types HO438.out BK435.out (by decide)) (fun _ hk => hk.2) (.slice Ao34 t443.length co34)) (fun _ hk => hk.2) (.slice Ao36 t446.length co36)) (fun _ h_ => h_.1))))) (Kd.S_lt (by (with_reducible repeat (first | apply Kd.S_alloc | apply Kd.S_drewN | apply Kd.S_drew)); exact (Kd.S_mono (Kd.S_far (p := ⟨gb435, 1, none⟩) (Kd.S_far (p := ⟨gb435, 0, none⟩) (Kd.S_types HO445.out BK435.out (by decide)) (fun _ hk => hk.2) (.slice Ao34 t443.length co34)) (fun _ hk => hk.2) (.slice Ao36 t446.length co36)) (fun _ h_ => h_.1))))) (below_size (by repeat (first | (with_reducible first | exact HB.out | apply below_alloc | apply pw_below_drewN | apply below_drew1 | refine below_set ?_ GE435.out) | exact HB.out)))); have n7_ := Aside0.mk (Kd.S_lower (Kd.S_new' (Kd.S_new' (Kd.S_new' ho1 (Kd.S_lt (by (with_reducible repeat (first | apply Kd.S_alloc | apply Kd.S_drewN | apply Kd.S_drew)); exact (Kd.S_mono (Kd.S_far (p := ⟨gb435, 1, none⟩) (Kd.S_far (p := ⟨gb435, 0, none⟩) (Kd.S_types HO433.out BK435.out (by decide)) (fun _ hk => hk.2) (.slice Ao34 t443.length co34)) (fun _ hk => hk.2) (.slice Ao36 t446.length co36)) (fun _ h_ => h_.1))))) (Kd.S_lt (by (with_reducible repeat (first | apply Kd.S_alloc | apply Kd.S_drewN | apply Kd.S_drew)); exact (Kd.S_mono (Kd.S_far (p := ⟨gb435, 1, none⟩) (Kd.S_far (p := ⟨gb435, 0, none⟩) (Kd.S_types HO441.out BK435.out (by decide)) (fun _ hk => hk.2) (.slice Ao34 t443.length co34)) (fun _ hk => hk.2) (.slice Ao36 t446.length co36)) (fun _ h_ => h_.1))))) (Kd.S_lt (by (with_reducible repeat (first | apply Kd.S_alloc | apply Kd.S_drewN | apply Kd.S_drew)); exact (Kd.S_mono (Kd.S_far (p := ⟨gb435, 1, none⟩) (Kd.S_far (p := ⟨gb435, 0, none⟩) (Kd.S_types HO448.out BK435.out (by decide)) (fun _ hk => hk.2) (.slice Ao34 t443.length co34)) (fun _ hk => hk.2) (.slice Ao36 t446.length co36)) (fun _ h_ => h_.1))))) (below_size (by repeat (first | (with_reducible first | exact HB.out | apply below_alloc | apply pw_below_drewN | apply below_drew1 | refine below_set ?_ GE435.out) | exact HB.out)))); have n8_ := Aside0.mk (blk_below (g := gb435) (o := .cells #[.slice Ao34 t443.length co34, .slice Ao36 t446.length co36] 28 (0, 0)) (by (with_reducible repeat (first | refine blk_drewN ?_ _ | refine blk_drew ?_ | refine blk_alloc ?_ _)); refine blk_put (cs := #[.slice Ao34 t443.length co34, .slice Ao32 t439.length co32]) ?_ 1 _ rfl; (with_reducible repeat (first | refine blk_drewN ?_ _ | refine blk_drew ?_ | refine blk_alloc ?_ _)); refine blk_put (cs := #[.slice Ao30 t436.length co30, .slice Ao32 t439.length co32]) ?_ 0 _ rfl; (with_reducible repeat (first | refine blk_drewN ?_ _ | refine blk_drew ?_ | refine blk_alloc ?_ _)); exact BK435.out) hb); have n9_ := Aside0.mk (below_step (by repeat (first | (with_reducible first | exact HB.out | apply below_alloc | apply pw_below_drewN | apply below_drew1 | refine below_set ?_ GE435.out) | exact HB.out)) hb); clear HO430; clear HO433; clear HO438; clear HO441; clear HO445; clear HO448; clear BK435; clear HB; have HO430 := n0_; have HO433 := n1_; have HO438 := n2_; have HO441 := n3_; have HO445 := n4_; have HO448 := n5_; have HO452 := n6_; have HO455 := n7_; have BK435 := n8_; have HB := n9_; clear n0_ n1_ n2_ n3_ n4_ n5_ n6_ n7_ n8_ n9_; (try clear hb); (try clear hb2); (try clear hk); (try clear hi); (try clear ho0); (try clear ho1); obtain ⟨Ao38, co38, eo38⟩ := Kd.S_slice HO452.out; subst eo38; have hcz39_0 : w37.cell? ⟨gb435, 0, none⟩ = some (.slice Ao34 t443.length co34) := (blk_cell BK435.out 0).trans rfl; have hcz39_1 : w37.cell? ⟨gb435, 1, none⟩ = some (.slice Ao36 t446.length co36) := (blk_cell BK435.out 1).trans rfl; have hfz39_0 := blk_frozen BK435.out 0; have hfz39_1 := blk_frozen BK435.out 1; obtain ⟨Ao40, co40, eo40⟩ := Kd.S_slice HO455.out; subst eo40) | ((with_reducible refine gate_dst (N := 72) rfl ?_); (try (refine gate_guard (by rfl) ?_; dsimp only)); refine Kd.R_lit Kd.bool _ 4 ?hg (N := 72) ?hd (xs := ([true] : List Bool)) (inner := [.bool true]) (ok := fun _ => True) (okp := fun _ => True) ?hr ?hp (fun _ hk => hk) trivial (Below.refl _ _) (Nat.le_refl _) (by simp) ?_; (case hd => rfl); (case hg => rfl); (case hr => first | (go_simp; done) | (go_simp; rfl)); (case hp => exact (Reps.one (show Kd.M Kd.bool _ _ _ true [.bool true] from rfl) (Reps.none _ _))); intro v458 w41 ho42 hb hg_ hnew_; clear hg_ hnew_; (first | rw [← Ny457.out] at ho42 | (simp only [Int.reduceToNat] at ho42; rw [← Ny457.out] at ho42)); have n0_ := Aside0.mk (Kd.S_below (by (with_reducible repeat (first | apply Kd.S_alloc | apply Kd.S_drewN | apply Kd.S_drew)); exact (Kd.S_mono (Kd.S_far (p := ⟨gb435, 1, none⟩) (Kd.S_far (p := ⟨gb435, 0, none⟩) (Kd.S_types HO430.out BK435.out (by decide)) (fun _ hk => hk.2) (.slice Ao38 t450.length co38)) (fun _ hk => hk.2) (.slice Ao40 t453.length co40)) (fun _ h_ => h_.1))) hb); have n1_ := Aside0.mk (Kd.S_below (by (with_reducible repeat (first | apply Kd.S_alloc | apply Kd.S_drewN | apply Kd.S_drew)); exact (Kd.S_mono (Kd.S_far (p := ⟨gb435, 1, none⟩) (Kd.S_far (p := ⟨gb435, 0, none⟩) (Kd.S_types HO433.out BK435.out (by decide)) (fun _ hk => hk.2) (.slice Ao38 t450.length co38)) (fun _ hk => hk.2) (.slice Ao40 t453.length co40)) (fun _ h_ => h_.1))) hb); have n2_ := Aside0.mk (Kd.S_below (by (with_reducible repeat (first | apply Kd.S_alloc | apply Kd.S_drewN | apply Kd.S_drew)); exact (Kd.S_mono (Kd.S_far (p := ⟨gb435, 1, none⟩) (Kd.S_far (p := ⟨gb435, 0, none⟩) (Kd.S_types HO438.out BK435.out (by decide)) (fun _ hk => hk.2) (.slice Ao38 t450.length co38)) (fun _ hk => hk.2) (.slice Ao40 t453.length co40)) (fun _ h_ => h_.1))) hb); have n3_ := Aside0.mk (Kd.S_below (by (with_reducible repeat (first | apply Kd.S_alloc | apply Kd.S_drewN | apply Kd.S_drew)); exact (Kd.S_mono (Kd.S_far (p := ⟨gb435, 1, none⟩) (Kd.S_far (p := ⟨gb435, 0, none⟩) (Kd.S_types HO441.out BK435.out (by decide)) (fun _ hk => hk.2) (.slice Ao38 t450.length co38)) (fun _ hk => hk.2) (.slice Ao40 t453.length co40)) (fun _ h_ => h_.1))) hb); have n4_ := Aside0.mk (Kd.S_below (by (with_reducible repeat (first | apply Kd.S_alloc | apply Kd.S_drewN | apply Kd.S_drew)); exact (Kd.S_mono (Kd.S_far (p := ⟨gb435, 1, none⟩) (Kd.S_far (p := ⟨gb435, 0, none⟩) (Kd.S_types HO445.out BK435.out (by decide)) (fun _ hk => hk.2) (.slice Ao38 t450.length co38)) (fun _ hk => hk.2) (.slice Ao40 t453.length co40)) (fun _ h_ => h_.1))) hb); have n5_ := Aside0.mk (Kd.S_below (by (with_reducible repeat (first | apply Kd.S_alloc | apply Kd.S_drewN | apply Kd.S_drew)); exact (Kd.S_mono (Kd.S_far (p := ⟨gb435, 1, none⟩) (Kd.S_far (p := ⟨gb435, 0, none⟩) (Kd.S_types HO448.out BK435.out (by decide)) (fun _ hk => hk.2) (.slice Ao38 t450.length co38)) (fun _ hk => hk.2) (.slice Ao40 t453.length co40)) (fun _ h_ => h_.1))) hb); have n6_ := Aside0.mk (Kd.S_below (by (with_reducible repeat (first | apply Kd.S_alloc | apply Kd.S_drewN | apply Kd.S_drew)); exact (Kd.S_mono (Kd.S_far (p := ⟨gb435, 1, none⟩) (Kd.S_far (p := ⟨gb435, 0, none⟩) (Kd.S_types HO452.out BK435.out (by decide)) (fun _ hk => hk.2) (.slice Ao38 t450.length co38)) (fun _ hk => hk.2) (.slice Ao40 t453.length co40)) (fun _ h_ => h_.1))) hb); have n7_ := Aside0.mk (Kd.S_below (by (with_reducible repeat (first | apply Kd.S_alloc | apply Kd.S_drewN | apply Kd.S_drew)); exact (Kd.S_mono (Kd.S_far (p := ⟨gb435, 1, none⟩) (Kd.S_far (p := ⟨gb435, 0, none⟩) (Kd.S_types HO455.out BK435.out (by decide)) (fun _ hk => hk.2) (.slice Ao38 t450.length co38)) (fun _ hk => hk.2) (.slice Ao40 t453.length co40)) (fun _ h_ => h_.1))) hb); have n8_ := Aside0.mk (Kd.R_lower ho42 (below_size (by repeat (first | (with_reducible first | exact HB.out | apply below_alloc | apply pw_below_drewN | apply below_drew1 | refine below_set ?_ GE435.out) | exact HB.out)))); have n9_ := Aside0.mk (blk_below (g := gb435) (o := .cells #[.slice Ao38 t450.length co38, .slice Ao40 t453.length co40] 28 (0, 0)) (by (with_reducible repeat (first | refine blk_drewN ?_ _ | refine blk_drew ?_ | refine blk_alloc ?_ _)); refine blk_put (cs := #[.slice Ao38 t450.length co38, .slice Ao36 t446.length co36]) ?_ 1 _ rfl; (with_reducible repeat (first | refine blk_drewN ?_ _ | refine blk_drew ?_ | refine blk_alloc ?_ _)); refine blk_put (cs := #[.slice Ao34 t443.length co34, .slice Ao36 t446.length co36]) ?_ 0 _ rfl; (with_reducible repeat (first | refine blk_drewN ?_ _ | refine blk_drew ?_ | refine blk_alloc ?_ _)); exact BK435.out) hb); have n10_ := Aside0.mk (below_step (by repeat (first | (with_reducible first | exact HB.out | apply below_alloc | apply pw_below_drewN | apply below_drew1 | refine below_set ?_ GE435.out) | exact HB.out)) hb); clear HO430; clear HO433; clear HO438; clear HO441; clear HO445; clear HO448; clear HO452; clear HO455; clear BK435; clear HB; have HO430 := n0_; have HO433 := n1_; have HO438 := n2_; have HO441 := n3_; have HO445 := n4_; have HO448 := n5_; have HO452 := n6_; have HO455 := n7_; have HO459 := n8_; have BK435 := n9_; have HB := n10_; clear n0_ n1_ n2_ n3_ n4_ n5_ n6_ n7_ n8_ n9_ n10_; clear hb ho42; obtain ⟨Ao43, co43, eo43⟩ := Kd.R_slice HO459.out; subst eo43) | (go_at_call 22; (with_reducible refine (disk_Crash.calls k _ _ t450 _ _ t453 _ _ y457 0 a4 t460 t463 t466 _ ?side1 ?side2 ?side3 ?side4 ?side5 ?side6 A19.out).mono ?_); (case side1 => repeat (first | exact (Kd.S_reads' HO452.out).2.2 | (with_reducible refine Kd.C_alloc ?_ _) | (with_reducible refine Kd.C_drewN ?_ _) | (with_reducible refine Kd.C_drew ?_))); (case side2 => exact (Kd.S_reads' HO452.out).2.1); (case side3 => repeat (first | exact (Kd.S_reads' HO455.out).2.2 | (with_reducible refine Kd.C_alloc ?_ _) | (with_reducible refine Kd.C_drewN ?_ _) | (with_reducible refine Kd.C_drew ?_))); (case side4 => exact (Kd.S_reads' HO455.out).2.1); (case side5 => repeat (first | exact (Kd.R_reads' HO459.out).2.2 | (with_reducible refine Kd.C_alloc ?_ _) | (with_reducible refine Kd.C_drewN ?_ _) | (with_reducible refine Kd.C_drew ?_))); (case side6 => exact (Kd.R_reads' HO459.out).2.1); rintro e w44 ⟨v461, v464, rfl, ho0, ho1, hb⟩; have n0_ := Aside0.mk (Kd.S_elder' (by (with_reducible repeat (first | apply Kd.S_alloc | apply Kd.S_drewN | apply Kd.S_drew)); exact HO430.out) (Kd.S_base ho0) hb); have n1_ := Aside0.mk (Kd.S_elder' (by (with_reducible repeat (first | apply Kd.S_alloc | apply Kd.S_drewN | apply Kd.S_drew)); exact HO433.out) (Kd.S_base ho1) hb); have n2_ := Aside0.mk (Kd.S_elder' (by (with_reducible repeat (first | apply Kd.S_alloc | apply Kd.S_drewN | apply Kd.S_drew)); exact HO438.out) (Kd.S_base ho0) hb); have n3_ := Aside0.mk (Kd.S_elder' (by (with_reducible repeat (first | apply Kd.S_alloc | apply Kd.S_drewN | apply Kd.S_drew)); exact HO441.out) (Kd.S_base ho1) hb); have n4_ := Aside0.mk (Kd.S_elder' (by (with_reducible repeat (first | apply Kd.S_alloc | apply Kd.S_drewN | apply Kd.S_drew)); exact HO445.out) (Kd.S_base ho0) hb); have n5_ := Aside0.mk (Kd.S_elder' (by (with_reducible repeat (first | apply Kd.S_alloc | apply Kd.S_drewN | apply Kd.S_drew)); exact HO448.out) (Kd.S_base ho1) hb); have n6_ := Aside0.mk (Kd.S_elder' (by (with_reducible repeat (first | apply Kd.S_alloc | apply Kd.S_drewN | apply Kd.S_drew)); exact HO452.out) (Kd.S_base ho0) hb); have n7_ := Aside0.mk (Kd.S_elder' (by (with_reducible repeat (first | apply Kd.S_alloc | apply Kd.S_drewN | apply Kd.S_drew)); exact HO455.out) (Kd.S_base ho1) hb); have n8_ := Aside0.mk (Kd.R_below (by (with_reducible repeat (first | apply Kd.R_alloc | apply Kd.R_drewN | apply Kd.R_drew)); exact HO459.out) hb); have n9_ := Aside0.mk (Kd.S_lower (Kd.S_new' (Kd.S_new' (Kd.S_new' (Kd.S_new' ho0 (Kd.S_lt (by (with_reducible repeat (first | apply Kd.S_alloc | apply Kd.S_drewN | apply Kd.S_drew)); exact HO430.out))) (Kd.S_lt (by (with_reducible repeat (first | apply Kd.S_alloc | apply Kd.S_drewN | apply Kd.S_drew)); exact HO438.out))) (Kd.S_lt (by (with_reducible repeat (first | apply Kd.S_alloc | apply Kd.S_drewN | apply Kd.S_drew)); exact HO445.out))) (Kd.S_lt (by (with_reducible repeat (first | apply Kd.S_alloc | apply Kd.S_drewN | apply Kd.S_drew)); exact HO452.out))) (below_size (by repeat (first | (with_reducible first | exact HB.out | apply below_alloc | apply pw_below_drewN | apply below_drew1 | refine below_set ?_ GE435.out) | exact HB.out)))); have n10_ := Aside0.mk (Kd.S_lower (Kd.S_new' (Kd.S_new' (Kd.S_new' (Kd.S_new' ho1 (Kd.S_lt (by (with_reducible repeat (first | apply Kd.S_alloc | apply Kd.S_drewN | apply Kd.S_drew)); exact HO433.out))) (Kd.S_lt (by (with_reducible repeat (first | apply Kd.S_alloc | apply Kd.S_drewN | apply Kd.S_drew)); exact HO441.out))) (Kd.S_lt (by (with_reducible repeat (first | apply Kd.S_alloc | apply Kd.S_drewN | apply Kd.S_drew)); exact HO448.out))) (Kd.S_lt (by (with_reducible repeat (first | apply Kd.S_alloc | apply Kd.S_drewN | apply Kd.S_drew)); exact HO455.out))) (below_size (by repeat (first | (with_reducible first | exact HB.out | apply below_alloc | apply pw_below_drewN | apply below_drew1 | refine below_set ?_ GE435.out) | exact HB.out)))); have n11_ := Aside0.mk (blk_below (g := gb435) (o := .cells #[.slice Ao38 t450.length co38, .slice Ao40 t453.length co40] 28 (0, 0)) (by (with_reducible repeat (first | refine blk_drewN ?_ _ | refine blk_drew ?_ | refine blk_alloc ?_ _)); exact BK435.out) hb); have n12_ := Aside0.mk (below_step (by repeat (first | (with_reducible first | exact HB.out | apply below_alloc | apply pw_below_drewN | apply below_drew1 | refine below_set ?_ GE435.out) | exact HB.out)) hb); clear HO430; clear HO433; clear HO438; clear HO441; clear HO445; clear HO448; clear HO452; clear HO455; clear HO459; clear BK435; clear HB; have HO430 := n0_; have HO433 := n1_; have HO438 := n2_; have HO441 := n3_; have HO445 := n4_; have HO448 := n5_; have HO452 := n6_; have HO455 := n7_; have HO459 := n8_; have HO462 := n9_; have HO465 := n10_; have BK435 := n11_; have HB := n12_; clear n0_ n1_ n2_ n3_ n4_ n5_ n6_ n7_ n8_ n9_ n10_ n11_ n12_; (try clear hb); (try clear hb2); (try clear hk); (try clear hi); (try clear ho0); (try clear ho1)) | ((with_reducible refine gate_dst (N := 16) rfl ?_); (try (refine gate_guard (by rfl) ?_; dsimp only)); refine box_event ?hg (N := 16) ?hd (cs := #[.slice none 0 0, .slice none 0 0]) (t := 28) ?hr ?_; (case hd => rfl); (case hg => rfl); (case hr => first | (go_simp; done) | (go_simp; rfl)); intro gb467 hg w45 hbox hb; have n0_ := Aside0.mk (Kd.S_below (by (with_reducible repeat (first | apply Kd.S_alloc | apply Kd.S_drewN | apply Kd.S_drew)); exact HO430.out) hb); have n1_ := Aside0.mk (Kd.S_below (by (with_reducible repeat (first | apply Kd.S_alloc | apply Kd.S_drewN | apply Kd.S_drew)); exact HO433.out) hb); have n2_ := Aside0.mk (Kd.S_below (by (with_reducible repeat (first | apply Kd.S_alloc | apply Kd.S_drewN | apply Kd.S_drew)); exact HO438.out) hb); have n3_ := Aside0.mk (Kd.S_below (by (with_reducible repeat (first | apply Kd.S_alloc | apply Kd.S_drewN | apply Kd.S_drew)); exact HO441.out) hb); have n4_ := Aside0.mk (Kd.S_below (by (with_reducible repeat (first | apply Kd.S_alloc | apply Kd.S_drewN | apply Kd.S_drew)); exact HO445.out) hb); have n5_ := Aside0.mk (Kd.S_below (by (with_reducible repeat (first | apply Kd.S_alloc | apply Kd.S_drewN | apply Kd.S_drew)); exact HO448.out) hb); have n6_ := Aside0.mk (Kd.S_below (by (with_reducible repeat (first | apply Kd.S_alloc | apply Kd.S_drewN | apply Kd.S_drew)); exact HO452.out) hb); have n7_ := Aside0.mk (Kd.S_below (by (with_reducible repeat (first | apply Kd.S_alloc | apply Kd.S_drewN | apply Kd.S_drew)); exact HO455.out) hb); have n8_ := Aside0.mk (Kd.R_below (by (with_reducible repeat (first | apply Kd.R_alloc | apply Kd.R_drewN | apply Kd.R_drew)); exact HO459.out) hb); have n9_ := Aside0.mk (Kd.S_below (by (with_reducible repeat (first | apply Kd.S_alloc | apply Kd.S_drewN | apply Kd.S_drew)); exact HO462.out) hb); have n10_ := Aside0.mk (Kd.S_below (by (with_reducible repeat (first | apply Kd.S_alloc | apply Kd.S_drewN | apply Kd.S_drew)); exact HO465.out) hb); have n11_ := Aside0.mk (blk_below (g := gb435) (o := .cells #[.slice Ao38 t450.length co38, .slice Ao40 t453.length co40] 28 (0, 0)) (by (with_reducible repeat (first | refine blk_drewN ?_ _ | refine blk_drew ?_ | refine blk_alloc ?_ _)); exact BK435.out) hb); have n12_ := Aside0.mk (below_step (by repeat (first | (with_reducible first | exact HB.out | apply below_alloc | apply pw_below_drewN | apply below_drew1 | refine below_set ?_ GE435.out) | exact HB.out)) hb); have n13_ := Aside0.mk (hbox); have n14_ := Aside0.mk ((by rw [hg]; exact (below_size (by repeat (first | (with_reducible first | exact HB.out | apply below_alloc | apply pw_below_drewN | apply below_drew1 | refine below_set ?_ GE435.out) | exact HB.out))) : w.heap.size ≤ gb467)); have n15_ := Aside0.mk ((by rw [hg]; exact (below_size (by repeat (first | (with_reducible first | exact HB.out | apply below_alloc | apply pw_below_drewN | apply below_drew1 | refine below_set ?_ GE435.out) | exact HB.out))) : w.heap.size ≤ gb467)); have n16_ := Aside0.mk ((by rw [hg]; exact Nat.ne_of_lt (blk_lt (g := gb435) (o := .cells #[.slice Ao38 t450.length co38, .slice Ao40 t453.length co40] 28 (0, 0)) (by (with_reducible repeat (first | refine blk_drewN ?_ _ | refine blk_drew ?_ | refine blk_alloc ?_ _)); exact BK435.out)) : gb435 ≠ gb467)); have n17_ := Aside0.mk ((by rw [hg]; exact Nat.ne_of_gt (blk_lt (g := gb435) (o := .cells #[.slice Ao38 t450.length co38, .slice Ao40 t453.length co40] 28 (0, 0)) (by (with_reducible repeat (first | refine blk_drewN ?_ _ | refine blk_drew ?_ | refine blk_alloc ?_ _)); exact BK435.out)) : gb467 ≠ gb435)); clear HO430; clear HO433; clear HO438; clear HO441; clear HO445; clear HO448; clear HO452; clear HO455; clear HO459; clear HO462; clear HO465; clear BK435; clear HB; have HO430 := n0_; have HO433 := n1_; have HO438 := n2_; have HO441 := n3_; have HO445 := n4_; have HO448 := n5_; have HO452 := n6_; have HO455 := n7_; have HO459 := n8_; have HO462 := n9_; have HO465 := n10_; have BK435 := n11_; have HB := n12_; have BK467 := n13_; have GW467 := n14_; have GE467 := n15_; have NB435_467 := n16_; have NB467_435 := n17_; clear n0_ n1_ n2_ n3_ n4_ n5_ n6_ n7_ n8_ n9_ n10_ n11_ n12_ n13_ n14_ n15_ n16_ n17_; clear hb hbox hg; obtain ⟨Ao46, co46, eo46⟩ := Kd.S_slice HO462.out; subst eo46; have hnb47 := NB467_435.out; have hnc47 := NB435_467.out; have hcz48_0 : w45.cell? ⟨gb467, 0, none⟩ = some (.slice none 0 0) := (blk_cell BK467.out 0).trans rfl; have hcz48_1 : w45.cell? ⟨gb467, 1, none⟩ = some (.slice none 0 0) := (blk_cell BK467.out 1).trans rfl; have hfz48_0 := blk_frozen BK467.out 0; have hfz48_1 := blk_frozen BK467.out 1; obtain ⟨Ao49, co49, eo49⟩ := Kd.S_slice HO465.out; subst eo49)))
       (try simp only [Act.put, A1, A2, A3])
       go_cut [104] (fun v104 wc => ∃ (kq : Nat) (x104_19 : Bool), v104 = .bool x104_19 ∧ Aside0 (transeptlaw04_DiskTorn.j0 kq (wrap64 (1 + (Int.tmod (wrap64 ((Int.tmod a0 20) + 20)) 20))) (Int.tmod (wrap64 ((Int.tmod a1 (wrap64 (1 + (Int.tmod (wrap64 ((Int.tmod a0 20) + 20)) 20)))) + (wrap64 (1 + (Int.tmod (wrap64 ((Int.tmod a0 20) + 20)) 20))))) (wrap64 (1 + (Int.tmod (wrap64 ((Int.tmod a0 20) + 20)) 20)))) yc9 yc12 a4 x104_19 t460 t463 = some r) ∧ Aside0 (kq ≤ k) ∧ Aside0 (Kd.S (Kd.slice 5 (Kd.int .u8)) 50 wc w.heap.size (fun k_ => some k_ ≠ ((.slice Ao46 t460.length co46) : Value).ownBlock) (.slice Ao38 t450.length co38) t450) ∧ Aside0 (Kd.S k61 61 wc w.heap.size (fun k_ => some k_ ≠ ((.slice Ao49 t463.length co49) : Value).ownBlock) (.slice Ao40 t453.length co40) t453) ∧ Aside0 (Kd.S (Kd.slice 5 (Kd.int .u8)) 50 wc w.heap.size (fun k_ => some k_ ≠ ((.slice Ao38 t450.length co38) : Value).ownBlock) (.slice Ao46 t460.length co46) t460) ∧ Aside0 (Kd.S k61 61 wc w.heap.size (fun k_ => some k_ ≠ ((.slice Ao40 t453.length co40) : Value).ownBlock) (.slice Ao49 t463.length co49) t463) ∧ Aside0 (wc.heap[gb435]? = some (.cells #[(.slice Ao38 t450.length co38), (.slice Ao40 t453.length co40)] 28 (0, 0))) ∧ Aside0 (wc.heap[gb467]? = some (.cells #[(.slice Ao46 t460.length co46), (.slice Ao49 t463.length co49)] 28 (0, 0))) ∧ Aside0 (Below w.heap.size w wc))
       case first =>
        have H := HC20.out
        clear HC20
        replace H := Option.bind_eq_some_iff.mp H
        obtain ⟨t468, A500, H⟩ := H
        replace H : ((transeptlaw04_num.f t442).bind fun t469 => ((transeptlaw04_num.f t449).bind fun t470 => ((transeptlaw04_num.f t456).bind fun t471 => ((transeptlaw04_num.f t466).bind fun t472 => (if (wrap64 ((wrap64 ((wrap64 ((wrap64 (t468 + t469)) + t470)) + t471)) + t472)) = 0 then (if (t460.length : Int) = (wrap64 (1 + (Int.tmod (wrap64 ((Int.tmod a0 20) + 20)) 20))) then (transeptlaw04_DiskTorn.j0 k (wrap64 (1 + (Int.tmod (wrap64 ((Int.tmod a0 20) + 20)) 20))) (Int.tmod (wrap64 ((Int.tmod a1 (wrap64 (1 + (Int.tmod (wrap64 ((Int.tmod a0 20) + 20)) 20)))) + (wrap64 (1 + (Int.tmod (wrap64 ((Int.tmod a0 20) + 20)) 20))))) (wrap64 (1 + (Int.tmod (wrap64 ((Int.tmod a0 20) + 20)) 20)))) yc9 yc12 a4 ((t463.length : Int) != 0) t460 t463) else (transeptlaw04_DiskTorn.j0 k (wrap64 (1 + (Int.tmod (wrap64 ((Int.tmod a0 20) + 20)) 20))) (Int.tmod (wrap64 ((Int.tmod a1 (wrap64 (1 + (Int.tmod (wrap64 ((Int.tmod a0 20) + 20)) 20)))) + (wrap64 (1 + (Int.tmod (wrap64 ((Int.tmod a0 20) + 20)) 20))))) (wrap64 (1 + (Int.tmod (wrap64 ((Int.tmod a0 20) + 20)) 20)))) yc9 yc12 a4 true t460 t463)) else (transeptlaw04_DiskTorn.j0 k (wrap64 (1 + (Int.tmod (wrap64 ((Int.tmod a0 20) + 20)) 20))) (Int.tmod (wrap64 ((Int.tmod a1 (wrap64 (1 + (Int.tmod (wrap64 ((Int.tmod a0 20) + 20)) 20)))) + (wrap64 (1 + (Int.tmod (wrap64 ((Int.tmod a0 20) + 20)) 20))))) (wrap64 (1 + (Int.tmod (wrap64 ((Int.tmod a0 20) + 20)) 20)))) yc9 yc12 a4 true t460 t463)))))) = some r := H
        have A50 := Aside0.mk A500
        clear A500
        replace H := Option.bind_eq_some_iff.mp H
        obtain ⟨t469, A510, H⟩ := H
        replace H : ((transeptlaw04_num.f t449).bind fun t470 => ((transeptlaw04_num.f t456).bind fun t471 => ((transeptlaw04_num.f t466).bind fun t472 => (if (wrap64 ((wrap64 ((wrap64 ((wrap64 (t468 + t469)) + t470)) + t471)) + t472)) = 0 then (if (t460.length : Int) = (wrap64 (1 + (Int.tmod (wrap64 ((Int.tmod a0 20) + 20)) 20))) then (transeptlaw04_DiskTorn.j0 k (wrap64 (1 + (Int.tmod (wrap64 ((Int.tmod a0 20) + 20)) 20))) (Int.tmod (wrap64 ((Int.tmod a1 (wrap64 (1 + (Int.tmod (wrap64 ((Int.tmod a0 20) + 20)) 20)))) + (wrap64 (1 + (Int.tmod (wrap64 ((Int.tmod a0 20) + 20)) 20))))) (wrap64 (1 + (Int.tmod (wrap64 ((Int.tmod a0 20) + 20)) 20)))) yc9 yc12 a4 ((t463.length : Int) != 0) t460 t463) else (transeptlaw04_DiskTorn.j0 k (wrap64 (1 + (Int.tmod (wrap64 ((Int.tmod a0 20) + 20)) 20))) (Int.tmod (wrap64 ((Int.tmod a1 (wrap64 (1 + (Int.tmod (wrap64 ((Int.tmod a0 20) + 20)) 20)))) + (wrap64 (1 + (Int.tmod (wrap64 ((Int.tmod a0 20) + 20)) 20))))) (wrap64 (1 + (Int.tmod (wrap64 ((Int.tmod a0 20) + 20)) 20)))) yc9 yc12 a4 true t460 t463)) else (transeptlaw04_DiskTorn.j0 k (wrap64 (1 + (Int.tmod (wrap64 ((Int.tmod a0 20) + 20)) 20))) (Int.tmod (wrap64 ((Int.tmod a1 (wrap64 (1 + (Int.tmod (wrap64 ((Int.tmod a0 20) + 20)) 20)))) + (wrap64 (1 + (Int.tmod (wrap64 ((Int.tmod a0 20) + 20)) 20))))) (wrap64 (1 + (Int.tmod (wrap64 ((Int.tmod a0 20) + 20)) 20)))) yc9 yc12 a4 true t460 t463))))) = some r := H
        have A51 := Aside0.mk A510
        clear A510
        replace H := Option.bind_eq_some_iff.mp H
        obtain ⟨t470, A520, H⟩ := H
        replace H : ((transeptlaw04_num.f t456).bind fun t471 => ((transeptlaw04_num.f t466).bind fun t472 => (if (wrap64 ((wrap64 ((wrap64 ((wrap64 (t468 + t469)) + t470)) + t471)) + t472)) = 0 then (if (t460.length : Int) = (wrap64 (1 + (Int.tmod (wrap64 ((Int.tmod a0 20) + 20)) 20))) then (transeptlaw04_DiskTorn.j0 k (wrap64 (1 + (Int.tmod (wrap64 ((Int.tmod a0 20) + 20)) 20))) (Int.tmod (wrap64 ((Int.tmod a1 (wrap64 (1 + (Int.tmod (wrap64 ((Int.tmod a0 20) + 20)) 20)))) + (wrap64 (1 + (Int.tmod (wrap64 ((Int.tmod a0 20) + 20)) 20))))) (wrap64 (1 + (Int.tmod (wrap64 ((Int.tmod a0 20) + 20)) 20)))) yc9 yc12 a4 ((t463.length : Int) != 0) t460 t463) else (transeptlaw04_DiskTorn.j0 k (wrap64 (1 + (Int.tmod (wrap64 ((Int.tmod a0 20) + 20)) 20))) (Int.tmod (wrap64 ((Int.tmod a1 (wrap64 (1 + (Int.tmod (wrap64 ((Int.tmod a0 20) + 20)) 20)))) + (wrap64 (1 + (Int.tmod (wrap64 ((Int.tmod a0 20) + 20)) 20))))) (wrap64 (1 + (Int.tmod (wrap64 ((Int.tmod a0 20) + 20)) 20)))) yc9 yc12 a4 true t460 t463)) else (transeptlaw04_DiskTorn.j0 k (wrap64 (1 + (Int.tmod (wrap64 ((Int.tmod a0 20) + 20)) 20))) (Int.tmod (wrap64 ((Int.tmod a1 (wrap64 (1 + (Int.tmod (wrap64 ((Int.tmod a0 20) + 20)) 20)))) + (wrap64 (1 + (Int.tmod (wrap64 ((Int.tmod a0 20) + 20)) 20))))) (wrap64 (1 + (Int.tmod (wrap64 ((Int.tmod a0 20) + 20)) 20)))) yc9 yc12 a4 true t460 t463)))) = some r := H
        have A52 := Aside0.mk A520
        clear A520
        replace H := Option.bind_eq_some_iff.mp H
        obtain ⟨t471, A530, H⟩ := H
        replace H : ((transeptlaw04_num.f t466).bind fun t472 => (if (wrap64 ((wrap64 ((wrap64 ((wrap64 (t468 + t469)) + t470)) + t471)) + t472)) = 0 then (if (t460.length : Int) = (wrap64 (1 + (Int.tmod (wrap64 ((Int.tmod a0 20) + 20)) 20))) then (transeptlaw04_DiskTorn.j0 k (wrap64 (1 + (Int.tmod (wrap64 ((Int.tmod a0 20) + 20)) 20))) (Int.tmod (wrap64 ((Int.tmod a1 (wrap64 (1 + (Int.tmod (wrap64 ((Int.tmod a0 20) + 20)) 20)))) + (wrap64 (1 + (Int.tmod (wrap64 ((Int.tmod a0 20) + 20)) 20))))) (wrap64 (1 + (Int.tmod (wrap64 ((Int.tmod a0 20) + 20)) 20)))) yc9 yc12 a4 ((t463.length : Int) != 0) t460 t463) else (transeptlaw04_DiskTorn.j0 k (wrap64 (1 + (Int.tmod (wrap64 ((Int.tmod a0 20) + 20)) 20))) (Int.tmod (wrap64 ((Int.tmod a1 (wrap64 (1 + (Int.tmod (wrap64 ((Int.tmod a0 20) + 20)) 20)))) + (wrap64 (1 + (Int.tmod (wrap64 ((Int.tmod a0 20) + 20)) 20))))) (wrap64 (1 + (Int.tmod (wrap64 ((Int.tmod a0 20) + 20)) 20)))) yc9 yc12 a4 true t460 t463)) else (transeptlaw04_DiskTorn.j0 k (wrap64 (1 + (Int.tmod (wrap64 ((Int.tmod a0 20) + 20)) 20))) (Int.tmod (wrap64 ((Int.tmod a1 (wrap64 (1 + (Int.tmod (wrap64 ((Int.tmod a0 20) + 20)) 20)))) + (wrap64 (1 + (Int.tmod (wrap64 ((Int.tmod a0 20) + 20)) 20))))) (wrap64 (1 + (Int.tmod (wrap64 ((Int.tmod a0 20) + 20)) 20)))) yc9 yc12 a4 true t460 t463))) = some r := H
        have A53 := Aside0.mk A530
        clear A530
        replace H := Option.bind_eq_some_iff.mp H
        obtain ⟨t472, A540, H⟩ := H
        replace H : (if (wrap64 ((wrap64 ((wrap64 ((wrap64 (t468 + t469)) + t470)) + t471)) + t472)) = 0 then (if (t460.length : Int) = (wrap64 (1 + (Int.tmod (wrap64 ((Int.tmod a0 20) + 20)) 20))) then (transeptlaw04_DiskTorn.j0 k (wrap64 (1 + (Int.tmod (wrap64 ((Int.tmod a0 20) + 20)) 20))) (Int.tmod (wrap64 ((Int.tmod a1 (wrap64 (1 + (Int.tmod (wrap64 ((Int.tmod a0 20) + 20)) 20)))) + (wrap64 (1 + (Int.tmod (wrap64 ((Int.tmod a0 20) + 20)) 20))))) (wrap64 (1 + (Int.tmod (wrap64 ((Int.tmod a0 20) + 20)) 20)))) yc9 yc12 a4 ((t463.length : Int) != 0) t460 t463) else (transeptlaw04_DiskTorn.j0 k (wrap64 (1 + (Int.tmod (wrap64 ((Int.tmod a0 20) + 20)) 20))) (Int.tmod (wrap64 ((Int.tmod a1 (wrap64 (1 + (Int.tmod (wrap64 ((Int.tmod a0 20) + 20)) 20)))) + (wrap64 (1 + (Int.tmod (wrap64 ((Int.tmod a0 20) + 20)) 20))))) (wrap64 (1 + (Int.tmod (wrap64 ((Int.tmod a0 20) + 20)) 20)))) yc9 yc12 a4 true t460 t463)) else (transeptlaw04_DiskTorn.j0 k (wrap64 (1 + (Int.tmod (wrap64 ((Int.tmod a0 20) + 20)) 20))) (Int.tmod (wrap64 ((Int.tmod a1 (wrap64 (1 + (Int.tmod (wrap64 ((Int.tmod a0 20) + 20)) 20)))) + (wrap64 (1 + (Int.tmod (wrap64 ((Int.tmod a0 20) + 20)) 20))))) (wrap64 (1 + (Int.tmod (wrap64 ((Int.tmod a0 20) + 20)) 20)))) yc9 yc12 a4 true t460 t463)) = some r := H
        have A54 := Aside0.mk A540
        clear A540
        by_cases c55 : (wrap64 ((wrap64 ((wrap64 ((wrap64 (t468 + t469)) + t470)) + t471)) + t472)) = 0
        ·
         rw [if_pos c55] at H
         have c55b0 : ((wrap64 ((wrap64 ((wrap64 ((wrap64 (t468 + t469)) + t470)) + t471)) + t472)) == 0) = true := beq_iff_eq.mpr c55
         have c55b1 : ((wrap64 ((wrap64 ((wrap64 ((wrap64 (t468 + t469)) + t470)) + t471)) + t472)) != 0) = false := bne_eq_false_iff_eq.mpr c55
         clear c55
         (first | rw [c55b0] | (simp only [i64_w, i32_w]; rw [c55b0]) | skip)
         by_cases c56 : (t460.length : Int) = (wrap64 (1 + (Int.tmod (wrap64 ((Int.tmod a0 20) + 20)) 20)))
         ·
          rw [if_pos c56] at H
          have c56b0 : ((t460.length : Int) == (wrap64 (1 + (Int.tmod (wrap64 ((Int.tmod a0 20) + 20)) 20)))) = true := beq_iff_eq.mpr c56
          have c56b1 : ((t460.length : Int) != (wrap64 (1 + (Int.tmod (wrap64 ((Int.tmod a0 20) + 20)) 20)))) = false := bne_eq_false_iff_eq.mpr c56
          clear c56
          have H' := Aside0.mk H
          clear H
          go_wp2_with (first | (go_at_call 25; (with_reducible refine (transeptlaw04_num.calls t434 t468 _ A50.out).mono ?_); rintro e w' ⟨rfl, ⟨nd, rfl⟩⟩; (try first | exact ⟨rfl, _, World.drewN_drewN _ _ _⟩ | exact ⟨rfl, _, Eq.trans (World.drewN_drewN _ _ _) (congrArg (World.drewN _) (Nat.add_assoc _ _ _))⟩)) | (go_at_call 25; (with_reducible refine (transeptlaw04_num.calls t442 t469 _ A51.out).mono ?_); rintro e w' ⟨rfl, ⟨nd, rfl⟩⟩; (try first | exact ⟨rfl, _, World.drewN_drewN _ _ _⟩ | exact ⟨rfl, _, Eq.trans (World.drewN_drewN _ _ _) (congrArg (World.drewN _) (Nat.add_assoc _ _ _))⟩)) | (go_at_call 25; (with_reducible refine (transeptlaw04_num.calls t449 t470 _ A52.out).mono ?_); rintro e w' ⟨rfl, ⟨nd, rfl⟩⟩; (try first | exact ⟨rfl, _, World.drewN_drewN _ _ _⟩ | exact ⟨rfl, _, Eq.trans (World.drewN_drewN _ _ _) (congrArg (World.drewN _) (Nat.add_assoc _ _ _))⟩)) | (go_at_call 25; (with_reducible refine (transeptlaw04_num.calls t456 t471 _ A53.out).mono ?_); rintro e w' ⟨rfl, ⟨nd, rfl⟩⟩; (try first | exact ⟨rfl, _, World.drewN_drewN _ _ _⟩ | exact ⟨rfl, _, Eq.trans (World.drewN_drewN _ _ _) (congrArg (World.drewN _) (Nat.add_assoc _ _ _))⟩)) | (go_at_call 25; (with_reducible refine (transeptlaw04_num.calls t466 t472 _ A54.out).mono ?_); rintro e w' ⟨rfl, ⟨nd, rfl⟩⟩; (try first | exact ⟨rfl, _, World.drewN_drewN _ _ _⟩ | exact ⟨rfl, _, Eq.trans (World.drewN_drewN _ _ _) (congrArg (World.drewN _) (Nat.add_assoc _ _ _))⟩); have hnb57 := NB467_435.out; have hnc57 := NB435_467.out; have hcz58_0 : w45.cell? ⟨gb467, 0, none⟩ = some (.slice none 0 0) := (blk_cell BK467.out 0).trans rfl; have hcz58_1 : w45.cell? ⟨gb467, 1, none⟩ = some (.slice none 0 0) := (blk_cell BK467.out 1).trans rfl; have hfz58_0 := blk_frozen BK467.out 0; have hfz58_1 := blk_frozen BK467.out 1))
          repeat (go_quiet (first | (go_at_call 25; (with_reducible refine (transeptlaw04_num.calls t434 t468 _ A50.out).mono ?_); rintro e w' ⟨rfl, ⟨nd, rfl⟩⟩; (try first | exact ⟨rfl, _, World.drewN_drewN _ _ _⟩ | exact ⟨rfl, _, Eq.trans (World.drewN_drewN _ _ _) (congrArg (World.drewN _) (Nat.add_assoc _ _ _))⟩)) | (go_at_call 25; (with_reducible refine (transeptlaw04_num.calls t442 t469 _ A51.out).mono ?_); rintro e w' ⟨rfl, ⟨nd, rfl⟩⟩; (try first | exact ⟨rfl, _, World.drewN_drewN _ _ _⟩ | exact ⟨rfl, _, Eq.trans (World.drewN_drewN _ _ _) (congrArg (World.drewN _) (Nat.add_assoc _ _ _))⟩)) | (go_at_call 25; (with_reducible refine (transeptlaw04_num.calls t449 t470 _ A52.out).mono ?_); rintro e w' ⟨rfl, ⟨nd, rfl⟩⟩; (try first | exact ⟨rfl, _, World.drewN_drewN _ _ _⟩ | exact ⟨rfl, _, Eq.trans (World.drewN_drewN _ _ _) (congrArg (World.drewN _) (Nat.add_assoc _ _ _))⟩)) | (go_at_call 25; (with_reducible refine (transeptlaw04_num.calls t456 t471 _ A53.out).mono ?_); rintro e w' ⟨rfl, ⟨nd, rfl⟩⟩; (try first | exact ⟨rfl, _, World.drewN_drewN _ _ _⟩ | exact ⟨rfl, _, Eq.trans (World.drewN_drewN _ _ _) (congrArg (World.drewN _) (Nat.add_assoc _ _ _))⟩)) | (go_at_call 25; (with_reducible refine (transeptlaw04_num.calls t466 t472 _ A54.out).mono ?_); rintro e w' ⟨rfl, ⟨nd, rfl⟩⟩; (try first | exact ⟨rfl, _, World.drewN_drewN _ _ _⟩ | exact ⟨rfl, _, Eq.trans (World.drewN_drewN _ _ _) (congrArg (World.drewN _) (Nat.add_assoc _ _ _))⟩); have hnb57 := NB467_435.out; have hnc57 := NB435_467.out; have hcz58_0 : w45.cell? ⟨gb467, 0, none⟩ = some (.slice none 0 0) := (blk_cell BK467.out 0).trans rfl; have hcz58_1 : w45.cell? ⟨gb467, 1, none⟩ = some (.slice none 0 0) := (blk_cell BK467.out 1).trans rfl; have hfz58_0 := blk_frozen BK467.out 0; have hfz58_1 := blk_frozen BK467.out 1)); try go_wp2_with (first | (go_at_call 25; (with_reducible refine (transeptlaw04_num.calls t434 t468 _ A50.out).mono ?_); rintro e w' ⟨rfl, ⟨nd, rfl⟩⟩; (try first | exact ⟨rfl, _, World.drewN_drewN _ _ _⟩ | exact ⟨rfl, _, Eq.trans (World.drewN_drewN _ _ _) (congrArg (World.drewN _) (Nat.add_assoc _ _ _))⟩)) | (go_at_call 25; (with_reducible refine (transeptlaw04_num.calls t442 t469 _ A51.out).mono ?_); rintro e w' ⟨rfl, ⟨nd, rfl⟩⟩; (try first | exact ⟨rfl, _, World.drewN_drewN _ _ _⟩ | exact ⟨rfl, _, Eq.trans (World.drewN_drewN _ _ _) (congrArg (World.drewN _) (Nat.add_assoc _ _ _))⟩)) | (go_at_call 25; (with_reducible refine (transeptlaw04_num.calls t449 t470 _ A52.out).mono ?_); rintro e w' ⟨rfl, ⟨nd, rfl⟩⟩; (try first | exact ⟨rfl, _, World.drewN_drewN _ _ _⟩ | exact ⟨rfl, _, Eq.trans (World.drewN_drewN _ _ _) (congrArg (World.drewN _) (Nat.add_assoc _ _ _))⟩)) | (go_at_call 25; (with_reducible refine (transeptlaw04_num.calls t456 t471 _ A53.out).mono ?_); rintro e w' ⟨rfl, ⟨nd, rfl⟩⟩; (try first | exact ⟨rfl, _, World.drewN_drewN _ _ _⟩ | exact ⟨rfl, _, Eq.trans (World.drewN_drewN _ _ _) (congrArg (World.drewN _) (Nat.add_assoc _ _ _))⟩)) | (go_at_call 25; (with_reducible refine (transeptlaw04_num.calls t466 t472 _ A54.out).mono ?_); rintro e w' ⟨rfl, ⟨nd, rfl⟩⟩; (try first | exact ⟨rfl, _, World.drewN_drewN _ _ _⟩ | exact ⟨rfl, _, Eq.trans (World.drewN_drewN _ _ _) (congrArg (World.drewN _) (Nat.add_assoc _ _ _))⟩); have hnb57 := NB467_435.out; have hnc57 := NB435_467.out; have hcz58_0 : w45.cell? ⟨gb467, 0, none⟩ = some (.slice none 0 0) := (blk_cell BK467.out 0).trans rfl; have hcz58_1 : w45.cell? ⟨gb467, 1, none⟩ = some (.slice none 0 0) := (blk_cell BK467.out 1).trans rfl; have hfz58_0 := blk_frozen BK467.out 0; have hfz58_1 := blk_frozen BK467.out 1)))
          go_meet
          case rel => exact ⟨_, (((t463.length : Int) != 0)), (by first | rfl | (simp; done) | (simp [*]; done)), H', ⟨by first | omega | exact Nat.le_refl _⟩, ⟨by (with_reducible repeat (first | apply Kd.S_alloc | apply Kd.S_drewN | apply Kd.S_drew)); exact Kd.S_mono (Kd.S_far (p := ⟨gb467, 1, none⟩) (Kd.S_far (p := ⟨gb467, 0, none⟩) (Kd.S_types HO452.out BK467.out (by decide)) (fun _ hk => hk.2) (.slice Ao46 t460.length co46)) (fun _ hk => hk.2) (.slice Ao49 t463.length co49)) (fun _ hk => hk.1.2)⟩, ⟨by (with_reducible repeat (first | apply Kd.S_alloc | apply Kd.S_drewN | apply Kd.S_drew)); exact Kd.S_mono (Kd.S_far (p := ⟨gb467, 1, none⟩) (Kd.S_far (p := ⟨gb467, 0, none⟩) (Kd.S_types HO455.out BK467.out (by decide)) (fun _ hk => hk.2) (.slice Ao46 t460.length co46)) (fun _ hk => hk.2) (.slice Ao49 t463.length co49)) (fun _ hk => hk.1.2)⟩, ⟨by (with_reducible repeat (first | apply Kd.S_alloc | apply Kd.S_drewN | apply Kd.S_drew)); exact Kd.S_mono (Kd.S_far (p := ⟨gb467, 1, none⟩) (Kd.S_far (p := ⟨gb467, 0, none⟩) (Kd.S_types HO462.out BK467.out (by decide)) (fun _ hk => hk.2) (.slice Ao46 t460.length co46)) (fun _ hk => hk.2) (.slice Ao49 t463.length co49)) (fun _ hk => hk.1.2)⟩, ⟨by (with_reducible repeat (first | apply Kd.S_alloc | apply Kd.S_drewN | apply Kd.S_drew)); exact Kd.S_mono (Kd.S_far (p := ⟨gb467, 1, none⟩) (Kd.S_far (p := ⟨gb467, 0, none⟩) (Kd.S_types HO465.out BK467.out (by decide)) (fun _ hk => hk.2) (.slice Ao46 t460.length co46)) (fun _ hk => hk.2) (.slice Ao49 t463.length co49)) (fun _ hk => hk.1.2)⟩, ⟨by (with_reducible repeat (first | refine blk_drewN ?_ _ | refine blk_drew ?_ | refine blk_alloc ?_ _)); refine blk_far ?_ NB435_467.out _; (with_reducible repeat (first | refine blk_drewN ?_ _ | refine blk_drew ?_ | refine blk_alloc ?_ _)); refine blk_far ?_ NB435_467.out _; (with_reducible repeat (first | refine blk_drewN ?_ _ | refine blk_drew ?_ | refine blk_alloc ?_ _)); exact BK435.out⟩, ⟨by (with_reducible repeat (first | refine blk_drewN ?_ _ | refine blk_drew ?_ | refine blk_alloc ?_ _)); refine blk_put (cs := #[.slice Ao46 t460.length co46, .slice none 0 0]) ?_ 1 _ rfl; (with_reducible repeat (first | refine blk_drewN ?_ _ | refine blk_drew ?_ | refine blk_alloc ?_ _)); refine blk_put (cs := #[.slice none 0 0, .slice none 0 0]) ?_ 0 _ rfl; (with_reducible repeat (first | refine blk_drewN ?_ _ | refine blk_drew ?_ | refine blk_alloc ?_ _)); exact BK467.out⟩, ⟨by repeat (first | (with_reducible first | exact HB.out | apply below_alloc | apply pw_below_drewN | apply below_drew1 | refine below_set ?_ GE435.out | refine below_set ?_ GE467.out) | exact HB.out)⟩⟩
         ·
          rw [if_neg c56] at H
          have c56b0 : ((t460.length : Int) == (wrap64 (1 + (Int.tmod (wrap64 ((Int.tmod a0 20) + 20)) 20)))) = false := beq_eq_false_iff_ne.mpr c56
          have c56b1 : ((t460.length : Int) != (wrap64 (1 + (Int.tmod (wrap64 ((Int.tmod a0 20) + 20)) 20)))) = true := bne_iff_ne.mpr c56
          have H' := Aside0.mk H
          clear H
          go_wp2_with (first | (go_at_call 25; (with_reducible refine (transeptlaw04_num.calls t434 t468 _ A50.out).mono ?_); rintro e w' ⟨rfl, ⟨nd, rfl⟩⟩; (try first | exact ⟨rfl, _, World.drewN_drewN _ _ _⟩ | exact ⟨rfl, _, Eq.trans (World.drewN_drewN _ _ _) (congrArg (World.drewN _) (Nat.add_assoc _ _ _))⟩)) | (go_at_call 25; (with_reducible refine (transeptlaw04_num.calls t442 t469 _ A51.out).mono ?_); rintro e w' ⟨rfl, ⟨nd, rfl⟩⟩; (try first | exact ⟨rfl, _, World.drewN_drewN _ _ _⟩ | exact ⟨rfl, _, Eq.trans (World.drewN_drewN _ _ _) (congrArg (World.drewN _) (Nat.add_assoc _ _ _))⟩)) | (go_at_call 25; (with_reducible refine (transeptlaw04_num.calls t449 t470 _ A52.out).mono ?_); rintro e w' ⟨rfl, ⟨nd, rfl⟩⟩; (try first | exact ⟨rfl, _, World.drewN_drewN _ _ _⟩ | exact ⟨rfl, _, Eq.trans (World.drewN_drewN _ _ _) (congrArg (World.drewN _) (Nat.add_assoc _ _ _))⟩)) | (go_at_call 25; (with_reducible refine (transeptlaw04_num.calls t456 t471 _ A53.out).mono ?_); rintro e w' ⟨rfl, ⟨nd, rfl⟩⟩; (try first | exact ⟨rfl, _, World.drewN_drewN _ _ _⟩ | exact ⟨rfl, _, Eq.trans (World.drewN_drewN _ _ _) (congrArg (World.drewN _) (Nat.add_assoc _ _ _))⟩)) | (go_at_call 25; (with_reducible refine (transeptlaw04_num.calls t466 t472 _ A54.out).mono ?_); rintro e w' ⟨rfl, ⟨nd, rfl⟩⟩; (try first | exact ⟨rfl, _, World.drewN_drewN _ _ _⟩ | exact ⟨rfl, _, Eq.trans (World.drewN_drewN _ _ _) (congrArg (World.drewN _) (Nat.add_assoc _ _ _))⟩); have hnb59 := NB467_435.out; have hnc59 := NB435_467.out; have hcz60_0 : w45.cell? ⟨gb467, 0, none⟩ = some (.slice none 0 0) := (blk_cell BK467.out 0).trans rfl; have hcz60_1 : w45.cell? ⟨gb467, 1, none⟩ = some (.slice none 0 0) := (blk_cell BK467.out 1).trans rfl; have hfz60_0 := blk_frozen BK467.out 0; have hfz60_1 := blk_frozen BK467.out 1))
          repeat (go_quiet (first | (go_at_call 25; (with_reducible refine (transeptlaw04_num.calls t434 t468 _ A50.out).mono ?_); rintro e w' ⟨rfl, ⟨nd, rfl⟩⟩; (try first | exact ⟨rfl, _, World.drewN_drewN _ _ _⟩ | exact ⟨rfl, _, Eq.trans (World.drewN_drewN _ _ _) (congrArg (World.drewN _) (Nat.add_assoc _ _ _))⟩)) | (go_at_call 25; (with_reducible refine (transeptlaw04_num.calls t442 t469 _ A51.out).mono ?_); rintro e w' ⟨rfl, ⟨nd, rfl⟩⟩; (try first | exact ⟨rfl, _, World.drewN_drewN _ _ _⟩ | exact ⟨rfl, _, Eq.trans (World.drewN_drewN _ _ _) (congrArg (World.drewN _) (Nat.add_assoc _ _ _))⟩)) | (go_at_call 25; (with_reducible refine (transeptlaw04_num.calls t449 t470 _ A52.out).mono ?_); rintro e w' ⟨rfl, ⟨nd, rfl⟩⟩; (try first | exact ⟨rfl, _, World.drewN_drewN _ _ _⟩ | exact ⟨rfl, _, Eq.trans (World.drewN_drewN _ _ _) (congrArg (World.drewN _) (Nat.add_assoc _ _ _))⟩)) | (go_at_call 25; (with_reducible refine (transeptlaw04_num.calls t456 t471 _ A53.out).mono ?_); rintro e w' ⟨rfl, ⟨nd, rfl⟩⟩; (try first | exact ⟨rfl, _, World.drewN_drewN _ _ _⟩ | exact ⟨rfl, _, Eq.trans (World.drewN_drewN _ _ _) (congrArg (World.drewN _) (Nat.add_assoc _ _ _))⟩)) | (go_at_call 25; (with_reducible refine (transeptlaw04_num.calls t466 t472 _ A54.out).mono ?_); rintro e w' ⟨rfl, ⟨nd, rfl⟩⟩; (try first | exact ⟨rfl, _, World.drewN_drewN _ _ _⟩ | exact ⟨rfl, _, Eq.trans (World.drewN_drewN _ _ _) (congrArg (World.drewN _) (Nat.add_assoc _ _ _))⟩); have hnb59 := NB467_435.out; have hnc59 := NB435_467.out; have hcz60_0 : w45.cell? ⟨gb467, 0, none⟩ = some (.slice none 0 0) := (blk_cell BK467.out 0).trans rfl; have hcz60_1 : w45.cell? ⟨gb467, 1, none⟩ = some (.slice none 0 0) := (blk_cell BK467.out 1).trans rfl; have hfz60_0 := blk_frozen BK467.out 0; have hfz60_1 := blk_frozen BK467.out 1)); try go_wp2_with (first | (go_at_call 25; (with_reducible refine (transeptlaw04_num.calls t434 t468 _ A50.out).mono ?_); rintro e w' ⟨rfl, ⟨nd, rfl⟩⟩; (try first | exact ⟨rfl, _, World.drewN_drewN _ _ _⟩ | exact ⟨rfl, _, Eq.trans (World.drewN_drewN _ _ _) (congrArg (World.drewN _) (Nat.add_assoc _ _ _))⟩)) | (go_at_call 25; (with_reducible refine (transeptlaw04_num.calls t442 t469 _ A51.out).mono ?_); rintro e w' ⟨rfl, ⟨nd, rfl⟩⟩; (try first | exact ⟨rfl, _, World.drewN_drewN _ _ _⟩ | exact ⟨rfl, _, Eq.trans (World.drewN_drewN _ _ _) (congrArg (World.drewN _) (Nat.add_assoc _ _ _))⟩)) | (go_at_call 25; (with_reducible refine (transeptlaw04_num.calls t449 t470 _ A52.out).mono ?_); rintro e w' ⟨rfl, ⟨nd, rfl⟩⟩; (try first | exact ⟨rfl, _, World.drewN_drewN _ _ _⟩ | exact ⟨rfl, _, Eq.trans (World.drewN_drewN _ _ _) (congrArg (World.drewN _) (Nat.add_assoc _ _ _))⟩)) | (go_at_call 25; (with_reducible refine (transeptlaw04_num.calls t456 t471 _ A53.out).mono ?_); rintro e w' ⟨rfl, ⟨nd, rfl⟩⟩; (try first | exact ⟨rfl, _, World.drewN_drewN _ _ _⟩ | exact ⟨rfl, _, Eq.trans (World.drewN_drewN _ _ _) (congrArg (World.drewN _) (Nat.add_assoc _ _ _))⟩)) | (go_at_call 25; (with_reducible refine (transeptlaw04_num.calls t466 t472 _ A54.out).mono ?_); rintro e w' ⟨rfl, ⟨nd, rfl⟩⟩; (try first | exact ⟨rfl, _, World.drewN_drewN _ _ _⟩ | exact ⟨rfl, _, Eq.trans (World.drewN_drewN _ _ _) (congrArg (World.drewN _) (Nat.add_assoc _ _ _))⟩); have hnb59 := NB467_435.out; have hnc59 := NB435_467.out; have hcz60_0 : w45.cell? ⟨gb467, 0, none⟩ = some (.slice none 0 0) := (blk_cell BK467.out 0).trans rfl; have hcz60_1 : w45.cell? ⟨gb467, 1, none⟩ = some (.slice none 0 0) := (blk_cell BK467.out 1).trans rfl; have hfz60_0 := blk_frozen BK467.out 0; have hfz60_1 := blk_frozen BK467.out 1)))
          go_meet
          case rel => exact ⟨_, (true), (by first | rfl | (simp; done) | (simp [*]; done)), H', ⟨by first | omega | exact Nat.le_refl _⟩, ⟨by (with_reducible repeat (first | apply Kd.S_alloc | apply Kd.S_drewN | apply Kd.S_drew)); exact Kd.S_mono (Kd.S_far (p := ⟨gb467, 1, none⟩) (Kd.S_far (p := ⟨gb467, 0, none⟩) (Kd.S_types HO452.out BK467.out (by decide)) (fun _ hk => hk.2) (.slice Ao46 t460.length co46)) (fun _ hk => hk.2) (.slice Ao49 t463.length co49)) (fun _ hk => hk.1.2)⟩, ⟨by (with_reducible repeat (first | apply Kd.S_alloc | apply Kd.S_drewN | apply Kd.S_drew)); exact Kd.S_mono (Kd.S_far (p := ⟨gb467, 1, none⟩) (Kd.S_far (p := ⟨gb467, 0, none⟩) (Kd.S_types HO455.out BK467.out (by decide)) (fun _ hk => hk.2) (.slice Ao46 t460.length co46)) (fun _ hk => hk.2) (.slice Ao49 t463.length co49)) (fun _ hk => hk.1.2)⟩, ⟨by (with_reducible repeat (first | apply Kd.S_alloc | apply Kd.S_drewN | apply Kd.S_drew)); exact Kd.S_mono (Kd.S_far (p := ⟨gb467, 1, none⟩) (Kd.S_far (p := ⟨gb467, 0, none⟩) (Kd.S_types HO462.out BK467.out (by decide)) (fun _ hk => hk.2) (.slice Ao46 t460.length co46)) (fun _ hk => hk.2) (.slice Ao49 t463.length co49)) (fun _ hk => hk.1.2)⟩, ⟨by (with_reducible repeat (first | apply Kd.S_alloc | apply Kd.S_drewN | apply Kd.S_drew)); exact Kd.S_mono (Kd.S_far (p := ⟨gb467, 1, none⟩) (Kd.S_far (p := ⟨gb467, 0, none⟩) (Kd.S_types HO465.out BK467.out (by decide)) (fun _ hk => hk.2) (.slice Ao46 t460.length co46)) (fun _ hk => hk.2) (.slice Ao49 t463.length co49)) (fun _ hk => hk.1.2)⟩, ⟨by (with_reducible repeat (first | refine blk_drewN ?_ _ | refine blk_drew ?_ | refine blk_alloc ?_ _)); refine blk_far ?_ NB435_467.out _; (with_reducible repeat (first | refine blk_drewN ?_ _ | refine blk_drew ?_ | refine blk_alloc ?_ _)); refine blk_far ?_ NB435_467.out _; (with_reducible repeat (first | refine blk_drewN ?_ _ | refine blk_drew ?_ | refine blk_alloc ?_ _)); exact BK435.out⟩, ⟨by (with_reducible repeat (first | refine blk_drewN ?_ _ | refine blk_drew ?_ | refine blk_alloc ?_ _)); refine blk_put (cs := #[.slice Ao46 t460.length co46, .slice none 0 0]) ?_ 1 _ rfl; (with_reducible repeat (first | refine blk_drewN ?_ _ | refine blk_drew ?_ | refine blk_alloc ?_ _)); refine blk_put (cs := #[.slice none 0 0, .slice none 0 0]) ?_ 0 _ rfl; (with_reducible repeat (first | refine blk_drewN ?_ _ | refine blk_drew ?_ | refine blk_alloc ?_ _)); exact BK467.out⟩, ⟨by repeat (first | (with_reducible first | exact HB.out | apply below_alloc | apply pw_below_drewN | apply below_drew1 | refine below_set ?_ GE435.out | refine below_set ?_ GE467.out) | exact HB.out)⟩⟩
        ·
         rw [if_neg c55] at H
         have c55b0 : ((wrap64 ((wrap64 ((wrap64 ((wrap64 (t468 + t469)) + t470)) + t471)) + t472)) == 0) = false := beq_eq_false_iff_ne.mpr c55
         have c55b1 : ((wrap64 ((wrap64 ((wrap64 ((wrap64 (t468 + t469)) + t470)) + t471)) + t472)) != 0) = true := bne_iff_ne.mpr c55
         (first | rw [c55b0] | (simp only [i64_w, i32_w]; rw [c55b0]) | skip)
         have H' := Aside0.mk H
         clear H
         go_wp2_with (first | (go_at_call 25; (with_reducible refine (transeptlaw04_num.calls t434 t468 _ A50.out).mono ?_); rintro e w' ⟨rfl, ⟨nd, rfl⟩⟩; (try first | exact ⟨rfl, _, World.drewN_drewN _ _ _⟩ | exact ⟨rfl, _, Eq.trans (World.drewN_drewN _ _ _) (congrArg (World.drewN _) (Nat.add_assoc _ _ _))⟩)) | (go_at_call 25; (with_reducible refine (transeptlaw04_num.calls t442 t469 _ A51.out).mono ?_); rintro e w' ⟨rfl, ⟨nd, rfl⟩⟩; (try first | exact ⟨rfl, _, World.drewN_drewN _ _ _⟩ | exact ⟨rfl, _, Eq.trans (World.drewN_drewN _ _ _) (congrArg (World.drewN _) (Nat.add_assoc _ _ _))⟩)) | (go_at_call 25; (with_reducible refine (transeptlaw04_num.calls t449 t470 _ A52.out).mono ?_); rintro e w' ⟨rfl, ⟨nd, rfl⟩⟩; (try first | exact ⟨rfl, _, World.drewN_drewN _ _ _⟩ | exact ⟨rfl, _, Eq.trans (World.drewN_drewN _ _ _) (congrArg (World.drewN _) (Nat.add_assoc _ _ _))⟩)) | (go_at_call 25; (with_reducible refine (transeptlaw04_num.calls t456 t471 _ A53.out).mono ?_); rintro e w' ⟨rfl, ⟨nd, rfl⟩⟩; (try first | exact ⟨rfl, _, World.drewN_drewN _ _ _⟩ | exact ⟨rfl, _, Eq.trans (World.drewN_drewN _ _ _) (congrArg (World.drewN _) (Nat.add_assoc _ _ _))⟩)) | (go_at_call 25; (with_reducible refine (transeptlaw04_num.calls t466 t472 _ A54.out).mono ?_); rintro e w' ⟨rfl, ⟨nd, rfl⟩⟩; (try first | exact ⟨rfl, _, World.drewN_drewN _ _ _⟩ | exact ⟨rfl, _, Eq.trans (World.drewN_drewN _ _ _) (congrArg (World.drewN _) (Nat.add_assoc _ _ _))⟩)))
         repeat (go_quiet (first | (go_at_call 25; (with_reducible refine (transeptlaw04_num.calls t434 t468 _ A50.out).mono ?_); rintro e w' ⟨rfl, ⟨nd, rfl⟩⟩; (try first | exact ⟨rfl, _, World.drewN_drewN _ _ _⟩ | exact ⟨rfl, _, Eq.trans (World.drewN_drewN _ _ _) (congrArg (World.drewN _) (Nat.add_assoc _ _ _))⟩)) | (go_at_call 25; (with_reducible refine (transeptlaw04_num.calls t442 t469 _ A51.out).mono ?_); rintro e w' ⟨rfl, ⟨nd, rfl⟩⟩; (try first | exact ⟨rfl, _, World.drewN_drewN _ _ _⟩ | exact ⟨rfl, _, Eq.trans (World.drewN_drewN _ _ _) (congrArg (World.drewN _) (Nat.add_assoc _ _ _))⟩)) | (go_at_call 25; (with_reducible refine (transeptlaw04_num.calls t449 t470 _ A52.out).mono ?_); rintro e w' ⟨rfl, ⟨nd, rfl⟩⟩; (try first | exact ⟨rfl, _, World.drewN_drewN _ _ _⟩ | exact ⟨rfl, _, Eq.trans (World.drewN_drewN _ _ _) (congrArg (World.drewN _) (Nat.add_assoc _ _ _))⟩)) | (go_at_call 25; (with_reducible refine (transeptlaw04_num.calls t456 t471 _ A53.out).mono ?_); rintro e w' ⟨rfl, ⟨nd, rfl⟩⟩; (try first | exact ⟨rfl, _, World.drewN_drewN _ _ _⟩ | exact ⟨rfl, _, Eq.trans (World.drewN_drewN _ _ _) (congrArg (World.drewN _) (Nat.add_assoc _ _ _))⟩)) | (go_at_call 25; (with_reducible refine (transeptlaw04_num.calls t466 t472 _ A54.out).mono ?_); rintro e w' ⟨rfl, ⟨nd, rfl⟩⟩; (try first | exact ⟨rfl, _, World.drewN_drewN _ _ _⟩ | exact ⟨rfl, _, Eq.trans (World.drewN_drewN _ _ _) (congrArg (World.drewN _) (Nat.add_assoc _ _ _))⟩))); try go_wp2_with (first | (go_at_call 25; (with_reducible refine (transeptlaw04_num.calls t434 t468 _ A50.out).mono ?_); rintro e w' ⟨rfl, ⟨nd, rfl⟩⟩; (try first | exact ⟨rfl, _, World.drewN_drewN _ _ _⟩ | exact ⟨rfl, _, Eq.trans (World.drewN_drewN _ _ _) (congrArg (World.drewN _) (Nat.add_assoc _ _ _))⟩)) | (go_at_call 25; (with_reducible refine (transeptlaw04_num.calls t442 t469 _ A51.out).mono ?_); rintro e w' ⟨rfl, ⟨nd, rfl⟩⟩; (try first | exact ⟨rfl, _, World.drewN_drewN _ _ _⟩ | exact ⟨rfl, _, Eq.trans (World.drewN_drewN _ _ _) (congrArg (World.drewN _) (Nat.add_assoc _ _ _))⟩)) | (go_at_call 25; (with_reducible refine (transeptlaw04_num.calls t449 t470 _ A52.out).mono ?_); rintro e w' ⟨rfl, ⟨nd, rfl⟩⟩; (try first | exact ⟨rfl, _, World.drewN_drewN _ _ _⟩ | exact ⟨rfl, _, Eq.trans (World.drewN_drewN _ _ _) (congrArg (World.drewN _) (Nat.add_assoc _ _ _))⟩)) | (go_at_call 25; (with_reducible refine (transeptlaw04_num.calls t456 t471 _ A53.out).mono ?_); rintro e w' ⟨rfl, ⟨nd, rfl⟩⟩; (try first | exact ⟨rfl, _, World.drewN_drewN _ _ _⟩ | exact ⟨rfl, _, Eq.trans (World.drewN_drewN _ _ _) (congrArg (World.drewN _) (Nat.add_assoc _ _ _))⟩)) | (go_at_call 25; (with_reducible refine (transeptlaw04_num.calls t466 t472 _ A54.out).mono ?_); rintro e w' ⟨rfl, ⟨nd, rfl⟩⟩; (try first | exact ⟨rfl, _, World.drewN_drewN _ _ _⟩ | exact ⟨rfl, _, Eq.trans (World.drewN_drewN _ _ _) (congrArg (World.drewN _) (Nat.add_assoc _ _ _))⟩))))
         go_meet
         case rel => exact ⟨_, (true), (by first | rfl | (simp; done) | (simp [*]; done)), H', ⟨by first | omega | exact Nat.le_refl _⟩, ⟨by (with_reducible repeat (first | apply Kd.S_alloc | apply Kd.S_drewN | apply Kd.S_drew)); exact Kd.S_mono (Kd.S_far (p := ⟨gb467, 1, none⟩) (Kd.S_far (p := ⟨gb467, 0, none⟩) (Kd.S_types HO452.out BK467.out (by decide)) (fun _ hk => hk.2) (.slice Ao46 t460.length co46)) (fun _ hk => hk.2) (.slice Ao49 t463.length co49)) (fun _ hk => hk.1.2)⟩, ⟨by (with_reducible repeat (first | apply Kd.S_alloc | apply Kd.S_drewN | apply Kd.S_drew)); exact Kd.S_mono (Kd.S_far (p := ⟨gb467, 1, none⟩) (Kd.S_far (p := ⟨gb467, 0, none⟩) (Kd.S_types HO455.out BK467.out (by decide)) (fun _ hk => hk.2) (.slice Ao46 t460.length co46)) (fun _ hk => hk.2) (.slice Ao49 t463.length co49)) (fun _ hk => hk.1.2)⟩, ⟨by (with_reducible repeat (first | apply Kd.S_alloc | apply Kd.S_drewN | apply Kd.S_drew)); exact Kd.S_mono (Kd.S_far (p := ⟨gb467, 1, none⟩) (Kd.S_far (p := ⟨gb467, 0, none⟩) (Kd.S_types HO462.out BK467.out (by decide)) (fun _ hk => hk.2) (.slice Ao46 t460.length co46)) (fun _ hk => hk.2) (.slice Ao49 t463.length co49)) (fun _ hk => hk.1.2)⟩, ⟨by (with_reducible repeat (first | apply Kd.S_alloc | apply Kd.S_drewN | apply Kd.S_drew)); exact Kd.S_mono (Kd.S_far (p := ⟨gb467, 1, none⟩) (Kd.S_far (p := ⟨gb467, 0, none⟩) (Kd.S_types HO465.out BK467.out (by decide)) (fun _ hk => hk.2) (.slice Ao46 t460.length co46)) (fun _ hk => hk.2) (.slice Ao49 t463.length co49)) (fun _ hk => hk.1.2)⟩, ⟨by (with_reducible repeat (first | refine blk_drewN ?_ _ | refine blk_drew ?_ | refine blk_alloc ?_ _)); refine blk_far ?_ NB435_467.out _; (with_reducible repeat (first | refine blk_drewN ?_ _ | refine blk_drew ?_ | refine blk_alloc ?_ _)); refine blk_far ?_ NB435_467.out _; (with_reducible repeat (first | refine blk_drewN ?_ _ | refine blk_drew ?_ | refine blk_alloc ?_ _)); exact BK435.out⟩, ⟨by (with_reducible repeat (first | refine blk_drewN ?_ _ | refine blk_drew ?_ | refine blk_alloc ?_ _)); refine blk_put (cs := #[.slice Ao46 t460.length co46, .slice none 0 0]) ?_ 1 _ rfl; (with_reducible repeat (first | refine blk_drewN ?_ _ | refine blk_drew ?_ | refine blk_alloc ?_ _)); refine blk_put (cs := #[.slice none 0 0, .slice none 0 0]) ?_ 0 _ rfl; (with_reducible repeat (first | refine blk_drewN ?_ _ | refine blk_drew ?_ | refine blk_alloc ?_ _)); exact BK467.out⟩, ⟨by repeat (first | (with_reducible first | exact HB.out | apply below_alloc | apply pw_below_drewN | apply below_drew1 | refine below_set ?_ GE435.out | refine below_set ?_ GE467.out) | exact HB.out)⟩⟩
       case rest =>
        clear HC20
        try clear c1
        try clear c2
        try clear p2
        try clear c3
        try clear c4
        try clear c5
        try clear p6
        try clear c7
        try clear c8
        try clear c8b0
        try clear c8b1
        try clear c10
        try clear c10b0
        try clear c10b1
        try clear c11
        try clear c11b0
        try clear c11b1
        try clear c13
        try clear c13b0
        try clear c13b1
        try clear c14
        try clear c14b0
        try clear c14b1
        try clear c47
        try clear c55
        try clear c55b0
        try clear c55b1
        try clear c56
        try clear c56b0
        try clear c56b1
        try clear c57
        try clear c59
        try clear hcz27_0
        try clear hcz27_1
        try clear hcz31_0
        try clear hcz31_1
        try clear hcz35_0
        try clear hcz35_1
        try clear hcz39_0
        try clear hcz39_1
        try clear hcz48_0
        try clear hcz48_1
        try clear hcz58_0
        try clear hcz58_1
        try clear hcz60_0
        try clear hcz60_1
        try clear hfz27_0
        try clear hfz27_1
        try clear hfz31_0
        try clear hfz31_1
        try clear hfz35_0
        try clear hfz35_1
        try clear hfz39_0
        try clear hfz39_1
        try clear hfz48_0
        try clear hfz48_1
        try clear hfz58_0
        try clear hfz58_1
        try clear hfz60_0
        try clear hfz60_1
        obtain ⟨kq, x104_19, rfl, HA, HJ19, HO_436000, HO_436001, HO_468000, HO_468001, BK435, BK467, HB⟩ := hcut
        cases kq with
        | zero => exact absurd HA.out (by simp [transeptlaw04_DiskTorn.j0])
        | succ kj19 =>
         have H := HA.out
         clear HA
         simp only [transeptlaw04_DiskTorn.j0] at H
         by_cases c61 : x104_19 = true
         ·
          subst c61
          have H1 : (none) = some r := by rw [if_pos rfl] at H; exact H
          clear H
          have H := H1
          clear H1
          exact absurd H (by simp)
         ·
          replace c61 := Bool.eq_false_iff.mpr c61
          subst c61
          have H1 : (transeptlaw04_DiskTorn.l0 kj19 (wrap64 (1 + (Int.tmod (wrap64 ((Int.tmod a0 20) + 20)) 20))) (Int.tmod (wrap64 ((Int.tmod a1 (wrap64 (1 + (Int.tmod (wrap64 ((Int.tmod a0 20) + 20)) 20)))) + (wrap64 (1 + (Int.tmod (wrap64 ((Int.tmod a0 20) + 20)) 20))))) (wrap64 (1 + (Int.tmod (wrap64 ((Int.tmod a0 20) + 20)) 20)))) yc9 yc12 (mx 0 (mn a4 64)) 0 t460 t463) = some r := by rw [if_neg (show ¬ (false = true) by decide)] at H; exact H
          clear H
          have H := H1
          clear H1
          obtain ⟨ji62, hji62⟩ : ∃ j_ : Int, (mn a4 64) = j_ := ⟨_, rfl⟩
          (try rw [hji62] at hji12_)
          replace H : (transeptlaw04_DiskTorn.l0 kj19 (wrap64 (1 + (Int.tmod (wrap64 ((Int.tmod a0 20) + 20)) 20))) (Int.tmod (wrap64 ((Int.tmod a1 (wrap64 (1 + (Int.tmod (wrap64 ((Int.tmod a0 20) + 20)) 20)))) + (wrap64 (1 + (Int.tmod (wrap64 ((Int.tmod a0 20) + 20)) 20))))) (wrap64 (1 + (Int.tmod (wrap64 ((Int.tmod a0 20) + 20)) 20)))) yc9 yc12 (mx 0 (ji62)) 0 t460 t463) = some r := by first | (rw [hji62] at H; exact H) | (simp only [hji62] at H ⊢; exact H)
          have hji62_ : (if 64 < a4 then 64 else a4) = ji62 := hji62
          obtain ⟨ji63, hji63⟩ : ∃ j_ : Int, (mx 0 (ji62)) = j_ := ⟨_, rfl⟩
          (try rw [hji63] at hji62_)
          replace H : (transeptlaw04_DiskTorn.l0 kj19 (wrap64 (1 + (Int.tmod (wrap64 ((Int.tmod a0 20) + 20)) 20))) (Int.tmod (wrap64 ((Int.tmod a1 (wrap64 (1 + (Int.tmod (wrap64 ((Int.tmod a0 20) + 20)) 20)))) + (wrap64 (1 + (Int.tmod (wrap64 ((Int.tmod a0 20) + 20)) 20))))) (wrap64 (1 + (Int.tmod (wrap64 ((Int.tmod a0 20) + 20)) 20)))) yc9 yc12 ji63 0 t460 t463) = some r := by first | (rw [hji63] at H; exact H) | (simp only [hji63] at H ⊢; exact H)
          have hji63_ : (if 0 < (ji62) then (ji62) else 0) = ji63 := hji63
          have H' := Aside0.mk H
          clear H
          go_wp2
          repeat (go_quiet (fail); try go_wp2)
          go_loopg [19] kj19 (fun kq v19 w' => ∃ (x19_2 : Int), v19 = .int .i64 x19_2 ∧ Aside0 (transeptlaw04_DiskTorn.l0 kq (wrap64 (1 + (Int.tmod (wrap64 ((Int.tmod a0 20) + 20)) 20))) (Int.tmod (wrap64 ((Int.tmod a1 (wrap64 (1 + (Int.tmod (wrap64 ((Int.tmod a0 20) + 20)) 20)))) + (wrap64 (1 + (Int.tmod (wrap64 ((Int.tmod a0 20) + 20)) 20))))) (wrap64 (1 + (Int.tmod (wrap64 ((Int.tmod a0 20) + 20)) 20)))) yc9 yc12 ji63 x19_2 t460 t463 = some r) ∧ Aside0 (kq ≤ kj19) ∧ Aside0 (Kd.S (Kd.slice 5 (Kd.int .u8)) 50 w' w.heap.size (fun k_ => some k_ ≠ ((.slice Ao46 t460.length co46) : Value).ownBlock) (.slice Ao38 t450.length co38) t450) ∧ Aside0 (Kd.S k61 61 w' w.heap.size (fun k_ => some k_ ≠ ((.slice Ao49 t463.length co49) : Value).ownBlock) (.slice Ao40 t453.length co40) t453) ∧ Aside0 (Kd.S (Kd.slice 5 (Kd.int .u8)) 50 w' w.heap.size (fun k_ => some k_ ≠ ((.slice Ao38 t450.length co38) : Value).ownBlock) (.slice Ao46 t460.length co46) t460) ∧ Aside0 (Kd.S k61 61 w' w.heap.size (fun k_ => some k_ ≠ ((.slice Ao40 t453.length co40) : Value).ownBlock) (.slice Ao49 t463.length co49) t463) ∧ Aside0 (w'.heap[gb435]? = some (.cells #[(.slice Ao38 t450.length co38), (.slice Ao40 t453.length co40)] 28 (0, 0))) ∧ Aside0 (w'.heap[gb467]? = some (.cells #[(.slice Ao46 t460.length co46), (.slice Ao49 t463.length co49)] 28 (0, 0))) ∧ Aside0 (Below w.heap.size w w'))
          case atStart => exact ⟨(0), (by first | rfl | (simp; done) | (simp [*]; done)), H', ⟨Nat.le_refl _⟩, ⟨by (with_reducible repeat (first | apply Kd.S_alloc | apply Kd.S_drewN | apply Kd.S_drew)); exact HO_436000.out⟩, ⟨by (with_reducible repeat (first | apply Kd.S_alloc | apply Kd.S_drewN | apply Kd.S_drew)); exact HO_436001.out⟩, ⟨by (with_reducible repeat (first | apply Kd.S_alloc | apply Kd.S_drewN | apply Kd.S_drew)); exact HO_468000.out⟩, ⟨by (with_reducible repeat (first | apply Kd.S_alloc | apply Kd.S_drewN | apply Kd.S_drew)); exact HO_468001.out⟩, ⟨by (with_reducible repeat (first | refine blk_drewN ?_ _ | refine blk_drew ?_ | refine blk_alloc ?_ _)); exact BK435.out⟩, ⟨by (with_reducible repeat (first | refine blk_drewN ?_ _ | refine blk_drew ?_ | refine blk_alloc ?_ _)); exact BK467.out⟩, ⟨by repeat (first | (with_reducible first | exact HB.out | apply below_alloc | apply pw_below_drewN | apply below_drew1 | refine below_set ?_ GE435.out | refine below_set ?_ GE467.out) | exact HB.out)⟩⟩
          case round =>
           clear H'
           try clear c1
           try clear c2
           try clear p2
           try clear c3
           try clear c4
           try clear c5
           try clear c6
           try clear p6
           try clear c7
           try clear c8
           try clear c8b0
           try clear c8b1
           try clear c10
           try clear c10b0
           try clear c10b1
           try clear c11
           try clear c11b0
           try clear c11b1
           try clear c13
           try clear c13b0
           try clear c13b1
           try clear c14
           try clear c14b0
           try clear c14b1
           try clear c47
           try clear c55
           try clear c55b0
           try clear c55b1
           try clear c56
           try clear c56b0
           try clear c56b1
           try clear c57
           try clear c59
           try clear c61
           try clear hcz27_0
           try clear hcz27_1
           try clear hcz31_0
           try clear hcz31_1
           try clear hcz35_0
           try clear hcz35_1
           try clear hcz39_0
           try clear hcz39_1
           try clear hcz48_0
           try clear hcz48_1
           try clear hcz58_0
           try clear hcz58_1
           try clear hcz60_0
           try clear hcz60_1
           try clear hfz27_0
           try clear hfz27_1
           try clear hfz31_0
           try clear hfz31_1
           try clear hfz35_0
           try clear hfz35_1
           try clear hfz39_0
           try clear hfz39_1
           try clear hfz48_0
           try clear hfz48_1
           try clear hfz58_0
           try clear hfz58_1
           try clear hfz60_0
           try clear hfz60_1
           try clear p2
           try clear p6
           obtain ⟨x19_2, rfl, HA, HK2, HO_436000, HO_436001, HO_468000, HO_468001, BK435, BK467, HB⟩ := hrel
           cases gk with
           | zero => exact absurd HA.out (by simp [transeptlaw04_DiskTorn.l0])
           | succ k2 =>
            have H := HA.out
            clear HA
            simp only [transeptlaw04_DiskTorn.l0] at H
            by_cases c64 : x19_2 < (wrap64 (1 + (Int.tmod (wrap64 ((Int.tmod a0 20) + 20)) 20)))
            ·
             rw [if_pos c64] at H
             have c64b0 : decide (x19_2 < (wrap64 (1 + (Int.tmod (wrap64 ((Int.tmod a0 20) + 20)) 20)))) = true := decide_eq_true c64
             clear c64
             have H' := Aside0.mk H
             clear H
             go_wp2
             repeat (go_quiet (fail); try go_wp2)
             go_loopg [20] k2 (fun kq v20 w' => ∃ (x20_3 : Int), v20 = .int .i64 x20_3 ∧ Aside0 (transeptlaw04_DiskTorn.l1 kq (wrap64 (1 + (Int.tmod (wrap64 ((Int.tmod a0 20) + 20)) 20))) (Int.tmod (wrap64 ((Int.tmod a1 (wrap64 (1 + (Int.tmod (wrap64 ((Int.tmod a0 20) + 20)) 20)))) + (wrap64 (1 + (Int.tmod (wrap64 ((Int.tmod a0 20) + 20)) 20))))) (wrap64 (1 + (Int.tmod (wrap64 ((Int.tmod a0 20) + 20)) 20)))) yc9 yc12 ji63 x19_2 x20_3 t460 t463 = some r) ∧ Aside0 (kq ≤ k2) ∧ Aside0 (Kd.S (Kd.slice 5 (Kd.int .u8)) 50 w' w.heap.size (fun k_ => some k_ ≠ ((.slice Ao46 t460.length co46) : Value).ownBlock) (.slice Ao38 t450.length co38) t450) ∧ Aside0 (Kd.S k61 61 w' w.heap.size (fun k_ => some k_ ≠ ((.slice Ao49 t463.length co49) : Value).ownBlock) (.slice Ao40 t453.length co40) t453) ∧ Aside0 (Kd.S (Kd.slice 5 (Kd.int .u8)) 50 w' w.heap.size (fun k_ => some k_ ≠ ((.slice Ao38 t450.length co38) : Value).ownBlock) (.slice Ao46 t460.length co46) t460) ∧ Aside0 (Kd.S k61 61 w' w.heap.size (fun k_ => some k_ ≠ ((.slice Ao40 t453.length co40) : Value).ownBlock) (.slice Ao49 t463.length co49) t463) ∧ Aside0 (w'.heap[gb435]? = some (.cells #[(.slice Ao38 t450.length co38), (.slice Ao40 t453.length co40)] 28 (0, 0))) ∧ Aside0 (w'.heap[gb467]? = some (.cells #[(.slice Ao46 t460.length co46), (.slice Ao49 t463.length co49)] 28 (0, 0))) ∧ Aside0 (Below w.heap.size w w'))
             case atStart => exact ⟨(0), (by first | rfl | (simp; done) | (simp [*]; done)), H', ⟨Nat.le_refl _⟩, ⟨by (with_reducible repeat (first | apply Kd.S_alloc | apply Kd.S_drewN | apply Kd.S_drew)); exact HO_436000.out⟩, ⟨by (with_reducible repeat (first | apply Kd.S_alloc | apply Kd.S_drewN | apply Kd.S_drew)); exact HO_436001.out⟩, ⟨by (with_reducible repeat (first | apply Kd.S_alloc | apply Kd.S_drewN | apply Kd.S_drew)); exact HO_468000.out⟩, ⟨by (with_reducible repeat (first | apply Kd.S_alloc | apply Kd.S_drewN | apply Kd.S_drew)); exact HO_468001.out⟩, ⟨by (with_reducible repeat (first | refine blk_drewN ?_ _ | refine blk_drew ?_ | refine blk_alloc ?_ _)); exact BK435.out⟩, ⟨by (with_reducible repeat (first | refine blk_drewN ?_ _ | refine blk_drew ?_ | refine blk_alloc ?_ _)); exact BK467.out⟩, ⟨by repeat (first | (with_reducible first | exact HB.out | apply below_alloc | apply pw_below_drewN | apply below_drew1 | refine below_set ?_ GE435.out | refine below_set ?_ GE467.out) | exact HB.out)⟩⟩
             case round =>
              clear H'
              try clear c1
              try clear c2
              try clear p2
              try clear c3
              try clear c4
              try clear c5
              try clear c6
              try clear p6
              try clear c7
              try clear c8
              try clear c8b0
              try clear c8b1
              try clear c10
              try clear c10b0
              try clear c10b1
              try clear c11
              try clear c11b0
              try clear c11b1
              try clear c13
              try clear c13b0
              try clear c13b1
              try clear c14
              try clear c14b0
              try clear c14b1
              try clear c47
              try clear c55
              try clear c55b0
              try clear c55b1
              try clear c56
              try clear c56b0
              try clear c56b1
              try clear c57
              try clear c59
              try clear c61
              try clear c64
              try clear c64b0
              try clear p64
              try clear hcz27_0
              try clear hcz27_1
              try clear hcz31_0
              try clear hcz31_1
              try clear hcz35_0
              try clear hcz35_1
              try clear hcz39_0
              try clear hcz39_1
              try clear hcz48_0
              try clear hcz48_1
              try clear hcz58_0
              try clear hcz58_1
              try clear hcz60_0
              try clear hcz60_1
              try clear hfz27_0
              try clear hfz27_1
              try clear hfz31_0
              try clear hfz31_1
              try clear hfz35_0
              try clear hfz35_1
              try clear hfz39_0
              try clear hfz39_1
              try clear hfz48_0
              try clear hfz48_1
              try clear hfz58_0
              try clear hfz58_1
              try clear hfz60_0
              try clear hfz60_1
              try clear p2
              try clear p6
              obtain ⟨x20_3, rfl, HA, HK3, HO_436000, HO_436001, HO_468000, HO_468001, BK435, BK467, HB⟩ := hrel
              cases gk with
              | zero => exact absurd HA.out (by simp [transeptlaw04_DiskTorn.l1])
              | succ k3 =>
               have H := HA.out
               clear HA
               simp only [transeptlaw04_DiskTorn.l1] at H
               by_cases c65 : x20_3 < 64
               ·
                rw [if_pos c65] at H
                have c65b0 : decide (x20_3 < 64) = true := decide_eq_true c65
                clear c65
                have HC66 := Aside0.mk H
                clear H
                go_upto_region 21 with (fail)
                repeat (go_quiet (fail); go_upto_region 21 with (fail))
                go_cut [130] (fun v130 wc => ∃ (kq : Nat) (x130_65 : Bool), v130 = .bool x130_65 ∧ Aside0 (transeptlaw04_DiskTorn.j3 kq (wrap64 (1 + (Int.tmod (wrap64 ((Int.tmod a0 20) + 20)) 20))) (Int.tmod (wrap64 ((Int.tmod a1 (wrap64 (1 + (Int.tmod (wrap64 ((Int.tmod a0 20) + 20)) 20)))) + (wrap64 (1 + (Int.tmod (wrap64 ((Int.tmod a0 20) + 20)) 20))))) (wrap64 (1 + (Int.tmod (wrap64 ((Int.tmod a0 20) + 20)) 20)))) yc9 yc12 ji63 x19_2 x20_3 0 x130_65 t460 t463 = some r) ∧ Aside0 (kq ≤ k3) ∧ Aside0 (Kd.S (Kd.slice 5 (Kd.int .u8)) 50 wc w.heap.size (fun k_ => some k_ ≠ ((.slice Ao46 t460.length co46) : Value).ownBlock) (.slice Ao38 t450.length co38) t450) ∧ Aside0 (Kd.S k61 61 wc w.heap.size (fun k_ => some k_ ≠ ((.slice Ao49 t463.length co49) : Value).ownBlock) (.slice Ao40 t453.length co40) t453) ∧ Aside0 (Kd.S (Kd.slice 5 (Kd.int .u8)) 50 wc w.heap.size (fun k_ => some k_ ≠ ((.slice Ao38 t450.length co38) : Value).ownBlock) (.slice Ao46 t460.length co46) t460) ∧ Aside0 (Kd.S k61 61 wc w.heap.size (fun k_ => some k_ ≠ ((.slice Ao40 t453.length co40) : Value).ownBlock) (.slice Ao49 t463.length co49) t463) ∧ Aside0 (wc.heap[gb435]? = some (.cells #[(.slice Ao38 t450.length co38), (.slice Ao40 t453.length co40)] 28 (0, 0))) ∧ Aside0 (wc.heap[gb467]? = some (.cells #[(.slice Ao46 t460.length co46), (.slice Ao49 t463.length co49)] 28 (0, 0))) ∧ Aside0 (Below w.heap.size w wc))
                case first =>
                 have H := HC66.out
                 clear HC66
                 by_cases c67 : x19_2 = (Int.tmod (wrap64 ((Int.tmod a1 (wrap64 (1 + (Int.tmod (wrap64 ((Int.tmod a0 20) + 20)) 20)))) + (wrap64 (1 + (Int.tmod (wrap64 ((Int.tmod a0 20) + 20)) 20))))) (wrap64 (1 + (Int.tmod (wrap64 ((Int.tmod a0 20) + 20)) 20))))
                 ·
                  rw [if_pos c67] at H
                  have c67b0 : (x19_2 == (Int.tmod (wrap64 ((Int.tmod a1 (wrap64 (1 + (Int.tmod (wrap64 ((Int.tmod a0 20) + 20)) 20)))) + (wrap64 (1 + (Int.tmod (wrap64 ((Int.tmod a0 20) + 20)) 20))))) (wrap64 (1 + (Int.tmod (wrap64 ((Int.tmod a0 20) + 20)) 20))))) = true := beq_iff_eq.mpr c67
                  have c67b1 : (x19_2 != (Int.tmod (wrap64 ((Int.tmod a1 (wrap64 (1 + (Int.tmod (wrap64 ((Int.tmod a0 20) + 20)) 20)))) + (wrap64 (1 + (Int.tmod (wrap64 ((Int.tmod a0 20) + 20)) 20))))) (wrap64 (1 + (Int.tmod (wrap64 ((Int.tmod a0 20) + 20)) 20))))) = false := bne_eq_false_iff_eq.mpr c67
                  clear c67
                  (first | rw [c67b0] | (simp only [i64_w, i32_w]; rw [c67b0]) | skip)
                  by_cases c68 : x20_3 < ji63
                  ·
                   rw [if_pos c68] at H
                   have c68b0 : decide (x20_3 < ji63) = true := decide_eq_true c68
                   clear c68
                   have H' := Aside0.mk H
                   clear H
                   go_wp2
                   repeat (go_quiet (fail); try go_wp2)
                   go_meet
                   case rel => exact ⟨_, (decide (x20_3 < (yc12.length : Int))), (by first | rfl | (simp; done) | (simp only [← hji12] <;> (first | rfl | simp)) | (simp [*]; done)), H', ⟨by have := HJ19.out; have := HK2.out; have := HK3.out; first | omega | exact Nat.le_refl _⟩, ⟨by (with_reducible repeat (first | apply Kd.S_alloc | apply Kd.S_drewN | apply Kd.S_drew)); exact HO_436000.out⟩, ⟨by (with_reducible repeat (first | apply Kd.S_alloc | apply Kd.S_drewN | apply Kd.S_drew)); exact HO_436001.out⟩, ⟨by (with_reducible repeat (first | apply Kd.S_alloc | apply Kd.S_drewN | apply Kd.S_drew)); exact HO_468000.out⟩, ⟨by (with_reducible repeat (first | apply Kd.S_alloc | apply Kd.S_drewN | apply Kd.S_drew)); exact HO_468001.out⟩, ⟨by (with_reducible repeat (first | refine blk_drewN ?_ _ | refine blk_drew ?_ | refine blk_alloc ?_ _)); exact BK435.out⟩, ⟨by (with_reducible repeat (first | refine blk_drewN ?_ _ | refine blk_drew ?_ | refine blk_alloc ?_ _)); exact BK467.out⟩, ⟨by repeat (first | (with_reducible first | exact HB.out | apply below_alloc | apply pw_below_drewN | apply below_drew1 | refine below_set ?_ GE435.out | refine below_set ?_ GE467.out) | exact HB.out)⟩⟩
                  ·
                   rw [if_neg c68] at H
                   have c68b0 : decide (x20_3 < ji63) = false := decide_eq_false c68
                   clear c68
                   have H' := Aside0.mk H
                   clear H
                   go_wp2
                   repeat (go_quiet (fail); try go_wp2)
                   go_meet
                   case rel => exact ⟨_, (false), (by first | rfl | (simp; done) | (simp [*]; done)), H', ⟨by have := HJ19.out; have := HK2.out; have := HK3.out; first | omega | exact Nat.le_refl _⟩, ⟨by (with_reducible repeat (first | apply Kd.S_alloc | apply Kd.S_drewN | apply Kd.S_drew)); exact HO_436000.out⟩, ⟨by (with_reducible repeat (first | apply Kd.S_alloc | apply Kd.S_drewN | apply Kd.S_drew)); exact HO_436001.out⟩, ⟨by (with_reducible repeat (first | apply Kd.S_alloc | apply Kd.S_drewN | apply Kd.S_drew)); exact HO_468000.out⟩, ⟨by (with_reducible repeat (first | apply Kd.S_alloc | apply Kd.S_drewN | apply Kd.S_drew)); exact HO_468001.out⟩, ⟨by (with_reducible repeat (first | refine blk_drewN ?_ _ | refine blk_drew ?_ | refine blk_alloc ?_ _)); exact BK435.out⟩, ⟨by (with_reducible repeat (first | refine blk_drewN ?_ _ | refine blk_drew ?_ | refine blk_alloc ?_ _)); exact BK467.out⟩, ⟨by repeat (first | (with_reducible first | exact HB.out | apply below_alloc | apply pw_below_drewN | apply below_drew1 | refine below_set ?_ GE435.out | refine below_set ?_ GE467.out) | exact HB.out)⟩⟩
                 ·
                  rw [if_neg c67] at H
                  have c67b0 : (x19_2 == (Int.tmod (wrap64 ((Int.tmod a1 (wrap64 (1 + (Int.tmod (wrap64 ((Int.tmod a0 20) + 20)) 20)))) + (wrap64 (1 + (Int.tmod (wrap64 ((Int.tmod a0 20) + 20)) 20))))) (wrap64 (1 + (Int.tmod (wrap64 ((Int.tmod a0 20) + 20)) 20))))) = false := beq_eq_false_iff_ne.mpr c67
                  have c67b1 : (x19_2 != (Int.tmod (wrap64 ((Int.tmod a1 (wrap64 (1 + (Int.tmod (wrap64 ((Int.tmod a0 20) + 20)) 20)))) + (wrap64 (1 + (Int.tmod (wrap64 ((Int.tmod a0 20) + 20)) 20))))) (wrap64 (1 + (Int.tmod (wrap64 ((Int.tmod a0 20) + 20)) 20))))) = true := bne_iff_ne.mpr c67
                  (first | rw [c67b0] | (simp only [i64_w, i32_w]; rw [c67b0]) | skip)
                  have H' := Aside0.mk H
                  clear H
                  go_wp2
                  repeat (go_quiet (fail); try go_wp2)
                  go_meet
                  case rel => exact ⟨_, (false), (by first | rfl | (simp; done) | (simp [*]; done)), H', ⟨by have := HJ19.out; have := HK2.out; have := HK3.out; first | omega | exact Nat.le_refl _⟩, ⟨by (with_reducible repeat (first | apply Kd.S_alloc | apply Kd.S_drewN | apply Kd.S_drew)); exact HO_436000.out⟩, ⟨by (with_reducible repeat (first | apply Kd.S_alloc | apply Kd.S_drewN | apply Kd.S_drew)); exact HO_436001.out⟩, ⟨by (with_reducible repeat (first | apply Kd.S_alloc | apply Kd.S_drewN | apply Kd.S_drew)); exact HO_468000.out⟩, ⟨by (with_reducible repeat (first | apply Kd.S_alloc | apply Kd.S_drewN | apply Kd.S_drew)); exact HO_468001.out⟩, ⟨by (with_reducible repeat (first | refine blk_drewN ?_ _ | refine blk_drew ?_ | refine blk_alloc ?_ _)); exact BK435.out⟩, ⟨by (with_reducible repeat (first | refine blk_drewN ?_ _ | refine blk_drew ?_ | refine blk_alloc ?_ _)); exact BK467.out⟩, ⟨by repeat (first | (with_reducible first | exact HB.out | apply below_alloc | apply pw_below_drewN | apply below_drew1 | refine below_set ?_ GE435.out | refine below_set ?_ GE467.out) | exact HB.out)⟩⟩
                case rest =>
                 clear HC66
                 try clear c1
                 try clear c2
                 try clear p2
                 try clear c3
                 try clear c4
                 try clear c5
                 try clear c6
                 try clear p6
                 try clear c7
                 try clear c8
                 try clear c8b0
                 try clear c8b1
                 try clear c10
                 try clear c10b0
                 try clear c10b1
                 try clear c11
                 try clear c11b0
                 try clear c11b1
                 try clear c13
                 try clear c13b0
                 try clear c13b1
                 try clear c14
                 try clear c14b0
                 try clear c14b1
                 try clear c47
                 try clear c55
                 try clear c55b0
                 try clear c55b1
                 try clear c56
                 try clear c56b0
                 try clear c56b1
                 try clear c57
                 try clear c59
                 try clear c61
                 try clear c64
                 try clear c64b0
                 try clear p64
                 try clear c65
                 try clear c65b0
                 try clear c67
                 try clear c67b0
                 try clear c67b1
                 try clear c68
                 try clear c68b0
                 try clear hcz27_0
                 try clear hcz27_1
                 try clear hcz31_0
                 try clear hcz31_1
                 try clear hcz35_0
                 try clear hcz35_1
                 try clear hcz39_0
                 try clear hcz39_1
                 try clear hcz48_0
                 try clear hcz48_1
                 try clear hcz58_0
                 try clear hcz58_1
                 try clear hcz60_0
                 try clear hcz60_1
                 try clear hfz27_0
                 try clear hfz27_1
                 try clear hfz31_0
                 try clear hfz31_1
                 try clear hfz35_0
                 try clear hfz35_1
                 try clear hfz39_0
                 try clear hfz39_1
                 try clear hfz48_0
                 try clear hfz48_1
                 try clear hfz58_0
                 try clear hfz58_1
                 try clear hfz60_0
                 try clear hfz60_1
                 try clear p2
                 try clear p6
                 try clear p64
                 obtain ⟨kq, x130_65, rfl, HA, HJ65, HO_436000, HO_436001, HO_468000, HO_468001, BK435, BK467, HB⟩ := hcut
                 cases kq with
                 | zero => exact absurd HA.out (by simp [transeptlaw04_DiskTorn.j3])
                 | succ kj65 =>
                  have H := HA.out
                  clear HA
                  simp only [transeptlaw04_DiskTorn.j3] at H
                  have HC69 := Aside0.mk H
                  clear H
                  go_upto_if 130 with (fail)
                  repeat (go_quiet (fail); go_upto_if 130 with (fail))
                  go_cut [21] (fun v21 wc => ∃ (kq : Nat) (x21_68 : Int), v21 = .int .u8 x21_68 ∧ Aside0 (transeptlaw04_DiskTorn.j4 kq (wrap64 (1 + (Int.tmod (wrap64 ((Int.tmod a0 20) + 20)) 20))) (Int.tmod (wrap64 ((Int.tmod a1 (wrap64 (1 + (Int.tmod (wrap64 ((Int.tmod a0 20) + 20)) 20)))) + (wrap64 (1 + (Int.tmod (wrap64 ((Int.tmod a0 20) + 20)) 20))))) (wrap64 (1 + (Int.tmod (wrap64 ((Int.tmod a0 20) + 20)) 20)))) yc9 yc12 ji63 x19_2 x20_3 x21_68 t460 t463 = some r) ∧ Aside0 (kq ≤ kj65) ∧ Aside0 (Kd.S (Kd.slice 5 (Kd.int .u8)) 50 wc w.heap.size (fun k_ => some k_ ≠ ((.slice Ao46 t460.length co46) : Value).ownBlock) (.slice Ao38 t450.length co38) t450) ∧ Aside0 (Kd.S k61 61 wc w.heap.size (fun k_ => some k_ ≠ ((.slice Ao49 t463.length co49) : Value).ownBlock) (.slice Ao40 t453.length co40) t453) ∧ Aside0 (Kd.S (Kd.slice 5 (Kd.int .u8)) 50 wc w.heap.size (fun k_ => some k_ ≠ ((.slice Ao38 t450.length co38) : Value).ownBlock) (.slice Ao46 t460.length co46) t460) ∧ Aside0 (Kd.S k61 61 wc w.heap.size (fun k_ => some k_ ≠ ((.slice Ao40 t453.length co40) : Value).ownBlock) (.slice Ao49 t463.length co49) t463) ∧ Aside0 (wc.heap[gb435]? = some (.cells #[(.slice Ao38 t450.length co38), (.slice Ao40 t453.length co40)] 28 (0, 0))) ∧ Aside0 (wc.heap[gb467]? = some (.cells #[(.slice Ao46 t460.length co46), (.slice Ao49 t463.length co49)] 28 (0, 0))) ∧ Aside0 (Below w.heap.size w wc))
                  case first =>
                   have H := HC69.out
                   clear HC69
                   by_cases c70 : x130_65 = true
                   ·
                    subst c70
                    have H1 : (if 0 ≤ x20_3 then (if x20_3 < (yc12.length : Int) then (transeptlaw04_DiskTorn.j4 kj65 (wrap64 (1 + (Int.tmod (wrap64 ((Int.tmod a0 20) + 20)) 20))) (Int.tmod (wrap64 ((Int.tmod a1 (wrap64 (1 + (Int.tmod (wrap64 ((Int.tmod a0 20) + 20)) 20)))) + (wrap64 (1 + (Int.tmod (wrap64 ((Int.tmod a0 20) + 20)) 20))))) (wrap64 (1 + (Int.tmod (wrap64 ((Int.tmod a0 20) + 20)) 20)))) yc9 yc12 ji63 x19_2 x20_3 (rd yc12 x20_3) t460 t463) else (none)) else (none)) = some r := by rw [if_pos rfl] at H; exact H
                    clear H
                    have H := H1
                    clear H1
                    by_cases c71 : 0 ≤ x20_3
                    ·
                     rw [if_pos c71] at H
                     have c71b0 : decide (0 ≤ x20_3) = true := decide_eq_true c71
                     clear c71
                     (first | rw [c71b0] | (simp only [i64_w, i32_w]; rw [c71b0]) | skip)
                     by_cases c72 : x20_3 < (yc12.length : Int)
                     ·
                      rw [if_pos c72] at H
                      have c72b0 : decide (x20_3 < (yc12.length : Int)) = true := decide_eq_true c72
                      clear c72
                      have H' := Aside0.mk H
                      clear H
                      have p473 : 0 ≤ (x20_3 : Int) := of_decide_eq_true (by first | (with_reducible assumption) | assumption)
                      have q473 : x20_3 < (yc12.length : Int) := of_decide_eq_true (by first | (with_reducible assumption) | assumption)
                      obtain ⟨ad473, e473, hx473_0⟩ := Kd.at_int HR427.out x20_3 p473 q473
                      cases e473
                      replace hx473_0 := (HB.out.cell (World.block_lt_of_cell? w _ hx473_0)).trans hx473_0
                      replace p473 := eq_true p473
                      replace q473 := eq_true q473
                      go_wp2
                      repeat (go_quiet (fail); try go_wp2)
                      go_meet
                      case rel => exact ⟨_, (rd yc12 x20_3), (by first | rfl | (simp; done) | (simp only [← hji12] <;> (first | rfl | simp)) | (simp [*]; done)), H', ⟨by have := HJ19.out; have := HK2.out; have := HK3.out; have := HJ65.out; first | omega | exact Nat.le_refl _⟩, ⟨by (with_reducible repeat (first | apply Kd.S_alloc | apply Kd.S_drewN | apply Kd.S_drew)); exact HO_436000.out⟩, ⟨by (with_reducible repeat (first | apply Kd.S_alloc | apply Kd.S_drewN | apply Kd.S_drew)); exact HO_436001.out⟩, ⟨by (with_reducible repeat (first | apply Kd.S_alloc | apply Kd.S_drewN | apply Kd.S_drew)); exact HO_468000.out⟩, ⟨by (with_reducible repeat (first | apply Kd.S_alloc | apply Kd.S_drewN | apply Kd.S_drew)); exact HO_468001.out⟩, ⟨by (with_reducible repeat (first | refine blk_drewN ?_ _ | refine blk_drew ?_ | refine blk_alloc ?_ _)); exact BK435.out⟩, ⟨by (with_reducible repeat (first | refine blk_drewN ?_ _ | refine blk_drew ?_ | refine blk_alloc ?_ _)); exact BK467.out⟩, ⟨by repeat (first | (with_reducible first | exact HB.out | apply below_alloc | apply pw_below_drewN | apply below_drew1 | refine below_set ?_ GE435.out | refine below_set ?_ GE467.out) | exact HB.out)⟩⟩
                     ·
                      rw [if_neg c72] at H
                      exact absurd H (by simp)
                    ·
                     rw [if_neg c71] at H
                     exact absurd H (by simp)
                   ·
                    replace c70 := Bool.eq_false_iff.mpr c70
                    subst c70
                    have H1 : (transeptlaw04_DiskTorn.j4 kj65 (wrap64 (1 + (Int.tmod (wrap64 ((Int.tmod a0 20) + 20)) 20))) (Int.tmod (wrap64 ((Int.tmod a1 (wrap64 (1 + (Int.tmod (wrap64 ((Int.tmod a0 20) + 20)) 20)))) + (wrap64 (1 + (Int.tmod (wrap64 ((Int.tmod a0 20) + 20)) 20))))) (wrap64 (1 + (Int.tmod (wrap64 ((Int.tmod a0 20) + 20)) 20)))) yc9 yc12 ji63 x19_2 x20_3 0 t460 t463) = some r := by rw [if_neg (show ¬ (false = true) by decide)] at H; exact H
                    clear H
                    have H := H1
                    clear H1
                    have H' := Aside0.mk H
                    clear H
                    go_wp2
                    repeat (go_quiet (fail); try go_wp2)
                    go_meet
                    case rel => exact ⟨_, (0), (by first | rfl | (simp; done) | (simp [*]; done)), H', ⟨by have := HJ19.out; have := HK2.out; have := HK3.out; have := HJ65.out; first | omega | exact Nat.le_refl _⟩, ⟨by (with_reducible repeat (first | apply Kd.S_alloc | apply Kd.S_drewN | apply Kd.S_drew)); exact HO_436000.out⟩, ⟨by (with_reducible repeat (first | apply Kd.S_alloc | apply Kd.S_drewN | apply Kd.S_drew)); exact HO_436001.out⟩, ⟨by (with_reducible repeat (first | apply Kd.S_alloc | apply Kd.S_drewN | apply Kd.S_drew)); exact HO_468000.out⟩, ⟨by (with_reducible repeat (first | apply Kd.S_alloc | apply Kd.S_drewN | apply Kd.S_drew)); exact HO_468001.out⟩, ⟨by (with_reducible repeat (first | refine blk_drewN ?_ _ | refine blk_drew ?_ | refine blk_alloc ?_ _)); exact BK435.out⟩, ⟨by (with_reducible repeat (first | refine blk_drewN ?_ _ | refine blk_drew ?_ | refine blk_alloc ?_ _)); exact BK467.out⟩, ⟨by repeat (first | (with_reducible first | exact HB.out | apply below_alloc | apply pw_below_drewN | apply below_drew1 | refine below_set ?_ GE435.out | refine below_set ?_ GE467.out) | exact HB.out)⟩⟩
                  case rest =>
                   clear HC69
                   try clear c1
                   try clear c2
                   try clear p2
                   try clear c3
                   try clear c4
                   try clear p4
                   try clear q4
                   try clear hx4
                   try clear c5
                   try clear c6
                   try clear p6
                   try clear c7
                   try clear c8
                   try clear c8b0
                   try clear c8b1
                   try clear c10
                   try clear c10b0
                   try clear c10b1
                   try clear c11
                   try clear c11b0
                   try clear c11b1
                   try clear c13
                   try clear c13b0
                   try clear c13b1
                   try clear c14
                   try clear c14b0
                   try clear c14b1
                   try clear c47
                   try clear p47
                   try clear q47
                   try clear hx47
                   try clear c55
                   try clear c55b0
                   try clear c55b1
                   try clear c56
                   try clear c56b0
                   try clear c56b1
                   try clear c57
                   try clear c59
                   try clear c61
                   try clear c64
                   try clear c64b0
                   try clear p64
                   try clear c65
                   try clear c65b0
                   try clear c67
                   try clear c67b0
                   try clear c67b1
                   try clear c68
                   try clear c68b0
                   try clear c70
                   try clear c71
                   try clear c71b0
                   try clear c72
                   try clear c72b0
                   try clear hcz27_0
                   try clear hcz27_1
                   try clear hcz31_0
                   try clear hcz31_1
                   try clear hcz35_0
                   try clear hcz35_1
                   try clear hcz39_0
                   try clear hcz39_1
                   try clear hcz48_0
                   try clear hcz48_1
                   try clear hcz58_0
                   try clear hcz58_1
                   try clear hcz60_0
                   try clear hcz60_1
                   try clear hfz27_0
                   try clear hfz27_1
                   try clear hfz31_0
                   try clear hfz31_1
                   try clear hfz35_0
                   try clear hfz35_1
                   try clear hfz39_0
                   try clear hfz39_1
                   try clear hfz48_0
                   try clear hfz48_1
                   try clear hfz58_0
                   try clear hfz58_1
                   try clear hfz60_0
                   try clear hfz60_1
                   try clear hx473_0
                   try clear p2
                   try clear p473
                   try clear p6
                   try clear p64
                   try clear q473
                   obtain ⟨kq, x21_68, rfl, HA, HJ68, HO_436000, HO_436001, HO_468000, HO_468001, BK435, BK467, HB⟩ := hcut
                   cases kq with
                   | zero => exact absurd HA.out (by simp [transeptlaw04_DiskTorn.j4])
                   | succ kj68 =>
                    have H := HA.out
                    clear HA
                    simp only [transeptlaw04_DiskTorn.j4] at H
                    have HC73 := Aside0.mk H
                    clear H
                    go_upto_region 23 with (fail)
                    repeat (go_quiet (fail); go_upto_region 23 with (fail))
                    go_cut [148] (fun v148 wc => ∃ (kq : Nat) (x148_72 : Bool), v148 = .bool x148_72 ∧ Aside0 (transeptlaw04_DiskTorn.j5 kq (wrap64 (1 + (Int.tmod (wrap64 ((Int.tmod a0 20) + 20)) 20))) (Int.tmod (wrap64 ((Int.tmod a1 (wrap64 (1 + (Int.tmod (wrap64 ((Int.tmod a0 20) + 20)) 20)))) + (wrap64 (1 + (Int.tmod (wrap64 ((Int.tmod a0 20) + 20)) 20))))) (wrap64 (1 + (Int.tmod (wrap64 ((Int.tmod a0 20) + 20)) 20)))) yc9 yc12 ji63 x19_2 x20_3 x21_68 x148_72 t460 t463 = some r) ∧ Aside0 (kq ≤ kj68) ∧ Aside0 (Kd.S (Kd.slice 5 (Kd.int .u8)) 50 wc w.heap.size (fun k_ => some k_ ≠ ((.slice Ao46 t460.length co46) : Value).ownBlock) (.slice Ao38 t450.length co38) t450) ∧ Aside0 (Kd.S k61 61 wc w.heap.size (fun k_ => some k_ ≠ ((.slice Ao49 t463.length co49) : Value).ownBlock) (.slice Ao40 t453.length co40) t453) ∧ Aside0 (Kd.S (Kd.slice 5 (Kd.int .u8)) 50 wc w.heap.size (fun k_ => some k_ ≠ ((.slice Ao38 t450.length co38) : Value).ownBlock) (.slice Ao46 t460.length co46) t460) ∧ Aside0 (Kd.S k61 61 wc w.heap.size (fun k_ => some k_ ≠ ((.slice Ao40 t453.length co40) : Value).ownBlock) (.slice Ao49 t463.length co49) t463) ∧ Aside0 (wc.heap[gb435]? = some (.cells #[(.slice Ao38 t450.length co38), (.slice Ao40 t453.length co40)] 28 (0, 0))) ∧ Aside0 (wc.heap[gb467]? = some (.cells #[(.slice Ao46 t460.length co46), (.slice Ao49 t463.length co49)] 28 (0, 0))) ∧ Aside0 (Below w.heap.size w wc))
                    case first =>
                     have H := HC73.out
                     clear HC73
                     by_cases c74 : x19_2 = (Int.tmod (wrap64 ((Int.tmod a1 (wrap64 (1 + (Int.tmod (wrap64 ((Int.tmod a0 20) + 20)) 20)))) + (wrap64 (1 + (Int.tmod (wrap64 ((Int.tmod a0 20) + 20)) 20))))) (wrap64 (1 + (Int.tmod (wrap64 ((Int.tmod a0 20) + 20)) 20))))
                     ·
                      rw [if_pos c74] at H
                      have c74b0 : (x19_2 == (Int.tmod (wrap64 ((Int.tmod a1 (wrap64 (1 + (Int.tmod (wrap64 ((Int.tmod a0 20) + 20)) 20)))) + (wrap64 (1 + (Int.tmod (wrap64 ((Int.tmod a0 20) + 20)) 20))))) (wrap64 (1 + (Int.tmod (wrap64 ((Int.tmod a0 20) + 20)) 20))))) = true := beq_iff_eq.mpr c74
                      have c74b1 : (x19_2 != (Int.tmod (wrap64 ((Int.tmod a1 (wrap64 (1 + (Int.tmod (wrap64 ((Int.tmod a0 20) + 20)) 20)))) + (wrap64 (1 + (Int.tmod (wrap64 ((Int.tmod a0 20) + 20)) 20))))) (wrap64 (1 + (Int.tmod (wrap64 ((Int.tmod a0 20) + 20)) 20))))) = false := bne_eq_false_iff_eq.mpr c74
                      clear c74
                      (first | rw [c74b0] | (simp only [i64_w, i32_w]; rw [c74b0]) | skip)
                      by_cases c75 : x20_3 ≥ ji63
                      ·
                       rw [if_pos c75] at H
                       have c75b0 : decide (ji63 ≤ x20_3) = true := decide_eq_true c75
                       clear c75
                       have H' := Aside0.mk H
                       clear H
                       go_wp2
                       repeat (go_quiet (fail); try go_wp2)
                       go_meet
                       case rel => exact ⟨_, (decide (x20_3 < (yc9.length : Int))), (by first | rfl | (simp; done) | (simp only [← hji9] <;> (first | rfl | simp)) | (simp [*]; done)), H', ⟨by have := HJ19.out; have := HK2.out; have := HK3.out; have := HJ65.out; have := HJ68.out; first | omega | exact Nat.le_refl _⟩, ⟨by (with_reducible repeat (first | apply Kd.S_alloc | apply Kd.S_drewN | apply Kd.S_drew)); exact HO_436000.out⟩, ⟨by (with_reducible repeat (first | apply Kd.S_alloc | apply Kd.S_drewN | apply Kd.S_drew)); exact HO_436001.out⟩, ⟨by (with_reducible repeat (first | apply Kd.S_alloc | apply Kd.S_drewN | apply Kd.S_drew)); exact HO_468000.out⟩, ⟨by (with_reducible repeat (first | apply Kd.S_alloc | apply Kd.S_drewN | apply Kd.S_drew)); exact HO_468001.out⟩, ⟨by (with_reducible repeat (first | refine blk_drewN ?_ _ | refine blk_drew ?_ | refine blk_alloc ?_ _)); exact BK435.out⟩, ⟨by (with_reducible repeat (first | refine blk_drewN ?_ _ | refine blk_drew ?_ | refine blk_alloc ?_ _)); exact BK467.out⟩, ⟨by repeat (first | (with_reducible first | exact HB.out | apply below_alloc | apply pw_below_drewN | apply below_drew1 | refine below_set ?_ GE435.out | refine below_set ?_ GE467.out) | exact HB.out)⟩⟩
                      ·
                       rw [if_neg c75] at H
                       have c75b0 : decide (ji63 ≤ x20_3) = false := decide_eq_false c75
                       clear c75
                       have H' := Aside0.mk H
                       clear H
                       go_wp2
                       repeat (go_quiet (fail); try go_wp2)
                       go_meet
                       case rel => exact ⟨_, (false), (by first | rfl | (simp; done) | (simp [*]; done)), H', ⟨by have := HJ19.out; have := HK2.out; have := HK3.out; have := HJ65.out; have := HJ68.out; first | omega | exact Nat.le_refl _⟩, ⟨by (with_reducible repeat (first | apply Kd.S_alloc | apply Kd.S_drewN | apply Kd.S_drew)); exact HO_436000.out⟩, ⟨by (with_reducible repeat (first | apply Kd.S_alloc | apply Kd.S_drewN | apply Kd.S_drew)); exact HO_436001.out⟩, ⟨by (with_reducible repeat (first | apply Kd.S_alloc | apply Kd.S_drewN | apply Kd.S_drew)); exact HO_468000.out⟩, ⟨by (with_reducible repeat (first | apply Kd.S_alloc | apply Kd.S_drewN | apply Kd.S_drew)); exact HO_468001.out⟩, ⟨by (with_reducible repeat (first | refine blk_drewN ?_ _ | refine blk_drew ?_ | refine blk_alloc ?_ _)); exact BK435.out⟩, ⟨by (with_reducible repeat (first | refine blk_drewN ?_ _ | refine blk_drew ?_ | refine blk_alloc ?_ _)); exact BK467.out⟩, ⟨by repeat (first | (with_reducible first | exact HB.out | apply below_alloc | apply pw_below_drewN | apply below_drew1 | refine below_set ?_ GE435.out | refine below_set ?_ GE467.out) | exact HB.out)⟩⟩
                     ·
                      rw [if_neg c74] at H
                      have c74b0 : (x19_2 == (Int.tmod (wrap64 ((Int.tmod a1 (wrap64 (1 + (Int.tmod (wrap64 ((Int.tmod a0 20) + 20)) 20)))) + (wrap64 (1 + (Int.tmod (wrap64 ((Int.tmod a0 20) + 20)) 20))))) (wrap64 (1 + (Int.tmod (wrap64 ((Int.tmod a0 20) + 20)) 20))))) = false := beq_eq_false_iff_ne.mpr c74
                      have c74b1 : (x19_2 != (Int.tmod (wrap64 ((Int.tmod a1 (wrap64 (1 + (Int.tmod (wrap64 ((Int.tmod a0 20) + 20)) 20)))) + (wrap64 (1 + (Int.tmod (wrap64 ((Int.tmod a0 20) + 20)) 20))))) (wrap64 (1 + (Int.tmod (wrap64 ((Int.tmod a0 20) + 20)) 20))))) = true := bne_iff_ne.mpr c74
                      (first | rw [c74b0] | (simp only [i64_w, i32_w]; rw [c74b0]) | skip)
                      have H' := Aside0.mk H
                      clear H
                      go_wp2
                      repeat (go_quiet (fail); try go_wp2)
                      go_meet
                      case rel => exact ⟨_, (false), (by first | rfl | (simp; done) | (simp [*]; done)), H', ⟨by have := HJ19.out; have := HK2.out; have := HK3.out; have := HJ65.out; have := HJ68.out; first | omega | exact Nat.le_refl _⟩, ⟨by (with_reducible repeat (first | apply Kd.S_alloc | apply Kd.S_drewN | apply Kd.S_drew)); exact HO_436000.out⟩, ⟨by (with_reducible repeat (first | apply Kd.S_alloc | apply Kd.S_drewN | apply Kd.S_drew)); exact HO_436001.out⟩, ⟨by (with_reducible repeat (first | apply Kd.S_alloc | apply Kd.S_drewN | apply Kd.S_drew)); exact HO_468000.out⟩, ⟨by (with_reducible repeat (first | apply Kd.S_alloc | apply Kd.S_drewN | apply Kd.S_drew)); exact HO_468001.out⟩, ⟨by (with_reducible repeat (first | refine blk_drewN ?_ _ | refine blk_drew ?_ | refine blk_alloc ?_ _)); exact BK435.out⟩, ⟨by (with_reducible repeat (first | refine blk_drewN ?_ _ | refine blk_drew ?_ | refine blk_alloc ?_ _)); exact BK467.out⟩, ⟨by repeat (first | (with_reducible first | exact HB.out | apply below_alloc | apply pw_below_drewN | apply below_drew1 | refine below_set ?_ GE435.out | refine below_set ?_ GE467.out) | exact HB.out)⟩⟩
                    case rest =>
                     clear HC73
                     try clear c1
                     try clear c2
                     try clear p2
                     try clear c3
                     try clear c4
                     try clear p4
                     try clear q4
                     try clear hx4
                     try clear c5
                     try clear c6
                     try clear p6
                     try clear c7
                     try clear c8
                     try clear c8b0
                     try clear c8b1
                     try clear c10
                     try clear c10b0
                     try clear c10b1
                     try clear c11
                     try clear c11b0
                     try clear c11b1
                     try clear c13
                     try clear c13b0
                     try clear c13b1
                     try clear c14
                     try clear c14b0
                     try clear c14b1
                     try clear c47
                     try clear p47
                     try clear q47
                     try clear hx47
                     try clear c55
                     try clear c55b0
                     try clear c55b1
                     try clear c56
                     try clear c56b0
                     try clear c56b1
                     try clear c57
                     try clear c59
                     try clear c61
                     try clear c64
                     try clear c64b0
                     try clear p64
                     try clear c65
                     try clear c65b0
                     try clear c67
                     try clear c67b0
                     try clear c67b1
                     try clear c68
                     try clear c68b0
                     try clear c70
                     try clear c71
                     try clear c71b0
                     try clear c72
                     try clear c72b0
                     try clear c74
                     try clear c74b0
                     try clear c74b1
                     try clear c75
                     try clear c75b0
                     try clear hcz27_0
                     try clear hcz27_1
                     try clear hcz31_0
                     try clear hcz31_1
                     try clear hcz35_0
                     try clear hcz35_1
                     try clear hcz39_0
                     try clear hcz39_1
                     try clear hcz48_0
                     try clear hcz48_1
                     try clear hcz58_0
                     try clear hcz58_1
                     try clear hcz60_0
                     try clear hcz60_1
                     try clear hfz27_0
                     try clear hfz27_1
                     try clear hfz31_0
                     try clear hfz31_1
                     try clear hfz35_0
                     try clear hfz35_1
                     try clear hfz39_0
                     try clear hfz39_1
                     try clear hfz48_0
                     try clear hfz48_1
                     try clear hfz58_0
                     try clear hfz58_1
                     try clear hfz60_0
                     try clear hfz60_1
                     try clear hx473_0
                     try clear p2
                     try clear p4
                     try clear p47
                     try clear p473
                     try clear p6
                     try clear p64
                     try clear q4
                     try clear q47
                     try clear q473
                     obtain ⟨kq, x148_72, rfl, HA, HJ72, HO_436000, HO_436001, HO_468000, HO_468001, BK435, BK467, HB⟩ := hcut
                     cases kq with
                     | zero => exact absurd HA.out (by simp [transeptlaw04_DiskTorn.j5])
                     | succ kj72 =>
                      have H := HA.out
                      clear HA
                      simp only [transeptlaw04_DiskTorn.j5] at H
                      by_cases c76 : x148_72 = true
                      ·
                       subst c76
                       have H1 : (if 0 ≤ x20_3 then (if x20_3 < (yc9.length : Int) then (if 0 ≤ x19_2 then (if x19_2 < (t460.length : Int) then (if x20_3 < ((rd_L2 t460 x19_2).length : Int) then (if (rd (rd_L2 t460 x19_2) x20_3) = (rd yc9 x20_3) then (transeptlaw04_DiskTorn.l1 kj72 (wrap64 (1 + (Int.tmod (wrap64 ((Int.tmod a0 20) + 20)) 20))) (Int.tmod (wrap64 ((Int.tmod a1 (wrap64 (1 + (Int.tmod (wrap64 ((Int.tmod a0 20) + 20)) 20)))) + (wrap64 (1 + (Int.tmod (wrap64 ((Int.tmod a0 20) + 20)) 20))))) (wrap64 (1 + (Int.tmod (wrap64 ((Int.tmod a0 20) + 20)) 20)))) yc9 yc12 ji63 x19_2 (wrap64 (x20_3 + 1)) t460 t463) else (none)) else (none)) else (none)) else (none)) else (none)) else (none)) = some r := by rw [if_pos rfl] at H; exact H
                       clear H
                       have H := H1
                       clear H1
                       by_cases c77 : 0 ≤ x20_3
                       ·
                        rw [if_pos c77] at H
                        have c77b0 : decide (0 ≤ x20_3) = true := decide_eq_true c77
                        clear c77
                        by_cases c78 : x20_3 < (yc9.length : Int)
                        ·
                         rw [if_pos c78] at H
                         have c78b0 : decide (x20_3 < (yc9.length : Int)) = true := decide_eq_true c78
                         clear c78
                         by_cases c79 : 0 ≤ x19_2
                         ·
                          rw [if_pos c79] at H
                          have c79b0 : decide (0 ≤ x19_2) = true := decide_eq_true c79
                          clear c79
                          by_cases c80 : x19_2 < (t460.length : Int)
                          ·
                           rw [if_pos c80] at H
                           have c80b0 : decide (x19_2 < (t460.length : Int)) = true := decide_eq_true c80
                           clear c80
                           by_cases c81 : x20_3 < ((rd_L2 t460 x19_2).length : Int)
                           ·
                            rw [if_pos c81] at H
                            have c81b0 : decide (x20_3 < ((rd_L2 t460 x19_2).length : Int)) = true := decide_eq_true c81
                            clear c81
                            by_cases c82 : (rd (rd_L2 t460 x19_2) x20_3) = (rd yc9 x20_3)
                            ·
                             rw [if_pos c82] at H
                             have c82b0 : ((rd (rd_L2 t460 x19_2) x20_3) == (rd yc9 x20_3)) = true := beq_iff_eq.mpr c82
                             have c82b1 : ((rd (rd_L2 t460 x19_2) x20_3) != (rd yc9 x20_3)) = false := bne_eq_false_iff_eq.mpr c82
                             clear c82
                             have H' := Aside0.mk H
                             clear H
                             have p474 : 0 ≤ (x20_3 : Int) := of_decide_eq_true (by first | (with_reducible assumption) | assumption)
                             have q474 : x20_3 < (yc9.length : Int) := of_decide_eq_true (by first | (with_reducible assumption) | assumption)
                             obtain ⟨ad474, e474, hx474_0⟩ := Kd.at_int HR426.out x20_3 p474 q474
                             cases e474
                             replace hx474_0 := (HB.out.cell (World.block_lt_of_cell? w _ hx474_0)).trans hx474_0
                             replace p474 := eq_true p474
                             replace q474 := eq_true q474
                             have hnb83 := NB467_435.out
                             have hnc83 := NB435_467.out
                             have hcz84_0 : wc.cell? ⟨gb467, 0, none⟩ = some (.slice Ao46 t460.length co46) := (blk_cell BK467.out 0).trans rfl
                             have hcz84_1 : wc.cell? ⟨gb467, 1, none⟩ = some (.slice Ao49 t463.length co49) := (blk_cell BK467.out 1).trans rfl
                             have hfz84_0 := blk_frozen BK467.out 0
                             have hfz84_1 := blk_frozen BK467.out 1
                             have p475 : 0 ≤ (x19_2 : Int) := of_decide_eq_true (by first | (with_reducible assumption) | assumption)
                             have q475 : x19_2 < (t460.length : Int) := of_decide_eq_true (by first | (with_reducible assumption) | assumption)
                             obtain ⟨ad475, A475_0, c475_0, e475, hx475_0, hl475_0, hi475_0⟩ := at_L2 (Kd.S_reads' HO_468000.out).2.2 x19_2 p475 q475
                             cases e475
                             obtain ⟨ce475, hce475, hMe475, hcc475⟩ := Kd.S_get HO_468000.out [] x19_2 p475 (by first | exact q475 | exact of_decide_eq_true (by first | (with_reducible assumption) | assumption) | (have e_ := (Kd.S_reads' HO_468000.out).1; omega))
                             obtain ⟨ve475_0, rfl, ge475_0⟩ := hMe475
                             have hv475_0 := hcc475 0 _ rfl
                             rw [Nat.add_zero, show ((Kd.slice 5 (Kd.int .u8))).sz = 1 from rfl, Nat.mul_one] at hv475_0
                             replace hv475_0 := Option.some.inj (hv475_0.symm.trans hx475_0)
                             rw [hv475_0] at ge475_0
                             have HL475_0 := Aside0.mk (show Kd.R (Kd.int .u8) 5 _ _ _ _ (rd_L2 t460 x19_2) from ge475_0)
                             clear hv475_0 ge475_0
                             clear hcc475 hce475
                             have HR475_0 := Aside0.mk hi475_0
                             have HC475_0 := Aside0.mk hl475_0
                             clear hi475_0 hl475_0
                             replace p475 := eq_true p475
                             replace q475 := eq_true q475
                             have p476 : 0 ≤ (x20_3 : Int) := of_decide_eq_true (by first | (with_reducible assumption) | assumption)
                             have q476 : x20_3 < ((rd_L2 t460 x19_2).length : Int) := of_decide_eq_true (by first | (with_reducible assumption) | assumption)
                             obtain ⟨ad476, e476, hx476_0⟩ := Kd.at_int (by repeat (first | (with_reducible exact HR475_0.out) | (with_reducible refine Kd.C_alloc ?_ _) | (with_reducible refine Kd.C_drewN ?_ _) | (with_reducible refine Kd.C_drew ?_) | exact HR475_0.out)) x20_3 p476 q476
                             cases e476
                             replace p476 := eq_true p476
                             replace q476 := eq_true q476
                             go_wp2
                             repeat (go_quiet (fail); try go_wp2)
                             go_roundg kj72
                             case measure => have := HJ19.out; have := HK2.out; have := HK3.out; have := HJ65.out; have := HJ68.out; have := HJ72.out; omega
                             case rel => exact ⟨(wrap64 (x20_3 + 1)), (by first | rfl | (simp; done) | (simp [*]; done)), H', ⟨by have := HJ19.out; have := HK2.out; have := HK3.out; have := HJ65.out; have := HJ68.out; have := HJ72.out; omega⟩, ⟨by (with_reducible repeat (first | apply Kd.S_alloc | apply Kd.S_drewN | apply Kd.S_drew)); exact HO_436000.out⟩, ⟨by (with_reducible repeat (first | apply Kd.S_alloc | apply Kd.S_drewN | apply Kd.S_drew)); exact HO_436001.out⟩, ⟨by (with_reducible repeat (first | apply Kd.S_alloc | apply Kd.S_drewN | apply Kd.S_drew)); exact HO_468000.out⟩, ⟨by (with_reducible repeat (first | apply Kd.S_alloc | apply Kd.S_drewN | apply Kd.S_drew)); exact HO_468001.out⟩, ⟨by (with_reducible repeat (first | refine blk_drewN ?_ _ | refine blk_drew ?_ | refine blk_alloc ?_ _)); exact BK435.out⟩, ⟨by (with_reducible repeat (first | refine blk_drewN ?_ _ | refine blk_drew ?_ | refine blk_alloc ?_ _)); exact BK467.out⟩, ⟨by repeat (first | (with_reducible first | exact HB.out | apply below_alloc | apply pw_below_drewN | apply below_drew1 | refine below_set ?_ GE435.out | refine below_set ?_ GE467.out) | exact HB.out)⟩⟩
                            ·
                             rw [if_neg c82] at H
                             exact absurd H (by simp)
                           ·
                            rw [if_neg c81] at H
                            exact absurd H (by simp)
                          ·
                           rw [if_neg c80] at H
                           exact absurd H (by simp)
                         ·
                          rw [if_neg c79] at H
                          exact absurd H (by simp)
                        ·
                         rw [if_neg c78] at H
                         exact absurd H (by simp)
                       ·
                        rw [if_neg c77] at H
                        exact absurd H (by simp)
                      ·
                       replace c76 := Bool.eq_false_iff.mpr c76
                       subst c76
                       have H1 : (if 0 ≤ x19_2 then (if x19_2 < (t460.length : Int) then (if 0 ≤ x20_3 then (if x20_3 < ((rd_L2 t460 x19_2).length : Int) then (if (rd (rd_L2 t460 x19_2) x20_3) = x21_68 then (transeptlaw04_DiskTorn.l1 kj72 (wrap64 (1 + (Int.tmod (wrap64 ((Int.tmod a0 20) + 20)) 20))) (Int.tmod (wrap64 ((Int.tmod a1 (wrap64 (1 + (Int.tmod (wrap64 ((Int.tmod a0 20) + 20)) 20)))) + (wrap64 (1 + (Int.tmod (wrap64 ((Int.tmod a0 20) + 20)) 20))))) (wrap64 (1 + (Int.tmod (wrap64 ((Int.tmod a0 20) + 20)) 20)))) yc9 yc12 ji63 x19_2 (wrap64 (x20_3 + 1)) t460 t463) else (none)) else (none)) else (none)) else (none)) else (none)) = some r := by rw [if_neg (show ¬ (false = true) by decide)] at H; exact H
                       clear H
                       have H := H1
                       clear H1
                       by_cases c85 : 0 ≤ x19_2
                       ·
                        rw [if_pos c85] at H
                        have c85b0 : decide (0 ≤ x19_2) = true := decide_eq_true c85
                        clear c85
                        by_cases c86 : x19_2 < (t460.length : Int)
                        ·
                         rw [if_pos c86] at H
                         have c86b0 : decide (x19_2 < (t460.length : Int)) = true := decide_eq_true c86
                         clear c86
                         by_cases c87 : 0 ≤ x20_3
                         ·
                          rw [if_pos c87] at H
                          have c87b0 : decide (0 ≤ x20_3) = true := decide_eq_true c87
                          clear c87
                          by_cases c88 : x20_3 < ((rd_L2 t460 x19_2).length : Int)
                          ·
                           rw [if_pos c88] at H
                           have c88b0 : decide (x20_3 < ((rd_L2 t460 x19_2).length : Int)) = true := decide_eq_true c88
                           clear c88
                           by_cases c89 : (rd (rd_L2 t460 x19_2) x20_3) = x21_68
                           ·
                            rw [if_pos c89] at H
                            have c89b0 : ((rd (rd_L2 t460 x19_2) x20_3) == x21_68) = true := beq_iff_eq.mpr c89
                            have c89b1 : ((rd (rd_L2 t460 x19_2) x20_3) != x21_68) = false := bne_eq_false_iff_eq.mpr c89
                            clear c89
                            have H' := Aside0.mk H
                            clear H
                            have hnb90 := NB467_435.out
                            have hnc90 := NB435_467.out
                            have hcz91_0 : wc.cell? ⟨gb467, 0, none⟩ = some (.slice Ao46 t460.length co46) := (blk_cell BK467.out 0).trans rfl
                            have hcz91_1 : wc.cell? ⟨gb467, 1, none⟩ = some (.slice Ao49 t463.length co49) := (blk_cell BK467.out 1).trans rfl
                            have hfz91_0 := blk_frozen BK467.out 0
                            have hfz91_1 := blk_frozen BK467.out 1
                            have p477 : 0 ≤ (x19_2 : Int) := of_decide_eq_true (by first | (with_reducible assumption) | assumption)
                            have q477 : x19_2 < (t460.length : Int) := of_decide_eq_true (by first | (with_reducible assumption) | assumption)
                            obtain ⟨ad477, A477_0, c477_0, e477, hx477_0, hl477_0, hi477_0⟩ := at_L2 (Kd.S_reads' HO_468000.out).2.2 x19_2 p477 q477
                            cases e477
                            obtain ⟨ce477, hce477, hMe477, hcc477⟩ := Kd.S_get HO_468000.out [] x19_2 p477 (by first | exact q477 | exact of_decide_eq_true (by first | (with_reducible assumption) | assumption) | (have e_ := (Kd.S_reads' HO_468000.out).1; omega))
                            obtain ⟨ve477_0, rfl, ge477_0⟩ := hMe477
                            have hv477_0 := hcc477 0 _ rfl
                            rw [Nat.add_zero, show ((Kd.slice 5 (Kd.int .u8))).sz = 1 from rfl, Nat.mul_one] at hv477_0
                            replace hv477_0 := Option.some.inj (hv477_0.symm.trans hx477_0)
                            rw [hv477_0] at ge477_0
                            have HL477_0 := Aside0.mk (show Kd.R (Kd.int .u8) 5 _ _ _ _ (rd_L2 t460 x19_2) from ge477_0)
                            clear hv477_0 ge477_0
                            clear hcc477 hce477
                            have HR477_0 := Aside0.mk hi477_0
                            have HC477_0 := Aside0.mk hl477_0
                            clear hi477_0 hl477_0
                            replace p477 := eq_true p477
                            replace q477 := eq_true q477
                            have p478 : 0 ≤ (x20_3 : Int) := of_decide_eq_true (by first | (with_reducible assumption) | assumption)
                            have q478 : x20_3 < ((rd_L2 t460 x19_2).length : Int) := of_decide_eq_true (by first | (with_reducible assumption) | assumption)
                            obtain ⟨ad478, e478, hx478_0⟩ := Kd.at_int (by repeat (first | (with_reducible exact HR477_0.out) | (with_reducible refine Kd.C_alloc ?_ _) | (with_reducible refine Kd.C_drewN ?_ _) | (with_reducible refine Kd.C_drew ?_) | exact HR477_0.out)) x20_3 p478 q478
                            cases e478
                            replace p478 := eq_true p478
                            replace q478 := eq_true q478
                            go_wp2
                            repeat (go_quiet (fail); try go_wp2)
                            go_roundg kj72
                            case measure => have := HJ19.out; have := HK2.out; have := HK3.out; have := HJ65.out; have := HJ68.out; have := HJ72.out; omega
                            case rel => exact ⟨(wrap64 (x20_3 + 1)), (by first | rfl | (simp; done) | (simp [*]; done)), H', ⟨by have := HJ19.out; have := HK2.out; have := HK3.out; have := HJ65.out; have := HJ68.out; have := HJ72.out; omega⟩, ⟨by (with_reducible repeat (first | apply Kd.S_alloc | apply Kd.S_drewN | apply Kd.S_drew)); exact HO_436000.out⟩, ⟨by (with_reducible repeat (first | apply Kd.S_alloc | apply Kd.S_drewN | apply Kd.S_drew)); exact HO_436001.out⟩, ⟨by (with_reducible repeat (first | apply Kd.S_alloc | apply Kd.S_drewN | apply Kd.S_drew)); exact HO_468000.out⟩, ⟨by (with_reducible repeat (first | apply Kd.S_alloc | apply Kd.S_drewN | apply Kd.S_drew)); exact HO_468001.out⟩, ⟨by (with_reducible repeat (first | refine blk_drewN ?_ _ | refine blk_drew ?_ | refine blk_alloc ?_ _)); exact BK435.out⟩, ⟨by (with_reducible repeat (first | refine blk_drewN ?_ _ | refine blk_drew ?_ | refine blk_alloc ?_ _)); exact BK467.out⟩, ⟨by repeat (first | (with_reducible first | exact HB.out | apply below_alloc | apply pw_below_drewN | apply below_drew1 | refine below_set ?_ GE435.out | refine below_set ?_ GE467.out) | exact HB.out)⟩⟩
                           ·
                            rw [if_neg c89] at H
                            exact absurd H (by simp)
                          ·
                           rw [if_neg c88] at H
                           exact absurd H (by simp)
                         ·
                          rw [if_neg c87] at H
                          exact absurd H (by simp)
                        ·
                         rw [if_neg c86] at H
                         exact absurd H (by simp)
                       ·
                        rw [if_neg c85] at H
                        exact absurd H (by simp)
               ·
                rw [if_neg c65] at H
                have c65b0 : decide (x20_3 < 64) = false := decide_eq_false c65
                clear c65
                have H' := Aside0.mk H
                clear H
                go_wp2
                repeat (go_quiet (fail); try go_wp2)
                go_roundg k3
                case measure => have := HJ19.out; have := HK2.out; have := HK3.out; omega
                case rel => exact ⟨(wrap64 (x19_2 + 1)), (by first | rfl | (simp; done) | (simp [*]; done)), H', ⟨by have := HJ19.out; have := HK2.out; have := HK3.out; omega⟩, ⟨by (with_reducible repeat (first | apply Kd.S_alloc | apply Kd.S_drewN | apply Kd.S_drew)); exact HO_436000.out⟩, ⟨by (with_reducible repeat (first | apply Kd.S_alloc | apply Kd.S_drewN | apply Kd.S_drew)); exact HO_436001.out⟩, ⟨by (with_reducible repeat (first | apply Kd.S_alloc | apply Kd.S_drewN | apply Kd.S_drew)); exact HO_468000.out⟩, ⟨by (with_reducible repeat (first | apply Kd.S_alloc | apply Kd.S_drewN | apply Kd.S_drew)); exact HO_468001.out⟩, ⟨by (with_reducible repeat (first | refine blk_drewN ?_ _ | refine blk_drew ?_ | refine blk_alloc ?_ _)); exact BK435.out⟩, ⟨by (with_reducible repeat (first | refine blk_drewN ?_ _ | refine blk_drew ?_ | refine blk_alloc ?_ _)); exact BK467.out⟩, ⟨by repeat (first | (with_reducible first | exact HB.out | apply below_alloc | apply pw_below_drewN | apply below_drew1 | refine below_set ?_ GE435.out | refine below_set ?_ GE467.out) | exact HB.out)⟩⟩
            ·
             rw [if_neg c64] at H
             have c64b0 : decide (x19_2 < (wrap64 (1 + (Int.tmod (wrap64 ((Int.tmod a0 20) + 20)) 20)))) = false := decide_eq_false c64
             clear c64
             obtain rfl := Option.some.inj H
             go_wp2
             repeat (go_quiet (fail); try go_wp2)
             go_ret
             exact ⟨by first | rfl | (simp [errW_none, errW_some] <;> rfl) | (simp only [← hji9, ← hji12, ← hji62, ← hji63]; first | rfl | (simp [errW_none, errW_some] <;> rfl)) | (simp [*, errW_none, errW_some] <;> rfl), by repeat (first | (with_reducible first | exact HB.out | apply below_alloc | apply pw_below_drewN | apply below_drew1 | refine below_set ?_ GE435.out | refine below_set ?_ GE467.out) | exact HB.out)⟩
      ·
       rw [if_neg c14] at H
       exact absurd H (by simp)
     ·
      rw [if_neg c13] at H
      exact absurd H (by simp)
    ·
     rw [if_neg c11] at H
     exact absurd H (by simp)
   ·
    rw [if_neg c10] at H
    exact absurd H (by simp)
 ·
  replace c7 := Bool.eq_false_iff.mpr c7
  subst c7
  have H1 : (none) = some r := by rw [if_neg (show ¬ (false = true) by decide)] at H; exact H
  clear H
  have H := H1
  clear H1
  exact absurd H (by simp)

/-- THE ONE PURE STATEMENT of transeptlaw04_DiskTorn: yours. -/
def transeptlaw04_DiskTorn.Pure : Prop := ∀ (a0 : Int) (a1 : Int) (l2 : List Int) (l3 : List Int) (a4 : Int), (Lit.int .i64 a0).wf = true → (Lit.int .i64 a1).wf = true → l2.length ≤ maxLen → l2.length * 1 ≤ 140737488351232 → (∀ x ∈ l2, (Lit.int .u8 x).wf = true) → l3.length ≤ maxLen → l3.length * 1 ≤ 140737488351232 → (∀ x ∈ l3, (Lit.int .u8 x).wf = true) → (Lit.int .i64 a4).wf = true → ∃ k, transeptlaw04_DiskTorn.f k a0 a1 l2 l3 a4 = some true
theorem transeptlaw04_DiskTorn.walk (P : transeptlaw04_DiskTorn.Pure) (a0 : Int) (a1 : Int) (a2 : Option Addr) (len2 cap2 : Nat) (z2 : List Int) (a3 : Option Addr) (len3 cap3 : Nat) (z3 : List Int) (a4 : Int) (w : World) (w0 : (Lit.int .i64 a0).wf = true) (w1 : (Lit.int .i64 a1).wf = true) (w2 : (a2 = none ∧ len2 = 0 ∧ cap2 = 0 ∧ z2 = []) ∨ ∃ x, a2 = some x ∧ len2 ≤ cap2 ∧ cap2 ≤ maxLen ∧ z2.length = cap2 ∧ (∀ i, i < z2.length → w.cell? (x.add i) = some (.int .u8 (z2.getD i 0))) ∧ ∀ n ∈ z2, (Lit.int .u8 n).wf = true) (y2 : len2 * 1 ≤ 140737488351232) (w3 : (a3 = none ∧ len3 = 0 ∧ cap3 = 0 ∧ z3 = []) ∨ ∃ x, a3 = some x ∧ len3 ≤ cap3 ∧ cap3 ≤ maxLen ∧ z3.length = cap3 ∧ (∀ i, i < z3.length → w.cell? (x.add i) = some (.int .u8 (z3.getD i 0))) ∧ ∀ n ∈ z3, (Lit.int .u8 n).wf = true) (y3 : len3 * 1 ≤ 140737488351232) (w4 : (Lit.int .i64 a4).wf = true) :
  Calls Try.prog 8 #[.int .i64 a0, .int .i64 a1, .slice a2 len2 cap2, .slice a3 len3 cap3, .int .i64 a4] w fun e w' => e = .returned (.bool true) ∧ Below w.heap.size w w' := by
 obtain ⟨l2, rfl, hr2, hm2, hw2, hc2⟩ := ReadsInt.ofRowC w2
 obtain ⟨l3, rfl, hr3, hm3, hw3, hc3⟩ := ReadsInt.ofRowC w3
 obtain ⟨k, h⟩ := P a0 a1 l2 l3 a4 w0 w1 hm2 y2 hw2 hm3 y3 hw3 w4
 refine (transeptlaw04_DiskTorn.calls k a0 a1 _ _ l2 _ _ l3 a4 true w (Kd.C_of_reads (d := (0 : Int)) (h1 := fun _ => rfl) hr2) hc2 (Kd.C_of_reads (d := (0 : Int)) (h1 := fun _ => rfl) hr3) hc3 h).mono ?_
 rintro e w' ⟨rfl, hd⟩
 exact ⟨rfl, hd⟩

end Go.Proofs.Ytiiphlfgdkjjiaa.Q
