/- disk's Get; no condition but that the state may be where asked says so. -/
import Derived.Lib.SliceRun
import Derived.Lib.Hide
import Derived.LoopTactic
import Derived.Outline
import Derived.Laws.IdiomCopy
import Derived.RangeFuncNested
import Derived.RangeFuncBox
import Derived.RangeFuncLeaves
import Derived.Shelf.Abstract
import Derived.WalkKit
import Derived.OwnWalkIn
import Derived.TacticsInMore
import Derived.LoopNIn
import Derived.LoopIn
import Derived.Test.YtiiphlfgdkjjiaaProg
import Derived.Test.YtiiphlfgdkjjiaaZTellsQ0
import Derived.Test.YtiiphlfgdkjjiaaZTellsWApart
import Derived.Test.YtiiphlfgdkjjiaaZTellsDNew
namespace Go.Proofs.Ytiiphlfgdkjjiaa.Q
open Go.RowKit Go.Shelf Go.Proofs.YtiiphlfgdkjjiaaW.PrintWords Go.Proofs.YtiiphlfgdkjjiaaW.PrintLast Go.Proofs.YtiiphlfgdkjjiaaW.PrintMore
set_option linter.unusedVariables false
set_option linter.unusedSimpArgs false
attribute [local go_sem] Oper.semAt_some

theorem R_own {e base : Nat} {v : Value} {xs : List Int} {W W' : World} {row : Option Nat} (h : (Kd.int .u8).R e W base (fun _ => True) v xs) (hg : W.grownBy W' row) (hrow : ∀ r, row = some r → ∃ o : Obj, W.heap[r]? = some o ∧ o.isCells = false) : (Kd.int .u8).R e W' base (fun _ => True) v xs := by
  refine Kd.R_grown2 h rfl hg (fun k hk e_ => ?_)
  obtain ⟨o, ho, hoc⟩ := hrow k hk
  obtain ⟨cells, hc⟩ := Kd.R_typed h k e_.symm
  rw [hc] at ho
  injection ho with ho
  rw [← ho] at hoc
  cases hoc
end Go.Proofs.Ytiiphlfgdkjjiaa.Q
