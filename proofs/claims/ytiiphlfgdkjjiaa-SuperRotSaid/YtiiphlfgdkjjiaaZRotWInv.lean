/- Words of the kit's print, shortened by a program of this session (prune2.py); no condition. -/
import Derived.Test.YtiiphlfgdkjjiaaZRotWLast
import Derived.Test.YtiiphlfgdkjjiaaZRotWWords
namespace Go.Proofs.YtiiphlfgdkjjiaaW.PrintLast
/-- Number i is listed too. -/
def up (b : Nat → Bool) (i : Nat) : Nat → Bool := fun j => if j = i then true else b j
section
end
end Go.Proofs.YtiiphlfgdkjjiaaW.PrintLast
namespace Go.Proofs.YtiiphlfgdkjjiaaW.PrintWords
open Go.RowKit
section
variable {P : Program} {ops : Array Oper} {rest : List Oper} {o : Oper} {a : Act} {Q : Exit → Act → World → Prop} {W : World}
/-- The gate takes the guard off (hw: 'by rfl', 'by kernel_rfl': the guard's slot holds what is wanted). -/
theorem gate_guard (hw : Region.wanted o (yielded ops a.tmps) = true) (h : wpList P ops Q ({ o with guard := none } :: rest) a W) : wpList P ops Q (o :: rest) a W := by
  have h1 : Region.wanted { o with guard := none } (yielded ops a.tmps) = true := rfl
  unfold wpList at h ⊢
  rw [if_pos h1] at h
  rw [if_pos hw]
  exact h
end
end Go.Proofs.YtiiphlfgdkjjiaaW.PrintWords
