/- The pure statement of SuperRot, over numbers and lists alone; no condition. Written by a program of this session (row.py). -/
import Derived.Test.YtiiphlfgdkjjiaaZRotQ19
import Derived.Test.YtiiphlfgdkjjiaaZRotRead
namespace Go.Proofs.Ytiiphlfgdkjjiaa.Stm
set_option linter.unusedVariables false
open Go.RowKit Go.Proofs.Ytiiphlfgdkjjiaa.Q Go.Proofs.Ytiiphlfgdkjjiaa.Read Go.Proofs.YtiiphlfgdkjjiaaW.PrintWords
namespace superRot
def fits23 (x : S23) : Prop := ((Lit.int .i64 x.f0).wf = true) ∧ (((Lit.int .i64 x.f1).wf = true) ∧ (((Lit.int .i64 x.f2).wf = true) ∧ (((Lit.int .i64 x.f3).wf = true) ∧ (((Lit.int .i64 x.f4).wf = true)))))
def bulk23 (x : S23) : Nat := (1) + ((1) + ((1) + ((1) + ((1))))) + 1
theorem op23 : Opens Try.prog 23 k23 fits23 bulk23 := by have h := opens_iso (fun x : S23 => (x.f0, x.f1, x.f2, x.f3, x.f4)) (fun y => (⟨y.1, y.2.1, y.2.2.1, y.2.2.2.1, y.2.2.2.2⟩ : S23)) (fun _ => rfl) (opens_struct Try.underlying23 (by kernel_rfl) (opensF_cons rfl (by kernel_rfl) (opens_int (k := .i64) (by kernel_rfl)) (opensF_cons rfl (by kernel_rfl) (opens_int (k := .i64) (by kernel_rfl)) (opensF_cons rfl (by kernel_rfl) (opens_int (k := .i64) (by kernel_rfl)) (opensF_cons rfl (by kernel_rfl) (opens_int (k := .i64) (by kernel_rfl)) (opensF_one rfl (by kernel_rfl) (opens_int (k := .i64) (by kernel_rfl)))))))); exact h
def Pure : Prop := ∀ (x0 : S23) (x1 : S23) (x2 : Bool) (x3 : Int) (x4 : Int), fits23 x0 → fits23 x1 → True → (Lit.int .i64 x3).wf = true → (Lit.int .u8 x4).wf = true → ∃ k, transeptlaw06_SuperRot.f k x0.f0 x0.f1 x0.f2 x0.f3 x0.f4 x1.f0 x1.f1 x1.f2 x1.f3 x1.f4 x2 x3 x4 = some true
end superRot
end Go.Proofs.Ytiiphlfgdkjjiaa.Stm
