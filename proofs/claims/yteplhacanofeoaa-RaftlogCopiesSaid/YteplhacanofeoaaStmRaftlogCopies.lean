/- The pure statement of RaftlogCopies, over numbers and lists alone; no condition. Written by a program of this session (row.py). -/
import Derived.Test.YteplhacanofeoaaQ18
import Derived.Test.YteplhacanofeoaaRead
namespace Go.Proofs.Yteplhacanofeoaa.Stm
set_option linter.unusedVariables false
open Go.RowKit Go.Proofs.Yteplhacanofeoaa.Q Go.Proofs.Yteplhacanofeoaa.Read Go.Proofs.YteplhacanofeoaaW.PrintWords
namespace raftlogCopies
def fits28 (x : S28) : Prop := ((Lit.int .i64 x.f0).wf = true) ∧ ((FitsL 1 (fun x => (Lit.int .u8 x).wf = true) x.f1))
def bulk28 (x : S28) : Nat := (1) + ((bulkL (fun x => 1) x.f1)) + 1
theorem op28 : Opens Try.prog 28 k28 fits28 bulk28 := by have h := opens_iso (fun x : S28 => (x.f0, x.f1)) (fun y => (⟨y.1, y.2⟩ : S28)) (fun _ => rfl) (opens_struct Try.underlying28 (by kernel_rfl) (opensF_cons rfl (by kernel_rfl) (opens_int (k := .i64) (by kernel_rfl)) (opensF_one rfl (by kernel_rfl) (opens_slice (e := 5) (by kernel_rfl) (by kernel_rfl) (B := 1) (by kernel_rfl) (opens_int (k := .u8) (by kernel_rfl)))))); exact h
def Pure : Prop := ∀ (x0 : List S28) (x1 : Int), FitsL 32 (fun x => fits28 x) x0 → (Lit.int .i64 x1).wf = true → ∃ k, transeptlaw15_RaftlogCopies.f k x0 x1 = some true
end raftlogCopies
end Go.Proofs.Yteplhacanofeoaa.Stm
