/- The pure statement of RaftlogOwn, over numbers and lists alone; no condition. Written by a program of this session (row.py). -/
import Derived.Test.YteplhacanofeoaaRlOwnLaw
import Derived.Test.YteplhacanofeoaaRead
namespace Go.Proofs.Yteplhacanofeoaa.Stm
set_option linter.unusedVariables false
open Go.RowKit Go.Proofs.Yteplhacanofeoaa.Q Go.Proofs.Yteplhacanofeoaa.Read Go.Proofs.YteplhacanofeoaaW.PrintWords
namespace raftlogOwn
def fits28 (x : S28) : Prop := ((Lit.int .i64 x.f0).wf = true) ∧ ((FitsL 1 (fun x => (Lit.int .u8 x).wf = true) x.f1))
def bulk28 (x : S28) : Nat := (1) + ((bulkL (fun x => 1) x.f1)) + 1
theorem op28 : Opens Try.prog 28 k28 fits28 bulk28 := by have h := opens_iso (fun x : S28 => (x.f0, x.f1)) (fun y => (⟨y.1, y.2⟩ : S28)) (fun _ => rfl) (opens_struct Try.underlying28 (by kernel_rfl) (opensF_cons rfl (by kernel_rfl) (opens_int (k := .i64) (by kernel_rfl)) (opensF_one rfl (by kernel_rfl) (opens_slice (e := 5) (by kernel_rfl) (by kernel_rfl) (B := 1) (by kernel_rfl) (opens_int (k := .u8) (by kernel_rfl)))))); exact h
def fits35 (x : S35) : Prop := ((Lit.int .i64 x.f0).wf = true) ∧ (((Lit.int .i64 x.f1).wf = true) ∧ ((FitsL 32 (fun x => fits28 x) x.f2)))
def bulk35 (x : S35) : Nat := (1) + ((1) + ((bulkL (fun x => bulk28 x) x.f2))) + 1
theorem op35 : Opens Try.prog 35 k35 fits35 bulk35 := by have h := opens_iso (fun x : S35 => (x.f0, x.f1, x.f2)) (fun y => (⟨y.1, y.2.1, y.2.2⟩ : S35)) (fun _ => rfl) (opens_struct Try.underlying35 (by kernel_rfl) (opensF_cons rfl (by kernel_rfl) (opens_int (k := .i64) (by kernel_rfl)) (opensF_cons rfl (by kernel_rfl) (opens_int (k := .i64) (by kernel_rfl)) (opensF_one rfl (by kernel_rfl) (opens_slice (e := 28) (by kernel_rfl) (by kernel_rfl) (B := 32) (by kernel_rfl) op28))))); exact h
def Pure : Prop := ∀ (x0 : S35) (x1 : S28), fits35 x0 → fits28 x1 → ∃ k, transeptlaw15_RaftlogOwn.f k x0.f0 x0.f1 x0.f2 x1.f0 x1.f1 = some true
end raftlogOwn
end Go.Proofs.Yteplhacanofeoaa.Stm
