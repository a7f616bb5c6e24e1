/- The pure statement of RaftlogMatching, over numbers and lists alone; no condition. Written by a program of this session (row.py). -/
import Derived.Test.YteplhacanofeoaaQ9
import Derived.Test.YteplhacanofeoaaRead
namespace Go.Proofs.Yteplhacanofeoaa.Stm
set_option linter.unusedVariables false
open Go.RowKit Go.Proofs.Yteplhacanofeoaa.Q Go.Proofs.Yteplhacanofeoaa.Read Go.Proofs.YteplhacanofeoaaW.PrintWords
namespace raftlogMatching
def fits70 (x : S70) : Prop := ((Lit.int .i64 x.f0).wf = true) ∧ (((Lit.int .i64 x.f1).wf = true))
def bulk70 (x : S70) : Nat := (1) + ((1)) + 1
theorem op70 : Opens Try.prog 70 k70 fits70 bulk70 := by have h := opens_iso (fun x : S70 => (x.f0, x.f1)) (fun y => (⟨y.1, y.2⟩ : S70)) (fun _ => rfl) (opens_struct Try.underlying70 (by kernel_rfl) (opensF_cons rfl (by kernel_rfl) (opens_int (k := .i64) (by kernel_rfl)) (opensF_one rfl (by kernel_rfl) (opens_int (k := .i64) (by kernel_rfl))))); exact h
def Pure : Prop := ∀ (x0 : List Int) (x1 : List S70) (x2 : List S70), FitsL 8 (fun x => (Lit.int .i64 x).wf = true) x0 → FitsL 16 (fun x => fits70 x) x1 → FitsL 16 (fun x => fits70 x) x2 → ∃ k, transeptlaw15_RaftlogMatching.f k x0 x1 x2 = some true
end raftlogMatching
end Go.Proofs.Yteplhacanofeoaa.Stm
