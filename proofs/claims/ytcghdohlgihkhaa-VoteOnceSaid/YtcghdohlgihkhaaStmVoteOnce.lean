/- The pure statement of VoteOnce, over numbers and lists alone; no condition. Written by a program of this session (row.py). -/
import Derived.Test.YtcghdohlgihkhaaQ4
import Derived.Test.YtcghdohlgihkhaaRead
namespace Go.Proofs.Ytcghdohlgihkhaa.Stm
set_option linter.unusedVariables false
open Go.RowKit Go.Proofs.Ytcghdohlgihkhaa.Q Go.Proofs.Ytcghdohlgihkhaa.Read Go.Proofs.YtcghdohlgihkhaaW.PrintWords
namespace voteOnce
def fits32 (x : S32) : Prop := ((Lit.int .i64 x.f0).wf = true) ∧ (((Lit.int .i64 x.f1).wf = true) ∧ (((Lit.int .i64 x.f2).wf = true) ∧ (((Lit.int .i64 x.f3).wf = true))))
def bulk32 (x : S32) : Nat := (1) + ((1) + ((1) + ((1)))) + 1
theorem op32 : Opens Try.prog 32 k32 fits32 bulk32 := by have h := opens_iso (fun x : S32 => (x.f0, x.f1, x.f2, x.f3)) (fun y => (⟨y.1, y.2.1, y.2.2.1, y.2.2.2⟩ : S32)) (fun _ => rfl) (opens_struct Try.underlying32 (by kernel_rfl) (opensF_cons rfl (by kernel_rfl) (opens_int (k := .i64) (by kernel_rfl)) (opensF_cons rfl (by kernel_rfl) (opens_int (k := .i64) (by kernel_rfl)) (opensF_cons rfl (by kernel_rfl) (opens_int (k := .i64) (by kernel_rfl)) (opensF_one rfl (by kernel_rfl) (opens_int (k := .i64) (by kernel_rfl))))))); exact h
def Pure : Prop := ∀ (x0 : Int) (x1 : Int) (x2 : List S32), (Lit.int .i64 x0).wf = true → (Lit.int .i64 x1).wf = true → FitsL 32 (fun x => fits32 x) x2 → ∃ k, transeptlaw16_VoteOnce.f k x0 x1 x2 = some true
end voteOnce
end Go.Proofs.Ytcghdohlgihkhaa.Stm
