/- The pure statement of VoteTurns, over numbers and lists alone; no condition. Written by a program of this session (row.py). -/
import Derived.Test.YtcghdohlgihkhaaQ4
import Derived.Test.YtcghdohlgihkhaaRead
namespace Go.Proofs.Ytcghdohlgihkhaa.Stm
set_option linter.unusedVariables false
open Go.RowKit Go.Proofs.Ytcghdohlgihkhaa.Q Go.Proofs.Ytcghdohlgihkhaa.Read Go.Proofs.YtcghdohlgihkhaaW.PrintWords
namespace voteTurns
def fits37 (x : S37) : Prop := ((Lit.int .i64 x.f0).wf = true) ∧ ((True) ∧ (((Lit.int .i64 x.f2).wf = true)))
def bulk37 (x : S37) : Nat := (1) + ((1) + ((1))) + 1
theorem op37 : Opens Try.prog 37 k37 fits37 bulk37 := by have h := opens_iso (fun x : S37 => (x.f0, x.f1, x.f2)) (fun y => (⟨y.1, y.2.1, y.2.2⟩ : S37)) (fun _ => rfl) (opens_struct Try.underlying37 (by kernel_rfl) (opensF_cons rfl (by kernel_rfl) (opens_int (k := .i64) (by kernel_rfl)) (opensF_cons rfl (by kernel_rfl) (opens_bool (by kernel_rfl)) (opensF_one rfl (by kernel_rfl) (opens_int (k := .i64) (by kernel_rfl)))))); exact h
def Pure : Prop := ∀ (x0 : S37) (x1 : List Int), fits37 x0 → FitsL 8 (fun x => (Lit.int .i64 x).wf = true) x1 → ∃ k, transeptlaw16_VoteTurns.f k x0.f0 x0.f1 x0.f2 x1 = some true
end voteTurns
end Go.Proofs.Ytcghdohlgihkhaa.Stm
