/- The pure statement of ChunksTrue, over numbers and lists alone; no condition. Written by a program of this session (row.py). -/
import Derived.Test.YtabkdakikfhgmaaZTrueCkTrueLaw
import Derived.Test.YtabkdakikfhgmaaZTrueRead
namespace Go.Proofs.Ytabkdakikfhgmaa.Stm
set_option linter.unusedVariables false
open Go.RowKit Go.Proofs.Ytabkdakikfhgmaa.Q Go.Proofs.Ytabkdakikfhgmaa.Read Go.Proofs.YtabkdakikfhgmaaW.PrintWords
namespace chunksTrue
def fits50 (x : S50) : Prop := ((Lit.int .i64 x.f0).wf = true) ∧ (((Lit.int .u32 x.f1).wf = true) ∧ (((Lit.int .i64 x.f2).wf = true) ∧ ((FitsL 1 (fun x => (Lit.int .u8 x).wf = true) x.f3))))
def bulk50 (x : S50) : Nat := (1) + ((1) + ((1) + ((bulkL (fun x => 1) x.f3)))) + 1
theorem op50 : Opens Try.prog 50 k50 fits50 bulk50 := by have h := opens_iso (fun x : S50 => (x.f0, x.f1, x.f2, x.f3)) (fun y => (⟨y.1, y.2.1, y.2.2.1, y.2.2.2⟩ : S50)) (fun _ => rfl) (opens_struct Try.underlying50 (by kernel_rfl) (opensF_cons rfl (by kernel_rfl) (opens_int (k := .i64) (by kernel_rfl)) (opensF_cons rfl (by kernel_rfl) (opens_int (k := .u32) (by kernel_rfl)) (opensF_cons rfl (by kernel_rfl) (opens_int (k := .i64) (by kernel_rfl)) (opensF_one rfl (by kernel_rfl) (opens_slice (e := 5) (by kernel_rfl) (by kernel_rfl) (B := 1) (by kernel_rfl) (opens_int (k := .u8) (by kernel_rfl)))))))); exact h
def Pure : Prop := ∀ (x0 : List S50), FitsL 48 (fun x => fits50 x) x0 → ∃ k, transeptlaw18_ChunksTrue.f k x0 = some true
end chunksTrue
end Go.Proofs.Ytabkdakikfhgmaa.Stm
