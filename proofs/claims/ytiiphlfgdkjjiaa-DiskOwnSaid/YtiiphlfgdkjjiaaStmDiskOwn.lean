/- The pure statement of DiskOwn, over numbers and lists alone; no condition. Written by a program of this session (row.py). -/
import Derived.Test.YtiiphlfgdkjjiaaDOwnLaw
import Derived.Test.YtiiphlfgdkjjiaaRead
namespace Go.Proofs.Ytiiphlfgdkjjiaa.Stm
set_option linter.unusedVariables false
open Go.RowKit Go.Proofs.Ytiiphlfgdkjjiaa.Q Go.Proofs.Ytiiphlfgdkjjiaa.Read Go.Proofs.YtiiphlfgdkjjiaaW.PrintWords
namespace diskOwn
def fits55 (x : S55) : Prop := ((Lit.int .i64 x.f0).wf = true) ∧ ((FitsL 1 (fun x => (Lit.int .u8 x).wf = true) x.f1))
def bulk55 (x : S55) : Nat := (1) + ((bulkL (fun x => 1) x.f1)) + 1
theorem op55 : Opens Try.prog 55 k55 fits55 bulk55 := by have h := opens_iso (fun x : S55 => (x.f0, x.f1)) (fun y => (⟨y.1, y.2⟩ : S55)) (fun _ => rfl) (opens_struct Try.underlying55 (by kernel_rfl) (opensF_cons rfl (by kernel_rfl) (opens_int (k := .i64) (by kernel_rfl)) (opensF_one rfl (by kernel_rfl) (opens_slice (e := 5) (by kernel_rfl) (by kernel_rfl) (B := 1) (by kernel_rfl) (opens_int (k := .u8) (by kernel_rfl)))))); exact h
def fits42 (x : S42) : Prop := (FitsL 24 (fun x => FitsL 1 (fun x => (Lit.int .u8 x).wf = true) x) x.f0) ∧ ((FitsL 32 (fun x => fits55 x) x.f1))
def bulk42 (x : S42) : Nat := (bulkL (fun x => bulkL (fun x => 1) x) x.f0) + ((bulkL (fun x => bulk55 x) x.f1)) + 1
theorem op42 : Opens Try.prog 42 k42 fits42 bulk42 := by have h := opens_iso (fun x : S42 => (x.f0, x.f1)) (fun y => (⟨y.1, y.2⟩ : S42)) (fun _ => rfl) (opens_struct Try.underlying42 (by kernel_rfl) (opensF_cons rfl (by kernel_rfl) (opens_slice (e := 50) (by kernel_rfl) (by kernel_rfl) (B := 24) (by kernel_rfl) (opens_slice (e := 5) (by kernel_rfl) (by kernel_rfl) (B := 1) (by kernel_rfl) (opens_int (k := .u8) (by kernel_rfl)))) (opensF_one rfl (by kernel_rfl) (opens_slice (e := 55) (by kernel_rfl) (by kernel_rfl) (B := 32) (by kernel_rfl) op55)))); exact h
def Pure : Prop := ∀ (x0 : S42) (x1 : List Int), fits42 x0 → FitsL 1 (fun x => (Lit.int .u8 x).wf = true) x1 → ∃ k, transeptlaw04_DiskOwn.f k x0.f0 x0.f1 x1 = some true
end diskOwn
end Go.Proofs.Ytiiphlfgdkjjiaa.Stm
