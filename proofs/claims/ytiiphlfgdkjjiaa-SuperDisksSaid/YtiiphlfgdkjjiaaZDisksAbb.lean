/- Short names for what a printed proof says again and again; no condition. -/
import Derived.Laws.Tables
import Derived.Test.YtiiphlfgdkjjiaaZDisksWWords
import Derived.Test.YtiiphlfgdkjjiaaZDisksWApart
namespace Go.Proofs.Ytiiphlfgdkjjiaa.Q
open Go.RowKit Go.Proofs.YtiiphlfgdkjjiaaW.PrintWords
abbrev Y : Bool := true
abbrev X : Bool := false
universe u
theorem A1 {α : Type u} (l : List α) (i : Nat) (a : α) : l.toArray.setIfInBounds i a = (l.set i a).toArray := by simp
theorem A2 {α : Type u} (x : α) (xs : List α) (a : α) : (x :: xs).set 0 a = a :: xs := rfl
theorem A3 {α : Type u} (x : α) (xs : List α) (n : Nat) (a : α) : (x :: xs).set (n + 1) a = x :: xs.set n a := rfl
end Go.Proofs.Ytiiphlfgdkjjiaa.Q
