/- SuperOwn is true of every block; no condition. -/
import Derived.Test.YtiiphlfgdkjjiaaZOwnStmSuperOwn
import Derived.Test.YtiiphlfgdkjjiaaZOwnSSmall
import Derived.Test.YtiiphlfgdkjjiaaZOwnSAlive
namespace Go.Proofs.Ytiiphlfgdkjjiaa.Pure
open Go.RowKit Go.Proofs.Ytiiphlfgdkjjiaa.Q Go.Proofs.Ytiiphlfgdkjjiaa.Read Go.Proofs.YtiiphlfgdkjjiaaW.PrintWords Go.Proofs.YtiiphlfgdkjjiaaW.PrintLast Go.Proofs.YtiiphlfgdkjjiaaW.PrintMore Go.Proofs.Ytiiphlfgdkjjiaa.Stm.superOwn
theorem enc_any (a0 a1 a2 a3 a4 : Int) : ∃ p e, super_Encode.f a0 a1 a2 a3 a4 = some (p, e) ∧ p.length ≤ 64 := by
  unfold super_Encode.f
  by_cases h : blkOk a0 a1 a2 a3 a4 = true
  · rw [if_pos h]; exact ⟨_, _, rfl, by rw [sect_length]; exact Nat.le_refl _⟩
  · rw [if_neg h]; exact ⟨_, _, rfl, by show 0 ≤ 64; omega⟩
theorem SuperOwn : Stm.superOwn.Pure := by
  intro x _
  obtain ⟨p, e, he, hl⟩ := enc_any x.f0 x.f1 x.f2 x.f3 x.f4
  obtain ⟨r, hr⟩ := spoilS (k := 100) (l := p) (by omega) (by omega)
  refine ⟨100, ?_⟩
  unfold transeptlaw06_SuperOwn.f
  rw [show transeptlaw06_alive.f = some true from rfl, Option.bind_some, if_pos rfl, he, Option.bind_some]
  dsimp only
  rw [copyS (by omega), Option.bind_some, Option.bind_some, hr, Option.bind_some, if_pos rfl, sameS (by omega) (by omega), decide_eq_true rfl]
  rfl
end Go.Proofs.Ytiiphlfgdkjjiaa.Pure
