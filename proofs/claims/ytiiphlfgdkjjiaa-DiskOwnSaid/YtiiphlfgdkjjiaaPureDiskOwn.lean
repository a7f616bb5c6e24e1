/- DiskOwn is true of every state and data; no condition. -/
import Derived.Test.YtiiphlfgdkjjiaaStmDiskOwn
import Derived.Test.YtiiphlfgdkjjiaaDTellsPlain
namespace Go.Proofs.Ytiiphlfgdkjjiaa.Pure
open Go.RowKit Go.Proofs.Ytiiphlfgdkjjiaa.Q Go.Proofs.Ytiiphlfgdkjjiaa.Read Go.Proofs.YtiiphlfgdkjjiaaW.PrintWords Go.Proofs.YtiiphlfgdkjjiaaW.PrintLast Go.Proofs.YtiiphlfgdkjjiaaW.PrintMore Go.Proofs.Ytiiphlfgdkjjiaa.Stm.diskOwn
set_option linter.unusedVariables false
set_option linter.unusedSimpArgs false

theorem fit_of {x : S42} (h : fits42 x) : FitD x.f0 ∧ FitW x.f1 := by
  obtain ⟨⟨_, h1, h2⟩, ⟨_, h3, h4⟩⟩ := h
  exact ⟨⟨by omega, fun b hb => by have := (h2 b hb).2.1; omega⟩, ⟨by omega, fun y hy => by have := (h4 y hy).2.2.1; omega⟩⟩
theorem alike_nil (k : Nat) (hk : 10 ≤ k) : transeptlaw04_Alike.f k [] (toWs []) [] [] = some 0 :=
  alike_f (a := []) (ws := []) (M := 0) (by decide) (by decide) (by decide) (fun b hb => by cases hb) (fun x hx => by cases hx) (by show 0 + 0 + 0 + 3 ≤ k; omega)
theorem put_pair {l0 : List (List Int)} {l1 : List Wp} {sec : Int} {d : List Int} {M k : Nat} (h0 : FitD l0) (h1 : FitW l1) (hM : M = 140737488355328) (hk : l0.length + l1.length + M + 200 ≤ k) :
    ∃ a v n, disk_Put.f k l0 (toWs l1) sec d = some (a, toWs v, n) ∧ transeptref04_Put.f k l0 l1 sec d = some (a, v, n) ∧ transeptlaw04_Alike.f k a (toWs v) a v = some 0 ∧ (n = 0 ∨ a = []) := by
  have hd1 := h0.1
  have hw1 := h1.1
  rw [dput_f (by omega) (by rw [toWs_length]; omega) (by rw [toWs_length]; omega), pput_f h0 h1 (by omega), toWs_length]
  cases hp : puts l0 l1.length sec d (okS l0 (toWs l1)) with
  | some e => exact ⟨[], [], e, rfl, rfl, alike_nil k (by omega), .inr rfl⟩
  | none =>
    have hd : d.length ≤ 64 := by
      unfold puts at hp
      split at hp
      · split at hp
        · split at hp
          · cases hp
          · omega
        · cases hp
      · cases hp
    refine ⟨l0, l1 ++ [⟨sec, padded d⟩], 0, by simp [toWs, toW], rfl, ?_, .inl rfl⟩
    refine alike_f (M := M) (by omega) (by rw [List.length_append]; show _ + 1 < _; omega) (by omega) (fun b hb => by have := h0.2 b hb; omega) (fun x hx => ?_) (by rw [List.length_append]; show _ + (_ + 1) + _ + _ ≤ _; omega)
    rcases List.mem_append.1 hx with h | h
    · have := h1.2 x h; omega
    · rw [List.mem_singleton.1 h]
      show (padded d).length ≤ M
      rw [padded_length hd]; omega
theorem DiskOwn : Stm.diskOwn.Pure := by
  intro s d h0 hl2
  obtain ⟨hd, hw⟩ := fit_of h0
  have hdl : d.length < 140737488355328 := by have := hl2.2.1; omega
  obtain ⟨M, hM⟩ : ∃ M, M = 140737488355328 := ⟨_, rfl⟩
  obtain ⟨k, hk⟩ : ∃ k, k = M + s.f0.length + s.f1.length + s.f1.length + d.length + 2000 := ⟨_, rfl⟩
  obtain ⟨a, v, n, p1, q1, e1, hn⟩ := put_pair (sec := 0) (d := d) (k := k) hd hw hM (by omega)
  have hok : okF k s.f0 s.f1 d = true := by
    simp only [okF, Bool.and_eq_true, decide_eq_true_eq, List.all_eq_true]
    exact ⟨⟨⟨⟨⟨hd.1, hw.1⟩, hdl⟩, by omega⟩, fun b hb => by have := hd.2 b hb; exact ⟨by omega, this⟩⟩, fun x hx => by have := hw.2 x hx; exact ⟨by omega, this⟩⟩
  refine ⟨k, ?_⟩
  unfold transeptlaw04_DiskOwn.f
  rw [show transeptlaw04_alive.f = some true from rfl, Option.bind_some, if_pos rfl, if_pos hok, p1, Option.bind_some]
  dsimp only
  by_cases hn0 : n = 0
  · rw [if_pos hn0, q1, Option.bind_some]
    dsimp only
    rw [e1, Option.bind_some]
    rfl
  · rw [if_neg hn0, hn.resolve_left hn0]
    rfl
end Go.Proofs.Ytiiphlfgdkjjiaa.Pure
