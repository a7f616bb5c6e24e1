/- DiskCrashes is true of every state, list of kept writes, torn one and cut; no condition. -/
import Derived.Test.YtiiphlfgdkjjiaaStmDiskCrashes
import Derived.Test.YtiiphlfgdkjjiaaDRefPlain
namespace Go.Proofs.Ytiiphlfgdkjjiaa.Pure
open Go.RowKit Go.Proofs.Ytiiphlfgdkjjiaa.Q Go.Proofs.Ytiiphlfgdkjjiaa.Read Go.Proofs.YtiiphlfgdkjjiaaW.PrintWords Go.Proofs.YtiiphlfgdkjjiaaW.PrintLast Go.Proofs.YtiiphlfgdkjjiaaW.PrintMore Go.Proofs.Ytiiphlfgdkjjiaa.Stm.diskCrashes
set_option linter.unusedVariables false
set_option linter.unusedSimpArgs false

theorem fit_of {x : S42} (h : fits42 x) : FitD x.f0 ∧ FitW x.f1 := by
  obtain ⟨⟨_, h1, h2⟩, ⟨_, h3, h4⟩⟩ := h
  exact ⟨⟨by omega, fun b hb => by have := (h2 b hb).2.1; omega⟩, ⟨by omega, fun y hy => by have := (h4 y hy).2.2.1; omega⟩⟩
theorem DiskCrashes : Stm.diskCrashes.Pure := by
  intro s keep torn cut h0 _ _ _
  obtain ⟨hd, hw⟩ := fit_of h0
  have hd1 := hd.1
  have hw1 := hw.1
  have hlw : (toWs s.f1).length = s.f1.length := toWs_length _
  obtain ⟨M, hM⟩ : ∃ M, M = 140737488355328 := ⟨_, rfl⟩
  obtain ⟨k, hk⟩ : ∃ k, k = M + s.f0.length + s.f1.length + 2000 := ⟨_, rfl⟩
  have hs : transeptlaw04_Alike.f k s.f0 (toWs s.f1) s.f0 s.f1 = some 0 := alike_f (M := M) (by omega) (by omega) (by omega) (fun b hb => by have := hd.2 b hb; omega) (fun x hx => by have := hw.2 x hx; omega) (by omega)
  refine ⟨k, ?_⟩
  unfold transeptlaw04_DiskCrashes.f disk_Crash.f transeptref04_Crash.f
  rw [of_f hd hw (by omega), Option.bind_some]
  dsimp only
  rw [check_f (by omega) (by omega) (by omega), pcheck_f (by omega) (by omega) (by omega), Option.bind_some, Option.bind_some]
  by_cases hok : okS s.f0 (toWs s.f1) = true
  · obtain ⟨h1, h2, h3, h4, h5⟩ := okS_out hok
    rw [if_pos hok, if_pos rfl, if_pos hok, if_pos rfl, if_pos hok, Option.bind_some, Option.bind_some]
    dsimp only
    have ha := landed_all h4 h5 (csize_le keep torn cut) (min s.f1.length keep.length)
    have hla : (landed (csize keep torn cut) (toWs s.f1) s.f0 (min s.f1.length keep.length)).length = s.f0.length := landed_length _
    rw [landed_min, hlw]
    have hal := alike_f (a := landed (csize keep torn cut) (toWs s.f1) s.f0 (min s.f1.length keep.length)) (ws := []) (M := M) (k := k) (by rw [hla]; omega) (by show 0 < _; omega) (by omega) (fun b hb => by rw [ha b hb]; omega) (fun x hx => by cases hx) (by rw [hla]; show _ + 0 + _ + _ ≤ _; omega)
    rw [show toWs [] = [] from rfl] at hal
    rw [hal, Option.bind_some, if_pos rfl, numf, Option.bind_some, if_pos rfl, hs, Option.bind_some, if_pos rfl]
    rfl
  · rw [if_neg hok, if_neg (by decide), if_neg (by decide), Option.bind_some, Option.bind_some]
    dsimp only
    have hal := alike_f (a := []) (ws := []) (M := M) (k := k) (by show 0 < _; omega) (by show 0 < _; omega) (by omega) (fun b hb => by cases hb) (fun x hx => by cases hx) (by show 0 + 0 + _ + _ ≤ _; omega)
    rw [show toWs [] = [] from rfl] at hal
    rw [hal, Option.bind_some, if_pos rfl, numf, Option.bind_some, if_pos rfl, hs, Option.bind_some, if_pos rfl]
    rfl
end Go.Proofs.Ytiiphlfgdkjjiaa.Pure
