/- DiskTells is true of every state, sector, data, place and bits; no condition. -/
import Derived.Test.YtiiphlfgdkjjiaaStmDiskTells
import Derived.Test.YtiiphlfgdkjjiaaDTellsPlain
namespace Go.Proofs.Ytiiphlfgdkjjiaa.Pure
open Go.RowKit Go.Proofs.Ytiiphlfgdkjjiaa.Q Go.Proofs.Ytiiphlfgdkjjiaa.Read Go.Proofs.YtiiphlfgdkjjiaaW.PrintWords Go.Proofs.YtiiphlfgdkjjiaaW.PrintLast Go.Proofs.YtiiphlfgdkjjiaaW.PrintMore Go.Proofs.Ytiiphlfgdkjjiaa.Stm.diskTells
set_option linter.unusedVariables false
set_option linter.unusedSimpArgs false

theorem fit_of {x : S42} (h : fits42 x) : FitD x.f0 ∧ FitW x.f1 := by
  obtain ⟨⟨_, h1, h2⟩, ⟨_, h3, h4⟩⟩ := h
  exact ⟨⟨by omega, fun b hb => by have := (h2 b hb).2.1; omega⟩, ⟨by omega, fun y hy => by have := (h4 y hy).2.2.1; omega⟩⟩
theorem alike_nil (k : Nat) (hk : 10 ≤ k) : transeptlaw04_Alike.f k [] (toWs []) [] [] = some 0 :=
  alike_f (a := []) (ws := []) (M := 0) (by decide) (by decide) (by decide) (fun b hb => by cases hb) (fun x hx => by cases hx) (by show 0 + 0 + 0 + 3 ≤ k; omega)
theorem put_pair {l0 : List (List Int)} {l1 : List Wp} {sec : Int} {d : List Int} {M k : Nat} (h0 : FitD l0) (h1 : FitW l1) (hM : M = 140737488355328) (hk : l0.length + l1.length + M + 200 ≤ k) :
    ∃ a v n, disk_Put.f k l0 (toWs l1) sec d = some (a, toWs v, n) ∧ transeptref04_Put.f k l0 l1 sec d = some (a, v, n) ∧ transeptlaw04_Alike.f k a (toWs v) a v = some 0 := by
  have hd1 := h0.1
  have hw1 := h1.1
  rw [dput_f (by omega) (by rw [toWs_length]; omega) (by rw [toWs_length]; omega), pput_f h0 h1 (by omega), toWs_length]
  cases hp : puts l0 l1.length sec d (okS l0 (toWs l1)) with
  | some e => exact ⟨[], [], e, rfl, rfl, alike_nil k (by omega)⟩
  | none =>
    have hd : d.length ≤ 64 := by
      unfold puts at hp
      split at hp
      · split at hp
        · split at hp
          · cases hp
          · omega
        · cases hp
      · cases hp
    refine ⟨l0, l1 ++ [⟨sec, padded d⟩], 0, by simp [toWs, toW], rfl, alike_f (M := M) (by omega) (by rw [List.length_append]; show _ + 1 < _; omega) (by omega) (fun b hb => by have := h0.2 b hb; omega) (fun x hx => ?_) (by rw [List.length_append]; show _ + (_ + 1) + _ + _ ≤ _; omega)⟩
    rcases List.mem_append.1 hx with h | h
    · have := h1.2 x h; omega
    · rw [List.mem_singleton.1 h]
      show (padded d).length ≤ M
      rw [padded_length hd]; omega
theorem flush_pair {l0 : List (List Int)} {l1 : List Wp} {M k : Nat} (h0 : FitD l0) (h1 : FitW l1) (hM : M = 140737488355328) (hk : l0.length + l1.length + l1.length + M + 200 ≤ k) :
    ∃ a v n, disk_Flush.f k l0 (toWs l1) = some (a, toWs v, n) ∧ transeptref04_Flush.f k l0 l1 = some (a, v, n) ∧ transeptlaw04_Alike.f k a (toWs v) a v = some 0 := by
  have hd1 := h0.1
  have hw1 := h1.1
  rw [dflush_f (by omega) (by rw [toWs_length]; omega) (by rw [toWs_length]; omega), pflush_f (by omega) (by omega) (by omega), toWs_length]
  by_cases hok : okS l0 (toWs l1) = true
  · rw [if_pos hok, if_pos hok]
    obtain ⟨o1, o2, o3, o4, o5⟩ := okS_out hok
    have ha := landed_all o4 o5 (size := fun _ => 64) (fun _ => Nat.le_refl _) l1.length
    have hla : (landed (fun _ => 64) (toWs l1) l0 l1.length).length = l0.length := landed_length _
    exact ⟨landed (fun _ => 64) (toWs l1) l0 l1.length, [], 0, rfl, rfl, alike_f (M := M) (by rw [hla]; omega) (by decide) (by omega) (fun b hb => by rw [ha b hb]; omega) (fun x hx => by cases hx) (by rw [hla]; show _ + 0 + _ + _ ≤ _; omega)⟩
  · rw [if_neg hok, if_neg hok]
    exact ⟨[], [], 9, rfl, rfl, alike_nil k (by omega)⟩
theorem rot_pair {l0 : List (List Int)} {l1 : List Wp} {sec p b : Int} {M k : Nat} (h0 : FitD l0) (h1 : FitW l1) (hM : M = 140737488355328) (hk : l0.length + l1.length + M + 200 ≤ k) :
    ∃ a v n, disk_Rot.f k l0 (toWs l1) sec p b = some (a, toWs v, n) ∧ transeptref04_Rot.f k l0 l1 sec p b = some (a, v, n) ∧ transeptlaw04_Alike.f k a (toWs v) a v = some 0 := by
  have hd1 := h0.1
  have hw1 := h1.1
  rw [drot_f (by omega) (by rw [toWs_length]; omega) (by rw [toWs_length]; omega), prot_f (by omega) (by omega) (by omega)]
  cases hp : rots l0 sec p b (okS l0 (toWs l1)) with
  | some e => exact ⟨[], [], e, rfl, rfl, alike_nil k (by omega)⟩
  | none =>
    have hlr : (rotted l0 sec p b).length = l0.length := by rw [rotted, List.length_set]
    refine ⟨rotted l0 sec p b, l1, 0, rfl, rfl, alike_f (M := M) (by rw [hlr]; omega) (by omega) (by omega) (fun c hc => ?_) (fun x hx => by have := h1.2 x hx; omega) (by rw [hlr]; omega)⟩
    unfold rotted at hc
    rcases List.mem_or_eq_of_mem_set hc with h | h
    · have := h0.2 c h; omega
    · rw [h, turned, List.length_set, rd_L2, List.getD_eq_getElem?_getD]
      rcases Nat.lt_or_ge sec.toNat l0.length with hl | hl
      · rw [List.getElem?_eq_getElem hl]
        have := h0.2 _ (List.getElem_mem hl)
        show (l0[sec.toNat]).length ≤ M
        omega
      · rw [List.getElem?_eq_none hl]
        exact Nat.zero_le _
theorem DiskTells : Stm.diskTells.Pure := by
  intro s sec d p b h0 _ hl2 _ _
  obtain ⟨hd, hw⟩ := fit_of h0
  have hd1 := hd.1
  have hw1 := hw.1
  have hdl : d.length < 140737488355328 := by have := hl2.2.1; omega
  have hlw : (toWs s.f1).length = s.f1.length := toWs_length _
  obtain ⟨M, hM⟩ : ∃ M, M = 140737488355328 := ⟨_, rfl⟩
  obtain ⟨k, hk⟩ : ∃ k, k = M + s.f0.length + s.f1.length + s.f1.length + d.length + 2000 := ⟨_, rfl⟩
  have hs : transeptlaw04_Alike.f k s.f0 (toWs s.f1) s.f0 s.f1 = some 0 := alike_f (M := M) (by omega) (by omega) (by omega) (fun b hb => by have := hd.2 b hb; omega) (fun x hx => by have := hw.2 x hx; omega) (by omega)
  obtain ⟨a1, v1, n1, p1, q1, e1⟩ := put_pair (sec := sec) (d := d) (k := k + 1) hd hw hM (by omega)
  obtain ⟨a2, v2, n2, p2, q2, e2⟩ := flush_pair (k := k + 1) hd hw hM (by omega)
  obtain ⟨a3, v3, n3, p3, q3, e3⟩ := rot_pair (sec := sec) (p := p) (b := b) (k := k + 1) hd hw hM (by omega)
  have hgl : (gets s.f0 (toWs s.f1) sec).1.length < 140737488355328 := by
    unfold gets
    split
    · split
      · rename_i hok hin
        obtain ⟨o1, o2, o3, o4, o5, _⟩ := toWs_ok hok
        obtain ⟨n, rfl⟩ : ∃ n : Nat, sec = (n : Int) := ⟨sec.toNat, by omega⟩
        have hg : ∀ i, i ≤ s.f1.length → ((gotn (toWs s.f1) (n : Int) i).getD (rd_L2 s.f0 (n : Int))).length = 64 := by
          intro i
          induction i with
          | zero => intro _; show (rd_L2 s.f0 (n : Int)).length = 64; rw [rdL_at (by omega)]; exact o4 _ (List.getElem_mem _)
          | succ i ih =>
            intro hi
            rw [gotn_step (by omega)]
            split
            · exact (o5 _ (List.getElem_mem _)).2.2
            · exact ih (by omega)
        show (got s.f0 (toWs s.f1) (n : Int)).length < _
        rw [got, toWs_length, hg _ (Nat.le_refl _)]
        decide
      · exact by decide
    · exact by decide
  refine ⟨k + 1, ?_⟩
  unfold transeptlaw04_DiskTells.f
  rw [of_f hd hw (by omega), Option.bind_some, copyBytes hdl, Option.bind_some]
  dsimp only
  rw [p1, Option.bind_some, q1, Option.bind_some, dget_f (by omega) (by omega) (by omega), Option.bind_some, pget_f (by omega) (by omega) (by omega), Option.bind_some, p2, Option.bind_some, q2, Option.bind_some, p3, Option.bind_some, q3, Option.bind_some]
  dsimp only
  rw [e1, Option.bind_some, if_pos rfl, numf, Option.bind_some, if_pos rfl, same_f (by omega) (by omega), Option.bind_some, if_pos (decide_eq_true rfl), numf, Option.bind_some, if_pos rfl, e2, Option.bind_some, if_pos rfl, numf, Option.bind_some, if_pos rfl, e3, Option.bind_some, if_pos rfl, numf, Option.bind_some, bne_self_eq_false, transeptlaw04_DiskTells.j0, if_neg (by decide)]
  rw [check_f (by omega) (by omega) (by omega), Option.bind_some, numf, Option.bind_some, pcheck_f (by omega) (by omega) (by omega), Option.bind_some, if_pos rfl, hs, Option.bind_some, if_pos rfl, same_f (by omega) (by omega), Option.bind_some, if_pos (decide_eq_true rfl)]
  rfl
end Go.Proofs.Ytiiphlfgdkjjiaa.Pure
