/- DiskOldOrNew is true of every state and list of kept writes; no condition. -/
import Derived.Test.YtiiphlfgdkjjiaaStmDiskOldOrNew
import Derived.Test.YtiiphlfgdkjjiaaDPlain
namespace Go.Proofs.Ytiiphlfgdkjjiaa.Pure
open Go.RowKit Go.Proofs.Ytiiphlfgdkjjiaa.Q Go.Proofs.Ytiiphlfgdkjjiaa.Read Go.Proofs.YtiiphlfgdkjjiaaW.PrintWords Go.Proofs.YtiiphlfgdkjjiaaW.PrintLast Go.Proofs.YtiiphlfgdkjjiaaW.PrintMore Go.Proofs.Ytiiphlfgdkjjiaa.Stm.diskOldOrNew
set_option linter.unusedVariables false
set_option linter.unusedSimpArgs false

theorem fit_of {x : S42} (h : fits42 x) : FitD x.f0 ∧ FitW x.f1 := by
  obtain ⟨⟨_, h1, h2⟩, ⟨_, h3, h4⟩⟩ := h
  exact ⟨⟨by omega, fun b hb => by have := (h2 b hb).2.1; omega⟩, ⟨by omega, fun y hy => by have := (h4 y hy).2.2.1; omega⟩⟩
/-- Without a tear: all of a write's octets, or none. -/
theorem csize_all (keep : List Bool) (i : Nat) : csize keep (-1) 0 i = 0 ∨ csize keep (-1) 0 i = 64 := by
  unfold csize
  by_cases h1 : keep.length ≤ i
  · rw [if_pos h1]; exact .inl rfl
  · rw [if_neg h1]
    by_cases h2 : keep.getD i false = false
    · rw [if_pos h2]; exact .inl rfl
    · rw [if_neg h2, if_neg (by omega)]; exact .inr rfl
/-- A sector is what it was, or what one of the first j writes had. -/
theorem landed_old {size : Nat → Nat} {l1 : List Wr} {l0 : List (List Int)} (hs : ∀ i, size i = 0 ∨ size i = 64) (h0 : ∀ b ∈ l0, b.length = 64) (h1 : ∀ x ∈ l1, 0 ≤ x.f0 ∧ x.f0 < (l0.length : Int) ∧ x.f1.length = 64) (i : Nat) (hi : i < l0.length) :
    ∀ j, j ≤ l1.length → rd_L2 (landed size l1 l0 j) (i : Int) = rd_L2 l0 (i : Int) ∨ ∃ x ∈ l1, x.f0 = (i : Int) ∧ x.f1 = rd_L2 (landed size l1 l0 j) (i : Int)
  | 0, _ => .inl rfl
  | j + 1, hj => by
    have ih := landed_old hs h0 h1 i hi j (by omega)
    have hlt : j < l1.length := by omega
    have hx := h1 l1[j] (List.getElem_mem hlt)
    have hsz : ∀ i, size i ≤ 64 := fun i => by rcases hs i with h | h <;> omega
    have hlen : (landed size l1 l0 j).length = l0.length := landed_length j
    rw [landed_at hlt]
    obtain ⟨m, hm⟩ : ∃ m : Nat, l1[j].f0 = (m : Int) := ⟨l1[j].f0.toNat, by omega⟩
    rw [hm, Int.toNat_natCast]
    have hml : m < l0.length := by omega
    have hrd : rd_L2 (landed size l1 l0 j) (m : Int) = (landed size l1 l0 j)[m]'(by omega) := rdL_at (by omega)
    have hr64 : (rd_L2 (landed size l1 l0 j) (m : Int)).length = 64 := by
      rw [hrd]; exact landed_all h0 h1 hsz j _ (List.getElem_mem _)
    rw [rdL_at (by rw [List.length_set]; omega)]
    by_cases h : m = i
    · subst h
      rw [List.getElem_set_self]
      rcases hs j with h2 | h2
      · rw [h2, List.take_zero, List.drop_zero, List.nil_append]
        exact ih
      · rw [h2, List.drop_eq_nil_of_le (by omega), List.append_nil, List.take_of_length_le (by omega)]
        exact .inr ⟨l1[j], List.getElem_mem hlt, hm, rfl⟩
    · rw [List.getElem_set_ne h, ← rdL_at]
      exact ih
theorem loop1 {ws : List Wp} {l0 L : List (List Int)} {b : List Int} {i K : Nat} (hw : ws.length < 4398046511104) (hb : b.length = 64) (hc : ∀ k', K ≤ k' → transeptlaw04_DiskOldOrNew.l0 k' (wrap64 ((i : Int) + 1)) l0 ws L [] = some true) :
    ∀ (m k j : Nat) (f : Bool), j + m = ws.length → m + K + 70 ≤ k → (f = true ∨ ∃ x ∈ ws.drop j, x.f0 = (i : Int) ∧ x.f1 = b) → transeptlaw04_DiskOldOrNew.l1 k (i : Int) b 0 f (j : Int) l0 ws L [] = some true := by
  intro m
  induction m with
  | zero =>
    intro k j f hj hk hf
    obtain ⟨k, rfl⟩ : ∃ q, k = q + 1 := ⟨k - 1, by omega⟩
    have hft : f = true := by
      rcases hf with h | ⟨x, hx, _⟩
      · exact h
      · rw [List.drop_eq_nil_of_le (by omega)] at hx; cases hx
    rw [transeptlaw04_DiskOldOrNew.l1, if_neg (by omega), numf, Option.bind_some, if_pos rfl, if_pos hft]
    exact hc k (by omega)
  | succ m ih =>
    intro k j f hj hk hf
    obtain ⟨k, rfl⟩ : ∃ q, k = q + 1 := ⟨k - 1, by omega⟩
    have hlt : j < ws.length := by omega
    rw [transeptlaw04_DiskOldOrNew.l1, if_pos (by omega), rdP_at hlt, wrap_s j (by omega)]
    cases f with
    | true =>
      rw [if_pos rfl]
      exact ih k (j + 1) true (by omega) (by omega) (.inl rfl)
    | false =>
      rw [if_neg (by simp), if_pos (by omega)]
      rw [List.drop_eq_getElem_cons hlt] at hf
      have hf2 : (ws[j].f0 = (i : Int) ∧ ws[j].f1 = b) ∨ ∃ x ∈ ws.drop (j + 1), x.f0 = (i : Int) ∧ x.f1 = b := by
        rcases hf with h | ⟨x, hx, h⟩
        · cases h
        · rcases List.mem_cons.1 hx with rfl | hx
          · exact .inl h
          · exact .inr ⟨x, hx, h⟩
      by_cases h1 : ws[j].f0 = (i : Int)
      · rw [if_pos h1, same_f (by omega) (by omega), Option.bind_some]
        refine ih k (j + 1) _ (by omega) (by omega) ?_
        rcases hf2 with h | h
        · exact .inl (decide_eq_true h.2.symm)
        · exact .inr h
      · rw [if_neg h1]
        refine ih k (j + 1) false (by omega) (by omega) ?_
        rcases hf2 with h | h
        · exact absurd h.1 h1
        · exact .inr h
theorem toWs_mem {ws : List Wp} {x : Wr} (h : x ∈ toWs ws) : ∃ y ∈ ws, y.f0 = x.f0 ∧ y.f1 = x.f1 := by
  obtain ⟨y, hy, rfl⟩ := List.mem_map.1 h
  exact ⟨y, hy, rfl, rfl⟩
theorem get_nil {L : List (List Int)} {i k : Nat} (hL : okS L [] = true) (hi : i < L.length) (hk : L.length + 3 ≤ k) : disk_Get.f k L [] (i : Int) = some (rd_L2 L (i : Int), 0) := by
  have := okS_out hL
  unfold disk_Get.f
  rw [asked_f (by omega) (by show 0 < _; decide) (by simpa using hk), if_pos hL, if_pos (by omega), Option.bind_some, if_pos rfl, if_pos ⟨hL, by omega, by omega⟩]
  rfl
theorem loop0 {ws : List Wp} {l0 L : List (List Int)} (hw : ws.length < 4398046511104) (hl : L.length = l0.length) (hL : okS L [] = true) (h0 : ∀ b ∈ l0, b.length = 64) (hold : ∀ i, i < l0.length → rd_L2 L (i : Int) = rd_L2 l0 (i : Int) ∨ ∃ x ∈ ws, x.f0 = (i : Int) ∧ x.f1 = rd_L2 L (i : Int)) :
    ∀ (m k i : Nat), i + m = l0.length → (m + 1) * (ws.length + l0.length + 200) ≤ k → transeptlaw04_DiskOldOrNew.l0 k (i : Int) l0 ws L [] = some true := by
  have hq := okS_out hL
  intro m
  induction m with
  | zero =>
    intro k i hi hk
    obtain ⟨k, rfl⟩ : ∃ q, k = q + 1 := ⟨k - 1, by omega⟩
    rw [transeptlaw04_DiskOldOrNew.l0, if_neg (by omega)]
    rfl
  | succ m ih =>
    intro k i hi hk
    have h1k : ws.length + l0.length + 200 ≤ k := Nat.le_trans (Nat.le_mul_of_pos_left _ (by omega)) hk
    obtain ⟨k, rfl⟩ : ∃ q, k = q + 1 := ⟨k - 1, by omega⟩
    rw [Nat.succ_mul] at hk
    have hlt : i < l0.length := by omega
    have hb : (rd_L2 L (i : Int)).length = 64 := by rw [rdL_at (by omega)]; exact hq.2.2.2.1 _ (List.getElem_mem _)
    have hm1 : ws.length + l0.length + 200 ≤ (m + 1) * (ws.length + l0.length + 200) := Nat.le_mul_of_pos_left _ (by omega)
    generalize hP : (m + 1) * (ws.length + l0.length + 200) = P at hk hm1
    rw [transeptlaw04_DiskOldOrNew.l0, if_pos (by omega), get_nil (i := i) (k := k) hL (by omega) (by omega), Option.bind_some, if_pos (by omega)]
    dsimp only
    rw [same_f (by omega) (by omega), Option.bind_some]
    refine loop1 (K := P) hw hb (fun k' hk' => ?_) ws.length k 0 _ (by omega) (by omega) ?_
    · rw [wrap_s i (by omega)]
      exact ih k' (i + 1) (by omega) (by rw [hP]; exact hk')
    · rcases hold i hlt with h | h
      · exact .inl (decide_eq_true h)
      · rw [List.drop_zero]; exact .inr h
theorem DiskOldOrNew : Stm.diskOldOrNew.Pure := by
  intro s keep h0 _
  obtain ⟨hd, hw⟩ := fit_of h0
  obtain ⟨K, hK⟩ : ∃ K, K = (s.f0.length + 1) * (s.f1.length + s.f0.length + 200) := ⟨_, rfl⟩
  obtain ⟨k, hk⟩ : ∃ k, k = K + s.f0.length + s.f1.length + 200 := ⟨_, rfl⟩
  have hd1 := hd.1
  have hw1 := hw.1
  have hlw : (toWs s.f1).length = s.f1.length := toWs_length _
  refine ⟨k, ?_⟩
  unfold transeptlaw04_DiskOldOrNew.f disk_Crash.f
  rw [show transeptlaw04_alive.f = some true from rfl, Option.bind_some, if_pos rfl, of_f hd hw (by omega), Option.bind_some]
  dsimp only
  rw [check_f (by omega) (by omega) (by omega), Option.bind_some]
  by_cases hok : okS s.f0 (toWs s.f1) = true
  · obtain ⟨h1, h2, h3, h4, h5⟩ := okS_out hok
    rw [if_pos hok, if_pos rfl, if_pos hok, Option.bind_some, numf, Option.bind_some, if_pos rfl]
    dsimp only
    have hL : okS (landed (csize keep (-1) 0) (toWs s.f1) s.f0 (toWs s.f1).length) [] = true := by
      have ha := landed_all h4 h5 (csize_le keep (-1) 0) (toWs s.f1).length
      simp only [okS, Bool.and_eq_true, decide_eq_true_eq, List.all_eq_true, landed_length]
      exact ⟨⟨⟨⟨h1, h2⟩, by show 0 ≤ _; omega⟩, ha⟩, fun x hx => by cases hx⟩
    refine loop0 hw1 (landed_length _) hL h4 (fun i hi => ?_) s.f0.length k 0 (by omega) (by omega)
    rcases landed_old (csize_all keep) h4 h5 i hi _ (Nat.le_refl _) with h | ⟨x, hx, h6, h7⟩
    · exact .inl h
    · obtain ⟨y, hy, e1, e2⟩ := toWs_mem hx
      exact .inr ⟨y, hy, e1.trans h6, e2.trans h7⟩
  · rw [if_neg hok, if_neg (by decide), Option.bind_some, numf, Option.bind_some, if_neg (by decide)]
    rfl
end Go.Proofs.Ytiiphlfgdkjjiaa.Pure
