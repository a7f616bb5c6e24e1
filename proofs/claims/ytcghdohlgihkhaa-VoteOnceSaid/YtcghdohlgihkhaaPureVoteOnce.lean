/- VoteOnce is true for every log's end and every list of questions: in one term never two votes are given to different ones, the term never goes down, none is given to a log that is older; no condition. -/
import Derived.Test.YtcghdohlgihkhaaStmVoteOnce
import Derived.Test.YtcghdohlgihkhaaVote
namespace Go.Proofs.Ytcghdohlgihkhaa.Pure
open Go.RowKit Go.Proofs.Ytcghdohlgihkhaa.Q Go.Proofs.Ytcghdohlgihkhaa.Read Go.Proofs.YtcghdohlgihkhaaW.PrintWords Go.Proofs.YtcghdohlgihkhaaW.PrintLast Go.Proofs.YtcghdohlgihkhaaW.PrintMore

/-- What a decision can be. -/
def Outcome (T : Int) (H : Bool) (F own ot term fr last lt : Int) (T' : Int) (H' : Bool) (F' : Int) (ok : Bool) (e : Int) : Prop :=
  e ≠ 0 ∨ (e = 0 ∧ ok = false ∧ ((T' = T ∧ H' = H ∧ F' = F) ∨ (T < T' ∧ H' = false ∧ F' = 0))) ∨
    (e = 0 ∧ ok = true ∧ T' = term ∧ H' = true ∧ F' = fr ∧ vote_Newer.f last lt own ot = some true ∧ (T < term ∨ (T = term ∧ (H = true → F = fr))))
theorem newer_some (a b c d : Int) : vote_Newer.f a b c d = some true ∨ vote_Newer.f a b c d = some false := by
  unfold vote_Newer.f
  split
  · rcases decide_eq_or (a ≥ c) with h | h <;> simp [h]
  · rcases decide_eq_or (b > d) with h | h <;> simp [h]
where decide_eq_or (p : Prop) [Decidable p] : decide p = true ∨ decide p = false := by by_cases h : p <;> simp [h]

theorem vdecide {k : Nat} (hk : 5 ≤ k) (T : Int) (H : Bool) (F own ot term fr last lt : Int) :
    ∃ T' H' F' ok e, vote_Decide.f k T H F own ot term fr last lt = some (T', H', F', ok, e) ∧ Outcome T H F own ot term fr last lt T' H' F' ok e := by
  obtain ⟨k, rfl⟩ : ∃ m, k = m + 2 := ⟨k - 2, by omega⟩
  unfold vote_Decide.f
  rw [vcheck]
  by_cases hs : okState T H F
  · rw [if_pos hs]
    simp only [Option.bind_some, if_true]
    have hbad : ∀ k T H F, vote_Decide.j0 (k + 1) own ot true T H F term fr last lt = some (0, false, 0, false, 4) := by
      intro k T H F; simp only [vote_Decide.j0, if_true]
    by_cases h1 : term < 1
    · rw [if_pos h1]
      exact ⟨_, _, _, _, _, hbad _ _ _ _, .inl (by decide)⟩
    · rw [if_neg h1, vterms]
      simp only [Option.bind_some]
      by_cases h2 : 0 ≤ term ∧ term ≤ 1099511627776
      · rw [if_pos (by simpa using h2), vnodes]
        simp only [Option.bind_some]
        by_cases h3 : 0 ≤ fr ∧ fr ≤ 8
        · have hn : (!decide (0 ≤ fr ∧ fr ≤ 8)) = false := by simp [h3]
          rw [hn]
          simp only [vote_Decide.j0]
          rw [if_neg (by decide), vturn_ge (by omega), if_pos hs, if_pos h2]
          by_cases h4 : term ≤ T
          · rw [if_pos h4]
            simp only [Option.bind_some]
            by_cases hT : T = term
            · subst hT
              cases H
              · rw [if_neg (by decide), if_pos rfl]
                rcases newer_some last lt own ot with hw | hw
                · rw [hw]
                  exact ⟨_, _, _, _, _, rfl, .inr (.inr ⟨rfl, rfl, rfl, rfl, rfl, hw, .inr ⟨rfl, fun h => by cases h⟩⟩)⟩
                · rw [hw]
                  exact ⟨_, _, _, _, _, rfl, .inr (.inl ⟨rfl, rfl, .inl ⟨rfl, rfl, rfl⟩⟩)⟩
              · rw [if_pos rfl, if_pos rfl]
                by_cases hF : F = fr
                · rw [if_pos hF]
                  rcases newer_some last lt own ot with hw | hw
                  · rw [hw]
                    exact ⟨_, _, _, _, _, rfl, .inr (.inr ⟨rfl, rfl, rfl, rfl, rfl, hw, .inr ⟨rfl, fun _ => hF⟩⟩)⟩
                  · rw [hw]
                    exact ⟨_, _, _, _, _, rfl, .inr (.inl ⟨rfl, rfl, .inl ⟨rfl, rfl, rfl⟩⟩)⟩
                · rw [if_neg hF]
                  exact ⟨_, _, _, _, _, rfl, .inr (.inl ⟨rfl, rfl, .inl ⟨rfl, rfl, rfl⟩⟩)⟩
            · cases H
              · rw [if_neg (by decide), if_neg hT]
                exact ⟨_, _, _, _, _, rfl, .inr (.inl ⟨rfl, rfl, .inl ⟨rfl, rfl, rfl⟩⟩)⟩
              · rw [if_pos rfl, if_neg hT]
                exact ⟨_, _, _, _, _, rfl, .inr (.inl ⟨rfl, rfl, .inl ⟨rfl, rfl, rfl⟩⟩)⟩
          · rw [if_neg h4]
            simp only [Option.bind_some]
            rw [if_neg (by decide), if_pos trivial]
            rcases newer_some last lt own ot with hw | hw
            · rw [hw]
              exact ⟨_, _, _, _, _, rfl, .inr (.inr ⟨rfl, rfl, rfl, rfl, rfl, hw, .inl (by omega)⟩)⟩
            · rw [hw]
              exact ⟨_, _, _, _, _, rfl, .inr (.inl ⟨rfl, rfl, .inr ⟨by omega, rfl, rfl⟩⟩)⟩
        · have hn : (!decide (0 ≤ fr ∧ fr ≤ 8)) = true := by simp [h3]
          rw [hn]
          exact ⟨_, _, _, _, _, hbad _ _ _ _, .inl (by decide)⟩
      · rw [if_neg (by simpa using h2)]
        exact ⟨_, _, _, _, _, hbad _ _ _ _, .inl (by decide)⟩
  · rw [if_neg hs]
    exact ⟨_, _, _, _, _, rfl, .inl (by decide)⟩

/-- What was given so far is of the state's term at most, and in the state's term it is the state's. -/
def Inv (l : List S32) (g : List Int) (i : Nat) (T : Int) (H : Bool) (F : Int) : Prop :=
  g.length = l.length ∧ (∀ j, i ≤ j → g.getD j 0 = 0) ∧ ∀ j, j < i → g.getD j 0 = 1 → (rd_T32 l (j : Int)).f0 ≤ T ∧ ((rd_T32 l (j : Int)).f0 = T → H = true ∧ F = (rd_T32 l (j : Int)).f1)
theorem Inv.pass {l : List S32} {g : List Int} {i : Nat} {T T' : Int} {H H' : Bool} {F F' : Int} (h : Inv l g i T H F) (ht : (T' = T ∧ H' = H ∧ F' = F) ∨ (T < T' ∧ H' = false ∧ F' = 0)) : Inv l g (i + 1) T' H' F' := by
  refine ⟨h.1, fun j hj => h.2.1 j (by omega), fun j hj hg => ?_⟩
  have hji : j < i := by
    rcases Nat.lt_or_ge j i with hlt | hge
    · exact hlt
    · have := h.2.1 j hge; omega
  have h3 := h.2.2 j hji hg
  rcases ht with ⟨rfl, rfl, rfl⟩ | ⟨hlt, _, _⟩
  · exact h3
  · exact ⟨by omega, fun he => by omega⟩
theorem set_get (g : List Int) (i j : Nat) (x : Int) (hi : i < g.length) : (g.set i x).getD j 0 = if j = i then x else g.getD j 0 := by
  simp only [List.getD_eq_getElem?_getD]
  by_cases h : j = i
  · subst h; simp [hi]
  · rw [List.getElem?_set_ne (fun e => h e.symm), if_neg h]
theorem Inv.give {l : List S32} {g : List Int} {i : Nat} {T : Int} {H : Bool} {F : Int} (h : Inv l g i T H F) (hi : i < l.length) (hT : T < (rd_T32 l (i : Int)).f0 ∨ (T = (rd_T32 l (i : Int)).f0 ∧ (H = true → F = (rd_T32 l (i : Int)).f1))) :
    Inv l (g.set i 1) (i + 1) (rd_T32 l (i : Int)).f0 true (rd_T32 l (i : Int)).f1 := by
  have hg := h.1
  refine ⟨by rw [List.length_set]; exact hg, fun j hj => ?_, fun j hj hgj => ?_⟩
  · rw [set_get _ _ _ _ (by omega), if_neg (by omega)]
    exact h.2.1 j (by omega)
  · rw [set_get _ _ _ _ (by omega)] at hgj
    by_cases hji : j = i
    · subst hji
      exact ⟨Int.le_refl _, fun _ => ⟨rfl, rfl⟩⟩
    · rw [if_neg hji] at hgj
      have h3 := h.2.2 j (by omega) hgj
      rcases hT with hT | ⟨hT, hF⟩
      · exact ⟨by omega, fun he => by omega⟩
      · refine ⟨by omega, fun he => ⟨rfl, ?_⟩⟩
        have h4 := h3.2 (by omega)
        rw [← hF h4.1]; exact h4.2
/-- The same one as before, wherever the terms are one. -/
theorem Inv.same {l : List S32} {g : List Int} {i : Nat} {T : Int} {H : Bool} {F : Int} (h : Inv l g i T H F) (hT : T < (rd_T32 l (i : Int)).f0 ∨ (T = (rd_T32 l (i : Int)).f0 ∧ (H = true → F = (rd_T32 l (i : Int)).f1)))
    (j : Nat) (hj : j < i) (hg : g.getD j 0 = 1) (he : (rd_T32 l (j : Int)).f0 = (rd_T32 l (i : Int)).f0) : (rd_T32 l (j : Int)).f1 = (rd_T32 l (i : Int)).f1 := by
  have h3 := h.2.2 j hj hg
  rcases hT with hT | ⟨hT, hF⟩
  · omega
  · have h4 := h3.2 (by omega)
    rw [← hF h4.1]; exact h4.2.symm

/-- The inner loop: all that were given before are looked at. -/
theorem vo_inner (own ot : Int) (l : List S32) (hl : l.length ≤ 140737488351232) (g : List Int) (i : Nat) (hi : i < l.length) (hgl : g.length = l.length) (T : Int) (H : Bool) (F : Int)
    (hs : ∀ j, j < i → g.getD j 0 = 1 → (rd_T32 l (j : Int)).f0 = (rd_T32 l (i : Int)).f0 → (rd_T32 l (j : Int)).f1 = (rd_T32 l (i : Int)).f1) (R : Nat)
    (hout : ∀ k, R ≤ k → transeptlaw16_VoteOnce.l0 k own ot l g ((i : Int) + 1) T H F = some true) (d : Nat) :
    ∀ (k j : Nat), j ≤ i → i - j = d → R + d < k → transeptlaw16_VoteOnce.l1 k own ot l g i j T H F = some true := by
  induction d with
  | zero =>
    intro k j hj hd hk
    obtain ⟨k, rfl⟩ : ∃ m, k = m + 1 := ⟨k - 1, by omega⟩
    have hw : wrap64 ((i : Int) + 1) = (i : Int) + 1 := by unfold wrap64; omega
    simp only [transeptlaw16_VoteOnce.l1]
    rw [if_neg (by omega), hw]
    exact hout k (by omega)
  | succ d ih =>
    intro k j hj hd hk
    obtain ⟨k, rfl⟩ : ∃ m, k = m + 1 := ⟨k - 1, by omega⟩
    have hw : wrap64 ((j : Int) + 1) = ((j + 1 : Nat) : Int) := by unfold wrap64; omega
    have hr : rd g (j : Int) = g.getD j 0 := rfl
    have hn := ih k (j + 1) (by omega) (by omega) (by omega)
    simp only [transeptlaw16_VoteOnce.l1]
    rw [if_pos (by omega), if_pos (by omega), if_pos (by omega), hr, hw]
    by_cases h1 : g.getD j 0 = 1
    · rw [if_pos h1, if_pos (by omega), if_pos (by omega), if_pos (by omega)]
      by_cases h2 : (rd_T32 l (j : Int)).f0 = (rd_T32 l (i : Int)).f0
      · rw [if_pos h2, if_pos (hs j (by omega) h1 h2)]
        exact hn
      · rw [if_neg h2]
        exact hn
    · rw [if_neg h1]
      exact hn

theorem vo_loop (own ot : Int) (l : List S32) (hl : l.length ≤ 140737488351232) (d : Nat) :
    ∀ (k i : Nat) (g : List Int) (T : Int) (H : Bool) (F : Int), i ≤ l.length → l.length - i = d → (d + 1) * (l.length + 8) < k → Inv l g i T H F → transeptlaw16_VoteOnce.l0 k own ot l g i T H F = some true := by
  induction d with
  | zero =>
    intro k i g T H F hi hd hk hI
    obtain ⟨k, rfl⟩ : ∃ m, k = m + 1 := ⟨k - 1, by omega⟩
    simp only [transeptlaw16_VoteOnce.l0]
    rw [if_neg (by omega)]
  | succ d ih =>
    intro k i g T H F hi hd hk hI
    obtain ⟨k, rfl⟩ : ∃ m, k = m + 1 := ⟨k - 1, by omega⟩
    have hk1 : (d + 1) * (l.length + 8) + (l.length + 8) < k + 1 := by
      have : (d + 1 + 1) * (l.length + 8) = (d + 1) * (l.length + 8) + (l.length + 8) := Nat.succ_mul _ _
      omega
    have hw : wrap64 ((i : Int) + 1) = (i : Int) + 1 := by unfold wrap64; omega
    have go : ∀ k g T H F, (d + 1) * (l.length + 8) < k → Inv l g (i + 1) T H F → transeptlaw16_VoteOnce.l0 k own ot l g ((i : Int) + 1) T H F = some true := fun k g T H F hk hI => by
      rw [show (i : Int) + 1 = ((i + 1 : Nat) : Int) from by omega]
      exact ih k (i + 1) g T H F (by omega) (by omega) hk hI
    obtain ⟨T', H', F', ok, e, hD, hO⟩ := vdecide (k := k) (by omega) T H F own ot (rd_T32 l (i : Int)).f0 (rd_T32 l (i : Int)).f1 (rd_T32 l (i : Int)).f2 (rd_T32 l (i : Int)).f3
    simp only [transeptlaw16_VoteOnce.l0]
    rw [if_pos (by omega), if_pos (by omega), hD, hw]
    simp only [Option.bind_some, transeptlaw16_num.f]
    rcases hO with he | ⟨he, hok, ht⟩ | ⟨he, hok, hT', hH', hF', hnew, hT⟩
    · rw [if_neg he]
      exact go k g T H F (by omega) (hI.pass (.inl ⟨rfl, rfl, rfl⟩))
    · have hlt : ¬ T' < T := by rcases ht with ⟨h, _, _⟩ | ⟨h, _, _⟩ <;> omega
      rw [if_pos he, if_neg hlt, hok, if_neg (by decide)]
      exact go k g T' H' F' (by omega) (hI.pass ht)
    · subst hT' hH' hF' hok
      have hlt : ¬ (rd_T32 l (i : Int)).f0 < T := by rcases hT with h | ⟨h, _⟩ <;> omega
      have hgl := hI.1
      rw [if_pos he, if_neg hlt, if_pos rfl, if_pos rfl, if_pos rfl, if_pos rfl, hnew]
      simp only [Option.bind_some]
      rw [if_pos trivial, if_pos (by omega), Int.toNat_natCast]
      refine vo_inner own ot l hl (g.set i 1) i (by omega) (by rw [List.length_set]; exact hgl) _ _ _ (fun j hj hg he => ?_) ((d + 1) * (l.length + 8) + 1) (fun k hk => go k _ _ _ _ (by omega) (hI.give (by omega) hT)) i k 0 (by omega) (by omega) (by omega)
      rw [set_get _ _ _ _ (by omega), if_neg (by omega)] at hg
      exact hI.same hT j hj hg he

theorem VoteOnce : Stm.voteOnce.Pure := by
  intro own ot l _ _ fl
  have hl := fl.2.1
  refine ⟨(l.length + 1) * (l.length + 8) + 11, ?_⟩
  unfold transeptlaw16_VoteOnce.f
  rw [valive (by omega)]
  simp only [Option.bind_some, if_true]
  rw [if_pos (by omega), if_pos (by omega), Int.toNat_natCast]
  exact vo_loop own ot l (by omega) l.length _ 0 _ _ _ _ (by omega) (by omega) (by omega) ⟨by simp, fun j _ => by simp [List.getD_eq_getElem?_getD, List.getElem?_replicate]; split <;> rfl, fun j hj => absurd hj (by omega)⟩
end Go.Proofs.Ytcghdohlgihkhaa.Pure
