/- RaftlogMatching is true of all terms and pieces; no condition. -/
import Derived.Test.YteplhacanofeoaaStmRaftlogMatching
import Derived.Test.YteplhacanofeoaaRlAcc
import Derived.Test.YteplhacanofeoaaRlAlive
namespace Go.Proofs.Yteplhacanofeoaa.Pure
open Go.RowKit Go.Proofs.Yteplhacanofeoaa.Q Go.Proofs.Yteplhacanofeoaa.Read Go.Proofs.YteplhacanofeoaaW.PrintWords Go.Proofs.YteplhacanofeoaaW.PrintLast Go.Proofs.YteplhacanofeoaaW.PrintMore Go.Proofs.Yteplhacanofeoaa.Stm.raftlogMatching
set_option linter.unusedVariables false
set_option linter.unusedSimpArgs false

theorem numf (x : Int) : transeptlaw15_num.f x = some x := rfl
theorem tmod_lt (a : Int) {b : Int} (h : 0 < b) : -b < Int.tmod a b ∧ Int.tmod a b < b := ⟨Int.lt_tmod_of_pos a h, Int.tmod_lt_of_pos a h⟩
theorem mn_min (a b : Nat) : mn (a : Int) (b : Int) = ((min a b : Nat) : Int) := by
  unfold mn
  by_cases h : (b : Int) < (a : Int)
  · rw [if_pos h, Nat.min_eq_right (by omega)]
  · rw [if_neg h, Nat.min_eq_left (by omega)]
/-- A leader's log, of at most 40 entries of one octet each. -/
structure Lead (L : List Ent) : Prop where
  ok : okLog 0 0 L = true
  len : L.length ≤ 40
  one : ∀ x ∈ L, x.f1.length = 1
theorem Lead.fit {L : List Ent} (h : Lead L) : FitL L := ⟨by have := h.len; omega, fun x hx => by have := h.one x hx; omega⟩
theorem Lead.fuel_take {L : List Ent} (h : Lead L) (n : Nat) : (L.take n).length + fuel (L.take n) ≤ 130 := by
  have h1 : ∀ xs : List Ent, (∀ x ∈ xs, x.f1.length = 1) → fuel xs = 2 * xs.length + 10 := by
    intro xs hx
    unfold fuel
    induction xs with
    | nil => rfl
    | cons y ys ih =>
      have h2 := ih (fun x hx' => hx x (List.mem_cons_of_mem _ hx'))
      have h3 := hx y List.mem_cons_self
      simp only [List.map_cons, List.sum_cons, List.length_cons, h3]
      omega
  have h2 := h1 (L.take n) (fun x hx => h.one x (List.mem_of_mem_take hx))
  have h3 : (L.take n).length ≤ 40 := by rw [List.length_take]; have := h.len; exact Nat.le_trans (Nat.min_le_right _ _) this
  omega
/-- Where a piece begins, where it ends. -/
theorem from_to {L : List Ent} (hL : 0 < L.length) (h40 : L.length ≤ 40) (F N : Int) :
    ∃ f t : Nat, Int.tmod (wrap64 (Int.tmod F (L.length : Int) + (L.length : Int))) (L.length : Int) = (f : Int) ∧ f < L.length ∧
      mn (wrap64 ((f : Int) + Int.tmod (wrap64 (Int.tmod N 10 + 10)) 10)) (L.length : Int) = (t : Int) ∧ f ≤ t ∧ t ≤ L.length := by
  have t1 := tmod_lt F (b := (L.length : Int)) (by omega)
  have t2 := tmod_lt (Int.tmod F (L.length : Int) + (L.length : Int)) (b := (L.length : Int)) (by omega)
  have t3 : 0 ≤ Int.tmod (Int.tmod F (L.length : Int) + (L.length : Int)) (L.length : Int) := Int.tmod_nonneg _ (by omega)
  have s1 := tmod_lt N (b := 10) (by decide)
  have s2 := tmod_lt (Int.tmod N 10 + 10) (b := 10) (by decide)
  have s3 : 0 ≤ Int.tmod (Int.tmod N 10 + 10) 10 := Int.tmod_nonneg _ (by omega)
  rw [wrapi (i := Int.tmod F (L.length : Int) + (L.length : Int)) (by omega) (by omega), wrapi (i := Int.tmod N 10 + 10) (by omega) (by omega)]
  generalize Int.tmod (Int.tmod F (L.length : Int) + (L.length : Int)) (L.length : Int) = u at t2 t3
  generalize Int.tmod (Int.tmod N 10 + 10) 10 = v at s2 s3
  refine ⟨u.toNat, min (u.toNat + v.toNat) L.length, by omega, by omega, ?_, Nat.le_min.2 ⟨Nat.le_add_right _ _, by omega⟩, Nat.min_le_right _ _⟩
  rw [wrapi (by omega) (by omega), show ((u.toNat : Nat) : Int) + v = ((u.toNat + v.toNat : Nat) : Int) by omega]
  exact mn_min _ _
theorem j3_go {L : List Ent} {l : List S70} {k i : Nat} {x : Bool} {a b c d : Int} {p q : List Ent} (h : x = false) :
    transeptlaw15_grown.j3 (k + 1) L l (i : Int) x a b p c d q = transeptlaw15_grown.l0 k L l (wrap64 ((i : Int) + 1)) c d q := by
  subst h; simp only [transeptlaw15_grown.j3]; rw [if_neg (by decide)]
theorem grown_end {L : List Ent} (hL : Lead L) {l : List S70} {k i p : Nat} (hp : p ≤ L.length) (hk : 200 ≤ k) :
    transeptlaw15_grown.j1 (k + 1) L l (i : Int) false 0 0 (L.take p) = some (0, 0, L.take p, true) := by
  simp only [transeptlaw15_grown.j1]
  have hpl : (L.take p).length = p := by rw [List.length_take]; exact Nat.min_eq_left hp
  have := hL.fuel_take p
  rw [if_neg (by decide), hpl, if_pos (by omega), if_pos (by omega), Int.toNat_natCast, sameEntries (hL.fit.take p) (by omega), Option.bind_some]
theorem grown_l0 {L : List Ent} (hL : Lead L) (l : List S70) : ∀ (m k i p : Nat), i + m = 61 → p ≤ L.length → 5 * m + 300 ≤ k →
    ∃ p', p' ≤ L.length ∧ transeptlaw15_grown.l0 k L l (i : Int) 0 0 (L.take p) = some (0, 0, L.take p', true) := by
  have h40 := hL.len
  intro m
  induction m with
  | zero =>
    intro k i p hi hp hk
    obtain ⟨k, rfl⟩ : ∃ j, k = j + 2 := ⟨k - 2, by omega⟩
    refine ⟨p, hp, ?_⟩
    simp only [transeptlaw15_grown.l0]
    rw [if_neg (show ¬ (i : Int) < 60 by omega), grown_end hL hp (by omega)]
    split <;> rfl
  | succ m ih =>
    intro k i p hi hp hk
    obtain ⟨k, rfl⟩ : ∃ j, k = j + 5 := ⟨k - 5, by omega⟩
    have hend := grown_end hL (l := l) (k := k + 3) (i := i) hp (by omega)
    simp only [transeptlaw15_grown.l0]
    by_cases h1 : (i : Int) < (l.length : Int)
    · rw [if_pos h1]
      by_cases h2 : (i : Int) < 60
      · rw [if_pos h2]
        by_cases h3 : 0 < L.length
        · rw [decide_eq_true (by omega)]
          obtain ⟨f, t, hf, hfl, ht, hft, htl⟩ := from_to h3 h40 (rd_T70 l (i : Int)).f0 (rd_T70 l (i : Int)).f1
          have hpl : (L.take p).length = p := by rw [List.length_take]; exact Nat.min_eq_left hp
          have hj2 : transeptlaw15_grown.j1 (k + 4) L l (i : Int) true 0 0 (L.take p) = transeptlaw15_grown.j2 (k + 3) L l (i : Int) (f : Int) (t : Int) (tat 0 0 L (f : Int)) 0 0 (L.take p) := by
            simp only [transeptlaw15_grown.j1]
            rw [if_true, if_pos (by omega), if_pos h1, if_neg (by omega), hf, ht]
            by_cases h4 : (f : Int) > 0
            · rw [if_pos h4, wrapi (i := (f : Int) - 1) (by omega) (by omega), if_pos (by omega), if_pos (by omega)]
              congr 1
              unfold tat
              rw [if_neg (by omega), show (f : Int) - 0 - 1 = (f : Int) - 1 by omega]
            · rw [if_neg h4]
              congr 1
              unfold tat
              rw [if_pos (by omega)]
          rw [hj2]
          simp only [transeptlaw15_grown.j2]
          have hacc := accept_take hL.ok (f := f) (t := t) (p := p) (k := k + 2) hft htl hp hL.fit (by omega)
          rw [if_pos (by omega), if_pos (by omega), if_pos (by omega), Int.toNat_natCast, Int.toNat_natCast, hacc, hpl]
          have hw : wrap64 ((i : Int) + 1) = ((i + 1 : Nat) : Int) := by rw [wrapi (by omega) (by omega)]; omega
          clear hacc hj2 hf ht
          have hM0 : max p t ≤ L.length := Nat.max_le.2 ⟨hp, htl⟩
          have hm1 := Nat.le_max_left p t
          have hm2 := Nat.le_max_right p t
          generalize max p t = M at hM0 hm1 hm2
          by_cases h5 : f ≤ p
          · obtain ⟨p', hp', hr⟩ := ih (k + 1) (i + 1) M (by omega) hM0 (by omega)
            have hpl2 : (L.take M).length = M := by rw [List.length_take]; exact Nat.min_eq_left hM0
            have q1 : ¬ (f : Int) > (p : Int) := by omega
            have q2 : ¬ (M : Int) < (t : Int) := by omega
            have q3 : ¬ (M : Int) < (p : Int) := by omega
            refine ⟨p', hp', ?_⟩
            rw [if_pos h5, Option.bind_some]
            dsimp only
            rw [if_neg q1, numf, Option.bind_some, if_pos rfl, if_pos rfl, hpl2, if_neg q2, j3_go (decide_eq_false q3), hw]
            exact hr
          · obtain ⟨p', hp', hr⟩ := ih (k + 2) (i + 1) p (by omega) hp (by omega)
            have q1 : (f : Int) > (p : Int) := by omega
            refine ⟨p', hp', ?_⟩
            rw [if_neg h5, Option.bind_some]
            dsimp only
            rw [if_pos q1, numf, Option.bind_some, if_pos rfl, hw]
            exact hr
        · rw [decide_eq_false (by omega)]
          exact ⟨p, hp, hend⟩
      · rw [if_neg h2]
        exact ⟨p, hp, hend⟩
    · rw [if_neg h1]
      exact ⟨p, hp, hend⟩
theorem grown_f {L : List Ent} (hL : Lead L) (l : List S70) {k : Nat} (hk : 700 ≤ k) : ∃ p, p ≤ L.length ∧ transeptlaw15_grown.f k L l = some (0, 0, L.take p, true) := by
  have h := grown_l0 hL l 61 k 0 0 (by omega) (Nat.zero_le _) (by omega)
  exact h
theorem j1_f {L : List Ent} (hL : Lead L) (a b : List S70) {k : Nat} (hk : 800 ≤ k) : transeptlaw15_RaftlogMatching.j1 k a b L = some true := by
  obtain ⟨k, rfl⟩ : ∃ j, k = j + 1 := ⟨k - 1, by omega⟩
  obtain ⟨p, hp, h1⟩ := grown_f hL a (k := k) (by omega)
  obtain ⟨q, hq, h2⟩ := grown_f hL b (k := k) (by omega)
  have hpl : (L.take p).length = p := by rw [List.length_take]; exact Nat.min_eq_left hp
  have hql : (L.take q).length = q := by rw [List.length_take]; exact Nat.min_eq_left hq
  have hm := mn_min p q
  have hm1 := Nat.min_le_left p q
  have hm2 := Nat.min_le_right p q
  simp only [transeptlaw15_RaftlogMatching.j1]
  rw [h1, Option.bind_some, h2, Option.bind_some]
  dsimp only
  rw [if_pos rfl, if_pos rfl, hpl, hql, hm, if_pos (by omega), if_pos (by omega), if_pos (by omega), Int.toNat_natCast, List.take_take, List.take_take, Nat.min_eq_left hm1, Nat.min_eq_left hm2]
  have := hL.fuel_take (min p q)
  rw [sameEntries (hL.fit.take _) (by omega), Option.bind_some]
/-- What is laid on the leader's log. -/
structure Grow (L : List Ent) (t : Int) (i : Nat) : Prop where
  len : L.length = i
  one : ∀ x ∈ L, x.f1.length = 1
  good : goodFrom 1 L = true
  top : ∀ x ∈ L, x.f0 ≤ t
  t1 : 1 ≤ t ∧ t ≤ 1 + 2 * (i : Int)
theorem goodFrom_snoc {xs : List Ent} : ∀ {a t : Int} {d : List Int}, goodFrom a xs = true → (∀ x ∈ xs, x.f0 ≤ t) → a ≤ t → t ≤ 1099511627776 → d.length ≤ 4096 → goodFrom a (xs ++ [⟨t, d⟩]) = true := by
  induction xs with
  | nil => intro a t d _ _ h1 h2 h3; simp [goodFrom, h1, h2, h3]
  | cons y ys ih =>
    intro a t d h htop h1 h2 h3
    simp only [goodFrom, Bool.and_eq_true, List.cons_append] at h ⊢
    exact ⟨h.1, ih h.2 (fun x hx => htop x (List.mem_cons_of_mem _ hx)) (htop y List.mem_cons_self) h2 h3⟩
theorem Grow.lead {L : List Ent} {t : Int} {i : Nat} (h : Grow L t i) (hi : i ≤ 40) : Lead L := by
  refine ⟨?_, by have := h.len; omega, h.one⟩
  unfold okLog
  rw [Bool.and_eq_true, decide_eq_true_eq]
  have := h.len
  exact ⟨by omega, h.good⟩
theorem loop {x0 : List Int} (a b : List S70) (hx : x0.length < 4611686018427387904) : ∀ (m k i : Nat) (L : List Ent) (t : Int), i + m = 40 → Grow L t i → m + 900 ≤ k →
    transeptlaw15_RaftlogMatching.l0 k x0 a b L t (i : Int) = some true := by
  intro m
  induction m with
  | zero =>
    intro k i L t hi hg hk
    obtain ⟨k, rfl⟩ : ∃ j, k = j + 1 := ⟨k - 1, by omega⟩
    simp only [transeptlaw15_RaftlogMatching.l0]
    have hj := j1_f (hg.lead (by omega)) a b (k := k) (by omega)
    rw [if_neg (show ¬ (i : Int) < 40 by omega), hj]
    split <;> rfl
  | succ m ih =>
    intro k i L t hi hg hk
    obtain ⟨k, rfl⟩ : ∃ j, k = j + 1 := ⟨k - 1, by omega⟩
    simp only [transeptlaw15_RaftlogMatching.l0]
    have hj := j1_f (hg.lead (by omega)) a b (k := k) (by omega)
    have ht := hg.t1
    have hl := hg.len
    by_cases h1 : (i : Int) < (x0.length : Int)
    · have s1 := tmod_lt (rd x0 (i : Int)) (b := 3) (by decide)
      have s2 := tmod_lt (Int.tmod (rd x0 (i : Int)) 3 + 3) (b := 3) (by decide)
      have s3 : 0 ≤ Int.tmod (Int.tmod (rd x0 (i : Int)) 3 + 3) 3 := Int.tmod_nonneg _ (by omega)
      rw [if_pos h1, if_pos (by omega), if_pos (by omega), if_pos (by omega), wrapi (i := Int.tmod (rd x0 (i : Int)) 3 + 3) (by omega) (by omega)]
      generalize Int.tmod (Int.tmod (rd x0 (i : Int)) 3 + 3) 3 = v at s2 s3
      rw [wrapi (i := t + v) (by omega) (by omega), wrapi (i := (i : Int) + 1) (by omega) (by omega)]
      have hg2 : Grow (L ++ [⟨t + v, [(i : Int) % 256]⟩]) (t + v) (i + 1) := by
        refine ⟨by simp [hl], fun x hx => ?_, goodFrom_snoc hg.good (fun x hx => by have := hg.top x hx; omega) (by omega) (by omega) (by show 1 ≤ 4096; decide), fun x hx => ?_, by omega⟩
        · rcases List.mem_append.1 hx with hx | hx
          · exact hg.one x hx
          · rw [List.mem_singleton.1 hx]; rfl
        · rcases List.mem_append.1 hx with hx | hx
          · have := hg.top x hx; omega
          · rw [List.mem_singleton.1 hx]; exact Int.le_refl _
      have h := ih k (i + 1) _ _ (by omega) hg2 (by omega)
      rw [Int.natCast_add, Int.natCast_one] at h
      exact h
    · rw [if_neg h1, hj]
theorem RaftlogMatching : Stm.raftlogMatching.Pure := by
  intro x0 a b h0 h1 h2
  refine ⟨1000, ?_⟩
  unfold transeptlaw15_RaftlogMatching.f
  rw [alive_f (by omega), Option.bind_some, if_pos rfl]
  have hl := h0.2.1
  exact loop a b (by omega) 40 1000 0 [] 1 (by omega) ⟨rfl, (fun x hx => by cases hx), rfl, (fun x hx => by cases hx), by omega⟩ (by omega)
end Go.Proofs.Yteplhacanofeoaa.Pure
