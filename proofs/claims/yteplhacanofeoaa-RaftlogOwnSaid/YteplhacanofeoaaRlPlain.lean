/- raftlog and its page, plainly: what they answer, over lists; no condition but that a loop's fuel is enough and that lists are no longer than a machine holds. -/
import Derived.Test.YteplhacanofeoaaAcc
import Derived.Test.YteplhacanofeoaaQ12
import Derived.Test.YteplhacanofeoaaQ10
import Derived.Test.YteplhacanofeoaaQ7
import Derived.Test.YteplhacanofeoaaQ13
import Derived.Test.YteplhacanofeoaaQ12
namespace Go.Proofs.Yteplhacanofeoaa.Q
open Go.RowKit Go.Proofs.YteplhacanofeoaaW.PrintWords Go.Proofs.YteplhacanofeoaaW.PrintLast Go.Proofs.YteplhacanofeoaaW.PrintMore
set_option linter.unusedVariables false
set_option linter.unusedSimpArgs false

abbrev Ent := S28
theorem wf_i64 {x : Int} (h : (Lit.int .i64 x).wf = true) : -9223372036854775808 ≤ x ∧ x ≤ 9223372036854775807 := by
  have := h
  simp [Lit.wf, IntKind.min, IntKind.max, IntKind.signed, IntKind.bits] at this
  omega
theorem wrapi {i : Int} (h0 : -9223372036854775808 ≤ i) (h1 : i ≤ 9223372036854775807) : wrap64 i = i := by unfold wrap64; omega
/-- As long as a machine holds. -/
def FitL (xs : List Ent) : Prop := xs.length < 4398046511104 ∧ ∀ x ∈ xs, x.f1.length < 140737488355328
theorem FitL.take {xs : List Ent} (h : FitL xs) (n : Nat) : FitL (xs.take n) := ⟨by have := h.1; rw [List.length_take]; omega, fun x hx => h.2 x (List.mem_of_mem_take hx)⟩
theorem FitL.drop {xs : List Ent} (h : FitL xs) (n : Nat) : FitL (xs.drop n) := ⟨by have := h.1; rw [List.length_drop]; omega, fun x hx => h.2 x (List.mem_of_mem_drop hx)⟩

theorem sameBytes_l0 (l : List Int) (hl : l.length < 4611686018427387904) : ∀ (m k i : Nat), i + m = l.length → m + 1 ≤ k → transeptplain_SameBytes.l0 k l l (i : Int) = some true := by
  intro m
  induction m with
  | zero =>
    intro k i hi hk
    obtain ⟨k, rfl⟩ : ∃ j, k = j + 1 := ⟨k - 1, by omega⟩
    simp only [transeptplain_SameBytes.l0]
    rw [if_neg (by omega)]
  | succ m ih =>
    intro k i hi hk
    obtain ⟨k, rfl⟩ : ∃ j, k = j + 1 := ⟨k - 1, by omega⟩
    simp only [transeptplain_SameBytes.l0]
    rw [if_pos (by omega), if_pos (by omega), if_pos (by omega), if_true, wrapi (by omega) (by omega)]
    exact ih k (i + 1) (by omega) (by omega)
theorem sameBytes {l : List Int} {k : Nat} (hl : l.length < 4611686018427387904) (hk : l.length + 1 ≤ k) : transeptplain_SameBytes.f k l l = some true := by
  unfold transeptplain_SameBytes.f
  rw [if_pos rfl]
  exact sameBytes_l0 l hl l.length k 0 (by omega) (by omega)
/-- The fuel that a list of entries wants. -/
def fuel (xs : List Ent) : Nat := (xs.map fun x => x.f1.length + 1).sum + 10
theorem fuel_mem {xs : List Ent} {x : Ent} (h : x ∈ xs) : x.f1.length + 1 + 10 ≤ fuel xs := by
  unfold fuel
  induction xs with
  | nil => cases h
  | cons y ys ih =>
    simp only [List.map_cons, List.sum_cons]
    rcases List.mem_cons.1 h with rfl | h
    · omega
    · have := ih h; omega
theorem fuel_len (xs : List Ent) : xs.length + 10 ≤ fuel xs := by
  unfold fuel
  induction xs with
  | nil => simp
  | cons y ys ih => simp only [List.map_cons, List.sum_cons, List.length_cons]; omega
theorem sameEntries_l0 (l : List Ent) (hl : FitL l) : ∀ (m k i : Nat), i + m = l.length → m + fuel l ≤ k → transeptplain_SameEntries.l0 k l l (i : Int) = some true := by
  intro m
  induction m with
  | zero =>
    intro k i hi hk
    obtain ⟨k, rfl⟩ : ∃ j, k = j + 1 := ⟨k - 1, by have := fuel_len l; omega⟩
    simp only [transeptplain_SameEntries.l0]
    rw [if_neg (by omega)]
  | succ m ih =>
    intro k i hi hk
    obtain ⟨k, rfl⟩ : ∃ j, k = j + 1 := ⟨k - 1, by omega⟩
    have hil : i < l.length := by omega
    have h1 := hl.1
    have h2 := hl.2 l[i] (List.getElem_mem hil)
    have h3 := fuel_mem (List.getElem_mem hil)
    simp only [transeptplain_SameEntries.l0]
    rw [if_pos (by omega), if_pos (by omega), if_pos (by omega), if_true, rd_at hil, sameBytes (by omega) (by omega), Option.bind_some, if_pos rfl, wrapi (by omega) (by omega)]
    exact ih k (i + 1) (by omega) (by omega)
theorem sameEntries {l : List Ent} {k : Nat} (hl : FitL l) (hk : l.length + fuel l ≤ k) : transeptplain_SameEntries.f k l l = some true := by
  unfold transeptplain_SameEntries.f
  rw [if_pos rfl]
  exact sameEntries_l0 l hl l.length k 0 (by omega) (by omega)
theorem copyBytes {l : List Int} (h : l.length < 140737488355328) : transeptplain_CopyBytes.f l = some l := by
  unfold transeptplain_CopyBytes.f
  rw [if_pos (by simpa using h), List.nil_append]
theorem copied {l : List Int} (h : l.length < 140737488355328) : transeptref03_Copied.f l = some l := by
  unfold transeptref03_Copied.f
  rw [if_pos (by simpa using h), List.nil_append]
theorem take_snoc {α : Type} {l : List α} {i : Nat} (h : i < l.length) : l.take i ++ [l[i]] = l.take (i + 1) := by
  rw [List.take_add_one, List.getElem?_eq_getElem h]; rfl
theorem copyEntries_l0 (l : List Ent) (hl : FitL l) : ∀ (m k i : Nat), i + m = l.length → m + 1 ≤ k → transeptplain_CopyEntries.l0 k l (l.take i) (i : Int) = some l := by
  intro m
  induction m with
  | zero =>
    intro k i hi hk
    obtain ⟨k, rfl⟩ : ∃ j, k = j + 1 := ⟨k - 1, by omega⟩
    simp only [transeptplain_CopyEntries.l0]
    rw [if_neg (by omega), List.take_of_length_le (by omega)]
  | succ m ih =>
    intro k i hi hk
    obtain ⟨k, rfl⟩ : ∃ j, k = j + 1 := ⟨k - 1, by omega⟩
    have hil : i < l.length := by omega
    have h1 := hl.1
    have h2 := hl.2 l[i] (List.getElem_mem hil)
    simp only [transeptplain_CopyEntries.l0]
    rw [if_pos (by omega), if_pos (by omega), rd_at hil, copyBytes h2, Option.bind_some, if_pos (by rw [List.length_take]; omega), wrapi (by omega) (by omega)]
    show transeptplain_CopyEntries.l0 k l (l.take i ++ [l[i]]) _ = _
    rw [take_snoc hil]
    exact ih k (i + 1) (by omega) (by omega)
theorem copyEntries {l : List Ent} {k : Nat} (hl : FitL l) (hk : l.length + 1 ≤ k) : transeptplain_CopyEntries.f k l = some l := copyEntries_l0 l hl l.length k 0 (by omega) (by omega)
theorem own_l0 (l : List Ent) (hl : FitL l) : ∀ (m k i : Nat), i + m = l.length → m + 1 ≤ k → transeptref15_Own.l0 k l (l.take i) (i : Int) = some l := by
  intro m
  induction m with
  | zero =>
    intro k i hi hk
    obtain ⟨k, rfl⟩ : ∃ j, k = j + 1 := ⟨k - 1, by omega⟩
    simp only [transeptref15_Own.l0]
    rw [if_neg (by omega), List.take_of_length_le (by omega)]
  | succ m ih =>
    intro k i hi hk
    obtain ⟨k, rfl⟩ : ∃ j, k = j + 1 := ⟨k - 1, by omega⟩
    have hil : i < l.length := by omega
    have h1 := hl.1
    have h2 := hl.2 l[i] (List.getElem_mem hil)
    simp only [transeptref15_Own.l0]
    rw [if_pos (by omega), if_pos (by omega), rd_at hil, copied h2, Option.bind_some, if_pos (by rw [List.length_take]; omega), wrapi (by omega) (by omega)]
    show transeptref15_Own.l0 k l (l.take i ++ [l[i]]) _ = _
    rw [take_snoc hil]
    exact ih k (i + 1) (by omega) (by omega)
theorem own {l : List Ent} {k : Nat} (hl : FitL l) (hk : l.length + 1 ≤ k) : transeptref15_Own.f k l = some l := own_l0 l hl l.length k 0 (by omega) (by omega)
theorem clone_fit {l : List Ent} (hl : FitL l) : raftlog_clone.f l = some l := by
  unfold raftlog_clone.f
  refine if_pos ⟨by have := hl.1; omega, List.all_eq_true.2 fun x hx => by simpa using hl.2 x hx⟩

/-! ### Check -/
def goodFrom : Int → List Ent → Bool
  | _, [] => true
  | at_, e :: es => decide (at_ ≤ e.f0) && decide (e.f0 ≤ 1099511627776) && decide (e.f1.length ≤ 4096) && goodFrom e.f0 es
def okLog (b bt : Int) (xs : List Ent) : Bool := decide (0 ≤ b ∧ b ≤ 1099511627776 ∧ 0 ≤ bt ∧ bt ≤ 1099511627776 ∧ (0 < b ∨ bt = 0) ∧ xs.length ≤ 4096 ∧ b + (xs.length : Int) ≤ 1099511627776) && goodFrom (if bt < 1 then 1 else bt) xs
theorem check_l0 (xs : List Ent) (hl : xs.length < 4611686018427387904) : ∀ (m k i : Nat) (ok : Bool) (a : Int), i + m = xs.length → m + 1 ≤ k → raftlog_Check.l0 k ok a xs (xs.length : Int) (i : Int) = some (if (ok && goodFrom a (xs.drop i)) = true then 0 else 9) := by
  intro m
  induction m with
  | zero =>
    intro k i ok a hi hk
    obtain ⟨k, rfl⟩ : ∃ j, k = j + 1 := ⟨k - 1, by omega⟩
    simp only [raftlog_Check.l0]
    rw [if_neg (by omega), List.drop_of_length_le (by omega)]
    cases ok <;> simp [goodFrom]
  | succ m ih =>
    intro k i ok a hi hk
    obtain ⟨k, rfl⟩ : ∃ j, k = j + 1 := ⟨k - 1, by omega⟩
    have hil : i < xs.length := by omega
    simp only [raftlog_Check.l0]
    rw [if_pos (by omega), if_pos (by omega), if_pos (by omega), rd_at hil, wrapi (by omega) (by omega), List.drop_eq_getElem_cons hil]
    have h := fun o a => ih k (i + 1) o a (by omega) (by omega)
    simp only [Int.natCast_add, Int.natCast_one] at h
    cases ok
    · rw [if_neg (by decide), h]; simp
    · rw [if_pos rfl]
      by_cases h1 : xs[i].f0 ≥ a
      · rw [if_pos h1]
        by_cases h2 : xs[i].f0 ≤ 1099511627776
        · rw [if_pos h2, h]
          have h3 : decide ((xs[i].f1.length : Int) ≤ 4096) = decide (xs[i].f1.length ≤ 4096) := by simp; omega
          rw [h3]
          have h1' : a ≤ xs[i].f0 := h1
          simp [goodFrom, h1', h2]
        · rw [if_neg h2, h]; simp [goodFrom, h2]
      · rw [if_neg h1, h]
        have h1' : ¬ a ≤ xs[i].f0 := h1
        simp [goodFrom, h1']
theorem check_j0 {xs : List Ent} {k : Nat} (b bt : Int) (ok : Bool) (hb : 0 ≤ b ∧ b ≤ 1099511627776 ∨ ok = false) (hl : xs.length < 4611686018427387904) (hk : xs.length + 3 ≤ k) :
    raftlog_Check.j0 k ok b bt xs = some (if (ok && decide (xs.length ≤ 4096 ∧ b + (xs.length : Int) ≤ 1099511627776) && goodFrom (if bt < 1 then 1 else bt) xs) = true then 0 else 9) := by
  obtain ⟨k, rfl⟩ : ∃ j, k = j + 2 := ⟨k - 2, by omega⟩
  have h := fun o => check_l0 xs hl xs.length k 0 o (mx bt 1) (by omega) (by omega)
  simp only [Int.ofNat_zero, List.drop_zero, Int.natCast_zero] at h
  simp only [raftlog_Check.j0, raftlog_Check.j1]
  have hm : mx bt 1 = (if bt < 1 then 1 else bt) := rfl
  rw [h, h, hm]
  cases ok
  · simp
  · rw [if_pos rfl]
    by_cases h1 : (xs.length : Int) ≤ 4096
    · have hb' : 0 ≤ b ∧ b ≤ 1099511627776 := hb.resolve_right (by decide)
      rw [if_pos h1, wrapi (by omega) (by omega)]
      have : decide (b + (xs.length : Int) ≤ 1099511627776) = decide (xs.length ≤ 4096 ∧ b + (xs.length : Int) ≤ 1099511627776) := by
        have : xs.length ≤ 4096 := by omega
        simp [this]
      rw [this, Bool.true_and]
    · rw [if_neg h1]
      have : decide (xs.length ≤ 4096 ∧ b + (xs.length : Int) ≤ 1099511627776) = false := by simp; omega
      rw [this]
      simp
theorem check {xs : List Ent} {k : Nat} (b bt : Int) (hl : xs.length < 4611686018427387904) (hk : xs.length + 3 ≤ k) : raftlog_Check.f k b bt xs = some (if okLog b bt xs = true then 0 else 9) := by
  have hj := fun ok h => check_j0 (k := k) b bt ok h hl hk
  unfold raftlog_Check.f okLog
  have no : ∀ (p : Prop) [Decidable p], ¬ p → raftlog_Check.j0 k false b bt xs = some (if (decide p && goodFrom (if bt < 1 then 1 else bt) xs) = true then 0 else 9) := by
    intro p _ hp
    rw [hj _ (.inr rfl), decide_eq_false hp]
    simp
  have yes : ∀ (p : Prop) [Decidable p], (0 ≤ b ∧ b ≤ 1099511627776) → (p ↔ (xs.length ≤ 4096 ∧ b + (xs.length : Int) ≤ 1099511627776)) → raftlog_Check.j0 k true b bt xs = some (if (decide p && goodFrom (if bt < 1 then 1 else bt) xs) = true then 0 else 9) := by
    intro p _ hb hp
    rw [hj _ (.inl hb), Bool.true_and, decide_eq_decide.2 hp]
  by_cases h1 : b ≥ 0
  · rw [if_pos h1]
    by_cases h2 : b ≤ 1099511627776
    · rw [if_pos h2]
      by_cases h3 : bt ≥ 0
      · rw [if_pos h3]
        by_cases h4 : bt ≤ 1099511627776
        · rw [if_pos h4]
          by_cases h5 : b > 0
          · rw [if_pos h5]
            exact yes _ ⟨h1, h2⟩ (by omega)
          · rw [if_neg h5]
            by_cases h6 : bt = 0
            · have h7 : (bt == 0) = true := by simpa using h6
              rw [h7]
              exact yes _ ⟨h1, h2⟩ (by omega)
            · have h7 : (bt == 0) = false := by simpa using h6
              rw [h7]
              exact no _ (by omega)
        · rw [if_neg h4]; exact no _ (by omega)
      · rw [if_neg h3]; exact no _ (by omega)
    · rw [if_neg h2]; exact no _ (by omega)
  · rw [if_neg h1]; exact no _ (by omega)
theorem ref_l0 (b bt : Int) (xs : List Ent) (hl : xs.length < 4611686018427387904) : ∀ (m k i : Nat) (a : Int), i + m = xs.length → m + 1 ≤ k → transeptref15_Check.l0 k a (i : Int) b bt xs = some (if goodFrom a (xs.drop i) = true then 0 else 9) := by
  intro m
  induction m with
  | zero =>
    intro k i a hi hk
    obtain ⟨k, rfl⟩ : ∃ j, k = j + 1 := ⟨k - 1, by omega⟩
    simp only [transeptref15_Check.l0]
    rw [if_neg (by omega), List.drop_of_length_le (by omega)]
    simp [goodFrom]
  | succ m ih =>
    intro k i a hi hk
    obtain ⟨k, rfl⟩ : ∃ j, k = j + 1 := ⟨k - 1, by omega⟩
    have hil : i < xs.length := by omega
    simp only [transeptref15_Check.l0]
    rw [if_pos (by omega), if_pos (by omega), rd_at hil, wrapi (by omega) (by omega), List.drop_eq_getElem_cons hil]
    have h := fun a => ih k (i + 1) a (by omega) (by omega)
    simp only [Int.natCast_add, Int.natCast_one] at h
    by_cases h1 : xs[i].f0 < a
    · have h1' : ¬ a ≤ xs[i].f0 := by omega
      rw [if_pos h1]; simp [goodFrom, h1']
    · have h1' : a ≤ xs[i].f0 := by omega
      rw [if_neg h1]
      by_cases h2 : xs[i].f0 > 1099511627776
      · have h2' : ¬ xs[i].f0 ≤ 1099511627776 := by omega
        rw [if_pos h2]; simp [goodFrom, h2']
      · have h2' : xs[i].f0 ≤ 1099511627776 := by omega
        rw [if_neg h2]
        by_cases h3 : (xs[i].f1.length : Int) > 4096
        · have h3' : ¬ xs[i].f1.length ≤ 4096 := by omega
          rw [if_pos h3]; simp [goodFrom, h3']
        · have h3' : xs[i].f1.length ≤ 4096 := by omega
          rw [if_neg h3, h]; simp [goodFrom, h1', h2', h3']
theorem refCheck {xs : List Ent} {k : Nat} (b bt : Int) (hl : xs.length < 4611686018427387904) (hk : xs.length + 3 ≤ k) : transeptref15_Check.f k b bt xs = some (if okLog b bt xs = true then 0 else 9) := by
  obtain ⟨k, rfl⟩ : ∃ j, k = j + 1 := ⟨k - 1, by omega⟩
  have h0 := ref_l0 b bt xs hl xs.length k 0 (mx 1 bt) (by omega) (by omega)
  simp only [Int.ofNat_zero, List.drop_zero, Int.natCast_zero] at h0
  have hm : mx 1 bt = (if bt < 1 then 1 else bt) := by unfold mx; split <;> split <;> omega
  rw [hm] at h0
  unfold transeptref15_Check.f okLog
  have no : ∀ (p : Prop) [Decidable p], ¬ p → transeptref15_Check.j0 (k + 1) true b bt xs = some (if (decide p && goodFrom (if bt < 1 then 1 else bt) xs) = true then 0 else 9) := by
    intro p _ hp
    simp only [transeptref15_Check.j0]
    rw [if_true, decide_eq_false hp]
    simp
  have yes : ∀ (p : Prop) [Decidable p], (0 ≤ b ∧ b ≤ 1099511627776) → (p ↔ (b + (xs.length : Int) ≤ 1099511627776)) → transeptref15_Check.j0 (k + 1) (decide ((xs.length : Int) > wrap64 (1099511627776 - b))) b bt xs = some (if (decide p && goodFrom (if bt < 1 then 1 else bt) xs) = true then 0 else 9) := by
    intro p _ hb hp
    simp only [transeptref15_Check.j0]
    rw [wrapi (by omega) (by omega), hm, h0]
    by_cases h : (xs.length : Int) > 1099511627776 - b
    · rw [if_pos (by simpa using h), decide_eq_false (fun h_ => by have := hp.1 h_; omega)]; simp
    · rw [if_neg (by simpa using h), decide_eq_true (hp.2 (by omega)), Bool.true_and]
  by_cases h1 : b < 0
  · rw [if_pos h1]; exact no _ (by omega)
  · rw [if_neg h1]
    by_cases h2 : b > 1099511627776
    · rw [if_pos h2]; exact no _ (by omega)
    · rw [if_neg h2]
      by_cases h3 : bt < 0
      · rw [if_pos h3]; exact no _ (by omega)
      · rw [if_neg h3]
        by_cases h4 : bt > 1099511627776
        · rw [if_pos h4]; exact no _ (by omega)
        · rw [if_neg h4]
          by_cases h5 : b = 0
          · rw [if_pos h5]
            by_cases h6 : bt = 0
            · rw [if_pos h6]
              by_cases h7 : (xs.length : Int) > 4096
              · rw [if_pos h7]; exact no _ (by omega)
              · rw [if_neg h7]; exact yes _ (by omega) (by omega)
            · rw [if_neg h6]; exact no _ (by omega)
          · rw [if_neg h5]
            by_cases h7 : (xs.length : Int) > 4096
            · rw [if_pos h7]; exact no _ (by omega)
            · rw [if_neg h7]; exact yes _ (by omega) (by omega)
end Go.Proofs.Yteplhacanofeoaa.Q
