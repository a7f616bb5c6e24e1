/- disk, plainly: what Check, asked, Of and the comparisons answer, over lists; no condition but that a loop's fuel is enough and that lists are no longer than a machine holds. -/
import Derived.Lib.SlBytesConst
import Derived.Lib.SmallJoins
import Derived.Test.YtiiphlfgdkjjiaaZDisksDGet
import Derived.Test.YtiiphlfgdkjjiaaZDisksDRefOwn
import Derived.Test.YtiiphlfgdkjjiaaZDisksQ21
import Derived.Test.YtiiphlfgdkjjiaaZDisksQ24
import Derived.Test.YtiiphlfgdkjjiaaZDisksQ0
import Derived.Test.YtiiphlfgdkjjiaaZDisksDCopy
namespace Go.Proofs.Ytiiphlfgdkjjiaa.Q
open Go.RowKit Go.Proofs.YtiiphlfgdkjjiaaW.PrintWords Go.Proofs.YtiiphlfgdkjjiaaW.PrintLast Go.Proofs.YtiiphlfgdkjjiaaW.PrintMore
set_option linter.unusedVariables false
set_option linter.unusedSimpArgs false

theorem wrapi {i : Int} (h0 : -9223372036854775808 ≤ i) (h1 : i ≤ 9223372036854775807) : wrap64 i = i := by unfold wrap64; omega
theorem wrap_s (i : Nat) (h : i < 4611686018427387904) : wrap64 ((i : Int) + 1) = ((i + 1 : Nat) : Int) := by rw [wrapi (by omega) (by omega)]; omega
/-- As long as a machine holds. -/
def FitD (xs : List (List Int)) : Prop := xs.length < 5864062014805 ∧ ∀ b ∈ xs, b.length < 140737488355328
def FitW (xs : List Wp) : Prop := xs.length < 4398046511104 ∧ ∀ x ∈ xs, x.f1.length < 140737488355328

theorem rdL_at {xs : List (List Int)} {i : Nat} (h : i < xs.length) : rd_L4 xs (i : Int) = xs[i] := by
  rw [rd_L4, Int.toNat_natCast, List.getD_eq_getElem?_getD, List.getElem?_eq_getElem h]
  rfl
theorem rdW_at {xs : List Wr} {i : Nat} (h : i < xs.length) : rd_T61 xs (i : Int) = xs[i] := by
  rw [rd_T61, Int.toNat_natCast, List.getD_eq_getElem?_getD, List.getElem?_eq_getElem h]
  rfl
theorem rdP_at {xs : List Wp} {i : Nat} (h : i < xs.length) : rd_T55 xs (i : Int) = xs[i] := by
  rw [rd_T55, Int.toNat_natCast, List.getD_eq_getElem?_getD, List.getElem?_eq_getElem h]
  rfl
theorem copyBytes {l : List Int} (h : l.length < 140737488355328) : transeptplain_CopyBytes.f l = some l := by
  unfold transeptplain_CopyBytes.f
  rw [if_pos (by simpa using h)]
  rfl
theorem copyLists_l0 {xs : List (List Int)} (hf : FitD xs) : ∀ (m k i : Nat), i + m = xs.length → m + 1 ≤ k → transeptplain_CopyLists.l0 k xs (xs.take i) (i : Int) = some xs := by
  intro m
  induction m with
  | zero =>
    intro k i hi hk
    obtain ⟨k, rfl⟩ : ∃ j, k = j + 1 := ⟨k - 1, by omega⟩
    rw [transeptplain_CopyLists.l0, if_neg (by omega), List.take_of_length_le (by omega)]
  | succ m ih =>
    intro k i hi hk
    obtain ⟨k, rfl⟩ : ∃ j, k = j + 1 := ⟨k - 1, by omega⟩
    have hlt : i < xs.length := by omega
    have hl : (xs.take i).length < 5864062014805 := by have := hf.1; rw [List.length_take]; omega
    rw [transeptplain_CopyLists.l0, if_pos (by omega), if_pos (by omega), rdL_at hlt, copyBytes (hf.2 _ (List.getElem_mem hlt)), Option.bind_some, if_pos hl, wrap_s i (by have := hf.1; omega), ← List.take_succ_eq_append_getElem hlt]
    exact ih k (i + 1) (by omega) (by omega)
theorem copyLists {xs : List (List Int)} {k : Nat} (hf : FitD xs) (hk : xs.length + 1 ≤ k) : transeptplain_CopyLists.f k xs = some xs := by
  unfold transeptplain_CopyLists.f
  exact copyLists_l0 hf xs.length k 0 (by omega) hk
theorem of_l0 {l0 : List (List Int)} {xs : List Wp} (hf : FitW xs) : ∀ (m k i : Nat), i + m = xs.length → m + 1 ≤ k → transeptlaw04_Of.l0 k (i : Int) l0 xs l0 ((toWs xs).take i) = some (l0, toWs xs) := by
  intro m
  induction m with
  | zero =>
    intro k i hi hk
    obtain ⟨k, rfl⟩ : ∃ j, k = j + 1 := ⟨k - 1, by omega⟩
    rw [transeptlaw04_Of.l0, if_neg (by omega), List.take_of_length_le (by rw [toWs_length]; omega)]
  | succ m ih =>
    intro k i hi hk
    obtain ⟨k, rfl⟩ : ∃ j, k = j + 1 := ⟨k - 1, by omega⟩
    have hlt : i < xs.length := by omega
    have hl : ((toWs xs).take i).length < 4398046511104 := by have := hf.1; rw [List.length_take, toWs_length]; omega
    have hlt2 : i < (toWs xs).length := by rw [toWs_length]; exact hlt
    have he : (⟨xs[i].f0, xs[i].f1⟩ : Wr) = (toWs xs)[i] := by simp [toWs, toW]
    rw [transeptlaw04_Of.l0, if_pos (by omega), if_pos (by omega), rdP_at hlt, copyBytes (hf.2 _ (List.getElem_mem hlt)), Option.bind_some, if_pos hl, wrap_s i (by have := hf.1; omega), he, ← List.take_succ_eq_append_getElem hlt2]
    exact ih k (i + 1) (by omega) (by omega)
theorem of_f {l0 : List (List Int)} {xs : List Wp} {k : Nat} (h0 : FitD l0) (h1 : FitW xs) (hk : l0.length + xs.length + 1 ≤ k) : transeptlaw04_Of.f k l0 xs = some (l0, toWs xs) := by
  unfold transeptlaw04_Of.f
  rw [copyLists h0 (by omega), Option.bind_some]
  exact of_l0 h1 xs.length k 0 (by omega) (by omega)

def okW (n : Nat) (x : Wr) : Bool := decide (0 ≤ x.f0) && decide (x.f0 < (n : Int)) && decide (x.f1.length = 64)
theorem whole_f (b : List Int) : disk_whole.f b = some (decide (b.length = 64)) := by
  unfold disk_whole.f
  congr 1
  by_cases h : b.length = 64
  · simp [h]
  · rw [decide_eq_false h]
    exact beq_eq_false_iff_ne.2 (by omega)
theorem check_l1 {l0 : List (List Int)} {l1 : List Wr} (hf : l1.length < 4611686018427387904) : ∀ (m k i : Nat) (b : Bool), i + m = l1.length → m + 1 ≤ k → disk_Check.l1 k b l1 (l1.length : Int) (i : Int) l0 l1 = some (if (b && (l1.drop i).all (okW l0.length)) = true then 0 else 9) := by
  intro m
  induction m with
  | zero =>
    intro k i b hi hk
    obtain ⟨k, rfl⟩ : ∃ j, k = j + 1 := ⟨k - 1, by omega⟩
    rw [disk_Check.l1, if_neg (by omega), List.drop_eq_nil_of_le (by omega)]
    cases b <;> rfl
  | succ m ih =>
    intro k i b hi hk
    obtain ⟨k, rfl⟩ : ∃ j, k = j + 1 := ⟨k - 1, by omega⟩
    have hlt : i < l1.length := by omega
    rw [disk_Check.l1, if_pos (by omega), if_pos (by omega), if_pos (by omega), rdW_at hlt, wrap_s i (by omega), List.drop_eq_getElem_cons hlt, List.all_cons]
    cases b with
    | false => rw [if_neg (by simp), ih k (i + 1) false (by omega) (by omega)]; simp
    | true =>
      rw [if_pos rfl]
      by_cases h1 : l1[i].f0 ≥ 0
      · rw [if_pos h1]
        by_cases h2 : l1[i].f0 < (l0.length : Int)
        · rw [if_pos h2, whole_f, Option.bind_some, ih k (i + 1) _ (by omega) (by omega)]
          have : okW l0.length l1[i] = decide (l1[i].f1.length = 64) := by simp [okW, h1, h2]
          rw [this, Bool.true_and]
        · rw [if_neg h2, ih k (i + 1) false (by omega) (by omega)]
          have : okW l0.length l1[i] = false := by simp [okW, h2]
          rw [this]; simp
      · rw [if_neg h1, ih k (i + 1) false (by omega) (by omega)]
        have : okW l0.length l1[i] = false := by simp [okW]; omega
        rw [this]; simp
theorem check_l0 {l0 : List (List Int)} {l1 : List Wr} (hf0 : l0.length < 4611686018427387904) (hf : l1.length < 4611686018427387904) : ∀ (m k i : Nat) (b : Bool), i + m = l0.length → m + l1.length + 2 ≤ k → disk_Check.l0 k b l0 (l0.length : Int) (i : Int) l0 l1 = some (if (b && (l0.drop i).all (fun b => decide (b.length = 64)) && l1.all (okW l0.length)) = true then 0 else 9) := by
  intro m
  induction m with
  | zero =>
    intro k i b hi hk
    obtain ⟨k, rfl⟩ : ∃ j, k = j + 1 := ⟨k - 1, by omega⟩
    rw [disk_Check.l0, if_neg (by omega), List.drop_eq_nil_of_le (by omega)]
    have := check_l1 (l0 := l0) hf l1.length k 0 b (by omega) (by omega)
    rw [List.drop_zero] at this
    rw [show ((0 : Nat) : Int) = 0 from rfl] at this
    rw [this]
    simp
  | succ m ih =>
    intro k i b hi hk
    obtain ⟨k, rfl⟩ : ∃ j, k = j + 1 := ⟨k - 1, by omega⟩
    have hlt : i < l0.length := by omega
    rw [disk_Check.l0, if_pos (by omega), if_pos (by omega), if_pos (by omega), rdL_at hlt, wrap_s i (by omega), List.drop_eq_getElem_cons hlt, List.all_cons]
    cases b with
    | false => rw [if_neg (by simp), ih k (i + 1) false (by omega) (by omega)]; simp
    | true =>
      rw [if_pos rfl, whole_f, Option.bind_some, ih k (i + 1) _ (by omega) (by omega), Bool.true_and]
theorem check_f {l0 : List (List Int)} {l1 : List Wr} {k : Nat} (hf0 : l0.length < 4611686018427387904) (hf : l1.length < 4611686018427387904) (hk : l0.length + l1.length + 3 ≤ k) : disk_Check.f k l0 l1 = some (if okS l0 l1 = true then 0 else 9) := by
  obtain ⟨k, rfl⟩ : ∃ j, k = j + 1 := ⟨k - 1, by omega⟩
  have h0 := fun b => check_l0 hf0 hf l0.length k 0 b (by omega) (by omega)
  rw [List.drop_zero, show ((0 : Nat) : Int) = 0 from rfl] at h0
  have hw : l1.all (okW l0.length) = l1.all (fun x => decide (0 ≤ x.f0) && decide (x.f0 < (l0.length : Int)) && decide (x.f1.length = 64)) := rfl
  unfold disk_Check.f
  by_cases h1 : (l0.length : Int) ≥ 1
  · rw [if_pos h1]
    have d1 : decide (1 ≤ l0.length) = true := decide_eq_true (by omega)
    by_cases h2 : (l0.length : Int) ≤ 1024
    · have d2 : decide (l0.length ≤ 1024) = true := decide_eq_true (by omega)
      rw [if_pos h2, disk_Check.j0, h0, okS, d1, d2, hw]
      have d3 : decide ((l1.length : Int) ≤ 4096) = decide (l1.length ≤ 4096) := by congr 1; exact propext ⟨fun _ => by omega, fun _ => by omega⟩
      rw [d3]
      simp
    · have d2 : decide (l0.length ≤ 1024) = false := decide_eq_false (by omega)
      rw [if_neg h2, disk_Check.j0, h0, okS, d1, d2]
      simp
  · have d1 : decide (1 ≤ l0.length) = false := decide_eq_false (by omega)
    rw [if_neg h1, disk_Check.j0, h0, okS, d1]
    simp
theorem asked_f {l0 : List (List Int)} {l1 : List Wr} {k : Nat} {sec : Int} (hf0 : l0.length < 4611686018427387904) (hf : l1.length < 4611686018427387904) (hk : l0.length + l1.length + 3 ≤ k) : disk_asked.f k l0 l1 sec = some (if okS l0 l1 = true then (if 0 ≤ sec ∧ sec < (l0.length : Int) then 0 else 41) else 9) := by
  unfold disk_asked.f
  rw [check_f hf0 hf hk, Option.bind_some]
  by_cases h : okS l0 l1 = true
  · rw [if_pos h, if_pos rfl, if_pos h]
    by_cases h1 : sec < 0
    · rw [if_pos h1, if_neg (by omega)]
    · rw [if_neg h1]
      by_cases h2 : sec ≥ (l0.length : Int)
      · rw [if_pos h2, if_neg (by omega)]
      · rw [if_neg h2, if_pos (by omega)]
  · rw [if_neg h, if_neg (by decide), if_neg h]
theorem sameBytes_l0 {a b : List Int} (hl : a.length = b.length) (hf : a.length < 4611686018427387904) : ∀ (m k i : Nat), i + m = a.length → m + 1 ≤ k → transeptplain_SameBytes.l0 k a b (i : Int) = some (decide (a.drop i = b.drop i)) := by
  intro m
  induction m with
  | zero =>
    intro k i hi hk
    obtain ⟨k, rfl⟩ : ∃ j, k = j + 1 := ⟨k - 1, by omega⟩
    rw [transeptplain_SameBytes.l0, if_neg (by omega), List.drop_eq_nil_of_le (by omega), List.drop_eq_nil_of_le (by omega)]
    rfl
  | succ m ih =>
    intro k i hi hk
    obtain ⟨k, rfl⟩ : ∃ j, k = j + 1 := ⟨k - 1, by omega⟩
    have h1 : i < a.length := by omega
    have h2 : i < b.length := by omega
    have e1 : rd a (i : Int) = a[i] := by rw [rd, Int.toNat_natCast, List.getD_eq_getElem?_getD, List.getElem?_eq_getElem h1]; rfl
    have e2 : rd b (i : Int) = b[i] := by rw [rd, Int.toNat_natCast, List.getD_eq_getElem?_getD, List.getElem?_eq_getElem h2]; rfl
    rw [transeptplain_SameBytes.l0, if_pos (by omega), if_pos (by omega), if_pos (by omega), e1, e2, wrap_s i (by omega), List.drop_eq_getElem_cons h1, List.drop_eq_getElem_cons h2]
    by_cases h : a[i] = b[i]
    · rw [if_pos h, ih k (i + 1) (by omega) (by omega)]
      congr 1
      rw [decide_eq_decide, List.cons.injEq]
      exact ⟨fun e => ⟨h, e⟩, fun e => e.2⟩
    · rw [if_neg h, decide_eq_false (fun e => h (List.cons.inj e).1)]
theorem same_f {a b : List Int} {k : Nat} (hf : a.length < 4611686018427387904) (hk : a.length + 1 ≤ k) : transeptplain_SameBytes.f k a b = some (decide (a = b)) := by
  unfold transeptplain_SameBytes.f
  by_cases h : a.length = b.length
  · rw [if_pos (by omega)]
    have := sameBytes_l0 h hf a.length k 0 (by omega) hk
    rw [List.drop_zero, List.drop_zero] at this
    exact this
  · rw [if_neg (by omega), decide_eq_false (fun e => h (by rw [e]))]
end Go.Proofs.Ytiiphlfgdkjjiaa.Q
