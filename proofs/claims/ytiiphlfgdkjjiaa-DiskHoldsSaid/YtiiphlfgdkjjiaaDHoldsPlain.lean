/- What DiskHolds puts and gets, in plain Lean; no condition but that there are 1 to 20 sectors and at most 60 writes. -/
import Derived.Test.YtiiphlfgdkjjiaaDTellsPlain
namespace Go.Proofs.Ytiiphlfgdkjjiaa.Q
open Go.RowKit Go.Proofs.YtiiphlfgdkjjiaaW.PrintWords Go.Proofs.YtiiphlfgdkjjiaaW.PrintLast Go.Proofs.YtiiphlfgdkjjiaaW.PrintMore
set_option linter.unusedVariables false
set_option linter.unusedSimpArgs false

def secOf (n : Nat) (x : Int) : Int := Int.tmod (Int.tmod x n + n) n
theorem secOf_range {n : Nat} (hn : 1 ≤ n) (x : Int) : 0 ≤ secOf n x ∧ secOf n x < (n : Int) := by
  have h1 := Int.lt_tmod_of_pos x (b := (n : Int)) (by omega)
  unfold secOf
  exact ⟨Int.tmod_nonneg _ (by omega), Int.tmod_lt_of_pos _ (by omega)⟩
def cutOf (l2 : List (List Int)) (j : Nat) : List Int := (l2.getD j []).take 64
theorem cutOf_le (l2 : List (List Int)) (j : Nat) : (cutOf l2 j).length ≤ 64 := by unfold cutOf; rw [List.length_take]; omega
/-- The first j writes. -/
def wsH (n : Nat) (l1 : List Int) (l2 : List (List Int)) : Nat → List Wr
  | 0 => []
  | j + 1 => wsH n l1 l2 j ++ [⟨secOf n (l1.getD j 0), padded (cutOf l2 j)⟩]
/-- What each sector was put last, behind j writes. -/
def lastH (n : Nat) (l1 : List Int) (l2 : List (List Int)) : Nat → List (List Int)
  | 0 => List.replicate n []
  | j + 1 => (lastH n l1 l2 j).set (secOf n (l1.getD j 0)).toNat (padded (cutOf l2 j))
abbrev ZH (n : Nat) : List (List Int) := List.replicate n zeros64
variable {n : Nat} {l1 : List Int} {l2 : List (List Int)}
theorem wsH_length : ∀ j, (wsH n l1 l2 j).length = j
  | 0 => rfl
  | j + 1 => by rw [wsH, List.length_append, wsH_length j]; rfl
theorem lastH_length : ∀ j, (lastH n l1 l2 j).length = n
  | 0 => List.length_replicate
  | j + 1 => by rw [lastH, List.length_set, lastH_length j]
theorem wsH_all (hn : 1 ≤ n) : ∀ j, ∀ x ∈ wsH n l1 l2 j, 0 ≤ x.f0 ∧ x.f0 < (n : Int) ∧ x.f1.length = 64
  | 0 => fun x hx => by cases hx
  | j + 1 => fun x hx => by
    rw [wsH] at hx
    rcases List.mem_append.1 hx with h | h
    · exact wsH_all hn j x h
    · rw [List.mem_singleton.1 h]
      exact ⟨(secOf_range hn _).1, (secOf_range hn _).2, padded_length (cutOf_le l2 j)⟩
theorem lastH_all : ∀ j, ∀ b ∈ lastH n l1 l2 j, b = [] ∨ b.length = 64
  | 0 => fun b hb => .inl (List.eq_of_mem_replicate hb)
  | j + 1 => fun b hb => by
    rw [lastH] at hb
    rcases List.mem_or_eq_of_mem_set hb with h | h
    · exact lastH_all j b h
    · rw [h]; exact .inr (padded_length (cutOf_le l2 j))
theorem okS_of {L : List (List Int)} {l1 : List Wr} (h1 : 1 ≤ L.length) (h2 : L.length ≤ 1024) (h3 : l1.length ≤ 4096) (h4 : ∀ b ∈ L, b.length = 64) (h5 : ∀ x ∈ l1, 0 ≤ x.f0 ∧ x.f0 < (L.length : Int) ∧ x.f1.length = 64) : okS L l1 = true := by
  simp only [okS, Bool.and_eq_true, decide_eq_true_eq, List.all_eq_true]
  exact ⟨⟨⟨⟨h1, h2⟩, h3⟩, h4⟩, fun x hx => ⟨⟨(h5 x hx).1, (h5 x hx).2.1⟩, (h5 x hx).2.2⟩⟩
theorem zeros64_len : zeros64.length = 64 := List.length_replicate
theorem okH (hn : 1 ≤ n) (hn2 : n ≤ 20) {j : Nat} (hj : j ≤ 60) : okS (ZH n) (wsH n l1 l2 j) = true :=
  okS_of (by rw [List.length_replicate]; exact hn) (by rw [List.length_replicate]; omega) (by rw [wsH_length]; omega) (fun b hb => by rw [List.eq_of_mem_replicate hb]; exact zeros64_len) (fun x hx => by rw [List.length_replicate]; exact wsH_all hn j x hx)
theorem gotn_prefix {ws : List Wr} {x : Wr} {q : Int} : ∀ m, m ≤ ws.length → gotn (ws ++ [x]) q m = gotn ws q m
  | 0, _ => rfl
  | m + 1, h => by
    have e : rd_T61 (ws ++ [x]) (m : Int) = rd_T61 ws (m : Int) := by
      rw [rdW_at (by rw [List.length_append]; omega), rdW_at (by omega), List.getElem_append_left (by omega)]
    rw [gotn, gotn, e, gotn_prefix m (by omega)]
theorem gotn_step2 {ws : List Wr} {x : Wr} {q : Int} : gotn (ws ++ [x]) q (ws.length + 1) = if x.f0 = q then some x.f1 else gotn ws q ws.length := by
  have e : rd_T61 (ws ++ [x]) (ws.length : Int) = x := by
    rw [rdW_at (by rw [List.length_append]; exact Nat.lt_succ_self _), List.getElem_append_right (Nat.le_refl _)]
    simp
  rw [gotn, e, gotn_prefix _ (Nat.le_refl _)]
theorem last_val (hn : 1 ≤ n) (q : Nat) (hq : q < n) : ∀ j, (lastH n l1 l2 j).getD q [] = (gotn (wsH n l1 l2 j) (q : Int) j).getD []
  | 0 => by rw [lastH, List.getD_eq_getElem?_getD, List.getElem?_replicate]; rw [if_pos hq]; rfl
  | j + 1 => by
    have h := gotn_step2 (ws := wsH n l1 l2 j) (x := ⟨secOf n (l1.getD j 0), padded (cutOf l2 j)⟩) (q := (q : Int))
    rw [wsH_length] at h
    rw [lastH, wsH, h, List.getD_eq_getElem?_getD, List.getElem?_set]
    have hr := secOf_range hn (l1.getD j 0)
    by_cases e : secOf n (l1.getD j 0) = (q : Int)
    · rw [if_pos (by omega), if_pos (by rw [lastH_length]; omega), if_pos e]
    · rw [if_neg (by omega), if_neg e, ← List.getD_eq_getElem?_getD]
      exact last_val hn q hq j
theorem gotn_len {ws : List Wr} (h : ∀ x ∈ ws, x.f1.length = 64) {q : Int} : ∀ m, m ≤ ws.length → ∀ b, gotn ws q m = some b → b.length = 64
  | 0, _, b, e => by cases e
  | m + 1, hm, b, e => by
    rw [gotn, rdW_at (by omega)] at e
    split at e
    · rw [← Option.some.inj e]; exact h _ (List.getElem_mem _)
    · exact gotn_len h m (by omega) b e
/-- What DiskHolds wants of a sector. -/
def wantH (n : Nat) (l1 : List Int) (l2 : List (List Int)) (j q : Nat) : List Int := if ((lastH n l1 l2 j).getD q []).length = 0 then zeros64 else (lastH n l1 l2 j).getD q []
theorem zh_at {q : Nat} (hq : q < n) : rd_L2 (ZH n) (q : Int) = zeros64 := by rw [rdL_at (by rw [List.length_replicate]; exact hq), List.getElem_replicate]
theorem want_got (hn : 1 ≤ n) {q : Nat} (hq : q < n) (j : Nat) : (gotn (wsH n l1 l2 j) (q : Int) j).getD zeros64 = wantH n l1 l2 j q := by
  unfold wantH
  rw [last_val hn q hq]
  cases h : gotn (wsH n l1 l2 j) (q : Int) j with
  | none => rfl
  | some b =>
    have hb := gotn_len (fun x hx => (wsH_all hn j x hx).2.2) j (by rw [wsH_length]; exact Nat.le_refl _) b h
    show b = if b.length = 0 then zeros64 else b
    rw [if_neg (by omega)]
theorem want_len (j q : Nat) : (wantH n l1 l2 j q).length = 64 := by
  unfold wantH
  split
  · exact zeros64_len
  · rename_i h
    rw [List.getD_eq_getElem?_getD] at h ⊢
    rcases Nat.lt_or_ge q (lastH n l1 l2 j).length with hl | hl
    · rw [List.getElem?_eq_getElem hl] at h ⊢
      rcases lastH_all j _ (List.getElem_mem hl) with e | e
      · exact absurd (congrArg List.length e) h
      · exact e
    · rw [List.getElem?_eq_none hl] at h
      exact absurd rfl h
theorem landed_got {ws : List Wr} {Z : List (List Int)} (h0 : ∀ b ∈ Z, b.length = 64) (h1 : ∀ x ∈ ws, 0 ≤ x.f0 ∧ x.f0 < (Z.length : Int) ∧ x.f1.length = 64) {q : Nat} (hq : q < Z.length) : ∀ m, m ≤ ws.length → rd_L2 (landed (fun _ => 64) ws Z m) (q : Int) = (gotn ws (q : Int) m).getD (rd_L2 Z (q : Int))
  | 0, _ => rfl
  | m + 1, hm => by
    have hx := h1 ws[m] (List.getElem_mem (by omega))
    have hl : (landed (fun _ => 64) ws Z m).length = Z.length := landed_length m
    have hr : (rd_L2 (landed (fun _ => 64) ws Z m) ws[m].f0).length = 64 := by
      obtain ⟨s, hs⟩ : ∃ s : Nat, ws[m].f0 = (s : Int) := ⟨ws[m].f0.toNat, by omega⟩
      rw [hs, rdL_at (by omega)]
      exact landed_all h0 h1 (fun _ => Nat.le_refl _) m _ (List.getElem_mem _)
    rw [landed_at (by omega), rdL_at (by rw [List.length_set]; omega), gotn, rdW_at (by omega), List.take_of_length_le (by rw [hx.2.2]; exact Nat.le_refl _), List.drop_eq_nil_of_le (by rw [hr]; exact Nat.le_refl _), List.append_nil, List.getElem_set]
    by_cases e : ws[m].f0 = (q : Int)
    · rw [if_pos (by omega), if_pos e]; rfl
    · rw [if_neg (by omega), if_neg e, ← landed_got h0 h1 hq m (by omega), rdL_at (by omega)]
theorem new_f (hn : 1 ≤ n) (hn2 : n ≤ 20) : disk_New.f (n : Int) = some (ZH n, [], 0) := by
  unfold disk_New.f
  rw [if_neg (by omega), if_neg (by omega), Int.toNat_natCast]
theorem hput_f (hn : 1 ≤ n) (hn2 : n ≤ 20) {j : Nat} (hj : j < 60) : disk_Put.f 1000 (ZH n) (wsH n l1 l2 j) (secOf n (l1.getD j 0)) (cutOf l2 j) = some (ZH n, wsH n l1 l2 (j + 1), 0) := by
  have hr := secOf_range hn (l1.getD j 0)
  have hc := cutOf_le l2 j
  rw [dput_f (by rw [List.length_replicate]; omega) (by rw [wsH_length]; omega) (by rw [wsH_length, List.length_replicate]; omega), okH hn hn2 (by omega)]
  unfold puts
  rw [if_pos rfl, List.length_replicate, if_pos hr, if_neg (by omega), wsH_length, if_neg (by omega)]
  rfl
def LH (n : Nat) (l1 : List Int) (l2 : List (List Int)) (j : Nat) : List (List Int) := landed (fun _ => 64) (wsH n l1 l2 j) (ZH n) j
theorem LH_length (j : Nat) : (LH n l1 l2 j).length = n := by unfold LH; rw [landed_length, List.length_replicate]
theorem hflush_f (hn : 1 ≤ n) (hn2 : n ≤ 20) {j : Nat} (hj : j ≤ 60) : disk_Flush.f 1000 (ZH n) (wsH n l1 l2 j) = some (LH n l1 l2 j, [], 0) := by
  rw [dflush_f (by rw [List.length_replicate]; omega) (by rw [wsH_length]; omega) (by rw [wsH_length, List.length_replicate]; omega), if_pos (okH hn hn2 hj), wsH_length]
  rfl
theorem okL (hn : 1 ≤ n) (hn2 : n ≤ 20) (j : Nat) : okS (LH n l1 l2 j) [] = true :=
  okS_of (by rw [LH_length]; exact hn) (by rw [LH_length]; omega) (by show 0 ≤ 4096; omega) (fun b hb => by
    unfold LH at hb
    exact landed_all (fun b hb => by rw [List.eq_of_mem_replicate hb]; exact zeros64_len) (fun x hx => by rw [List.length_replicate]; exact wsH_all hn j x hx) (fun _ => Nat.le_refl _) j b hb) (fun x hx => by cases hx)
theorem hcrash_f (hn : 1 ≤ n) (hn2 : n ≤ 20) (j : Nat) (keep : List Bool) : disk_Crash.f 1000 (LH n l1 l2 j) [] keep 0 1 = some (LH n l1 l2 j, [], 0) := by
  unfold disk_Crash.f
  rw [check_f (by rw [LH_length]; omega) (by show 0 < _; decide) (by rw [LH_length]; show n + 0 + 3 ≤ 1000; omega), if_pos (okL hn hn2 j), Option.bind_some, if_pos rfl, if_pos (okL hn hn2 j)]
  rfl
theorem hget_s (hn : 1 ≤ n) (hn2 : n ≤ 20) {j q : Nat} (hj : j ≤ 60) (hq : q < n) : disk_Get.f 1000 (ZH n) (wsH n l1 l2 j) (q : Int) = some (wantH n l1 l2 j q, 0) := by
  rw [dget_f (by rw [List.length_replicate]; omega) (by rw [wsH_length]; omega) (by rw [wsH_length, List.length_replicate]; omega)]
  unfold gets
  rw [if_pos (okH hn hn2 hj), List.length_replicate, if_pos (by omega), got, wsH_length, zh_at hq, want_got hn hq]
theorem hget_t (hn : 1 ≤ n) (hn2 : n ≤ 20) {j q : Nat} (hj : j ≤ 60) (hq : q < n) : disk_Get.f 1000 (LH n l1 l2 j) [] (q : Int) = some (wantH n l1 l2 j q, 0) := by
  rw [dget_f (by rw [LH_length]; omega) (by show 0 < _; decide) (by rw [LH_length]; show n + 0 + 3 ≤ 1000; omega)]
  unfold gets
  rw [if_pos (okL hn hn2 j), LH_length, if_pos (by omega), got]
  show some (rd_L2 (LH n l1 l2 j) (q : Int), (0 : Int)) = _
  unfold LH
  rw [landed_got (fun b hb => by rw [List.eq_of_mem_replicate hb]; exact zeros64_len) (fun x hx => by rw [List.length_replicate]; exact wsH_all hn j x hx) (by rw [List.length_replicate]; exact hq) j (by rw [wsH_length]; exact Nat.le_refl _), zh_at hq, want_got hn hq]
end Go.Proofs.Ytiiphlfgdkjjiaa.Q
