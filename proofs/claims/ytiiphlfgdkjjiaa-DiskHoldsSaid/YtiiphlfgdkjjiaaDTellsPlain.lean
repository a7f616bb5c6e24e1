/- What the page's Own, Put, Get, Flush compute, in plain Lean; conditions: the lists are no longer than a machine holds. -/
import Derived.Test.YtiiphlfgdkjjiaaDRefPlain
import Derived.Test.YtiiphlfgdkjjiaaDRefRot
import Derived.Test.YtiiphlfgdkjjiaaQ19
import Derived.Test.YtiiphlfgdkjjiaaQ21
import Derived.Test.YtiiphlfgdkjjiaaQ21
namespace Go.Proofs.Ytiiphlfgdkjjiaa.Q
open Go.RowKit Go.Proofs.YtiiphlfgdkjjiaaW.PrintWords Go.Proofs.YtiiphlfgdkjjiaaW.PrintLast Go.Proofs.YtiiphlfgdkjjiaaW.PrintMore
set_option linter.unusedVariables false
set_option linter.unusedSimpArgs false

theorem own_l1 {l0 t0 : List (List Int)} {l1 : List Wp} (hf : FitW l1) : ∀ (m k i : Nat), i + m = l1.length → m + 1 ≤ k → transeptref04_Own.l1 k (i : Int) l0 l1 t0 (l1.take i) = some (t0, l1) := by
  intro m
  induction m with
  | zero =>
    intro k i hi hk
    obtain ⟨k, rfl⟩ : ∃ j, k = j + 1 := ⟨k - 1, by omega⟩
    rw [transeptref04_Own.l1, if_neg (by omega), List.take_of_length_le (by omega)]
  | succ m ih =>
    intro k i hi hk
    obtain ⟨k, rfl⟩ : ∃ j, k = j + 1 := ⟨k - 1, by omega⟩
    have hlt : i < l1.length := by omega
    have hl : (l1.take i).length < 4398046511104 := by have := hf.1; rw [List.length_take]; omega
    rw [transeptref04_Own.l1, if_pos (by omega), if_pos (by omega), rdP_at hlt, copied_some (hf.2 _ (List.getElem_mem hlt)), Option.bind_some, if_pos hl, wrap_s i (by have := hf.1; omega), show (⟨l1[i].f0, l1[i].f1⟩ : Wp) = l1[i] from rfl, ← List.take_succ_eq_append_getElem hlt]
    exact ih k (i + 1) (by omega) (by omega)
theorem own_l0 {l0 : List (List Int)} {l1 : List Wp} (h0 : FitD l0) (hf : FitW l1) : ∀ (m k i : Nat), i + m = l0.length → m + l1.length + 2 ≤ k → transeptref04_Own.l0 k (i : Int) l0 l1 (l0.take i) = some (l0, l1) := by
  intro m
  induction m with
  | zero =>
    intro k i hi hk
    obtain ⟨k, rfl⟩ : ∃ j, k = j + 1 := ⟨k - 1, by omega⟩
    rw [transeptref04_Own.l0, if_neg (by omega), List.take_of_length_le (by omega)]
    exact own_l1 hf l1.length k 0 (by omega) (by omega)
  | succ m ih =>
    intro k i hi hk
    obtain ⟨k, rfl⟩ : ∃ j, k = j + 1 := ⟨k - 1, by omega⟩
    have hlt : i < l0.length := by omega
    have hl : (l0.take i).length < 5864062014805 := by have := h0.1; rw [List.length_take]; omega
    rw [transeptref04_Own.l0, if_pos (by omega), if_pos (by omega), rdL_at hlt, copied_some (h0.2 _ (List.getElem_mem hlt)), Option.bind_some, if_pos hl, wrap_s i (by have := h0.1; omega), ← List.take_succ_eq_append_getElem hlt]
    exact ih k (i + 1) (by omega) (by omega)
theorem own_f {l0 : List (List Int)} {l1 : List Wp} {k : Nat} (h0 : FitD l0) (hf : FitW l1) (hk : l0.length + l1.length + 2 ≤ k) : transeptref04_Own.f k l0 l1 = some (l0, l1) := by
  unfold transeptref04_Own.f
  exact own_l0 h0 hf l0.length k 0 (by omega) hk
theorem padded_length {x : List Int} (h : x.length ≤ 64) : (padded x).length = 64 := by
  rw [padded, List.length_append, List.length_replicate]; omega
theorem has_f (l0 : List (List Int)) (l1 : List Wp) (sec : Int) : transeptref04_has.f l0 l1 sec = some (decide (0 ≤ sec ∧ sec < (l0.length : Int))) := by
  unfold transeptref04_has.f
  by_cases h : sec ≥ 0
  · rw [if_pos h]
    congr 1
    rw [decide_eq_decide]
    exact ⟨fun h2 => ⟨h, h2⟩, fun h2 => h2.2⟩
  · rw [if_neg h, decide_eq_false (fun h2 => h h2.1)]
theorem pput_l0 {l0 : List (List Int)} {l1 : List Wp} {sec : Int} {d : List Int} (hd : d.length ≤ 64) (hl : l1.length < 4398046511104) : ∀ (m k i : Nat), i + m = d.length → m + 1 ≤ k → transeptref04_Put.l0 k sec d (d.take i ++ List.replicate (64 - i) 0) (i : Int) l0 l1 = some (l0, l1 ++ [⟨sec, padded d⟩], 0) := by
  intro m
  induction m with
  | zero =>
    intro k i hi hk
    obtain ⟨k, rfl⟩ : ∃ j, k = j + 1 := ⟨k - 1, by omega⟩
    obtain rfl : i = d.length := by omega
    rw [transeptref04_Put.l0, if_neg (by omega), if_pos hl, List.take_length]
    rfl
  | succ m ih =>
    intro k i hi hk
    obtain ⟨k, rfl⟩ : ∃ j, k = j + 1 := ⟨k - 1, by omega⟩
    have hlt : i < d.length := by omega
    have ht : (d.take i).length = i := by rw [List.length_take]; omega
    have hs : (d.take i ++ List.replicate (64 - i) (0 : Int)).set i (rd d (i : Int)) = d.take (i + 1) ++ List.replicate (64 - (i + 1)) 0 := by
      rw [List.set_append_right _ _ (by omega), ht, Nat.sub_self, show 64 - i = (64 - (i + 1)) + 1 from by omega, List.replicate_succ, List.set_cons_zero, List.take_succ_eq_append_getElem hlt, List.append_assoc, rd, Int.toNat_natCast, List.getD_eq_getElem?_getD, List.getElem?_eq_getElem hlt]
      rfl
    rw [transeptref04_Put.l0, if_pos (by omega), if_pos (by omega), if_pos (by rw [List.length_append, List.length_replicate, ht]; omega), Int.toNat_natCast, hs, wrap_s i (by omega)]
    exact ih k (i + 1) (by omega) (by omega)
/-- What a put leaves, for both. -/
def puts (l0 : List (List Int)) (n : Nat) (sec : Int) (d : List Int) (ok : Bool) : Option Int := if ok = true then (if 0 ≤ sec ∧ sec < (l0.length : Int) then (if (d.length : Int) > 64 then some 5 else if (n : Int) ≥ 4096 then some 51 else none) else some 41) else some 9
theorem dput_f {l0 : List (List Int)} {l1 : List Wr} {sec : Int} {d : List Int} {k : Nat} (h0 : l0.length < 4611686018427387904) (h1 : l1.length < 4611686018427387904) (hk : l0.length + l1.length + 3 ≤ k) :
    disk_Put.f k l0 l1 sec d = match puts l0 l1.length sec d (okS l0 l1) with | some e => some ([], [], e) | none => some (l0, l1 ++ [⟨sec, padded d⟩], 0) := by
  unfold disk_Put.f
  rw [asked_f h0 h1 hk, Option.bind_some]
  unfold puts
  by_cases c1 : okS l0 l1 = true
  · rw [if_pos c1, if_pos c1, if_pos c1]
    by_cases c2 : 0 ≤ sec ∧ sec < (l0.length : Int)
    · rw [if_pos c2, if_pos c2, if_pos rfl]
      by_cases c3 : (d.length : Int) > 64
      · rw [if_pos c3, if_pos c3]
      · rw [if_neg c3, if_neg c3]
        by_cases c4 : (l1.length : Int) ≥ 4096
        · rw [if_pos c4, if_pos c4]
        · rw [if_neg c4, if_neg c4]
    · rw [if_neg c2, if_neg c2, if_neg (by decide)]
  · rw [if_neg c1, if_neg c1, if_neg c1, if_neg (by decide)]
theorem pput_f {l0 : List (List Int)} {l1 : List Wp} {sec : Int} {d : List Int} {k : Nat} (h0 : FitD l0) (h1 : FitW l1) (hk : l0.length + l1.length + 200 ≤ k) :
    transeptref04_Put.f k l0 l1 sec d = match puts l0 l1.length sec d (okS l0 (toWs l1)) with | some e => some ([], [], e) | none => some (l0, l1 ++ [⟨sec, padded d⟩], 0) := by
  have hd1 := h0.1
  have hw1 := h1.1
  unfold transeptref04_Put.f
  rw [pcheck_f (by omega) (by omega) (by omega), Option.bind_some]
  unfold puts
  by_cases c1 : okS l0 (toWs l1) = true
  · rw [if_pos c1, if_pos rfl, has_f, Option.bind_some, if_pos c1]
    by_cases c2 : 0 ≤ sec ∧ sec < (l0.length : Int)
    · rw [if_pos (decide_eq_true c2), if_pos c2]
      by_cases c3 : (d.length : Int) > 64
      · rw [if_pos c3, if_pos c3]
      · rw [if_neg c3, if_neg c3]
        by_cases c4 : (l1.length : Int) ≥ 4096
        · rw [if_pos c4, if_pos c4]
        · rw [if_neg c4, if_neg c4, own_f h0 h1 (by omega), Option.bind_some, if_pos (by decide)]
          exact pput_l0 (by omega) (by omega) d.length k 0 (by omega) (by omega)
    · rw [if_neg (by rw [decide_eq_false c2]; decide), if_neg c2]
  · rw [if_neg c1, if_neg (by decide), if_neg c1]
theorem gotn_step {l1 : List Wp} {sec : Int} {i : Nat} (hlt : i < l1.length) : gotn (toWs l1) sec (i + 1) = if l1[i].f0 = sec then some l1[i].f1 else gotn (toWs l1) sec i := by
  rw [gotn, rdW_at (by rw [toWs_length]; exact hlt), toWs_at hlt]
theorem pget_l0 {l0 : List (List Int)} {l1 : List Wp} {sec : Int} (hok : ∀ x ∈ l1, x.f1.length = 64) (hr : (rd_L2 l0 sec).length = 64) (hl : l1.length < 4611686018427387904) : ∀ (m k i : Nat), i + m = l1.length → m + 1 ≤ k → transeptref04_Get.l0 k sec ((gotn (toWs l1) sec i).getD (rd_L2 l0 sec)) (i : Int) l0 l1 = some (got l0 (toWs l1) sec, 0) := by
  have hg : ∀ i, i ≤ l1.length → ((gotn (toWs l1) sec i).getD (rd_L2 l0 sec)).length = 64 := by
    intro i
    induction i with
    | zero => intro _; exact hr
    | succ i ih =>
      intro hi
      rw [gotn_step (by omega)]
      split
      · exact hok _ (List.getElem_mem _)
      · exact ih (by omega)
  intro m
  induction m with
  | zero =>
    intro k i hi hk
    obtain ⟨k, rfl⟩ : ∃ j, k = j + 1 := ⟨k - 1, by omega⟩
    obtain rfl : i = l1.length := by omega
    rw [transeptref04_Get.l0, if_neg (by omega), copied_some (by rw [hg _ (Nat.le_refl _)]; decide), Option.bind_some, got, toWs_length]
  | succ m ih =>
    intro k i hi hk
    obtain ⟨k, rfl⟩ : ∃ j, k = j + 1 := ⟨k - 1, by omega⟩
    have hlt : i < l1.length := by omega
    have hn := ih k (i + 1) (by omega) (by omega)
    rw [gotn_step hlt] at hn
    rw [transeptref04_Get.l0, if_pos (by omega), if_pos (by omega), rdP_at hlt, wrap_s i (by omega)]
    by_cases h : l1[i].f0 = sec
    · rw [if_pos h] at hn ⊢
      exact hn
    · rw [if_neg h] at hn ⊢
      exact hn
/-- What both Gets answer. -/
def gets (l0 : List (List Int)) (l1 : List Wr) (sec : Int) : List Int × Int := if okS l0 l1 = true then (if 0 ≤ sec ∧ sec < (l0.length : Int) then (got l0 l1 sec, 0) else ([], 41)) else ([], 9)
theorem dget_f {l0 : List (List Int)} {l1 : List Wr} {sec : Int} {k : Nat} (h0 : l0.length < 4611686018427387904) (h1 : l1.length < 4611686018427387904) (hk : l0.length + l1.length + 3 ≤ k) : disk_Get.f k l0 l1 sec = some (gets l0 l1 sec) := by
  unfold disk_Get.f
  rw [asked_f h0 h1 hk, Option.bind_some]
  unfold gets
  by_cases c1 : okS l0 l1 = true
  · rw [if_pos c1, if_pos c1]
    by_cases c2 : 0 ≤ sec ∧ sec < (l0.length : Int)
    · rw [if_pos c2, if_pos c2, if_pos rfl, if_pos ⟨c1, c2⟩]
    · rw [if_neg c2, if_neg c2, if_neg (by decide)]
  · rw [if_neg c1, if_neg c1, if_neg (by decide)]
theorem pget_f {l0 : List (List Int)} {l1 : List Wp} {sec : Int} {k : Nat} (h0 : l0.length < 4611686018427387904) (h1 : l1.length < 4611686018427387904) (hk : l0.length + l1.length + 4 ≤ k) : transeptref04_Get.f k l0 l1 sec = some (gets l0 (toWs l1) sec) := by
  unfold transeptref04_Get.f
  rw [pcheck_f h0 h1 hk, Option.bind_some]
  unfold gets
  by_cases c1 : okS l0 (toWs l1) = true
  · rw [if_pos c1, if_pos rfl, has_f, Option.bind_some, if_pos c1]
    by_cases c2 : 0 ≤ sec ∧ sec < (l0.length : Int)
    · obtain ⟨o1, o2, o3, o4, o5, _⟩ := toWs_ok c1
      obtain ⟨n, rfl⟩ : ∃ n : Nat, sec = (n : Int) := ⟨sec.toNat, by omega⟩
      rw [if_pos (decide_eq_true c2), if_pos c2, if_pos c2.1, if_pos c2.2]
      exact pget_l0 (fun x hx => (o5 x hx).2.2) (by rw [rdL_at (by omega)]; exact o4 _ (List.getElem_mem _)) h1 l1.length k 0 (by omega) (by omega)
    · rw [if_neg (by rw [decide_eq_false c2]; decide), if_neg c2]
  · rw [if_neg c1, if_neg (by decide), if_neg c1]
theorem pflush_l0 {l0 : List (List Int)} {l1 : List Wp} : ∀ (m k i : Nat), i + m = l1.length → l1.length < 4611686018427387904 → m + 1 ≤ k → transeptref04_Flush.l0 k (List.replicate i true ++ List.replicate m false) (i : Int) l0 l1 = ((transeptref04_Crash.f (k - m - 1) l0 l1 (List.replicate l1.length true) (-1) 0).bind fun b => some (b.1, b.2.1, b.2.2)) := by
  intro m
  induction m with
  | zero =>
    intro k i hi hl hk
    obtain ⟨k, rfl⟩ : ∃ j, k = j + 1 := ⟨k - 1, by omega⟩
    obtain rfl : i = l1.length := by omega
    rw [transeptref04_Flush.l0, if_neg (by rw [List.length_append, List.length_replicate, List.length_replicate]; omega), List.replicate_zero, List.append_nil, Nat.sub_zero, Nat.add_sub_cancel]
  | succ m ih =>
    intro k i hi hl hk
    obtain ⟨k, rfl⟩ : ∃ j, k = j + 1 := ⟨k - 1, by omega⟩
    have hs : (List.replicate i true ++ List.replicate (m + 1) false).set i true = List.replicate (i + 1) true ++ List.replicate m false := by
      rw [List.set_append_right _ _ (by rw [List.length_replicate]; omega), List.length_replicate, Nat.sub_self, List.replicate_succ, List.set_cons_zero, List.replicate_succ', List.append_assoc]
      rfl
    rw [transeptref04_Flush.l0, if_pos (by rw [List.length_append, List.length_replicate, List.length_replicate]; omega), if_pos (by omega), Int.toNat_natCast, hs, wrap_s i (by omega), ih k (i + 1) (by omega) hl (by omega), show k + 1 - (m + 1) - 1 = k - m - 1 from by omega]
theorem landed_congr {s1 s2 : Nat → Nat} {l1 : List Wr} {l0 : List (List Int)} : ∀ j, (∀ i, i < j → s1 i = s2 i) → landed s1 l1 l0 j = landed s2 l1 l0 j
  | 0, _ => rfl
  | j + 1, h => by
    rw [landed, landed, landed_congr j (fun i hi => h i (by omega)), h j (by omega)]
theorem pflush_f {l0 : List (List Int)} {l1 : List Wp} {k : Nat} (h0 : l0.length < 4611686018427387904) (h1 : l1.length < 281474976710656) (hk : l0.length + l1.length + l1.length + 10 ≤ k) :
    transeptref04_Flush.f k l0 l1 = if okS l0 (toWs l1) = true then some (landed (fun _ => 64) (toWs l1) l0 l1.length, [], 0) else some ([], [], 9) := by
  unfold transeptref04_Flush.f
  have := pflush_l0 (l0 := l0) (l1 := l1) l1.length k 0 (by omega) (by omega) (by omega)
  rw [List.replicate_zero, List.nil_append] at this
  rw [if_pos (by omega), Int.toNat_natCast, if_pos (by omega), show (0 : Int) = ((0 : Nat) : Int) from rfl, this]
  unfold transeptref04_Crash.f
  rw [pcheck_f h0 (by omega) (by omega), Option.bind_some]
  by_cases c1 : okS l0 (toWs l1) = true
  · rw [if_pos c1, if_pos rfl, if_pos c1, if_pos c1, Option.bind_some, List.length_replicate, Nat.min_self]
    rw [landed_congr (s1 := csize (List.replicate l1.length true) (-1) 0) (s2 := fun _ => 64) l1.length (fun i hi => by
      rw [csize, List.length_replicate, if_neg (by omega), List.getD_eq_getElem?_getD, List.getElem?_replicate, if_pos hi, if_neg (by simp), if_neg (by omega)])]
    rfl
  · rw [if_neg c1, if_neg (by decide), if_neg c1]
    rfl
theorem dflush_f {l0 : List (List Int)} {l1 : List Wr} {k : Nat} (h0 : l0.length < 4611686018427387904) (h1 : l1.length < 4611686018427387904) (hk : l0.length + l1.length + 3 ≤ k) :
    disk_Flush.f k l0 l1 = if okS l0 l1 = true then some (landed (fun _ => 64) l1 l0 l1.length, [], 0) else some ([], [], 9) := by
  unfold disk_Flush.f
  rw [check_f h0 h1 hk, Option.bind_some]
  by_cases c1 : okS l0 l1 = true
  · rw [if_pos c1, if_pos rfl, if_pos c1, if_pos c1]
  · rw [if_neg c1, if_neg (by decide), if_neg c1]
/-- What both Rots answer. -/
def rots (l0 : List (List Int)) (sec p b : Int) (ok : Bool) : Option Int := if ok = true then (if 0 ≤ sec ∧ sec < (l0.length : Int) then (if p < 0 then some 4 else if p ≥ 64 then some 4 else none) else some 41) else some 9
theorem drot_f {l0 : List (List Int)} {l1 : List Wr} {sec p b : Int} {k : Nat} (h0 : l0.length < 4611686018427387904) (h1 : l1.length < 4611686018427387904) (hk : l0.length + l1.length + 3 ≤ k) :
    disk_Rot.f k l0 l1 sec p b = match rots l0 sec p b (okS l0 l1) with | some e => some ([], [], e) | none => some (rotted l0 sec p b, l1, 0) := by
  unfold disk_Rot.f
  rw [asked_f h0 h1 hk, Option.bind_some]
  unfold rots
  by_cases c1 : okS l0 l1 = true
  · rw [if_pos c1, if_pos c1]
    by_cases c2 : 0 ≤ sec ∧ sec < (l0.length : Int)
    · rw [if_pos c2, if_pos c2, if_pos rfl]
      by_cases c3 : p < 0
      · rw [if_pos c3, if_pos c3]
      · rw [if_neg c3, if_neg c3]
        by_cases c4 : p ≥ 64
        · rw [if_pos c4, if_pos c4]
        · rw [if_neg c4, if_neg c4, if_pos ⟨c1, c2⟩]
    · rw [if_neg c2, if_neg c2, if_neg (by decide)]
  · rw [if_neg c1, if_neg c1, if_neg (by decide)]
theorem prot_f {l0 : List (List Int)} {l1 : List Wp} {sec p b : Int} {k : Nat} (h0 : l0.length < 4611686018427387904) (h1 : l1.length < 4611686018427387904) (hk : l0.length + l1.length + 4 ≤ k) :
    transeptref04_Rot.f k l0 l1 sec p b = match rots l0 sec p b (okS l0 (toWs l1)) with | some e => some ([], [], e) | none => some (rotted l0 sec p b, l1, 0) := by
  unfold transeptref04_Rot.f
  rw [pcheck_f h0 h1 hk, Option.bind_some]
  unfold rots
  by_cases c1 : okS l0 (toWs l1) = true
  · rw [if_pos c1, if_pos rfl, has_f, Option.bind_some, if_pos c1]
    by_cases c2 : 0 ≤ sec ∧ sec < (l0.length : Int)
    · rw [if_pos (decide_eq_true c2), if_pos c2]
      by_cases c3 : p < 0
      · rw [if_pos c3, if_pos c3]
      · rw [if_neg c3, if_neg c3]
        by_cases c4 : p ≥ 64
        · rw [if_pos c4, if_pos c4]
        · rw [if_neg c4, if_neg c4, if_pos ⟨c1, c2⟩]
    · rw [if_neg (by rw [decide_eq_false c2]; decide), if_neg c2]
  · rw [if_neg c1, if_neg (by decide), if_neg c1]
end Go.Proofs.Ytiiphlfgdkjjiaa.Q
