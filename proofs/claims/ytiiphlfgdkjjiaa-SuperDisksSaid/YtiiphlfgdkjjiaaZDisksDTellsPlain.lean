/- What the page's Own, Put, Get, Flush compute, in plain Lean; conditions: the lists are no longer than a machine holds. -/
import Derived.Test.YtiiphlfgdkjjiaaZDisksDRefPlain
import Derived.Test.YtiiphlfgdkjjiaaZDisksDRef
import Derived.Test.YtiiphlfgdkjjiaaZDisksDPut
import Derived.Test.YtiiphlfgdkjjiaaZDisksQ30
import Derived.Test.YtiiphlfgdkjjiaaZDisksQ34
import Derived.Test.YtiiphlfgdkjjiaaZDisksSDec
namespace Go.Proofs.Ytiiphlfgdkjjiaa.Q
open Go.RowKit Go.Proofs.YtiiphlfgdkjjiaaW.PrintWords Go.Proofs.YtiiphlfgdkjjiaaW.PrintLast Go.Proofs.YtiiphlfgdkjjiaaW.PrintMore
set_option linter.unusedVariables false
set_option linter.unusedSimpArgs false

theorem own_l1 {l0 t0 : List (List Int)} {l1 : List Wp} (hf : FitW l1) : ∀ (m k i : Nat), i + m = l1.length → m + 1 ≤ k → transeptref04_Own.l1 k (i : Int) l0 l1 t0 (l1.take i) = some (t0, l1) := by
  intro m
  induction m with
  | zero =>
    intro k i hi hk
    obtain ⟨k, rfl⟩ : ∃ j, k = j + 1 := ⟨k - 1, by omega⟩
    rw [transeptref04_Own.l1, if_neg (by omega), List.take_of_length_le (by omega)]
  | succ m ih =>
    intro k i hi hk
    obtain ⟨k, rfl⟩ : ∃ j, k = j + 1 := ⟨k - 1, by omega⟩
    have hlt : i < l1.length := by omega
    have hl : (l1.take i).length < 4398046511104 := by have := hf.1; rw [List.length_take]; omega
    rw [transeptref04_Own.l1, if_pos (by omega), if_pos (by omega), rdP_at hlt, copied_some (hf.2 _ (List.getElem_mem hlt)), Option.bind_some, if_pos hl, wrap_s i (by have := hf.1; omega), show (⟨l1[i].f0, l1[i].f1⟩ : Wp) = l1[i] from rfl, ← List.take_succ_eq_append_getElem hlt]
    exact ih k (i + 1) (by omega) (by omega)
theorem own_l0 {l0 : List (List Int)} {l1 : List Wp} (h0 : FitD l0) (hf : FitW l1) : ∀ (m k i : Nat), i + m = l0.length → m + l1.length + 2 ≤ k → transeptref04_Own.l0 k (i : Int) l0 l1 (l0.take i) = some (l0, l1) := by
  intro m
  induction m with
  | zero =>
    intro k i hi hk
    obtain ⟨k, rfl⟩ : ∃ j, k = j + 1 := ⟨k - 1, by omega⟩
    rw [transeptref04_Own.l0, if_neg (by omega), List.take_of_length_le (by omega)]
    exact own_l1 hf l1.length k 0 (by omega) (by omega)
  | succ m ih =>
    intro k i hi hk
    obtain ⟨k, rfl⟩ : ∃ j, k = j + 1 := ⟨k - 1, by omega⟩
    have hlt : i < l0.length := by omega
    have hl : (l0.take i).length < 5864062014805 := by have := h0.1; rw [List.length_take]; omega
    rw [transeptref04_Own.l0, if_pos (by omega), if_pos (by omega), rdL_at hlt, copied_some (h0.2 _ (List.getElem_mem hlt)), Option.bind_some, if_pos hl, wrap_s i (by have := h0.1; omega), ← List.take_succ_eq_append_getElem hlt]
    exact ih k (i + 1) (by omega) (by omega)
theorem own_f {l0 : List (List Int)} {l1 : List Wp} {k : Nat} (h0 : FitD l0) (hf : FitW l1) (hk : l0.length + l1.length + 2 ≤ k) : transeptref04_Own.f k l0 l1 = some (l0, l1) := by
  unfold transeptref04_Own.f
  exact own_l0 h0 hf l0.length k 0 (by omega) hk
theorem has_f (l0 : List (List Int)) (l1 : List Wp) (sec : Int) : transeptref04_has.f l0 l1 sec = some (decide (0 ≤ sec ∧ sec < (l0.length : Int))) := by
  unfold transeptref04_has.f
  by_cases h : sec ≥ 0
  · rw [if_pos h]
    congr 1
    rw [decide_eq_decide]
    exact ⟨fun h2 => ⟨h, h2⟩, fun h2 => h2.2⟩
  · rw [if_neg h, decide_eq_false (fun h2 => h h2.1)]
theorem pput_l0 {l0 : List (List Int)} {l1 : List Wp} {sec : Int} {d : List Int} (hd : d.length ≤ 64) (hl : l1.length < 4398046511104) : ∀ (m k i : Nat), i + m = d.length → m + 1 ≤ k → transeptref04_Put.l0 k sec d (d.take i ++ List.replicate (64 - i) 0) (i : Int) l0 l1 = some (l0, l1 ++ [⟨sec, padded d⟩], 0) := by
  intro m
  induction m with
  | zero =>
    intro k i hi hk
    obtain ⟨k, rfl⟩ : ∃ j, k = j + 1 := ⟨k - 1, by omega⟩
    obtain rfl : i = d.length := by omega
    rw [transeptref04_Put.l0, if_neg (by omega), if_pos hl, List.take_length]
    rfl
  | succ m ih =>
    intro k i hi hk
    obtain ⟨k, rfl⟩ : ∃ j, k = j + 1 := ⟨k - 1, by omega⟩
    have hlt : i < d.length := by omega
    have ht : (d.take i).length = i := by rw [List.length_take]; omega
    have hs : (d.take i ++ List.replicate (64 - i) (0 : Int)).set i (rd d (i : Int)) = d.take (i + 1) ++ List.replicate (64 - (i + 1)) 0 := by
      rw [List.set_append_right _ _ (by omega), ht, Nat.sub_self, show 64 - i = (64 - (i + 1)) + 1 from by omega, List.replicate_succ, List.set_cons_zero, List.take_succ_eq_append_getElem hlt, List.append_assoc, rd, Int.toNat_natCast, List.getD_eq_getElem?_getD, List.getElem?_eq_getElem hlt]
      rfl
    rw [transeptref04_Put.l0, if_pos (by omega), if_pos (by omega), if_pos (by rw [List.length_append, List.length_replicate, ht]; omega), Int.toNat_natCast, hs, wrap_s i (by omega)]
    exact ih k (i + 1) (by omega) (by omega)
/-- What a put leaves, for both. -/
def puts (l0 : List (List Int)) (n : Nat) (sec : Int) (d : List Int) (ok : Bool) : Option Int := if ok = true then (if 0 ≤ sec ∧ sec < (l0.length : Int) then (if (d.length : Int) > 64 then some 5 else if (n : Int) ≥ 4096 then some 51 else none) else some 41) else some 9
theorem dput_f {l0 : List (List Int)} {l1 : List Wr} {sec : Int} {d : List Int} {k : Nat} (h0 : l0.length < 4611686018427387904) (h1 : l1.length < 4611686018427387904) (hk : l0.length + l1.length + 3 ≤ k) :
    disk_Put.f k l0 l1 sec d = match puts l0 l1.length sec d (okS l0 l1) with | some e => some ([], [], e) | none => some (l0, l1 ++ [⟨sec, padded d⟩], 0) := by
  unfold disk_Put.f
  rw [asked_f h0 h1 hk, Option.bind_some]
  unfold puts
  by_cases c1 : okS l0 l1 = true
  · rw [if_pos c1, if_pos c1, if_pos c1]
    by_cases c2 : 0 ≤ sec ∧ sec < (l0.length : Int)
    · rw [if_pos c2, if_pos c2, if_pos rfl]
      by_cases c3 : (d.length : Int) > 64
      · rw [if_pos c3, if_pos c3]
      · rw [if_neg c3, if_neg c3]
        by_cases c4 : (l1.length : Int) ≥ 4096
        · rw [if_pos c4, if_pos c4]
        · rw [if_neg c4, if_neg c4]
    · rw [if_neg c2, if_neg c2, if_neg (by decide)]
  · rw [if_neg c1, if_neg c1, if_neg c1, if_neg (by decide)]
theorem pput_f {l0 : List (List Int)} {l1 : List Wp} {sec : Int} {d : List Int} {k : Nat} (h0 : FitD l0) (h1 : FitW l1) (hk : l0.length + l1.length + 200 ≤ k) :
    transeptref04_Put.f k l0 l1 sec d = match puts l0 l1.length sec d (okS l0 (toWs l1)) with | some e => some ([], [], e) | none => some (l0, l1 ++ [⟨sec, padded d⟩], 0) := by
  have hd1 := h0.1
  have hw1 := h1.1
  unfold transeptref04_Put.f
  rw [pcheck_f (by omega) (by omega) (by omega), Option.bind_some]
  unfold puts
  by_cases c1 : okS l0 (toWs l1) = true
  · rw [if_pos c1, if_pos rfl, has_f, Option.bind_some, if_pos c1]
    by_cases c2 : 0 ≤ sec ∧ sec < (l0.length : Int)
    · rw [if_pos (decide_eq_true c2), if_pos c2]
      by_cases c3 : (d.length : Int) > 64
      · rw [if_pos c3, if_pos c3]
      · rw [if_neg c3, if_neg c3]
        by_cases c4 : (l1.length : Int) ≥ 4096
        · rw [if_pos c4, if_pos c4]
        · rw [if_neg c4, if_neg c4, own_f h0 h1 (by omega), Option.bind_some, if_pos (by decide)]
          exact pput_l0 (by omega) (by omega) d.length k 0 (by omega) (by omega)
    · rw [if_neg (by rw [decide_eq_false c2]; decide), if_neg c2]
  · rw [if_neg c1, if_neg (by decide), if_neg c1]
theorem gotn_step {l1 : List Wp} {sec : Int} {i : Nat} (hlt : i < l1.length) : gotn (toWs l1) sec (i + 1) = if l1[i].f0 = sec then some l1[i].f1 else gotn (toWs l1) sec i := by
  rw [gotn, rdW_at (by rw [toWs_length]; exact hlt), toWs_at hlt]
theorem pget_l0 {l0 : List (List Int)} {l1 : List Wp} {sec : Int} (hok : ∀ x ∈ l1, x.f1.length = 64) (hr : (rd_L4 l0 sec).length = 64) (hl : l1.length < 4611686018427387904) : ∀ (m k i : Nat), i + m = l1.length → m + 1 ≤ k → transeptref04_Get.l0 k sec ((gotn (toWs l1) sec i).getD (rd_L4 l0 sec)) (i : Int) l0 l1 = some (got l0 (toWs l1) sec, 0) := by
  have hg : ∀ i, i ≤ l1.length → ((gotn (toWs l1) sec i).getD (rd_L4 l0 sec)).length = 64 := by
    intro i
    induction i with
    | zero => intro _; exact hr
    | succ i ih =>
      intro hi
      rw [gotn_step (by omega)]
      split
      · exact hok _ (List.getElem_mem _)
      · exact ih (by omega)
  intro m
  induction m with
  | zero =>
    intro k i hi hk
    obtain ⟨k, rfl⟩ : ∃ j, k = j + 1 := ⟨k - 1, by omega⟩
    obtain rfl : i = l1.length := by omega
    rw [transeptref04_Get.l0, if_neg (by omega), copied_some (by rw [hg _ (Nat.le_refl _)]; decide), Option.bind_some, got, toWs_length]
  | succ m ih =>
    intro k i hi hk
    obtain ⟨k, rfl⟩ : ∃ j, k = j + 1 := ⟨k - 1, by omega⟩
    have hlt : i < l1.length := by omega
    have hn := ih k (i + 1) (by omega) (by omega)
    rw [gotn_step hlt] at hn
    rw [transeptref04_Get.l0, if_pos (by omega), if_pos (by omega), rdP_at hlt, wrap_s i (by omega)]
    by_cases h : l1[i].f0 = sec
    · rw [if_pos h] at hn ⊢
      exact hn
    · rw [if_neg h] at hn ⊢
      exact hn
/-- What both Gets answer. -/
def gets (l0 : List (List Int)) (l1 : List Wr) (sec : Int) : List Int × Int := if okS l0 l1 = true then (if 0 ≤ sec ∧ sec < (l0.length : Int) then (got l0 l1 sec, 0) else ([], 41)) else ([], 9)
theorem dget_f {l0 : List (List Int)} {l1 : List Wr} {sec : Int} {k : Nat} (h0 : l0.length < 4611686018427387904) (h1 : l1.length < 4611686018427387904) (hk : l0.length + l1.length + 3 ≤ k) : disk_Get.f k l0 l1 sec = some (gets l0 l1 sec) := by
  unfold disk_Get.f
  rw [asked_f h0 h1 hk, Option.bind_some]
  unfold gets
  by_cases c1 : okS l0 l1 = true
  · rw [if_pos c1, if_pos c1]
    by_cases c2 : 0 ≤ sec ∧ sec < (l0.length : Int)
    · rw [if_pos c2, if_pos c2, if_pos rfl, if_pos ⟨c1, c2⟩]
    · rw [if_neg c2, if_neg c2, if_neg (by decide)]
  · rw [if_neg c1, if_neg c1, if_neg (by decide)]
theorem pget_f {l0 : List (List Int)} {l1 : List Wp} {sec : Int} {k : Nat} (h0 : l0.length < 4611686018427387904) (h1 : l1.length < 4611686018427387904) (hk : l0.length + l1.length + 4 ≤ k) : transeptref04_Get.f k l0 l1 sec = some (gets l0 (toWs l1) sec) := by
  unfold transeptref04_Get.f
  rw [pcheck_f h0 h1 hk, Option.bind_some]
  unfold gets
  by_cases c1 : okS l0 (toWs l1) = true
  · rw [if_pos c1, if_pos rfl, has_f, Option.bind_some, if_pos c1]
    by_cases c2 : 0 ≤ sec ∧ sec < (l0.length : Int)
    · obtain ⟨o1, o2, o3, o4, o5, _⟩ := toWs_ok c1
      obtain ⟨n, rfl⟩ : ∃ n : Nat, sec = (n : Int) := ⟨sec.toNat, by omega⟩
      rw [if_pos (decide_eq_true c2), if_pos c2, if_pos c2.1, if_pos c2.2]
      exact pget_l0 (fun x hx => (o5 x hx).2.2) (by rw [rdL_at (by omega)]; exact o4 _ (List.getElem_mem _)) h1 l1.length k 0 (by omega) (by omega)
    · rw [if_neg (by rw [decide_eq_false c2]; decide), if_neg c2]
  · rw [if_neg c1, if_neg (by decide), if_neg c1]
theorem pflush_l0 {l0 : List (List Int)} {l1 : List Wp} : ∀ (m k i : Nat), i + m = l1.length → l1.length < 4611686018427387904 → m + 1 ≤ k → transeptref04_Flush.l0 k (List.replicate i true ++ List.replicate m false) (i : Int) l0 l1 = ((transeptref04_Crash.f (k - m - 1) l0 l1 (List.replicate l1.length true) (-1) 0).bind fun b => some (b.1, b.2.1, b.2.2)) := by
  intro m
  induction m with
  | zero =>
    intro k i hi hl hk
    obtain ⟨k, rfl⟩ : ∃ j, k = j + 1 := ⟨k - 1, by omega⟩
    obtain rfl : i = l1.length := by omega
    rw [transeptref04_Flush.l0, if_neg (by rw [List.length_append, List.length_replicate, List.length_replicate]; omega), List.replicate_zero, List.append_nil, Nat.sub_zero, Nat.add_sub_cancel]
  | succ m ih =>
    intro k i hi hl hk
    obtain ⟨k, rfl⟩ : ∃ j, k = j + 1 := ⟨k - 1, by omega⟩
    have hs : (List.replicate i true ++ List.replicate (m + 1) false).set i true = List.replicate (i + 1) true ++ List.replicate m false := by
      rw [List.set_append_right _ _ (by rw [List.length_replicate]; omega), List.length_replicate, Nat.sub_self, List.replicate_succ, List.set_cons_zero, List.replicate_succ', List.append_assoc]
      rfl
    rw [transeptref04_Flush.l0, if_pos (by rw [List.length_append, List.length_replicate, List.length_replicate]; omega), if_pos (by omega), Int.toNat_natCast, hs, wrap_s i (by omega), ih k (i + 1) (by omega) hl (by omega), show k + 1 - (m + 1) - 1 = k - m - 1 from by omega]
theorem landed_congr {s1 s2 : Nat → Nat} {l1 : List Wr} {l0 : List (List Int)} : ∀ j, (∀ i, i < j → s1 i = s2 i) → landed s1 l1 l0 j = landed s2 l1 l0 j
  | 0, _ => rfl
  | j + 1, h => by
    rw [landed, landed, landed_congr j (fun i hi => h i (by omega)), h j (by omega)]
theorem pflush_f {l0 : List (List Int)} {l1 : List Wp} {k : Nat} (h0 : l0.length < 4611686018427387904) (h1 : l1.length < 281474976710656) (hk : l0.length + l1.length + l1.length + 10 ≤ k) :
    transeptref04_Flush.f k l0 l1 = if okS l0 (toWs l1) = true then some (landed (fun _ => 64) (toWs l1) l0 l1.length, [], 0) else some ([], [], 9) := by
  unfold transeptref04_Flush.f
  have := pflush_l0 (l0 := l0) (l1 := l1) l1.length k 0 (by omega) (by omega) (by omega)
  rw [List.replicate_zero, List.nil_append] at this
  rw [if_pos (by omega), Int.toNat_natCast, if_pos (by omega), show (0 : Int) = ((0 : Nat) : Int) from rfl, this]
  unfold transeptref04_Crash.f
  rw [pcheck_f h0 (by omega) (by omega), Option.bind_some]
  by_cases c1 : okS l0 (toWs l1) = true
  · rw [if_pos c1, if_pos rfl, if_pos c1, if_pos c1, Option.bind_some, List.length_replicate, Nat.min_self]
    rw [landed_congr (s1 := csize (List.replicate l1.length true) (-1) 0) (s2 := fun _ => 64) l1.length (fun i hi => by
      rw [csize, List.length_replicate, if_neg (by omega), List.getD_eq_getElem?_getD, List.getElem?_replicate, if_pos hi, if_neg (by simp), if_neg (by omega)])]
    rfl
  · rw [if_neg c1, if_neg (by decide), if_neg c1]
    rfl
theorem dflush_f {l0 : List (List Int)} {l1 : List Wr} {k : Nat} (h0 : l0.length < 4611686018427387904) (h1 : l1.length < 4611686018427387904) (hk : l0.length + l1.length + 3 ≤ k) :
    disk_Flush.f k l0 l1 = if okS l0 l1 = true then some (landed (fun _ => 64) l1 l0 l1.length, [], 0) else some ([], [], 9) := by
  unfold disk_Flush.f
  rw [check_f h0 h1 hk, Option.bind_some]
  by_cases c1 : okS l0 l1 = true
  · rw [if_pos c1, if_pos rfl, if_pos c1, if_pos c1]
  · rw [if_neg c1, if_neg (by decide), if_neg c1]
end Go.Proofs.Ytiiphlfgdkjjiaa.Q
namespace Go.Proofs.Ytiiphlfgdkjjiaa.Q
open Go.RowKit Go.Proofs.YtiiphlfgdkjjiaaW.PrintWords Go.Proofs.YtiiphlfgdkjjiaaW.PrintLast Go.Proofs.YtiiphlfgdkjjiaaW.PrintMore
open Go.Proofs.Ytiiphlfgdkjjiaa.CrcP
set_option linter.unusedVariables false
set_option linter.unusedSimpArgs false

abbrev Dc := Int × Int × Int × Int × Int × Int
abbrev St := Int × Int × Int × Int × Int × Int × Int
/-- A sector more is looked at: the i-th. -/
def stp (s : St) (i : Int) (d : Dc) : St := if d.2.2.2.2.2 = 0 ∧ (s.2.2.2.2.2.2 ≠ 0 ∨ s.1 < d.1) then (d.1, d.2.1, d.2.2.1, d.2.2.2.1, d.2.2.2.2.1, i, 0) else s
def st0 : St := (0, 0, 0, 0, 0, 0, 21)
def pick (p q : Dc) : St := stp (stp st0 0 p) 1 q
def stN (p q : Dc) : Nat → St
  | 0 => st0
  | 1 => stp st0 0 p
  | _ => pick p q
def super_Pick.f (l0 l1 : List Int) : Option St := (super_Decode.f l0).bind fun p => (super_Decode.f l1).bind fun q => some (pick p q)

theorem five_far {W : World} {g g' t : Nat} {cs : Array Value} {v0 v1 v2 v3 v4 : Value} (h : W.heap[g']? = some (.cells cs t (0, 0))) (hn : g' ≠ g) :
    (((((W.setCell ⟨g, 0, none⟩ v0).setCell ⟨g, 1, none⟩ v1).setCell ⟨g, 2, none⟩ v2).setCell ⟨g, 3, none⟩ v3).setCell ⟨g, 4, none⟩ v4).heap[g']? = some (.cells cs t (0, 0)) :=
  blk_far (blk_far (blk_far (blk_far (blk_far h (p := ⟨g, 0, none⟩) hn v0) (p := ⟨g, 1, none⟩) hn v1) (p := ⟨g, 2, none⟩) hn v2) (p := ⟨g, 3, none⟩) hn v3) (p := ⟨g, 4, none⟩) hn v4

set_option maxHeartbeats 8000000 in
set_option maxRecDepth 100000 in
theorem super_Pick.calls (A0 : Option Addr) (c0 : Nat) (l0 : List Int) (A1 : Option Addr) (c1 : Nat) (l1 : List Int) (r1 r2 r3 r4 r5 r6 r7 : Int) (w : World) (hr0 : Kd.C (Kd.int .u8) w A0 l0.length l0) (hc0 : l0.length ≤ c0) (hr1 : Kd.C (Kd.int .u8) w A1 l1.length l1) (hc1 : l1.length ≤ c1) (h : super_Pick.f l0 l1 = some (r1, r2, r3, r4, r5, r6, r7)) :
    Calls Try.prog 43 #[.slice A0 l0.length c0, .slice A1 l1.length c1] w fun e w' => e = .returned (.tuple #[.agg #[.int .i64 r1, .int .i64 r2, .int .i64 r3, .int .i64 r4, .int .i64 r5], .int .i64 r6, .int .i64 r7]) ∧ Below w.heap.size w w' := by
  have hu := Try.underlying33
  unfold super_Pick.f at h
  obtain ⟨⟨p0, p1, p2, p3, p4, p5⟩, hp, h⟩ := Option.bind_eq_some_iff.mp h
  obtain ⟨⟨q0, q1, q2, q3, q4, q5⟩, hq, h⟩ := Option.bind_eq_some_iff.mp h
  have H := Aside0.mk (Option.some.inj h)
  have HP := Aside0.mk hp
  have HQ := Aside0.mk hq
  have HR0 := Aside0.mk hr0
  have HR1 := Aside0.mk hr1
  have HC0 := Aside0.mk hc0
  have HC1 := Aside0.mk hc1
  clear h hp hq hr0 hr1 hc0 hc1
  go_enter Try.func43, Try.ntmps43
  go_wp2_with fail
  obtain ⟨W3, hW3⟩ : ∃ W3, W3 = ((w.alloc (.cells #[.int .i64 0, .int .i64 0, .int .i64 0, .int .i64 0, .int .i64 0] 33)).alloc (.cells #[.int .i64 0, .int .i64 0, .int .i64 0, .int .i64 0, .int .i64 0] 33)).alloc (.cells #[.slice A0 l0.length c0, .slice A1 l1.length c1] 50) := ⟨_, rfl⟩
  have BKR := Aside0.mk (show W3.heap[w.heap.size]? = some (.cells #[.int .i64 0, .int .i64 0, .int .i64 0, .int .i64 0, .int .i64 0] 33 (0, 0)) from by rw [hW3]; exact blk_alloc (blk_alloc (blk_new _ _) _) _)
  have BKB := Aside0.mk (show W3.heap[w.heap.size + 1]? = some (.cells #[.int .i64 0, .int .i64 0, .int .i64 0, .int .i64 0, .int .i64 0] 33 (0, 0)) from by rw [hW3]; have := blk_alloc (blk_new (w.alloc (.cells #[.int .i64 0, .int .i64 0, .int .i64 0, .int .i64 0, .int .i64 0] 33)) (.cells #[.int .i64 0, .int .i64 0, .int .i64 0, .int .i64 0, .int .i64 0] 33)) (.cells #[.slice A0 l0.length c0, .slice A1 l1.length c1] 50); rw [World.size_alloc] at this; exact this)
  have BKL := Aside0.mk (show W3.heap[w.heap.size + 2]? = some (.cells #[.slice A0 l0.length c0, .slice A1 l1.length c1] 50 (0, 0)) from by rw [hW3]; have := blk_new ((w.alloc (.cells #[.int .i64 0, .int .i64 0, .int .i64 0, .int .i64 0, .int .i64 0] 33)).alloc (.cells #[.int .i64 0, .int .i64 0, .int .i64 0, .int .i64 0, .int .i64 0] 33)) (.cells #[.slice A0 l0.length c0, .slice A1 l1.length c1] 50); rw [World.size_alloc, World.size_alloc] at this; exact this)
  have HB := Aside0.mk (show Below w.heap.size w W3 from by rw [hW3]; exact below_alloc (below_alloc (below_alloc (Below.refl _ _) _) _) _)
  rw [← hW3]
  clear hW3
  go_loopw [8, 9, 19] (fun wh ev i wr => ∃ k : Nat, k ≤ 2 ∧ i = .int .i64 k ∧ ∃ b0 b1 b2 b3 b4 b5 b6 : Int, wh = .int .i64 b5 ∧ ev = .int .i64 b6 ∧ Hid (stN (p0, p1, p2, p3, p4, p5) (q0, q1, q2, q3, q4, q5) k = (b0, b1, b2, b3, b4, b5, b6)) ∧ Hid (wr.heap[w.heap.size]? = some (.cells #[.int .i64 0, .int .i64 0, .int .i64 0, .int .i64 0, .int .i64 0] 33 (0, 0))) ∧ Hid (wr.heap[w.heap.size + 1]? = some (.cells #[.int .i64 b0, .int .i64 b1, .int .i64 b2, .int .i64 b3, .int .i64 b4] 33 (0, 0))) ∧ Hid (wr.heap[w.heap.size + 2]? = some (.cells #[.slice A0 l0.length c0, .slice A1 l1.length c1] 50 (0, 0))) ∧ Hid (Below w.heap.size w wr)) (fun _ _ i _ => 2 - (intOf i).toNat)
  case atStart => exact ⟨0, by omega, rfl, 0, 0, 0, 0, 0, 0, 21, rfl, rfl, rfl, BKR.out, BKB.out, BKL.out, HB.out⟩
  case round =>
    clear BKR BKB BKL HB
    obtain ⟨k, hk, rfl, b0, b1, b2, b3, b4, b5, b6, rfl, rfl, HS, BKR, BKB, BKL, HB⟩ := hrel
    by_cases hlt : k < 2
    · rcases (by omega : k = 0 ∨ k = 1) with rfl | rfl
      · have x0 : wr.cell? ⟨w.heap.size + 2, 0, none⟩ = some (.slice A0 l0.length c0) := (blk_cell BKL 0).trans rfl
        have hd := super_Decode.calls A0 c0 l0 p0 p1 p2 p3 p4 p5 wr (Kd.C_below HR0.out HB) HC0.out HP.out
        go_wp2_with fail
        refine hd.mono ?_
        clear hd x0
        rintro e w4 ⟨rfl, hb4⟩
        have hb5 : Below wr.heap.size wr (w4.alloc (.cells #[.int .i64 p0, .int .i64 p1, .int .i64 p2, .int .i64 p3, .int .i64 p4] 33)) := below_step hb4 (below_alloc (Below.refl _ _) _)
        have BKR5 := Aside0.mk (blk_below BKR hb5)
        have BKB5 := Aside0.mk (blk_below BKB hb5)
        have BKL5 := Aside0.mk (blk_below BKL hb5)
        have HB5 := Aside0.mk (below_step HB hb5)
        have NR := Aside0.mk (show w.heap.size ≠ w.heap.size + 1 from by omega)
        have NL := Aside0.mk (show w.heap.size + 2 ≠ w.heap.size + 1 from by omega)
        clear hb4 hb5 BKR BKB BKL HB
        have hs := (show stN (p0, p1, p2, p3, p4, p5) (q0, q1, q2, q3, q4, q5) 0 = (b0, b1, b2, b3, b4, b5, b6) from HS)
        have HN := Aside0.mk (show stN (p0, p1, p2, p3, p4, p5) (q0, q1, q2, q3, q4, q5) 1 = stp (b0, b1, b2, b3, b4, b5, b6) 0 (p0, p1, p2, p3, p4, p5) from by rw [← hs]; rfl)
        clear hs
        have y0 : (w4.alloc (.cells #[.int .i64 p0, .int .i64 p1, .int .i64 p2, .int .i64 p3, .int .i64 p4] 33)).cell? ⟨w.heap.size + 1, 0, none⟩ = some (.int .i64 b0) := (blk_cell BKB5.out 0).trans rfl
        have f0 := blk_frozen BKB5.out 0
        have y1 : (w4.alloc (.cells #[.int .i64 p0, .int .i64 p1, .int .i64 p2, .int .i64 p3, .int .i64 p4] 33)).cell? ⟨w.heap.size + 1, 1, none⟩ = some (.int .i64 b1) := (blk_cell BKB5.out 1).trans rfl
        have f1 := blk_frozen BKB5.out 1
        have y2 : (w4.alloc (.cells #[.int .i64 p0, .int .i64 p1, .int .i64 p2, .int .i64 p3, .int .i64 p4] 33)).cell? ⟨w.heap.size + 1, 2, none⟩ = some (.int .i64 b2) := (blk_cell BKB5.out 2).trans rfl
        have f2 := blk_frozen BKB5.out 2
        have y3 : (w4.alloc (.cells #[.int .i64 p0, .int .i64 p1, .int .i64 p2, .int .i64 p3, .int .i64 p4] 33)).cell? ⟨w.heap.size + 1, 3, none⟩ = some (.int .i64 b3) := (blk_cell BKB5.out 3).trans rfl
        have f3 := blk_frozen BKB5.out 3
        have y4 : (w4.alloc (.cells #[.int .i64 p0, .int .i64 p1, .int .i64 p2, .int .i64 p3, .int .i64 p4] 33)).cell? ⟨w.heap.size + 1, 4, none⟩ = some (.int .i64 b4) := (blk_cell BKB5.out 4).trans rfl
        have f4 := blk_frozen BKB5.out 4
        by_cases g1 : p5 = 0
        · have g1b : (p5 == 0) = true := by rw [beq_iff_eq]; exact g1
          by_cases g2 : b6 = 0
          · have g2b : (b6 != 0) = false := by rw [bne_eq_false_iff_eq]; exact g2
            by_cases g3 : b0 < p0
            · have g3b : decide (b0 < p0) = true := decide_eq_true g3
              have G := Aside0.mk (show (p5 = 0 ∧ (b6 ≠ 0 ∨ b0 < p0)) from ⟨g1, .inr g3⟩)
              clear g1 g2 g3
              have HNX := Lib.hid (show stN (p0, p1, p2, p3, p4, p5) (q0, q1, q2, q3, q4, q5) 1 = (p0, p1, p2, p3, p4, 0, 0) from by rw [HN.out, stp, if_pos G.out])
              go_wp2_with fail
              go_roundw
              case rel => exact ⟨1, by omega, rfl, p0, p1, p2, p3, p4, 0, 0, rfl, rfl, HNX, Lib.hid (five_far BKR5.out NR.out), Lib.hid (five_put BKB5.out), Lib.hid (five_far BKL5.out NL.out), Lib.hid (five_below HB5.out (Nat.le_succ _))⟩
              case measure => simp [intOf]
            · have g3b : decide (b0 < p0) = false := decide_eq_false g3
              have G := Aside0.mk (show ¬ (p5 = 0 ∧ (b6 ≠ 0 ∨ b0 < p0)) from fun h_ => h_.2.elim (fun e_ => e_ g2) g3)
              clear g1 g2 g3
              have HNX := Lib.hid (show stN (p0, p1, p2, p3, p4, p5) (q0, q1, q2, q3, q4, q5) 1 = (b0, b1, b2, b3, b4, b5, b6) from by rw [HN.out, stp, if_neg G.out])
              go_wp2_with fail
              go_roundw
              case rel => exact ⟨1, by omega, rfl, b0, b1, b2, b3, b4, b5, b6, rfl, rfl, HNX, Lib.hid BKR5.out, Lib.hid BKB5.out, Lib.hid BKL5.out, Lib.hid HB5.out⟩
              case measure => simp [intOf]
          · have g2b : (b6 != 0) = true := by rw [bne_iff_ne]; exact g2
            have G := Aside0.mk (show (p5 = 0 ∧ (b6 ≠ 0 ∨ b0 < p0)) from ⟨g1, .inl g2⟩)
            clear g1 g2
            have HNX := Lib.hid (show stN (p0, p1, p2, p3, p4, p5) (q0, q1, q2, q3, q4, q5) 1 = (p0, p1, p2, p3, p4, 0, 0) from by rw [HN.out, stp, if_pos G.out])
            go_wp2_with fail
            go_roundw
            case rel => exact ⟨1, by omega, rfl, p0, p1, p2, p3, p4, 0, 0, rfl, rfl, HNX, Lib.hid (five_far BKR5.out NR.out), Lib.hid (five_put BKB5.out), Lib.hid (five_far BKL5.out NL.out), Lib.hid (five_below HB5.out (Nat.le_succ _))⟩
            case measure => simp [intOf]
        · have g1b : (p5 == 0) = false := by rw [beq_eq_false_iff_ne]; exact g1
          have G := Aside0.mk (show ¬ (p5 = 0 ∧ (b6 ≠ 0 ∨ b0 < p0)) from fun h_ => g1 h_.1)
          clear g1
          have HNX := Lib.hid (show stN (p0, p1, p2, p3, p4, p5) (q0, q1, q2, q3, q4, q5) 1 = (b0, b1, b2, b3, b4, b5, b6) from by rw [HN.out, stp, if_neg G.out])
          go_wp2_with fail
          go_roundw
          case rel => exact ⟨1, by omega, rfl, b0, b1, b2, b3, b4, b5, b6, rfl, rfl, HNX, Lib.hid BKR5.out, Lib.hid BKB5.out, Lib.hid BKL5.out, Lib.hid HB5.out⟩
          case measure => simp [intOf]
      · have x1 : wr.cell? ⟨w.heap.size + 2, 1, none⟩ = some (.slice A1 l1.length c1) := (blk_cell BKL 1).trans rfl
        have hd := super_Decode.calls A1 c1 l1 q0 q1 q2 q3 q4 q5 wr (Kd.C_below HR1.out HB) HC1.out HQ.out
        go_wp2_with fail
        refine hd.mono ?_
        clear hd x1
        rintro e w4 ⟨rfl, hb4⟩
        have hb5 : Below wr.heap.size wr (w4.alloc (.cells #[.int .i64 q0, .int .i64 q1, .int .i64 q2, .int .i64 q3, .int .i64 q4] 33)) := below_step hb4 (below_alloc (Below.refl _ _) _)
        have BKR5 := Aside0.mk (blk_below BKR hb5)
        have BKB5 := Aside0.mk (blk_below BKB hb5)
        have BKL5 := Aside0.mk (blk_below BKL hb5)
        have HB5 := Aside0.mk (below_step HB hb5)
        have NR := Aside0.mk (show w.heap.size ≠ w.heap.size + 1 from by omega)
        have NL := Aside0.mk (show w.heap.size + 2 ≠ w.heap.size + 1 from by omega)
        clear hb4 hb5 BKR BKB BKL HB
        have hs := (show stN (p0, p1, p2, p3, p4, p5) (q0, q1, q2, q3, q4, q5) 1 = (b0, b1, b2, b3, b4, b5, b6) from HS)
        have HN := Aside0.mk (show stN (p0, p1, p2, p3, p4, p5) (q0, q1, q2, q3, q4, q5) 2 = stp (b0, b1, b2, b3, b4, b5, b6) 1 (q0, q1, q2, q3, q4, q5) from by rw [← hs]; rfl)
        clear hs
        have y0 : (w4.alloc (.cells #[.int .i64 q0, .int .i64 q1, .int .i64 q2, .int .i64 q3, .int .i64 q4] 33)).cell? ⟨w.heap.size + 1, 0, none⟩ = some (.int .i64 b0) := (blk_cell BKB5.out 0).trans rfl
        have f0 := blk_frozen BKB5.out 0
        have y1 : (w4.alloc (.cells #[.int .i64 q0, .int .i64 q1, .int .i64 q2, .int .i64 q3, .int .i64 q4] 33)).cell? ⟨w.heap.size + 1, 1, none⟩ = some (.int .i64 b1) := (blk_cell BKB5.out 1).trans rfl
        have f1 := blk_frozen BKB5.out 1
        have y2 : (w4.alloc (.cells #[.int .i64 q0, .int .i64 q1, .int .i64 q2, .int .i64 q3, .int .i64 q4] 33)).cell? ⟨w.heap.size + 1, 2, none⟩ = some (.int .i64 b2) := (blk_cell BKB5.out 2).trans rfl
        have f2 := blk_frozen BKB5.out 2
        have y3 : (w4.alloc (.cells #[.int .i64 q0, .int .i64 q1, .int .i64 q2, .int .i64 q3, .int .i64 q4] 33)).cell? ⟨w.heap.size + 1, 3, none⟩ = some (.int .i64 b3) := (blk_cell BKB5.out 3).trans rfl
        have f3 := blk_frozen BKB5.out 3
        have y4 : (w4.alloc (.cells #[.int .i64 q0, .int .i64 q1, .int .i64 q2, .int .i64 q3, .int .i64 q4] 33)).cell? ⟨w.heap.size + 1, 4, none⟩ = some (.int .i64 b4) := (blk_cell BKB5.out 4).trans rfl
        have f4 := blk_frozen BKB5.out 4
        by_cases g1 : q5 = 0
        · have g1b : (q5 == 0) = true := by rw [beq_iff_eq]; exact g1
          by_cases g2 : b6 = 0
          · have g2b : (b6 != 0) = false := by rw [bne_eq_false_iff_eq]; exact g2
            by_cases g3 : b0 < q0
            · have g3b : decide (b0 < q0) = true := decide_eq_true g3
              have G := Aside0.mk (show (q5 = 0 ∧ (b6 ≠ 0 ∨ b0 < q0)) from ⟨g1, .inr g3⟩)
              clear g1 g2 g3
              have HNX := Lib.hid (show stN (p0, p1, p2, p3, p4, p5) (q0, q1, q2, q3, q4, q5) 2 = (q0, q1, q2, q3, q4, 1, 0) from by rw [HN.out, stp, if_pos G.out])
              go_wp2_with fail
              go_roundw
              case rel => exact ⟨2, by omega, rfl, q0, q1, q2, q3, q4, 1, 0, rfl, rfl, HNX, Lib.hid (five_far BKR5.out NR.out), Lib.hid (five_put BKB5.out), Lib.hid (five_far BKL5.out NL.out), Lib.hid (five_below HB5.out (Nat.le_succ _))⟩
              case measure => simp [intOf]
            · have g3b : decide (b0 < q0) = false := decide_eq_false g3
              have G := Aside0.mk (show ¬ (q5 = 0 ∧ (b6 ≠ 0 ∨ b0 < q0)) from fun h_ => h_.2.elim (fun e_ => e_ g2) g3)
              clear g1 g2 g3
              have HNX := Lib.hid (show stN (p0, p1, p2, p3, p4, p5) (q0, q1, q2, q3, q4, q5) 2 = (b0, b1, b2, b3, b4, b5, b6) from by rw [HN.out, stp, if_neg G.out])
              go_wp2_with fail
              go_roundw
              case rel => exact ⟨2, by omega, rfl, b0, b1, b2, b3, b4, b5, b6, rfl, rfl, HNX, Lib.hid BKR5.out, Lib.hid BKB5.out, Lib.hid BKL5.out, Lib.hid HB5.out⟩
              case measure => simp [intOf]
          · have g2b : (b6 != 0) = true := by rw [bne_iff_ne]; exact g2
            have G := Aside0.mk (show (q5 = 0 ∧ (b6 ≠ 0 ∨ b0 < q0)) from ⟨g1, .inl g2⟩)
            clear g1 g2
            have HNX := Lib.hid (show stN (p0, p1, p2, p3, p4, p5) (q0, q1, q2, q3, q4, q5) 2 = (q0, q1, q2, q3, q4, 1, 0) from by rw [HN.out, stp, if_pos G.out])
            go_wp2_with fail
            go_roundw
            case rel => exact ⟨2, by omega, rfl, q0, q1, q2, q3, q4, 1, 0, rfl, rfl, HNX, Lib.hid (five_far BKR5.out NR.out), Lib.hid (five_put BKB5.out), Lib.hid (five_far BKL5.out NL.out), Lib.hid (five_below HB5.out (Nat.le_succ _))⟩
            case measure => simp [intOf]
        · have g1b : (q5 == 0) = false := by rw [beq_eq_false_iff_ne]; exact g1
          have G := Aside0.mk (show ¬ (q5 = 0 ∧ (b6 ≠ 0 ∨ b0 < q0)) from fun h_ => g1 h_.1)
          clear g1
          have HNX := Lib.hid (show stN (p0, p1, p2, p3, p4, p5) (q0, q1, q2, q3, q4, q5) 2 = (b0, b1, b2, b3, b4, b5, b6) from by rw [HN.out, stp, if_neg G.out])
          go_wp2_with fail
          go_roundw
          case rel => exact ⟨2, by omega, rfl, b0, b1, b2, b3, b4, b5, b6, rfl, rfl, HNX, Lib.hid BKR5.out, Lib.hid BKB5.out, Lib.hid BKL5.out, Lib.hid HB5.out⟩
          case measure => simp [intOf]
    · obtain rfl : k = 2 := by omega
      have z0 : wr.cell? ⟨w.heap.size, 0, none⟩ = some (.int .i64 0) := (blk_cell BKR 0).trans rfl
      have f0 := blk_frozen BKR 0
      have z1 : wr.cell? ⟨w.heap.size, 1, none⟩ = some (.int .i64 0) := (blk_cell BKR 1).trans rfl
      have f1 := blk_frozen BKR 1
      have z2 : wr.cell? ⟨w.heap.size, 2, none⟩ = some (.int .i64 0) := (blk_cell BKR 2).trans rfl
      have f2 := blk_frozen BKR 2
      have z3 : wr.cell? ⟨w.heap.size, 3, none⟩ = some (.int .i64 0) := (blk_cell BKR 3).trans rfl
      have f3 := blk_frozen BKR 3
      have z4 : wr.cell? ⟨w.heap.size, 4, none⟩ = some (.int .i64 0) := (blk_cell BKR 4).trans rfl
      have f4 := blk_frozen BKR 4
      have y0 : wr.cell? ⟨w.heap.size + 1, 0, none⟩ = some (.int .i64 b0) := (blk_cell BKB 0).trans rfl
      have y1 : wr.cell? ⟨w.heap.size + 1, 1, none⟩ = some (.int .i64 b1) := (blk_cell BKB 1).trans rfl
      have y2 : wr.cell? ⟨w.heap.size + 1, 2, none⟩ = some (.int .i64 b2) := (blk_cell BKB 2).trans rfl
      have y3 : wr.cell? ⟨w.heap.size + 1, 3, none⟩ = some (.int .i64 b3) := (blk_cell BKB 3).trans rfl
      have y4 : wr.cell? ⟨w.heap.size + 1, 4, none⟩ = some (.int .i64 b4) := (blk_cell BKB 4).trans rfl
      have BKR9 := Aside0.mk BKR
      have HB9 := Aside0.mk HB
      have he := (show pick (p0, p1, p2, p3, p4, p5) (q0, q1, q2, q3, q4, q5) = (b0, b1, b2, b3, b4, b5, b6) from HS)
      rw [H.out] at he
      simp only [Prod.mk.injEq] at he
      obtain ⟨rfl, rfl, rfl, rfl, rfl, rfl, rfl⟩ := he
      clear BKR BKB BKL HB HS
      have BK6 := five_put (v0 := .int .i64 r1) (v1 := .int .i64 r2) (v2 := .int .i64 r3) (v3 := .int .i64 r4) (v4 := .int .i64 r5) BKR9.out
      have e0 := (blk_cell BK6 0).trans rfl
      have e1 := (blk_cell BK6 1).trans rfl
      have e2 := (blk_cell BK6 2).trans rfl
      have e3 := (blk_cell BK6 3).trans rfl
      have e4 := (blk_cell BK6 4).trans rfl
      have HB6 := Aside0.mk (five_below (v0 := .int .i64 r1) (v1 := .int .i64 r2) (v2 := .int .i64 r3) (v3 := .int .i64 r4) (v4 := .int .i64 r5) HB9.out (Nat.le_refl _))
      go_wp2_with fail
      refine bodyPost_ret (v := .tuple #[.agg #[.int .i64 r1, .int .i64 r2, .int .i64 r3, .int .i64 r4, .int .i64 r5], .int .i64 r6, .int .i64 r7]) (by simp [results, Try.f43, go_sem, hu, e0, e1, e2, e3, e4]) rfl ⟨rfl, HB6.out⟩
end Go.Proofs.Ytiiphlfgdkjjiaa.Q
