/- The pure statement of SuperDisks, over numbers and lists alone; no condition. Written by a program of this session (row.py). -/
import Derived.Test.YtiiphlfgdkjjiaaZDisksSRefStore
import Derived.Test.YtiiphlfgdkjjiaaZDisksRead
import Derived.Test.YtiiphlfgdkjjiaaZDisksSAlive
import Derived.Test.YtiiphlfgdkjjiaaZDisksDTellsPlain
import Derived.Test.YtiiphlfgdkjjiaaZDisksSRefDec
import Derived.Test.YtiiphlfgdkjjiaaZDisksDPlain
import Derived.Test.YtiiphlfgdkjjiaaZDisksQ40
import Derived.Test.YtiiphlfgdkjjiaaZDisksQ24
namespace Go.Proofs.Ytiiphlfgdkjjiaa.Stm
set_option linter.unusedVariables false
open Go.RowKit Go.Proofs.Ytiiphlfgdkjjiaa.Q Go.Proofs.Ytiiphlfgdkjjiaa.Read Go.Proofs.YtiiphlfgdkjjiaaW.PrintWords
namespace superDisks
def fits55 (x : S55) : Prop := ((Lit.int .i64 x.f0).wf = true) ∧ ((FitsL 1 (fun x => (Lit.int .u8 x).wf = true) x.f1))
def bulk55 (x : S55) : Nat := (1) + ((bulkL (fun x => 1) x.f1)) + 1
theorem op55 : Opens Try.prog 55 k55 fits55 bulk55 := by have h := opens_iso (fun x : S55 => (x.f0, x.f1)) (fun y => (⟨y.1, y.2⟩ : S55)) (fun _ => rfl) (opens_struct Try.underlying55 (by kernel_rfl) (opensF_cons rfl (by kernel_rfl) (opens_int (k := .i64) (by kernel_rfl)) (opensF_one rfl (by kernel_rfl) (opens_slice (e := 5) (by kernel_rfl) (by kernel_rfl) (B := 1) (by kernel_rfl) (opens_int (k := .u8) (by kernel_rfl)))))); exact h
def fits42 (x : S42) : Prop := (FitsL 24 (fun x => FitsL 1 (fun x => (Lit.int .u8 x).wf = true) x) x.f0) ∧ ((FitsL 32 (fun x => fits55 x) x.f1))
def bulk42 (x : S42) : Nat := (bulkL (fun x => bulkL (fun x => 1) x) x.f0) + ((bulkL (fun x => bulk55 x) x.f1)) + 1
theorem op42 : Opens Try.prog 42 k42 fits42 bulk42 := by have h := opens_iso (fun x : S42 => (x.f0, x.f1)) (fun y => (⟨y.1, y.2⟩ : S42)) (fun _ => rfl) (opens_struct Try.underlying42 (by kernel_rfl) (opensF_cons rfl (by kernel_rfl) (opens_slice (e := 50) (by kernel_rfl) (by kernel_rfl) (B := 24) (by kernel_rfl) (opens_slice (e := 5) (by kernel_rfl) (by kernel_rfl) (B := 1) (by kernel_rfl) (opens_int (k := .u8) (by kernel_rfl)))) (opensF_one rfl (by kernel_rfl) (opens_slice (e := 55) (by kernel_rfl) (by kernel_rfl) (B := 32) (by kernel_rfl) op55)))); exact h
def fits23 (x : S23) : Prop := ((Lit.int .i64 x.f0).wf = true) ∧ (((Lit.int .i64 x.f1).wf = true) ∧ (((Lit.int .i64 x.f2).wf = true) ∧ (((Lit.int .i64 x.f3).wf = true) ∧ (((Lit.int .i64 x.f4).wf = true)))))
def bulk23 (x : S23) : Nat := (1) + ((1) + ((1) + ((1) + ((1))))) + 1
theorem op23 : Opens Try.prog 23 k23 fits23 bulk23 := by have h := opens_iso (fun x : S23 => (x.f0, x.f1, x.f2, x.f3, x.f4)) (fun y => (⟨y.1, y.2.1, y.2.2.1, y.2.2.2.1, y.2.2.2.2⟩ : S23)) (fun _ => rfl) (opens_struct Try.underlying23 (by kernel_rfl) (opensF_cons rfl (by kernel_rfl) (opens_int (k := .i64) (by kernel_rfl)) (opensF_cons rfl (by kernel_rfl) (opens_int (k := .i64) (by kernel_rfl)) (opensF_cons rfl (by kernel_rfl) (opens_int (k := .i64) (by kernel_rfl)) (opensF_cons rfl (by kernel_rfl) (opens_int (k := .i64) (by kernel_rfl)) (opensF_one rfl (by kernel_rfl) (opens_int (k := .i64) (by kernel_rfl)))))))); exact h
def Pure : Prop := ∀ (x0 : S42) (x1 : S23), fits42 x0 → fits23 x1 → ∃ k, transeptlaw06_SuperDisks.f k x0.f0 x0.f1 x1.f0 x1.f1 x1.f2 x1.f3 x1.f4 = some true
end superDisks
end Go.Proofs.Ytiiphlfgdkjjiaa.Stm
namespace Go.Proofs.Ytiiphlfgdkjjiaa.Q
open Go.RowKit Go.Proofs.YtiiphlfgdkjjiaaW.PrintWords Go.Proofs.YtiiphlfgdkjjiaaW.PrintLast Go.Proofs.YtiiphlfgdkjjiaaW.PrintMore
open Go.Proofs.Ytiiphlfgdkjjiaa.CrcP
set_option linter.unusedVariables false
set_option linter.unusedSimpArgs false

theorem refpick_j0 (k : Nat) (p0 p1 p2 p3 p4 pe q0 q1 q2 q3 q4 qe : Int) (b : Bool) (hb : b = (decide (pe ≠ 0) && decide (qe ≠ 0))) :
    transeptref06_Pick.j0 (k + 1) pe qe b p0 p1 p2 p3 p4 q0 q1 q2 q3 q4 = some (pick (p0, p1, p2, p3, p4, pe) (q0, q1, q2, q3, q4, qe)) := by
  rw [transeptref06_Pick.j0]
  unfold pick stp st0
  dsimp only
  by_cases hp : pe = 0
  · rw [if_neg (by rw [hb, decide_eq_false (not_not_intro hp), Bool.false_and]; decide), if_pos hp, if_pos (⟨hp, .inl (by decide)⟩ : pe = 0 ∧ ((21 : Int) ≠ 0 ∨ (0 : Int) < p0))]
    dsimp only
    by_cases hq : qe = 0
    · rw [if_pos hq]
      by_cases hlt : q0 > p0
      · rw [if_pos hlt, if_pos ⟨hq, .inr hlt⟩]
      · rw [if_neg hlt, if_neg (fun h => h.2.elim (fun h_ => h_ rfl) (fun h_ => hlt h_))]
    · rw [if_neg hq, if_neg (fun h => hq h.1)]
  · rw [if_neg (fun h : pe = 0 ∧ _ => hp h.1)]
    dsimp only
    by_cases hq : qe = 0
    · rw [if_neg (by rw [hb, decide_eq_false (not_not_intro hq), Bool.and_false]; decide), if_neg hp, if_pos ⟨hq, .inl (by decide)⟩]
    · rw [if_pos (by rw [hb, decide_eq_true hp, decide_eq_true hq]; rfl), if_neg (fun h => hq h.1)]
theorem refpick_f {l0 l1 : List Int} {k : Nat} (h0 : octs l0 = true) (h1 : octs l1 = true) (hk : 1 ≤ k) : transeptref06_Pick.f k l0 l1 = some (pick (dec l0) (dec l1)) := by
  obtain ⟨k, rfl⟩ : ∃ j, k = j + 1 := ⟨k - 1, by omega⟩
  unfold transeptref06_Pick.f transeptref06_Decode.f
  rw [if_pos h0, if_pos h1, Option.bind_some, Option.bind_some]
  obtain ⟨p0, p1, p2, p3, p4, pe⟩ := dec l0
  obtain ⟨q0, q1, q2, q3, q4, qe⟩ := dec l1
  dsimp only
  by_cases hp : pe = 0
  · rw [if_pos hp]
    exact refpick_j0 k _ _ _ _ _ _ _ _ _ _ _ _ _ (by rw [decide_eq_false (not_not_intro hp)]; rfl)
  · rw [if_neg hp]
    exact refpick_j0 k _ _ _ _ _ _ _ _ _ _ _ _ _ (by rw [decide_eq_true hp, Bool.true_and]; by_cases hq : qe = 0 <;> simp [hq])
end Go.Proofs.Ytiiphlfgdkjjiaa.Q
namespace Go.Proofs.Ytiiphlfgdkjjiaa.Pure
open Go.RowKit Go.Proofs.Ytiiphlfgdkjjiaa.Q Go.Proofs.Ytiiphlfgdkjjiaa.Read Go.Proofs.YtiiphlfgdkjjiaaW.PrintWords Go.Proofs.YtiiphlfgdkjjiaaW.PrintLast Go.Proofs.YtiiphlfgdkjjiaaW.PrintMore Go.Proofs.Ytiiphlfgdkjjiaa.Stm.superDisks
open Go.Proofs.Ytiiphlfgdkjjiaa.CrcP
set_option linter.unusedVariables false
set_option linter.unusedSimpArgs false

theorem fit_of {x : S42} (h : fits42 x) : FitD x.f0 ∧ FitW x.f1 := by
  obtain ⟨⟨_, h1, h2⟩, ⟨_, h3, h4⟩⟩ := h
  exact ⟨⟨by omega, fun b hb => by have := (h2 b hb).2.1; omega⟩, ⟨by omega, fun y hy => by have := (h4 y hy).2.2.1; omega⟩⟩
theorem octs_fit {l : List Int} (hl : FitsL 1 (fun x => (Lit.int .u8 x).wf = true) l) : octs l = true := by
  unfold octs
  rw [List.all_eq_true]
  intro y hy
  have h := hl.2.2 y hy
  simp [Lit.wf, IntKind.min, IntKind.max, IntKind.signed, IntKind.bits] at h
  exact decide_eq_true (by omega)
theorem octs_of {x : S42} (h : fits42 x) : (∀ b ∈ x.f0, octs b = true) ∧ (∀ y ∈ toWs x.f1, octs y.f1 = true) := by
  obtain ⟨⟨_, h1, h2⟩, ⟨_, h3, h4⟩⟩ := h
  refine ⟨fun b hb => octs_fit (h2 b hb), fun y hy => ?_⟩
  obtain ⟨z, hz, rfl⟩ := List.mem_map.1 hy
  exact octs_fit (h4 z hz).2
theorem gotn_octs {ws : List Wr} (h : ∀ y ∈ ws, octs y.f1 = true) {q : Int} : ∀ m, m ≤ ws.length → ∀ b, gotn ws q m = some b → octs b = true := by
  intro m
  induction m with
  | zero => intro _ b hb; exact absurd hb (by simp [gotn])
  | succ m ih =>
    intro hm b hb
    rw [gotn] at hb
    split at hb
    · injection hb with hb
      rw [← hb, rdW_at (show m < ws.length by omega)]
      exact h _ (List.getElem_mem _)
    · exact ih (by omega) b hb
theorem got_octs {l0 : List (List Int)} {ws : List Wr} (h0 : ∀ b ∈ l0, octs b = true) (h1 : ∀ y ∈ ws, octs y.f1 = true) (q : Int) : octs (got l0 ws q) = true := by
  unfold got
  cases hg : gotn ws q ws.length with
  | some b => exact gotn_octs h1 _ (Nat.le_refl _) b hg
  | none =>
    show octs (rd_L4 l0 q) = true
    unfold rd_L4
    rw [List.getD_eq_getElem?_getD]
    cases hx : l0[q.toNat]? with
    | none => rfl
    | some b => exact h0 b (List.mem_of_getElem? hx)
theorem refload_f {l0 : List (List Int)} {l1 : List Wp} {k : Nat} (h0 : l0.length < 4611686018427387904) (h1 : l1.length < 4611686018427387904) (hk : l0.length + l1.length + 4 ≤ k)
    (ho : ∀ q : Int, octs (got l0 (toWs l1) q) = true) : transeptref06_Load.f k l0 l1 = some (loads l0 (toWs l1)) := by
  unfold transeptref06_Load.f loads
  rw [pcheck_f h0 h1 hk, Option.bind_some]
  by_cases c1 : okS l0 (toWs l1) = true
  · rw [if_pos c1, if_pos rfl, if_pos c1]
    by_cases c2 : l0.length < 2
    · rw [if_pos (by omega), if_pos c2]
    · rw [if_neg (by omega), if_neg c2, pget_f h0 h1 hk, pget_f h0 h1 hk, Option.bind_some, Option.bind_some]
      unfold gets
      rw [if_pos c1, if_pos ⟨by omega, by omega⟩, if_pos c1, if_pos ⟨by omega, by omega⟩, refpick_f (ho 0) (ho 1) (by omega)]
      rfl
  · rw [if_neg c1, if_neg (by decide), if_neg c1]
theorem toWs_more (l1 : List Wp) (x : Wp) : toWs (l1 ++ [x]) = toWs l1 ++ [toW x] := by simp [toWs]
theorem refstore_f {l0 : List (List Int)} {l1 : List Wp} {a0 a1 a2 a3 a4 : Int} {k : Nat} (h0 : FitD l0) (h1 : FitW l1) (hk : l0.length + l1.length + l1.length + 300 ≤ k) :
    transeptref06_Store.f k l0 l1 a0 a1 a2 a3 a4 = some ((stores l0 (toWs l1) a0 a1 a2 a3 a4).1, [], (stores l0 (toWs l1) a0 a1 a2 a3 a4).2.2) := by
  have hd1 := h0.1
  have hw1 := h1.1
  unfold transeptref06_Store.f stores
  rw [pcheck_f (by omega) (by omega) (by omega), Option.bind_some, toWs_length]
  by_cases c1 : okS l0 (toWs l1) = true
  · rw [if_pos c1, if_pos rfl, if_pos c1]
    by_cases c2 : l0.length < 2
    · rw [if_pos (by omega), if_pos c2]
    · rw [if_neg (by omega), if_neg c2]
      unfold transeptref06_Encode.f super_Encode.f
      rw [Option.bind_some]
      by_cases c3 : blkOk a0 a1 a2 a3 a4 = true
      · have hp := (blkOk_out c3).1
        rw [if_pos c3, if_pos rfl, if_pos c3, Int.tmod_eq_emod_of_nonneg hp.1]
        have hput := pput_f (l0 := l0) (l1 := l1) (sec := a0 % 2) (d := secti a0 a1 a2 a3 a4) (k := k) h0 h1 (by omega)
        unfold puts at hput
        rw [if_pos c1, if_pos ⟨by omega, by omega⟩, if_neg (by rw [secti_len]; omega)] at hput
        by_cases c4 : l1.length ≥ 4096
        · rw [if_pos (by omega)] at hput
          rw [if_pos c4]
          show (transeptref04_Put.f k l0 l1 (a0 % 2) (secti a0 a1 a2 a3 a4)).bind _ = _
          rw [hput]
          rfl
        · rw [if_neg (by omega), padded_full secti_len] at hput
          rw [if_neg c4]
          show (transeptref04_Put.f k l0 l1 (a0 % 2) (secti a0 a1 a2 a3 a4)).bind _ = _
          have e1 : transeptref04_Put.f k l0 l1 (a0 % 2) (secti a0 a1 a2 a3 a4) = some (l0, l1 ++ [⟨a0 % 2, secti a0 a1 a2 a3 a4⟩], 0) := hput
          rw [e1, Option.bind_some, if_pos rfl]
          have hl : (l1 ++ [(⟨a0 % 2, secti a0 a1 a2 a3 a4⟩ : Wp)]).length = l1.length + 1 := by rw [List.length_append, List.length_singleton]
          have hfl := pflush_f (l0 := l0) (l1 := l1 ++ [⟨a0 % 2, secti a0 a1 a2 a3 a4⟩]) (k := k) (by omega) (by rw [hl]; omega) (by rw [hl]; omega)
          have hok := okS_more (a0 := a0) (a1 := a1) (a2 := a2) (a3 := a3) (a4 := a4) c1 c2 (by rw [toWs_length]; exact c4)
          rw [toWs_more, show toW (⟨a0 % 2, secti a0 a1 a2 a3 a4⟩ : Wp) = blkW a0 a1 a2 a3 a4 from rfl, if_pos hok, hl] at hfl
          rw [hfl]
          rfl
      · rw [if_neg c3, if_neg (by decide), if_neg c3]
  · rw [if_neg c1, if_neg (by decide), if_neg c1]
theorem stores_nil {l0 : List (List Int)} {ws : List Wr} {a0 a1 a2 a3 a4 : Int} : (stores l0 ws a0 a1 a2 a3 a4).2.1 = [] := by
  unfold stores
  split
  · split
    · rfl
    · split
      · split <;> rfl
      · rfl
  · rfl
theorem stores_len {l0 : List (List Int)} {ws : List Wr} {a0 a1 a2 a3 a4 : Int} : (stores l0 ws a0 a1 a2 a3 a4).1.length ≤ l0.length ∧ ∀ b ∈ (stores l0 ws a0 a1 a2 a3 a4).1, b.length ≤ 64 := by
  unfold stores
  split
  · rename_i c1
    split
    · exact ⟨Nat.zero_le _, fun b hb => by cases hb⟩
    · rename_i c2
      split
      · split
        · exact ⟨Nat.zero_le _, fun b hb => by cases hb⟩
        · rename_i c4
          obtain ⟨o1, o2, o3, o4, o5⟩ := okS_out (okS_more (a0 := a0) (a1 := a1) (a2 := a2) (a3 := a3) (a4 := a4) c1 c2 c4)
          exact ⟨by show (landed _ _ _ _).length ≤ _; rw [landed_length]; exact Nat.le_refl _, fun b hb => by rw [landed_all o4 o5 (fun _ => Nat.le_refl _) _ b hb]; exact Nat.le_refl _⟩
      · exact ⟨Nat.zero_le _, fun b hb => by cases hb⟩
  · exact ⟨Nat.zero_le _, fun b hb => by cases hb⟩
theorem SuperDisks : Stm.superDisks.Pure := by
  intro x y hx hy
  obtain ⟨h0, h1⟩ := fit_of hx
  obtain ⟨o0, o1⟩ := octs_of hx
  obtain ⟨M, hM⟩ : ∃ M : Nat, M = 140737488355328 := ⟨_, rfl⟩
  obtain ⟨k, hk⟩ : ∃ k : Nat, k = x.f0.length + x.f1.length + x.f1.length + M + 500 := ⟨_, rfl⟩
  have hd1 := h0.1
  have hw1 := h1.1
  have hwl : (toWs x.f1).length = x.f1.length := toWs_length _
  refine ⟨k, ?_⟩
  have e1 := of_f (k := k) h0 h1 (by omega)
  have e2 := load_f (l0 := x.f0) (l1 := toWs x.f1) (k := k) (by omega) (by omega) (by omega) (got_octs o0 o1)
  have e3 := refload_f (l0 := x.f0) (l1 := x.f1) (k := k) (by omega) (by omega) (by omega) (got_octs o0 o1)
  have e4 := store_f (l0 := x.f0) (l1 := toWs x.f1) (a0 := y.f0) (a1 := y.f1) (a2 := y.f2) (a3 := y.f3) (a4 := y.f4) (k := k) (by omega) (by omega) (by omega)
  have e5 := refstore_f (l0 := x.f0) (l1 := x.f1) (a0 := y.f0) (a1 := y.f1) (a2 := y.f2) (a3 := y.f3) (a4 := y.f4) (k := k) h0 h1 (by omega)
  obtain ⟨s1, s2⟩ := stores_len (l0 := x.f0) (ws := toWs x.f1) (a0 := y.f0) (a1 := y.f1) (a2 := y.f2) (a3 := y.f3) (a4 := y.f4)
  have e6 : transeptlaw04_Alike.f k (stores x.f0 (toWs x.f1) y.f0 y.f1 y.f2 y.f3 y.f4).1 (toWs []) (stores x.f0 (toWs x.f1) y.f0 y.f1 y.f2 y.f3 y.f4).1 [] = some 0 := alike_f (M := 64) (by omega) (by decide) (by decide) s2 (fun z hz => by cases hz) (by rw [List.length_nil]; omega)
  have e7 := alike_f (a := x.f0) (ws := x.f1) (M := M) (k := k) (by omega) (by omega) (by omega) (fun b hb => by have := h0.2 b hb; omega) (fun z hz => by have := h1.2 z hz; omega) (by omega)
  unfold transeptlaw06_SuperDisks.f
  rw [e1, Option.bind_some, e2, Option.bind_some, e3, Option.bind_some, e4, Option.bind_some, e5, Option.bind_some, stores_nil]
  show (transeptlaw04_Alike.f k (stores x.f0 (toWs x.f1) y.f0 y.f1 y.f2 y.f3 y.f4).1 (toWs []) (stores x.f0 (toWs x.f1) y.f0 y.f1 y.f2 y.f3 y.f4).1 []).bind _ = _
  rw [e6, Option.bind_some, e7, Option.bind_some, if_pos ⟨rfl, rfl, rfl, rfl⟩]
end Go.Proofs.Ytiiphlfgdkjjiaa.Pure
