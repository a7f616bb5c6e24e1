/- octets.Put: a number's octets, the highest first; no condition but that it has room. -/
import Derived.RangeFuncNested
import Derived.RangeFuncBox
import Derived.RangeFuncLeaves
import Derived.Shelf.Abstract
import Derived.WalkKit
import Derived.OwnWalkIn
import Derived.TacticsInMore
import Derived.LoopNIn
import Derived.LoopIn
import Derived.Test.YtiiphlfgdkjjiaaProg
namespace Go.Proofs.Ytiiphlfgdkjjiaa.Q
open Go.RowKit Go.Shelf
set_option linter.unusedVariables false
set_option linter.unusedSimpArgs false
attribute [local go_sem] Oper.semAt_some

/-- What has come when k rounds are over. -/
def up (m k : Nat) : List Nat := (List.range k).map fun j => 8 * (m - 1 - j)
theorem up_succ (m k : Nat) : up m (k + 1) = up m k ++ [8 * (m - 1 - k)] := by simp [up, List.range_succ]
theorem up_length (m k : Nat) : (up m k).length = k := by simp [up]

/-- What a round keeps: the iterator's own cell. -/
def KpC (Bs : Nat) (W W' : World) : Prop := W.heap.size ≤ W'.heap.size ∧ (Bs < W.heap.size → W'.heap[Bs]? = W.heap[Bs]?)
theorem KpC.refl (Bs : Nat) (W : World) : KpC Bs W W := ⟨Nat.le_refl _, fun _ => rfl⟩
theorem KpC.trans {Bs : Nat} {A B C : World} (h1 : KpC Bs A B) (h2 : KpC Bs B C) : KpC Bs A C := ⟨Nat.le_trans h1.1 h2.1, fun h => (h2.2 (Nat.lt_of_lt_of_le h h1.1)).trans (h1.2 h)⟩
theorem KpC.below {Bs n : Nat} {A B : World} (h : Below n A B) (hn : Bs < n) (hs : A.heap.size ≤ B.heap.size) : KpC Bs A B := ⟨hs, fun _ => h.block Bs hn⟩
theorem KpC.cell {Bs : Nat} {A B : World} {v : Value} (h : KpC Bs A B) (hc : A.cell? ⟨Bs, 0, none⟩ = some v) : B.cell? ⟨Bs, 0, none⟩ = some v :=
  (World.cell?_of_block (w := A) (a := ⟨Bs, 0, none⟩) (h.2 (World.block_lt_of_cell? _ _ hc))).trans hc
theorem KpC.put {w W : World} {Bs l : Nat} {o' : Obj} (hB : Bs < w.heap.size) (hl : w.heap.size ≤ l) : KpC Bs W (W.putObj l o') := ⟨by simp, fun _ => World.putObj_heap_other (by omega)⟩

set_option maxRecDepth 100000 in
set_option maxHeartbeats 2000000 in
theorem shifts1_in (F : Fence) (n : Nat) (hf : F.fn 80) (hro : F.round = none) (hn : 1 ≤ n) (l Bs : Nat) (m : Nat) (hm : m ≤ 8) (J Jx : List Nat → World → Prop)
    (hY : ∀ (pre : List Nat) (x : Nat) (W : World), J pre W → pre.length < m → YieldAt F (n - 1) Try.prog l #[.int .i64 (x : Int)] W fun e W' =>
      (e = .returned (.bool true) ∧ J (pre ++ [x]) W' ∧ KpC Bs W W') ∨ (e = .returned (.bool false) ∧ Jx (pre ++ [x]) W'))
    (W : World) (hBs : W.cell? ⟨Bs, 0, none⟩ = some (.int .i64 (m : Int))) (h0 : J [] W) :
    CallsIn F n Try.prog 80 #[.func (.yield l) #[] #[], .pointer (some ⟨Bs, 0, none⟩)] W fun e W' => (∃ v, e = .returned v) ∧
      ((∃ ys, ys = up m m ∧ J ys W') ∨ (∃ pre, (∃ k, k ≤ m ∧ pre = up m k) ∧ Jx pre W')) := by
  refine callsIn_of_wp Try.func80 rfl hf ?_ hro
  simp only [Try.ntmps80, List.size_toArray, List.length_cons, List.length_nil, Nat.reduceAdd, Nat.reduceSub, Array.replicate_succ, Array.replicate_zero, List.push_toArray, List.append_toArray, List.nil_append, List.cons_append]
  gi_wp2
  gi_loopw [5] (fun i wr => ∃ k : Nat, k ≤ m ∧ i = .int .i64 (k : Int) ∧ J (up m k) wr ∧ KpC Bs W wr)
    (fun i _ => m - (intOf i).toNat)
  case atStart => exact ⟨0, Nat.zero_le _, by go_num, h0, KpC.refl _ _⟩
  case round =>
    obtain ⟨k, hk, rfl, hJs, hnx⟩ := hrel
    have hz0 : wr.cell? ⟨Bs, 0, none⟩ = some (.int .i64 (m : Int)) := hnx.cell hBs
    by_cases hlt : k < m
    · obtain ⟨x, hx⟩ : ∃ x : Nat, x = 8 * (m - 1 - k) := ⟨_, rfl⟩
      obtain ⟨fn, tmps, assign, body, hy, hR⟩ := hY _ x wr hJs (by rw [up_length]; exact hlt)
      have hxi : (x : Int) = 8 * ((m : Int) - 1 - k) := by omega
      rw [hxi] at hy
      have HX : Hid (x = 8 * (m - 1 - k)) := hx
      clear hx hxi
      gi_wp2
      refine hR.mono ?_
      rintro e W3 (⟨rfl, hJ3, hk3⟩ | ⟨rfl, hJx3⟩)
      · gi_wp2
        go_roundw
        case rel => exact ⟨k + 1, by omega, by go_num, by rw [up_succ, ← show x = 8 * (m - 1 - k) from HX]; exact hJ3, hnx.trans hk3⟩
        case measure => first | (simp [intOf]; done) | (simp [intOf]; omega)
      · gi_wp2
        refine bodyPost_ret (results_none rfl _ _ _) rfl ?_
        exact ⟨⟨_, rfl⟩, .inr ⟨_, ⟨k + 1, by omega, by rw [up_succ, ← show x = 8 * (m - 1 - k) from HX]⟩, hJx3⟩⟩
    · obtain rfl : k = m := by omega
      gi_wp2
      go_end0
      exact ⟨⟨_, rfl⟩, .inl ⟨_, rfl, hJs⟩⟩

theorem shifts_stops (F : Fence) (n : Nat) (hf : F.fn 80) (hro : F.round = none) (hn : 1 ≤ n) (Bs : Nat) (m : Nat) (hm : m ≤ 8)
    (w : World) (hBs : w.cell? ⟨Bs, 0, none⟩ = some (.int .i64 (m : Int))) :
    SeqStopsK F n Try.prog 80 #[.pointer (some ⟨Bs, 0, none⟩)] (fun x : Nat => #[Value.int .i64 (x : Int)]) (KpC Bs) (fun ys => ys = up m m) (fun pre => ∃ k, k ≤ m ∧ pre = up m k) m w := fun l J Jx W hW _ _ hY h0 =>
  shifts1_in F n hf hro hn l Bs m hm J Jx hY W ((hW.cell (p := ⟨Bs, 0, none⟩) (World.block_lt_of_cell? _ _ hBs)).trans hBs) h0
set_option maxHeartbeats 1000000 in
theorem shifts_in (F : Fence) (n : Nat) (hf : F.fn 76) (hro : F.round = none) (m : Nat) (w : World) :
    CallsIn F n Try.prog 76 #[.int .i64 (m : Int)] w fun e w' => e = .returned (.func (.func 80) #[] #[.pointer (some ⟨w.heap.size, 0, none⟩)]) ∧ w' = w.alloc (.cells #[.int .i64 (m : Int)] 3) := by
  refine callsIn_of_wp Try.func76 rfl hf ?_ hro
  simp only [Try.ntmps76, List.size_toArray, List.length_cons, List.length_nil, Nat.reduceAdd, Nat.reduceSub, Array.replicate_succ, Array.replicate_zero, List.push_toArray, List.append_toArray, List.nil_append, List.cons_append]
  gi_wp2
  go_ret
  exact ⟨rfl, rfl⟩
end Go.Proofs.Ytiiphlfgdkjjiaa.Q
