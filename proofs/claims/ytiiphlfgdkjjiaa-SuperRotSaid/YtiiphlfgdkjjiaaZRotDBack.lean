/- slices.Backward of a disk's writes: the closure's contract: the indices from the last one down, each with the element's cells; no condition but that the row is short of 2^40. -/
import Derived.RangeFuncNested
import Derived.RangeFuncBox
import Derived.RangeFuncLeaves
import Derived.Shelf.Abstract
import Derived.WalkKit
import Derived.OwnWalkIn
import Derived.TacticsInMore
import Derived.LoopNIn
import Derived.LoopIn
import Derived.Test.YtiiphlfgdkjjiaaProg
namespace Go.Proofs.Ytiiphlfgdkjjiaa.Q
open Go.RowKit Go.Shelf
set_option linter.unusedVariables false
set_option linter.unusedSimpArgs false
attribute [local go_sem] Oper.semAt_some

/-- What has come when k rounds are over. -/
def bk (m k : Nat) : List Nat := (List.range k).map fun j => m - 1 - j
theorem bk_succ (m k : Nat) : bk m (k + 1) = bk m k ++ [m - 1 - k] := by simp [bk, List.range_succ]
theorem blk_add (ad : Addr) (j : Nat) : (ad.add j).block = ad.block := by unfold Addr.add; split <;> rfl
theorem bk_length (m k : Nat) : (bk m k).length = k := by simp [bk]

set_option maxRecDepth 100000 in
set_option maxHeartbeats 2000000 in
theorem back1_in (F : Fence) (n : Nat) (hf : F.fn 74) (hro : F.round = none) (hn : 1 ≤ n) (l Bs n₀ : Nat) (A : Option Addr) (m cap : Nat) (v0 v1 : Nat → Value) (hm : m ≤ 1099511627776) (J Jx : List Nat → World → Prop)
    (hY : ∀ (pre : List Nat) (x : Nat) (W : World), J pre W → pre.length < m → YieldAt F (n - 1) Try.prog l #[.int .i64 (x : Int), .agg #[v0 x, v1 x]] W fun e W' =>
      (e = .returned (.bool true) ∧ J (pre ++ [x]) W' ∧ Below n₀ W W') ∨ (e = .returned (.bool false) ∧ Jx (pre ++ [x]) W'))
    (W : World) (hBn : Bs < n₀) (hBs : W.cell? ⟨Bs, 0, none⟩ = some (.slice A m cap)) (hc : ∀ x, x < m → ∃ ad : Addr, A = some ad ∧ ad.block < n₀ ∧ W.cell? (ad.add (x * 2)) = some (v0 x) ∧ W.cell? ⟨(ad.add (x * 2)).block, (ad.add (x * 2)).off + 1, none⟩ = some (v1 x)) (h0 : J [] W) :
    CallsIn F n Try.prog 74 #[.func (.yield l) #[] #[], .pointer (some ⟨Bs, 0, none⟩)] W fun e W' => (∃ v, e = .returned v) ∧
      ((∃ ys, ys = bk m m ∧ J ys W') ∨ (∃ pre, (∃ k, k ≤ m ∧ pre = bk m k) ∧ Jx pre W')) := by
  refine callsIn_of_wp Try.func74 rfl hf ?_ hro
  simp only [Try.ntmps74, List.size_toArray, List.length_cons, List.length_nil, Nat.reduceAdd, Nat.reduceSub, Array.replicate_succ, Array.replicate_zero, List.push_toArray, List.append_toArray, List.nil_append, List.cons_append]
  gi_wp2
  gi_loopw [3] (fun i wr => ∃ k : Nat, k ≤ m ∧ i = .int .i64 ((m : Int) - 1 - k) ∧ J (bk m k) wr ∧ Below n₀ W wr)
    (fun i _ => (intOf i + 1).toNat)
  case atStart => exact ⟨0, Nat.zero_le _, by go_num, h0, Below.refl _ _⟩
  case round =>
    obtain ⟨k, hk, rfl, hJs, hnx⟩ := hrel
    have hz0 : wr.cell? ⟨Bs, 0, none⟩ = some (.slice A m cap) := (hnx.cell (p := ⟨Bs, 0, none⟩) hBn).trans hBs
    by_cases hlt : k < m
    · obtain ⟨x, hx⟩ : ∃ x : Nat, x = m - 1 - k := ⟨_, rfl⟩
      have hxi : (m : Int) - 1 - k = (x : Int) := by omega
      obtain ⟨ad, rfl, hadb, hc0', hc1'⟩ := hc x (by omega)
      have hc0 : wr.cell? (ad.add (x * 2)) = some (v0 x) := (hnx.cell (by rw [blk_add]; exact hadb)).trans hc0'
      have hc1 : wr.cell? ⟨(ad.add (x * 2)).block, (ad.add (x * 2)).off + 1, none⟩ = some (v1 x) := (hnx.cell (by show (ad.add (x * 2)).block < n₀; rw [blk_add]; exact hadb)).trans hc1'
      obtain ⟨fn, tmps, assign, body, hy, hR⟩ := hY _ x wr hJs (by rw [bk_length]; exact hlt)
      have hxm : x < m := by omega
      have HX : Hid (x = m - 1 - k) := hx
      clear hx hc0' hc1' hc
      rw [hxi]
      gi_wp2
      refine hR.mono ?_
      rintro e W3 (⟨rfl, hJ3, hk3⟩ | ⟨rfl, hJx3⟩)
      · gi_wp2
        go_roundw
        case rel => exact ⟨k + 1, by omega, by have := show x = m - 1 - k from HX; go_num, by rw [bk_succ, ← show x = m - 1 - k from HX]; exact hJ3, hnx.trans hk3⟩
        case measure => first | (simp [intOf]; done) | (simp [intOf]; omega)
      · gi_wp2
        refine bodyPost_ret (results_none rfl _ _ _) rfl ?_
        exact ⟨⟨_, rfl⟩, .inr ⟨_, ⟨k + 1, by omega, by rw [bk_succ, ← show x = m - 1 - k from HX]⟩, hJx3⟩⟩
    · obtain rfl : k = m := by omega
      rw [show (k : Int) - 1 - k = -1 from by omega]
      gi_wp2
      go_end0
      exact ⟨⟨_, rfl⟩, .inl ⟨_, rfl, hJs⟩⟩

theorem back_stops (F : Fence) (n : Nat) (hf : F.fn 74) (hro : F.round = none) (hn : 1 ≤ n) (Bs n₀ : Nat) (A : Option Addr) (m cap : Nat) (v0 v1 : Nat → Value) (hm : m ≤ 1099511627776)
    (w : World) (hBn : Bs < n₀) (hn₀ : n₀ ≤ w.heap.size) (hBs : w.cell? ⟨Bs, 0, none⟩ = some (.slice A m cap)) (hc : ∀ x, x < m → ∃ ad : Addr, A = some ad ∧ ad.block < n₀ ∧ w.cell? (ad.add (x * 2)) = some (v0 x) ∧ w.cell? ⟨(ad.add (x * 2)).block, (ad.add (x * 2)).off + 1, none⟩ = some (v1 x)) :
    SeqStopsK F n Try.prog 74 #[.pointer (some ⟨Bs, 0, none⟩)] (fun x : Nat => #[Value.int .i64 (x : Int), .agg #[v0 x, v1 x]]) (Below n₀) (fun ys => ys = bk m m) (fun pre => ∃ k, k ≤ m ∧ pre = bk m k) m w := fun l J Jx W hW _ _ hY h0 =>
  back1_in F n hf hro hn l Bs n₀ A m cap v0 v1 hm J Jx hY W hBn ((hW.cell (p := ⟨Bs, 0, none⟩) (by show Bs < w.heap.size; omega)).trans hBs) (fun x hx => by
    obtain ⟨ad, e, hb, h1, h2⟩ := hc x hx
    exact ⟨ad, e, hb, (hW.cell (by rw [blk_add]; omega)).trans h1, (hW.cell (by show (ad.add (x * 2)).block < _; rw [blk_add]; omega)).trans h2⟩) h0
set_option maxHeartbeats 1000000 in
theorem back_in (F : Fence) (n : Nat) (hf : F.fn 57) (hro : F.round = none) (A : Option Addr) (m cap : Nat) (w : World) :
    CallsIn F n Try.prog 57 #[.slice A m cap] w fun e w' => e = .returned (.func (.func 74) #[] #[.pointer (some ⟨w.heap.size, 0, none⟩)]) ∧ w' = w.alloc (.cells #[.slice A m cap] 26) := by
  refine callsIn_of_wp Try.func57 rfl hf ?_ hro
  simp only [Try.ntmps57, List.size_toArray, List.length_cons, List.length_nil, Nat.reduceAdd, Nat.reduceSub, Array.replicate_succ, Array.replicate_zero, List.push_toArray, List.append_toArray, List.nil_append, List.cons_append]
  gi_wp2
  go_ret
  exact ⟨rfl, rfl⟩
end Go.Proofs.Ytiiphlfgdkjjiaa.Q
