/- slices.Chunk of octets: the pieces that its sequence yields; no condition but that the size is 1 to 4096 and there are octets, no more than a machine holds. -/
import Derived.RangeFuncNested
import Derived.RangeFuncBox
import Derived.RangeFuncLeaves
import Derived.Shelf.Abstract
import Derived.WalkKit
import Derived.OwnWalkIn
import Derived.TacticsInMore
import Derived.LoopNIn
import Derived.LoopIn
import Derived.BigRegionIn
import Derived.Test.YtabkdakikfhgmaaProg
import Derived.Test.YtabkdakikfhgmaaZTrueQ0
namespace Go.Proofs.Ytabkdakikfhgmaa.Q
open Go.RowKit Go.Shelf Go.Proofs.YtabkdakikfhgmaaW.PrintWords Go.Proofs.YtabkdakikfhgmaaW.PrintLast
set_option linter.unusedVariables false
set_option linter.unusedSimpArgs false
attribute [local go_sem] Oper.semAt_some

/-- Where the first k pieces begin. -/
def us (m k : Nat) : List Nat := (List.range k).map fun j => j * m
theorem us_succ (m k : Nat) : us m (k + 1) = us m k ++ [k * m] := by simp [us, List.range_succ]
theorem us_length (m k : Nat) : (us m k).length = k := by simp [us]
/-- How many octets the piece at x has. -/
def plen (m len x : Nat) : Nat := min m (len - x)
/-- The piece as a value. -/
def pval (ad : Addr) (m len x : Nat) : Value := .slice (some (ad.add x)) (plen m len x) (plen m len x)

/-- What a round keeps: the iterator's two cells. -/
def KpC2 (Bs Bn : Nat) (W W' : World) : Prop := W.heap.size ≤ W'.heap.size ∧ (Bs < W.heap.size → W'.heap[Bs]? = W.heap[Bs]?) ∧ (Bn < W.heap.size → W'.heap[Bn]? = W.heap[Bn]?)
theorem KpC2.refl (Bs Bn : Nat) (W : World) : KpC2 Bs Bn W W := ⟨Nat.le_refl _, fun _ => rfl, fun _ => rfl⟩
theorem KpC2.trans {Bs Bn : Nat} {A B C : World} (h1 : KpC2 Bs Bn A B) (h2 : KpC2 Bs Bn B C) : KpC2 Bs Bn A C := ⟨Nat.le_trans h1.1 h2.1, fun h => (h2.2.1 (Nat.lt_of_lt_of_le h h1.1)).trans (h1.2.1 h), fun h => (h2.2.2 (Nat.lt_of_lt_of_le h h1.1)).trans (h1.2.2 h)⟩
theorem KpC2.below {Bs Bn n : Nat} {A B : World} (h : Below n A B) (hs : Bs < n) (hn : Bn < n) (hz : A.heap.size ≤ B.heap.size) : KpC2 Bs Bn A B := ⟨hz, fun _ => h.block Bs hs, fun _ => h.block Bn hn⟩
theorem KpC2.cellS {Bs Bn : Nat} {A B : World} {v : Value} (h : KpC2 Bs Bn A B) (hc : A.cell? ⟨Bs, 0, none⟩ = some v) : B.cell? ⟨Bs, 0, none⟩ = some v :=
  (World.cell?_of_block (w := A) (a := ⟨Bs, 0, none⟩) (h.2.1 (World.block_lt_of_cell? _ _ hc))).trans hc
theorem KpC2.cellN {Bs Bn : Nat} {A B : World} {v : Value} (h : KpC2 Bs Bn A B) (hc : A.cell? ⟨Bn, 0, none⟩ = some v) : B.cell? ⟨Bn, 0, none⟩ = some v :=
  (World.cell?_of_block (w := A) (a := ⟨Bn, 0, none⟩) (h.2.2 (World.block_lt_of_cell? _ _ hc))).trans hc
theorem KpC2.put {w W : World} {Bs Bn l : Nat} {o' : Obj} (hB : Bs < w.heap.size) (hN : Bn < w.heap.size) (hl : w.heap.size ≤ l) : KpC2 Bs Bn W (W.putObj l o') := ⟨by simp, fun _ => World.putObj_heap_other (by omega), fun _ => World.putObj_heap_other (by omega)⟩

theorem cut_three {P : Program} (t e : TypeId) {i : TypeInfo} (ht : P.underlying t = some (.slice e)) (hi : P.info? e = some i) (hsz : i.size = 1) (ad : Addr) (len c x q : Nat) (hq : 1 ≤ q) (hx : x + q ≤ c) :
    ∀ W : World, (Instr.slice t (.slice (some ad) len c) (some (.int .i64 (x : Int))) (some (.int .i64 ((x : Int) + (q : Int)))) (some (.int .i64 ((x : Int) + (q : Int))))).run P W = .ok (.slice (some (ad.add x)) q q) W := by
  intro W
  have hel : P.elem t = e := by simp [Program.elem, ht]
  have hu : P.underlying t = some (.slice (P.elem t)) := by rw [hel]; exact ht
  rw [run_slice_lhm W t (some ad) len c hu .i64 .i64 .i64 (x : Int) ((x : Int) + (q : Int)) ((x : Int) + (q : Int)) (by omega) (by omega) (by omega) (by omega), hel]
  have h1 : ((x : Int) + (q : Int)).toNat = x + q := by omega
  simp [sizeOf, typeInfo, hi, hsz, sliced, Result.andThen, h1]
  omega
theorem plen_if (m len x : Nat) : (if len - x < m then ((len - x : Nat) : Int) else (m : Int)) = ((plen m len x : Nat) : Int) := by
  unfold plen
  split
  · rw [Nat.min_eq_right (by omega)]
  · rw [Nat.min_eq_left (by omega)]

set_option maxRecDepth 100000 in
set_option maxHeartbeats 4000000 in
theorem chunk1_in (F : Fence) (n : Nat) (hf : F.fn 29) (hro : F.round = none) (hn : 1 ≤ n) (l Bs Bn : Nat) (ad : Addr) (len c m : Nat) (hm1 : 1 ≤ m) (hm2 : m ≤ 4096) (hlc : len ≤ c) (hlen : len ≤ 1048576) (N : Nat) (hN : len ≤ N * m) (hN1 : ∀ k, k * m < len → k < N) (hN2 : ∀ k, k < N → k * m < len)
    (J Jx : List Nat → World → Prop) (B : Nat) (hJ : AbidesFrom B J)
    (hY : ∀ (pre : List Nat) (x : Nat) (W : World), J pre W → pre.length < N → YieldAt F (n - 1) Try.prog l #[pval ad m len x] W fun e W' =>
      (e = .returned (.bool true) ∧ J (pre ++ [x]) W' ∧ KpC2 Bs Bn W W') ∨ (e = .returned (.bool false) ∧ Jx (pre ++ [x]) W'))
    (W : World) (hBs : W.cell? ⟨Bs, 0, none⟩ = some (.slice (some ad) len c)) (hBn : W.cell? ⟨Bn, 0, none⟩ = some (.int .i64 (m : Int))) (h0 : J [] W) :
    CallsIn F n Try.prog 29 #[.func (.yield l) #[] #[], .pointer (some ⟨Bs, 0, none⟩), .pointer (some ⟨Bn, 0, none⟩)] W fun e W' => (∃ v, e = .returned v) ∧
      ((∃ ys, ys = us m N ∧ J ys W') ∨ (∃ pre, True ∧ Jx pre W')) := by
  refine callsIn_of_wp Try.func29 rfl hf ?_ hro
  simp only [Try.ntmps29, List.size_toArray, List.length_cons, List.length_nil, Nat.reduceAdd, Nat.reduceSub, Array.replicate_succ, Array.replicate_zero, List.push_toArray, List.append_toArray, List.nil_append, List.cons_append]
  gi_wp2
  gi_loopw [4] (fun i wr => ∃ k : Nat, k ≤ N ∧ i = .int .i64 ((k * m : Nat) : Int) ∧ J (us m k) wr ∧ KpC2 Bs Bn W wr)
    (fun i _ => len + 4096 - (intOf i).toNat)
  case atStart => exact ⟨0, Nat.zero_le _, by rw [Nat.zero_mul]; rfl, h0, KpC2.refl _ _ _⟩
  case round =>
    obtain ⟨k, hk, rfl, hJs, hnx⟩ := hrel
    have hz0 : wr.cell? ⟨Bs, 0, none⟩ = some (.slice (some ad) len c) := hnx.cellS hBs
    have hz1 : wr.cell? ⟨Bn, 0, none⟩ = some (.int .i64 (m : Int)) := hnx.cellN hBn
    obtain ⟨x, hx⟩ : ∃ x : Nat, x = k * m := ⟨_, rfl⟩
    have HX : Hid (x = k * m) := hx
    rw [← hx]
    by_cases hlt : x < len
    · have hkN : k < N := hN1 k (by rw [← hx]; exact hlt)
      have hxs : x + m = (k + 1) * m := by rw [hx, Nat.add_mul, Nat.one_mul]
      have hXS : Hid (x + m = (k + 1) * m) := hxs
      clear hx hxs
      have hne : ¬ x = c := by omega
      have hlc2 : x ≤ c := by omega
      obtain ⟨i0, hi0, _, hsz0, _⟩ := info_parts info5
      have hcut := cut_from (P := Try.prog) 22 5 .i64 Try.underlying22 hi0 1 hsz0 (some ad) len c (x : Int) (by omega) (by omega)
      gi_wp2
      refine (show (?G : Prop) → _ from ?f) ?h
      case f =>
        intro hgo
        gi_region <;> exact hgo
      rw [plen_if]
      have hq1 : 1 ≤ plen m len x := by unfold plen; omega
      have hq2 : plen m len x ≤ m := Nat.min_le_left _ _
      have hq3 : x + plen m len x ≤ len := by unfold plen; omega
      obtain ⟨q, hq⟩ : ∃ q, q = plen m len x := ⟨_, rfl⟩
      have hcut3 := cut_three (P := Try.prog) 22 5 Try.underlying22 hi0 hsz0 ad len c x q (by omega) (by omega)
      have hd : Below wr.heap.size wr wr.drew := below_drew1 (Below.refl _ _)
      have hsz : wr.heap.size ≤ wr.drew.heap.size := Nat.le_refl _
      have hJd := hJ (us m k) wr wr.drew none hJs (grown_of_below hd none) (fun r e => by cases e)
      obtain ⟨fn, tmps, assign, body, hy, hR⟩ := hY _ x wr.drew hJd (by rw [us_length]; exact hkN)
      have HQ : Hid (q = plen m len x) := hq
      unfold pval at hy
      rw [← hq] at hy hq1 hq2 hq3 ⊢
      have hz2 : wr.drew.cell? ⟨Bs, 0, none⟩ = some (.slice (some ad) len c) := hz0
      have hz3 : wr.drew.cell? ⟨Bn, 0, none⟩ = some (.int .i64 (m : Int)) := hz1
      clear hcut hi0 hsz0 hz0 hz1 hq
      gi_wp2
      refine hR.mono ?_
      rintro e W3 (⟨rfl, hJ3, hk3⟩ | ⟨rfl, hJx3⟩)
      · have hz4 : W3.cell? ⟨Bs, 0, none⟩ = some (.slice (some ad) len c) := hk3.cellS hz2
        have hz5 : W3.cell? ⟨Bn, 0, none⟩ = some (.int .i64 (m : Int)) := hk3.cellN hz3
        have hdr : KpC2 Bs Bn wr wr.drew := ⟨hsz, fun _ => rfl, fun _ => rfl⟩
        gi_wp2
        go_roundw
        case rel => exact ⟨k + 1, hkN, by rw [← show x + m = (k + 1) * m from hXS]; go_num, by rw [us_succ, ← show x = k * m from HX]; exact hJ3, (hnx.trans hdr).trans hk3⟩
        case measure => first | (simp [intOf]; done) | (simp [intOf]; omega)
      · gi_wp2
        refine bodyPost_ret (results_none rfl _ _ _) rfl ?_
        exact ⟨⟨_, rfl⟩, .inr ⟨_, trivial, hJx3⟩⟩
    · have hkN : k = N := by
        rcases Nat.lt_or_ge k N with h | h
        · exact absurd (hN2 k h) (by rw [← hx]; exact hlt)
        · omega
      subst hkN
      clear hx
      gi_wp2
      go_end0
      exact ⟨⟨_, rfl⟩, .inl ⟨_, rfl, hJs⟩⟩

theorem chunk_stops (F : Fence) (n : Nat) (hf : F.fn 29) (hro : F.round = none) (hn : 1 ≤ n) (Bs Bn : Nat) (ad : Addr) (len c m : Nat) (hm1 : 1 ≤ m) (hm2 : m ≤ 4096) (hlc : len ≤ c) (hlen : len ≤ 1048576) (N : Nat) (hN : len ≤ N * m) (hN1 : ∀ k, k * m < len → k < N) (hN2 : ∀ k, k < N → k * m < len)
    (w : World) (hBs : w.cell? ⟨Bs, 0, none⟩ = some (.slice (some ad) len c)) (hBn : w.cell? ⟨Bn, 0, none⟩ = some (.int .i64 (m : Int))) :
    SeqStopsK F n Try.prog 29 #[.pointer (some ⟨Bs, 0, none⟩), .pointer (some ⟨Bn, 0, none⟩)] (fun x : Nat => #[pval ad m len x]) (KpC2 Bs Bn) (fun ys => ys = us m N) (fun _ => True) N w := fun l J Jx W hW hJ _ hY h0 =>
  chunk1_in F n hf hro hn l Bs Bn ad len c m hm1 hm2 hlc hlen N hN hN1 hN2 J Jx _ hJ hY W ((hW.cell (p := ⟨Bs, 0, none⟩) (World.block_lt_of_cell? _ _ hBs)).trans hBs) ((hW.cell (p := ⟨Bn, 0, none⟩) (World.block_lt_of_cell? _ _ hBn)).trans hBn) h0
set_option maxHeartbeats 1000000 in
theorem chunk_in (F : Fence) (n : Nat) (hf : F.fn 26) (hro : F.round = none) (A : Option Addr) (len c m : Nat) (hm1 : 1 ≤ m) (w : World) :
    CallsIn F n Try.prog 26 #[.slice A len c, .int .i64 (m : Int)] w fun e w' => e = .returned (.func (.func 29) #[] #[.pointer (some ⟨w.heap.size, 0, none⟩), .pointer (some ⟨w.heap.size + 1, 0, none⟩)]) ∧
      w' = (w.alloc (.cells #[.slice A len c] 22)).alloc (.cells #[.int .i64 (m : Int)] 3) := by
  refine callsIn_of_wp Try.func26 rfl hf ?_ hro
  simp only [Try.ntmps26, List.size_toArray, List.length_cons, List.length_nil, Nat.reduceAdd, Nat.reduceSub, Array.replicate_succ, Array.replicate_zero, List.push_toArray, List.append_toArray, List.nil_append, List.cons_append]
  have hb : decide ((m : Int) < 1) = false := decide_eq_false (by omega)
  gi_wp2
  go_ret
  exact ⟨rfl, rfl⟩
end Go.Proofs.Ytabkdakikfhgmaa.Q
