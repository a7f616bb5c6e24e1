/- crc.Join puts two sums together as the register's turns do, whatever numbers come; no condition. -/
import Derived.Test.YtabkdakikfhgmaaCrcA
import Derived.Laws.Tables
namespace Go.Proofs.Ytabkdakikfhgmaa.Q
open Go.RowKit Go.Proofs.YtabkdakikfhgmaaW.PrintWords Go.Proofs.YtabkdakikfhgmaaW.PrintLast Go.Proofs.YtabkdakikfhgmaaW.PrintMore
open Go.Proofs.Ytabkdakikfhgmaa.CrcP

/-- A matrix's cells. -/
def mcells (m : List Nat) : Array Value := (m.map fun x => Value.int .u32 ((x : Nat) : Int)).toArray
def IsMat (m : List Nat) : Prop := m.length = 32 ∧ ∀ x ∈ m, x < 4294967296
def MatAt (w : World) (b : Nat) (m : List Nat) : Prop := w.heap[b]? = some (.cells (mcells m) 53 (0, 0))
theorem MatAt.cell {w : World} {b : Nat} {m : List Nat} (h : MatAt w b m) (k : Nat) (hk : k < m.length) : w.cell? ⟨b, k, none⟩ = some (.int .u32 ((m.getD k 0 : Nat) : Int)) := by
  rw [blk_cell h k]
  simp [mcells, hk]
theorem ctimes_lt {m : List Nat} (hm : ∀ x ∈ m, x < 4294967296) (c : Nat) : ∀ k, ctimes m c k < 4294967296 := by
  intro k
  induction k with
  | zero => simp [ctimes]
  | succ k ih =>
    simp only [ctimes]
    split
    · refine Nat.xor_lt_two_pow (n := 32) ih ?_
      rw [List.getD_eq_getElem?_getD]
      rcases Nat.lt_or_ge k m.length with hk | hk
      · rw [List.getElem?_eq_getElem hk]; exact hm _ (List.getElem_mem hk)
      · rw [List.getElem?_eq_none hk]; decide
    · exact ih
theorem bit_cast (c k : Nat) : (c : Int) / 2 ^ k % 2 = ((c / 2 ^ k % 2 : Nat) : Int) := by simp
theorem bit_int (c k : Nat) (h : c < 4294967296) : bits .and .u32 ((c : Int) / 2 ^ k) 1 = (c : Int) / 2 ^ k % 2 := by
  have h2 : c / 2 ^ k < 4294967296 := Nat.lt_of_le_of_lt (Nat.div_le_self _ _) h
  have h3 := u32_and_nat (c / 2 ^ k) 1 h2 (by omega)
  rw [show ((1 : Nat) : Int) = 1 from rfl] at h3
  have e : ((c : Int) / 2 ^ k) = ((c / 2 ^ k : Nat) : Int) := by simp
  rw [e, h3, Nat.and_one_is_mod]
  omega

set_option maxHeartbeats 1000000 in
set_option maxRecDepth 100000 in
theorem times_any (b : Nat) (m : List Nat) (hm : IsMat m) (c : Nat) (hc : c < 4294967296) (w : World) (h : MatAt w b m) :
    Calls Try.prog 24 #[.pointer (some ⟨b, 0, none⟩), .int .u32 c] w fun e w' => e = .returned (.int .u32 (ctimes m c 32 : Nat)) ∧ w = w' := by
  have H := Lib.hid h
  have HM := Lib.hid hm
  clear h hm
  go_enter Try.func24, Try.ntmps24
  go_wp2
  go_loop [5, 7] (fun o i => ∃ k : Nat, k ≤ 32 ∧ i = .int .i64 k ∧ o = .int .u32 (ctimes m c k : Nat)) (fun _ i => 32 - (intOf i).toNat)
  case atStart => exact ⟨0, by omega, rfl, rfl⟩
  case round =>
    obtain ⟨k, hk, rfl, rfl⟩ := hrel
    by_cases hlt : k < 32
    · have hmem : m[k]?.getD 0 < 4294967296 := by
        rw [List.getElem?_eq_getElem (by rw [HM.out.1]; exact hlt)]; exact HM.out.2 _ (List.getElem_mem _)
      have hcell := H.out.cell k (by rw [HM.out.1]; exact hlt)
      have hb := bit_int c k hc
      have hx := u32_xor_nat (ctimes m c k) (m[k]?.getD 0) (ctimes_lt HM.out.2 c k) hmem
      have HX := Lib.hid hx
      clear hx hmem
      by_cases hbit : c / 2 ^ k % 2 = 1
      · have hs : ctimes m c (k + 1) = ctimes m c k ^^^ m[k]?.getD 0 := by simp only [ctimes]; rw [if_pos hbit, List.getD_eq_getElem?_getD]
        have HS := Lib.hid hs
        have ht : ((c : Int) / 2 ^ k % 2 == 1) = true := by rw [bit_cast, hbit]; rfl
        clear hs hbit
        go_wp2
        go_round
        case rel => exact ⟨k + 1, by omega, by go_num, by rw [HX.out, HS.out]⟩
        case measure => simp [intOf]; omega
      · have hs : ctimes m c (k + 1) = ctimes m c k := by simp only [ctimes]; rw [if_neg hbit]
        have HS := Lib.hid hs
        have ht : ((c : Int) / 2 ^ k % 2 == 1) = false := by rw [bit_cast, beq_eq_false_iff_ne]; omega
        clear hs hbit hcell
        go_wp2
        go_round
        case rel => exact ⟨k + 1, by omega, by go_num, by rw [HS.out]⟩
        case measure => simp [intOf]; omega
    · obtain rfl : k = 32 := by omega
      go_wp2
      go_ret
      exact ⟨rfl, rfl⟩

theorem zero_mat (W : World) : (zeroValue 53).run Try.prog W = .ok (.agg (Array.replicate 32 (.int .u32 0))) W := by kernel_rfl
theorem under_mat : Try.prog.underlying 53 = some (.array 32 24) := by kernel_rfl
theorem size_mat : (Try.prog.info? 53).map (·.size) = some 32 := by kernel_rfl
/-- A matrix while it is made: its first k numbers are f's. -/
def MatTo (w : World) (g : Nat) (f : Nat → Nat) (k : Nat) : Prop := ∃ cs : Array Value, w.heap[g]? = some (.cells cs 53 (0, 0)) ∧ cs.size = 32 ∧ ∀ j, j < k → cs[j]? = some (.int .u32 (f j : Nat))
theorem MatTo.done {w : World} {g : Nat} {f : Nat → Nat} (h : MatTo w g f 32) : MatAt w g ((List.range 32).map f) := by
  obtain ⟨cs, h1, h2, h3⟩ := h
  unfold MatAt
  rw [h1]
  congr 2
  apply Array.ext
  · simp [mcells, h2]
  · intro i hi hj
    have := h3 i (by omega)
    rw [Array.getElem?_eq_getElem hi] at this
    rw [Option.some.inj this]
    simp [mcells]
theorem MatTo.set {w : World} {g : Nat} {f : Nat → Nat} {k : Nat} (h : MatTo w g f k) (hk : k < 32) : MatTo (w.setCell ⟨g, k, none⟩ (.int .u32 (f k : Nat))) g f (k + 1) := by
  obtain ⟨cs, h1, h2, h3⟩ := h
  refine ⟨_, blk_set h1 k _, by simp [h2], fun j hj => ?_⟩
  by_cases hjk : k = j
  · subst hjk
    simp [h2, hk]
  · rw [Array.getElem?_setIfInBounds_ne hjk]
    exact h3 j (by omega)
theorem MatTo.at_ {w : World} {g : Nat} {f : Nat → Nat} {k : Nat} (h : MatTo w g f k) (j : Nat) (hj : j < 32) : (∃ v, w.cell? ⟨g, j, none⟩ = some v) ∧ w.frozen? ⟨g, j, none⟩ = false := by
  obtain ⟨cs, h1, h2, h3⟩ := h
  exact ⟨⟨_, (blk_cell h1 j).trans (Array.getElem?_eq_getElem (by omega))⟩, blk_frozen h1 j⟩
theorem MatTo.start {w : World} {g : Nat} (f : Nat → Nat) (h : w.heap[g]? = some (.cells (Array.replicate 32 (.int .u32 0)) 53 (0, 0))) : MatTo w g f 0 := ⟨_, h, by simp, fun j hj => absurd hj (by omega)⟩
theorem MatTo.below {w w1 : World} {g : Nat} {f : Nat → Nat} {k : Nat} (h : MatTo w g f k) (hb : Below w.heap.size w w1) : MatTo w1 g f k := by
  obtain ⟨cs, h1, h2⟩ := h
  exact ⟨cs, blk_below h1 hb, h2⟩
theorem MatAt.below {w w1 : World} {g : Nat} {m : List Nat} (h : MatAt w g m) (hb : Below w.heap.size w w1) : MatAt w1 g m := blk_below h hb
theorem MatAt.far {w : World} {g : Nat} {m : List Nat} (h : MatAt w g m) {p : Addr} (hp : g ≠ p.block) (u : Value) : MatAt (w.setCell p u) g m := blk_far h hp u
theorem IsMat.of {f : Nat → Nat} (h : ∀ i, i < 32 → f i < 4294967296) : IsMat ((List.range 32).map f) := by
  refine ⟨by simp, fun x hx => ?_⟩
  obtain ⟨i, hi, rfl⟩ := List.mem_map.1 hx
  exact h i (by simpa using hi)
theorem mcells_size (m : List Nat) : (mcells m).size = m.length := by simp [mcells]
theorem csq_len (m : List Nat) : (csquare m).length = 32 := by simp [csquare]
theorem size_csq (m : List Nat) : (Try.prog.info? 53).map (·.size) = some (mcells (csquare m)).size := by rw [mcells_size, csq_len]; exact size_mat
theorem mcells_one (m : List Nat) : (mcells m).all (·.oneCell') = true := by
  rw [Array.all_eq_true_iff_forall_mem]
  intro x hx
  obtain ⟨y, _, rfl⟩ := List.mem_map.1 (by simpa [mcells] using hx : x ∈ m.map fun x => Value.int .u32 ((x : Nat) : Int))
  rfl
/-- A whole array stored over another: what lies elsewhere stays. -/
theorem store_mat {ops : Array Oper} {rest : List Oper} {o : Oper} {a : Act} {W : World} {Q : Exit → Act → World → Prop} (hgd : o.guard = none) (x y : Operand) (ho : o.op = .store 53 x y) (hd : o.dst = none)
    (g : Nat) (m : List Nat) (hm : m.length = 32) (hx : a.eval x = .pointer (some ⟨g, 0, none⟩)) (hy : a.eval y = .agg (mcells m))
    (old : Array Value) (hg : W.heap[g]? = some (.cells old 53 (0, 0))) (hold : old.size = 32)
    (h : ∀ w1, MatAt w1 g m → (∀ B, B ≤ g → Below B W w1) → (∀ k, k ≠ g → w1.heap[k]? = W.heap[k]?) → wpList Try.prog ops Q rest a w1) : wpList Try.prog ops Q (o :: rest) a W := by
  refine wpList_store_row hgd 53 x y ho g (mcells m) hx hy 53 old hg (by rw [mcells_size, hm]; exact size_mat) (by rw [mcells_size, hm]; exact hold) (mcells_one m) ?_
  rw [hd]
  refine h _ (setRow_heap W g old _ _ _ hg) (fun B hB => ⟨rfl, rfl, rfl, by simp [World.setRow], fun k hk => setRow_other W g k _ (by omega)⟩) (fun k hk => setRow_other W g k _ (by omega))

set_option maxHeartbeats 1000000 in
set_option maxRecDepth 100000 in
theorem square_any (b : Nat) (m : List Nat) (hm : IsMat m) (w : World) (h : MatAt w b m) :
    Calls Try.prog 25 #[.pointer (some ⟨b, 0, none⟩)] w fun e w' => e = .returned (.agg (mcells (csquare m))) ∧ Below w.heap.size w w' := by
  have hlt : b < w.heap.size := blk_lt h
  have H := Lib.hid h
  have HM := Lib.hid hm
  clear h hm
  go_enter Try.func25, Try.ntmps25
  go_wp2_with (first | ((with_reducible refine gate_dst (N := 2) rfl ?_); refine box_event ?hg (N := 2) ?hd (cs := Array.replicate 32 (.int .u32 0)) (t := 53) ?hr ?_; (case hd => rfl); (case hg => rfl); (case hr => exact run_alloc_of _ (zero_mat _) _ rfl _); intro g2 hg2 w2 hbox2 hb2; have HX2 := Lib.hid hbox2; clear hbox2; have HG2 := Lib.hid hg2; clear hg2) | ((with_reducible refine gate_dst (N := 3) rfl ?_); refine box_event ?hg (N := 3) ?hd (cs := Array.replicate 32 (.int .u32 0)) (t := 53) ?hr ?_; (case hd => rfl); (case hg => rfl); (case hr => exact run_alloc_of _ (zero_mat _) _ rfl _); intro g3 hg3 w3 hbox3 hb3; have HX3 := Lib.hid hbox3; clear hbox3; have HG3 := Lib.hid hg3; clear hg3))
  have hB : Below w.heap.size w w3 := hb2.trans (hb3.mono hb2.size)
  have h23 : g2 < g3 := by have := blk_lt HX2.out; have := HG3.out; omega
  have hb2' : b < g2 := by rw [HG2.out]; exact hlt
  have hg2w : w.heap.size ≤ g2 := by rw [HG2.out]; exact Nat.le_refl _
  have HY2 := Lib.hid (blk_below HX2.out hb3)
  have HMA := Lib.hid (H.out.below hB)
  have HT := Lib.hid (MatTo.start (fun i => ctimes m (m.getD i 0) 32) HX3.out)
  clear H HX2 HX3 HG2 HG3 hb2 hb3
  go_loopw [5] (fun i wr => ∃ k : Nat, k ≤ 32 ∧ i = .int .i64 k ∧ Hid (MatTo wr g3 (fun i => ctimes m (m.getD i 0) 32) k) ∧ Hid (MatAt wr b m) ∧ Hid (wr.heap[g2]? = some (.cells (Array.replicate 32 (.int .u32 0)) 53 (0, 0))) ∧ Below w.heap.size w wr) (fun i _ => 32 - (intOf i).toNat)
  case atStart => exact ⟨0, by omega, rfl, HT, HMA, HY2, hB⟩
  case round =>
    clear HT HMA HY2 hB
    obtain ⟨k, hk, rfl, HT, HMA, HY2, hB⟩ := hrel
    by_cases hk32 : k < 32
    · have hcell := HMA.out.cell k (by rw [HM.out.1]; exact hk32)
      have hmem : m[k]?.getD 0 < 4294967296 := by
        rw [List.getElem?_eq_getElem (by rw [HM.out.1]; exact hk32)]; exact HM.out.2 _ (List.getElem_mem _)
      obtain ⟨⟨v, hv⟩, hfr⟩ := HT.out.at_ k hk32
      have HS := Lib.hid (HT.out.set hk32)
      have HF := Lib.hid (HMA.out.far (p := ⟨g3, k, none⟩) (by show b ≠ g3; omega) (.int .u32 (ctimes m (m.getD k 0) 32 : Nat)))
      have HF2 := Lib.hid (blk_far HY2.out (p := ⟨g3, k, none⟩) (by show g2 ≠ g3; omega) (.int .u32 (ctimes m (m.getD k 0) 32 : Nat)))
      go_wp2_with (go_at_call 24; refine (times_any b m HM.out _ hmem _ HMA.out).mono ?_; rintro e w1 ⟨rfl, rfl⟩)
      go_roundw
      case rel => exact ⟨k + 1, by omega, by go_num, HS, HF, HF2, hB.setCell (p := ⟨g3, k, none⟩) (by show w.heap.size ≤ g3; omega) _⟩
      case measure => simp [intOf]; omega
    · obtain rfl : k = 32 := by omega
      have HD := Lib.hid HT.out.done
      clear HT HMA
      go_wp2_with (first | (refine wpList_load_row rfl 53 (.tmp 3) rfl g3 rfl 53 (mcells (csquare m)) (0, 0) _ HD.out under_mat rfl (size_csq m) ?_) | (refine store_mat rfl (.tmp 2) (.tmp 18) rfl rfl g2 (csquare m) (csq_len m) rfl rfl _ HY2.out (by simp) ?_; intro w9 hA9 hB9 _; have H9 := Lib.hid hA9; clear hA9; have h9 := hB9 w.heap.size hg2w; clear hB9))
      exact bodyPost_ret (v := .agg (mcells (csquare m))) (results_cell_row rfl _ _ g2 53 _ (0, 0) _ rfl H9.out under_mat rfl (size_csq m)) rfl ⟨rfl, hB.trans h9⟩

theorem pow_lt32 (k : Nat) (hk : k < 32) : 2 ^ k < 4294967296 := by
  have := Nat.pow_lt_pow_right (a := 2) (by decide) hk
  simpa using this
theorem shl_int (k : Nat) (hk : k < 32) : IntKind.u32.wrap (2 ^ k) = ((2 ^ k : Nat) : Int) := by
  have := pow_lt32 k hk
  rw [IntKind.wrap_u32]
  have e : (2 : Int) ^ k = ((2 ^ k : Nat) : Int) := by simp
  rw [e]
  exact Int.emod_eq_of_lt (Int.natCast_nonneg _) (Int.ofNat_lt.2 this)

set_option maxHeartbeats 1000000 in
set_option maxRecDepth 100000 in
theorem zero_any (w : World) :
    Calls Try.prog 23 #[] w fun e w' => e = .returned (.agg (mcells (matOf (citer 8)))) ∧ Below w.heap.size w w' := by
  go_enter Try.func23, Try.ntmps23
  go_wp2_with (first | ((with_reducible refine gate_dst (N := 0) rfl ?_); refine box_event ?hg (N := 0) ?hd (cs := Array.replicate 32 (.int .u32 0)) (t := 53) ?hr ?_; (case hd => rfl); (case hg => rfl); (case hr => exact run_alloc_of _ (zero_mat _) _ rfl _); intro g2 hg2 w2 hbox2 hb2; have HX2 := Lib.hid hbox2; clear hbox2; have HG2 := Lib.hid hg2; clear hg2) | ((with_reducible refine gate_dst (N := 1) rfl ?_); refine box_event ?hg (N := 1) ?hd (cs := Array.replicate 32 (.int .u32 0)) (t := 53) ?hr ?_; (case hd => rfl); (case hg => rfl); (case hr => exact run_alloc_of _ (zero_mat _) _ rfl _); intro g3 hg3 w3 hbox3 hb3; have HX3 := Lib.hid hbox3; clear hbox3; have HG3 := Lib.hid hg3; clear hg3))
  have hB : Below w.heap.size w w3 := hb2.trans (hb3.mono hb2.size)
  have h23 : g2 < g3 := by have := blk_lt HX2.out; have := HG3.out; omega
  have hg2w : w.heap.size ≤ g2 := by rw [HG2.out]; exact Nat.le_refl _
  have HY2 := Lib.hid (blk_below HX2.out hb3)
  have HT := Lib.hid (MatTo.start (fun i => citer 8 (2 ^ i)) HX3.out)
  clear HX2 HX3 HG2 HG3 hb2 hb3
  go_loopw [3] (fun i wr => ∃ k : Nat, k ≤ 32 ∧ i = .int .i64 k ∧ Hid (MatTo wr g3 (fun i => citer 8 (2 ^ i)) k) ∧ Hid (wr.heap[g2]? = some (.cells (Array.replicate 32 (.int .u32 0)) 53 (0, 0))) ∧ Below w.heap.size w wr) (fun i _ => 32 - (intOf i).toNat)
  case atStart => exact ⟨0, by omega, rfl, HT, HY2, hB⟩
  case round =>
    clear HT HY2 hB
    obtain ⟨k, hk, rfl, HT, HY2, hB⟩ := hrel
    by_cases hk32 : k < 32
    · have hsh := shl_int k hk32
      go_wp2_with fail
      have hc := C_of_block (w := wr.alloc (.cells #[.int .u8 0] 5)) (g := wr.heap.size) [0] (by decide) (blk_new _ _)
      rw [show (2 : Int) ^ k = ((2 ^ k : Nat) : Int) from by simp]
      refine (run_any (2 ^ k) (pow_lt32 k hk32) _ 1 [0] _ hc (by decide)).mono ?_
      rintro e w1 ⟨rfl, hb1⟩
      rw [show crun (2 ^ k) (nats [0]) = citer 8 (2 ^ k) from zero_row k]
      have hb2 : Below wr.heap.size wr w1 := (below_alloc (Below.refl _ _) _).trans (hb1.mono (by simp))
      have HT1 := HT.out.below hb2
      have HT2 := Lib.hid (HT1.set hk32)
      obtain ⟨⟨v, hv⟩, hfr⟩ := HT1.at_ k hk32
      have HF2 := Lib.hid (blk_far (blk_below HY2.out hb2) (p := ⟨g3, k, none⟩) (by show g2 ≠ g3; omega) (.int .u32 (citer 8 (2 ^ k) : Nat)))
      have hB2 := hB.trans (hb2.mono hB.size)
      clear hc HT1 hb1 hb2 hsh
      go_wp2
      go_roundw
      case rel => exact ⟨k + 1, by omega, by go_num, HT2, HF2, hB2.setCell (p := ⟨g3, k, none⟩) (by show w.heap.size ≤ g3; omega) _⟩
      case measure => simp [intOf]; omega
    · obtain rfl : k = 32 := by omega
      have HD := Lib.hid HT.out.done
      clear HT
      have hsz : (Try.prog.info? 53).map (·.size) = some (mcells (matOf (citer 8))).size := by rw [mcells_size]; exact size_mat
      go_wp2_with (first | (refine wpList_load_row rfl 53 (.tmp 1) rfl g3 rfl 53 (mcells (matOf (citer 8))) (0, 0) _ HD.out under_mat rfl hsz ?_) | (refine store_mat rfl (.tmp 0) (.tmp 13) rfl rfl g2 (matOf (citer 8)) rfl rfl rfl _ HY2.out (by simp) ?_; intro w9 hA9 hB9 _; have H9 := Lib.hid hA9; clear hA9; have h9 := hB9 w.heap.size hg2w; clear hB9))
      exact bodyPost_ret (v := .agg (mcells (matOf (citer 8)))) (results_cell_row rfl _ _ g2 53 _ (0, 0) _ rfl H9.out under_mat rfl hsz) rfl ⟨rfl, hB.trans h9⟩

def crc_Join.f (a0 a1 a2 : Int) : Option (Int × Int) :=
  if 0 ≤ a0 ∧ a0 < 4294967296 ∧ 0 ≤ a1 ∧ a1 < 4294967296 then
    (if a2 < 0 ∨ 1048576 < a2 then some (0, 4) else some (((citer (8 * a2.toNat) a0.toNat ^^^ a1.toNat : Nat) : Int), 0))
  else none
theorem and1_i64 (q : Nat) (h : q < 9223372036854775808) : bits .and .i64 (q : Int) 1 = (q : Int) % 2 := by
  have := bits_mask .i64 63 (by decide) (fun n h0 h1 => by rw [IntKind.wrap_i64]; omega) 1 (by decide) (q : Int) (by omega) (by omega)
  simpa using this

set_option maxHeartbeats 1000000 in
set_option maxRecDepth 100000 in
theorem join_any (a b n : Nat) (ha : a < 4294967296) (hb : b < 4294967296) (hn : n ≤ 1048576) (w : World) :
    Calls Try.prog 13 #[.int .u32 a, .int .u32 b, .int .i64 n] w fun e w' => e = .returned (.tuple #[.int .u32 (citer (8 * n) a ^^^ b : Nat), .int .i64 0]) ∧ Below w.heap.size w w' := by
  go_enter Try.func13, Try.ntmps13
  have h1 : decide ((n : Int) < 0) = false := by simp
  have h2 : decide (1048576 < (n : Int)) = false := by simp; omega
  go_wp2_with (first | (go_at_call 23; refine (zero_any _).mono ?_; rintro e w1 ⟨rfl, hB1⟩) | ((with_reducible refine gate_dst (N := 9) rfl ?_); refine box_event ?hg (N := 9) ?hd (cs := Array.replicate 32 (.int .u32 0)) (t := 53) ?hr ?_; (case hd => rfl); (case hg => rfl); (case hr => exact run_alloc_of _ (zero_mat _) _ rfl _); intro g9 hg9 w2 hbox2 hb2; have HX2 := Lib.hid hbox2; clear hbox2; have HG2 := Lib.hid hg9; clear hg9) | (refine store_mat rfl (.tmp 9) (.tmp 17) rfl rfl g9 (matOf (citer 8)) rfl rfl rfl _ HX2.out (by simp) ?_; intro w3 hA3 hB3 _; have H3 := Lib.hid hA3; clear hA3; have hb3 := hB3 w.heap.size (by rw [HG2.out]; exact hB1.size); clear hB3))
  have hg9 : w.heap.size ≤ g9 := by rw [HG2.out]; exact hB1.size
  have hB := (hB1.trans (hb2.mono hB1.size)).trans hb3
  clear HX2 HG2 hB1 hb2 hb3 h1 h2
  simp only [Act.put, List.setIfInBounds_toArray, List.set_cons_succ, List.set_cons_zero]
  go_loopw [2, 8] (fun q c wr => ∃ (q' c' K : Nat), q' ≤ n ∧ q = .int .i64 q' ∧ c = .int .u32 c' ∧ c' < 4294967296 ∧ Hid (citer (K * q') c' = citer (8 * n) a) ∧ Hid (MatAt wr g9 (matOf (citer K))) ∧ Below w.heap.size w wr) (fun q _ _ => (intOf q).toNat)
  case atStart => exact ⟨n, a, 8, Nat.le_refl _, rfl, rfl, ha, rfl, H3, hB⟩
  case round =>
    clear H3 hB
    obtain ⟨q, c, K, hq, rfl, rfl, hc, HC, HMA, hB⟩ := hrel
    have hM : IsMat (matOf (citer K)) := IsMat.of fun i hi => citer_lt K (pow_lt32 i hi)
    have HM := Lib.hid hM
    clear hM
    by_cases hq0 : 0 < q
    · have ha1 := and1_i64 q (by omega)
      by_cases hodd : q % 2 = 1
      · have ht : ((q : Int) % 2 == 1) = true := by rw [beq_iff_eq]; omega
        have HJ := Lib.hid (join_step_odd K q c hodd)
        clear hodd
        go_wp2_with fail
        refine (times_any g9 _ HM.out c hc _ HMA.out).mono ?_
        rintro e w4 ⟨rfl, rfl⟩
        rw [ctimes_all (citer_isLin K) hc]
        go_wp2_with fail
        refine (square_any g9 _ HM.out _ HMA.out).mono ?_
        rintro e w5 ⟨rfl, hB5⟩
        rw [csquare_citer]
        have HM5 := Lib.hid (HMA.out.below hB5)
        have hB6 := hB.trans (hB5.mono hB.size)
        clear hB5
        go_wp2_with (refine store_mat rfl (.tmp 9) (.tmp 27) rfl rfl g9 (matOf (citer (K + K))) rfl rfl rfl _ HM5.out rfl ?_; intro w7 hA7 hB7 _; have H7 := Lib.hid hA7; clear hA7; have hb7 := hB7 w.heap.size hg9; clear hB7)
        go_wp2
        go_roundw
        case rel => exact ⟨q / 2, citer K c, K + K, by omega, by go_num, rfl, citer_lt K hc, HJ.out.symm.trans HC.out, H7, hB6.trans hb7⟩
        case measure => simp [intOf]; omega
      · have ht : ((q : Int) % 2 == 1) = false := by rw [beq_eq_false_iff_ne]; omega
        have HJ := Lib.hid (join_step_even K q c (by omega))
        clear hodd
        go_wp2_with fail
        refine (square_any g9 _ HM.out _ HMA.out).mono ?_
        rintro e w5 ⟨rfl, hB5⟩
        rw [csquare_citer]
        have HM5 := Lib.hid (HMA.out.below hB5)
        have hB6 := hB.trans (hB5.mono hB.size)
        clear hB5
        go_wp2_with (refine store_mat rfl (.tmp 9) (.tmp 27) rfl rfl g9 (matOf (citer (K + K))) rfl rfl rfl _ HM5.out rfl ?_; intro w7 hA7 hB7 _; have H7 := Lib.hid hA7; clear hA7; have hb7 := hB7 w.heap.size hg9; clear hB7)
        go_wp2
        go_roundw
        case rel => exact ⟨q / 2, c, K + K, by omega, by go_num, rfl, hc, HJ.out.symm.trans HC.out, H7, hB6.trans hb7⟩
        case measure => simp [intOf]; omega
    · obtain rfl : q = 0 := by omega
      have hx := u32_xor_nat c b hc hb
      have HX := Lib.hid hx
      clear hx
      go_wp2
      go_ret2
      refine ⟨?_, hB⟩
      have := HC.out
      rw [Nat.mul_zero] at this
      rw [HX.out, ← this]
      rfl

theorem crc_Join.calls (a0 : Int) (a1 : Int) (a2 : Int) (r1 : Int) (r2 : Int) (w : World) (h : crc_Join.f a0 a1 a2 = some (r1, r2)) :
    Calls Try.prog 13 #[.int .u32 a0, .int .u32 a1, .int .i64 a2] w fun e w' => e = .returned (.tuple #[.int .u32 r1, .int .i64 r2]) ∧ Below w.heap.size w w' := by
  unfold crc_Join.f at h
  split at h
  · rename_i hh
    obtain ⟨h0, h1, h2, h3⟩ := hh
    split at h
    · rename_i hr
      simp only [Option.some.injEq, Prod.mk.injEq] at h
      obtain ⟨rfl, rfl⟩ := h
      by_cases hn : a2 < 0
      · clear hr h0 h1 h2 h3
        go_enter Try.func13, Try.ntmps13
        go_wp2
        go_ret2
        exact ⟨rfl, Below.refl _ _⟩
      · have hr : 1048576 < a2 := hr.resolve_left hn
        clear h0 h1 h2 h3
        go_enter Try.func13, Try.ntmps13
        go_wp2
        go_ret2
        exact ⟨rfl, Below.refl _ _⟩
    · rename_i hr
      simp only [Option.some.injEq, Prod.mk.injEq] at h
      obtain ⟨rfl, rfl⟩ := h
      obtain ⟨a, rfl⟩ := Int.eq_ofNat_of_zero_le h0
      obtain ⟨b, rfl⟩ := Int.eq_ofNat_of_zero_le h2
      obtain ⟨n, rfl⟩ := Int.eq_ofNat_of_zero_le (show 0 ≤ a2 by omega)
      exact join_any a b n (by omega) (by omega) (by omega) w
  · exact absurd h (by simp)
end Go.Proofs.Ytabkdakikfhgmaa.Q
