/- crc.Sum and crc.Extend come to the sum of their octets, whatever these are; no condition. -/
import Derived.LoopTactic
import Derived.Laws.BitsAllLaws
import Derived.Outline
import Derived.Lib.Hide
import Derived.Test.YtiiphlfgdkjjiaaZTellsQ0
import Derived.Test.YtiiphlfgdkjjiaaZTellsCrcPlain
namespace Go.Proofs.Ytiiphlfgdkjjiaa.Q
open Go.RowKit Go.Proofs.YtiiphlfgdkjjiaaW.PrintWords Go.Proofs.YtiiphlfgdkjjiaaW.PrintLast Go.Proofs.YtiiphlfgdkjjiaaW.PrintMore
open Go.Proofs.Ytiiphlfgdkjjiaa.CrcP

theorem citer_succ (k c : Nat) : citer (k + 1) c = cstep (citer k c) := by rw [citer_add]; rfl
theorem step_int (c : Nat) (h : c < 4294967296) : bits .xor .u32 ((c : Int) / 2) (bits .and .u32 2197175160 (-bits .and .u32 (c : Int) 1 % 4294967296)) = ((cstep c : Nat) : Int) := by
  have h1 : bits .and .u32 (c : Int) 1 = ((c % 2 : Nat) : Int) := by
    have := u32_and_nat c 1 h (by omega)
    rw [show ((1 : Nat) : Int) = 1 from rfl] at this
    rw [this, Nat.and_one_is_mod]
  rw [h1]
  have hd : ((c : Int) / 2) = ((c / 2 : Nat) : Int) := by omega
  unfold cstep
  rcases Nat.mod_two_eq_zero_or_one c with hc | hc
  · rw [hc, if_neg (by decide)]
    have h2 : bits .and .u32 2197175160 (-((0 : Nat) : Int) % 4294967296) = ((0 : Nat) : Int) := by decide
    rw [h2, hd, u32_xor_nat _ _ (by omega) (by omega), Nat.xor_zero]
  · rw [hc, if_pos rfl]
    have h2 : bits .and .u32 2197175160 (-((1 : Nat) : Int) % 4294967296) = ((2197175160 : Nat) : Int) := by decide
    rw [h2, hd, u32_xor_nat _ _ (by omega) (by omega)]
theorem idx_int (c x : Nat) (hx : x < 256) : bits .xor .u8 ((c : Int) % 256) (x : Int) = ((c % 256 ^^^ x : Nat) : Int) := by
  have hd : ((c : Int) % 256) = ((c % 256 : Nat) : Int) := by omega
  rw [hd, u8_xor_nat _ _ (by omega) hx]
theorem turn_int (c x : Nat) (h : c < 4294967296) (hx : x < 256) : bits .xor .u32 ((c : Int) / 256) ((ctab (c % 256 ^^^ x) : Nat) : Int) = ((cbyte c x : Nat) : Int) := by
  have hd : ((c : Int) / 256) = ((c / 256 : Nat) : Int) := by omega
  rw [hd, u32_xor_nat _ _ (by omega) (ctab_lt (Nat.xor_lt_two_pow (n := 8) (by omega) (by omega)))]
  rfl
theorem not_int (c : Nat) (h : c < 4294967296) : bits .xor .u32 IntKind.u32.max (c : Int) = ((cnot c : Nat) : Int) := by
  rw [show IntKind.u32.max = 4294967295 from by decide]
  have := u32_xor_nat 4294967295 c (by omega) h
  rw [show ((4294967295 : Nat) : Int) = 4294967295 from rfl] at this
  rw [this]
  unfold cnot
  rw [Nat.xor_comm]
theorem xor_lt8 {a b : Nat} (h : a < 256) (h' : b < 256) : a ^^^ b < 256 := Nat.xor_lt_two_pow (n := 8) (by omega) (by omega)

/-- What block b holds while the table is made: the first k cells are the table's. -/
def TabTo (w : World) (b : Nat) (k : Nat) : Prop := ∃ cs : Array Value, w.heap[b]? = some (.cells cs 128 (0, 0)) ∧ cs.size = 256 ∧ ∀ j, j < k → cs[j]? = some (.int .u32 (ctab j : Nat))

theorem run_alloc_of {P : Program} {t : TypeId} {z : Value} (W : World) (hz : (zeroValue t).run P W = .ok z W) (o : Oper) (ho : o.op = .alloc t) (ρ : Operand → Value) :
    (execOp ρ o).run P W = .ok (.value (.pointer (some ⟨W.heap.size, 0, none⟩))) (W.alloc (.cells z.cells t (0, 0))) := by
  unfold execOp
  rw [ho]
  simp [Instr.alloc, newVar, newRow, hz]
theorem zero_tab (W : World) : (zeroValue 128).run Try.prog W = .ok (.agg (Array.replicate 256 (.int .u32 0))) W := by kernel_rfl
set_option maxHeartbeats 1000000 in
set_option maxRecDepth 100000 in
theorem table_any (w : World) : Calls Try.prog 83 #[] w fun e w' => ∃ b, e = .returned (.pointer (some ⟨b, 0, none⟩)) ∧ TabTo w' b 256 ∧ Below w.heap.size w w' := by
  go_enter Try.func83, Try.ntmps83
  go_wp2_with (first | ((with_reducible refine gate_dst (N := 1) rfl ?_); refine box_event ?hg (N := 1) ?hd (cs := Array.replicate 256 (.int .u32 0)) (t := 128) ?hr ?_; (case hd => rfl); (case hg => rfl); (case hr => exact run_alloc_of _ (zero_tab _) _ rfl _); intro gb hg w1 hbox hb))
  subst hg
  have HX := Lib.hid hbox
  clear hbox
  go_loopw [4] (fun i wr => ∃ k : Nat, k ≤ 256 ∧ i = .int .i64 k ∧ TabTo wr w.heap.size k ∧ Below w.heap.size w wr) (fun i _ => 256 - (intOf i).toNat)
  case atStart => exact ⟨0, by omega, rfl, ⟨_, HX.out, by simp, fun j hj => absurd hj (by omega)⟩, hb⟩
  case round =>
    clear HX hb
    obtain ⟨k, hk, rfl, hT, hB⟩ := hrel
    have HT := Lib.hid hT
    clear hT
    by_cases hlt : k < 256
    · go_wp2
      go_loop [3, 9] (fun c i => ∃ j : Nat, j ≤ 8 ∧ i = .int .i64 j ∧ c = .int .u32 (citer j k : Nat)) (fun _ i => 8 - (intOf i).toNat)
      case atStart => exact ⟨0, by omega, rfl, rfl⟩
      case round =>
        obtain ⟨j, hj, rfl, rfl⟩ := hrel
        by_cases hl : j < 8
        · go_wp2
          go_round
          case rel => exact ⟨j + 1, by omega, by go_num, by rw [step_int _ (citer_lt j (by omega)), citer_succ]⟩
          case measure => simp [intOf]; omega
        · obtain rfl : j = 8 := by omega
          obtain ⟨cs, hcs, hsz, hto⟩ := HT.out
          have hfr := blk_frozen hcs k
          have hce := (blk_cell hcs k).trans (Array.getElem?_eq_getElem (show k < cs.size by omega))
          have HC := Lib.hid hcs
          have HO := Lib.hid hto
          clear hcs hto HT
          go_wp2
          go_roundw
          case rel =>
            refine ⟨k + 1, by omega, by go_num, ⟨_, blk_set HC.out k _, by simp [hsz], fun j hj => ?_⟩, hB.setCell (p := ⟨w.heap.size, k, none⟩) (Nat.le_refl _) _⟩
            by_cases hjk : k = j
            · subst hjk
              simp [hsz, hlt]
              rfl
            · rw [Array.getElem?_setIfInBounds_ne hjk]
              exact HO.out j (by omega)
          case measure => simp [intOf]; omega
    · obtain rfl : k = 256 := by omega
      go_wp2
      go_ret
      exact ⟨_, rfl, HT.out, hB⟩

/-- What an array of octets at a block holds, frozen or not. -/
theorem C_of_block {w : World} {g : Nat} {t : TypeId} {fr : Nat × Nat} (l : List Int) (hl : l.length ≤ 9223372036854775807) (h : w.heap[g]? = some (.cells (l.map (Value.int .u8)).toArray t fr)) : Kd.C (Kd.int .u8) w (some ⟨g, 0, none⟩) l.length l := by
  refine Kd.C_of_reads (d := (0 : Int)) ⟨rfl, hl, fun _ => ⟨_, rfl, fun j hj => ?_⟩⟩
  rw [add_plain, cell_of_row w g j _ _ _ h]
  simp [hj]

/-- Octets are octets. -/
def octs (l : List Int) : Bool := l.all fun x => decide (0 ≤ x ∧ x < 256)
def nats (l : List Int) : List Nat := l.map Int.toNat
theorem octs_at {l : List Int} (h : octs l = true) (k : Nat) (hk : k < l.length) : ∃ x : Nat, l.getD k 0 = (x : Int) ∧ x < 256 ∧ (nats l).take (k + 1) = (nats l).take k ++ [x] := by
  have hm := List.all_eq_true.1 h l[k] (List.getElem_mem hk)
  have hm' : 0 ≤ l[k] ∧ l[k] < 256 := by simpa using hm
  refine ⟨l[k].toNat, ?_, by omega, ?_⟩
  · rw [List.getD_eq_getElem?_getD, List.getElem?_eq_getElem hk]
    simp; omega
  · rw [List.take_succ_eq_append_getElem (by simpa [nats] using hk)]
    simp [nats]
theorem octs_lt {l : List Int} (h : octs l = true) : ∀ x ∈ nats l, x < 256 := by
  intro x hx
  obtain ⟨y, hy, rfl⟩ := List.mem_map.1 hx
  have := List.all_eq_true.1 h y hy
  have : 0 ≤ y ∧ y < 256 := by simpa using this
  omega

set_option maxHeartbeats 1000000 in
set_option maxRecDepth 100000 in
theorem run_any (c : Nat) (hc : c < 4294967296) (A : Option Addr) (cap : Nat) (l : List Int) (w : World) (hr : Kd.C (Kd.int .u8) w A l.length l) (ho : octs l = true) :
    Calls Try.prog 81 #[.int .u32 c, .slice A l.length cap] w fun e w' => e = .returned (.int .u32 (crun c (nats l) : Nat)) ∧ Below w.heap.size w w' := by
  have hrd := Kd.reads_of_C (enc := Value.int .u8) (d := (0 : Int)) (h1 := fun _ => rfl) hr
  have hlen := hrd.2.1
  clear hr
  by_cases h0 : l.length = 0
  · have : l = [] := List.length_eq_zero_iff.1 h0
    subst this
    have hz : ((([] : List Int).length : Int) == 0) = true := rfl
    go_enter Try.func81, Try.ntmps81
    go_wp2
    go_ret
    exact ⟨rfl, Below.refl _ _⟩
  · obtain ⟨ad, rfl, hcell⟩ := hrd.2.2 (by omega)
    have HC := Lib.hid hcell
    have HO := Lib.hid ho
    have hz : ((l.length : Int) == 0) = false := by rw [beq_eq_false_iff_ne]; omega
    obtain ⟨n, hn⟩ : ∃ n, n = l.length := ⟨_, rfl⟩
    have HN := Lib.hid hn
    rw [← hn] at hz hlen h0 ⊢
    clear hcell hrd ho hn
    go_enter Try.func81, Try.ntmps81
    go_wp2_with (go_at_call 83; refine (table_any _).mono ?_; rintro e w1 ⟨b, rfl, hT, hB⟩; have HT := Lib.hid hT; clear hT)
    go_loopw [0, 15] (fun c' i wr => ∃ k : Nat, k ≤ n ∧ i = .int .i64 k ∧ c' = .int .u32 (crun c ((nats l).take k) : Nat) ∧ Below w.heap.size w wr ∧ Hid (TabTo wr b 256)) (fun _ i _ => n - (intOf i).toNat)
    case atStart => exact ⟨0, by omega, rfl, rfl, hB, HT⟩
    case round =>
      clear hB HT
      obtain ⟨k, hk, rfl, rfl, hB, HT⟩ := hrel
      have hlt' : crun c ((nats l).take k) < 4294967296 := crun_lt _ _ hc (fun x hx => octs_lt HO.out x (List.mem_of_mem_take hx))
      obtain ⟨q, hq⟩ : ∃ q, q = crun c ((nats l).take k) := ⟨_, rfl⟩
      have HQ := Lib.hid hq
      rw [← hq] at hlt' ⊢
      clear hq
      by_cases hlt : k < n
      · obtain ⟨x, hx1, hx2, hx3⟩ := octs_at HO.out k (by rw [← HN.out]; exact hlt)
        obtain ⟨cs, hcs, hsz, hto⟩ := HT.out
        have hcb := (blk_cell hcs (q % 256 ^^^ x)).trans (hto _ (xor_lt8 (by omega) hx2))
        have hca := pw_cell_below (by assumption) (HC.out k (by rw [← HN.out]; exact hlt))
        rw [hx1] at hca
        have hix := idx_int q x hx2
        have hil := xor_lt8 (show q % 256 < 256 by omega) hx2
        have HX1 := Lib.hid hx1
        have HX3 := Lib.hid hx3
        clear hx1 hx3 hcs hto hsz
        go_wp2
        go_roundw
        case rel =>
          refine ⟨k + 1, by omega, by go_num, ?_, hB, HT⟩
          rw [turn_int q x hlt' hx2, HX3.out, crun_append, ← HQ.out]
          rfl
        case measure => simp [intOf]; omega
      · obtain rfl : k = n := by omega
        go_wp2
        go_ret
        exact ⟨by rw [HQ.out, List.take_of_length_le (by simp [nats]; have := HN.out; omega)]; rfl, hB⟩

set_option maxHeartbeats 1000000 in
set_option maxRecDepth 100000 in
theorem extend_any (c : Nat) (hc : c < 4294967296) (A : Option Addr) (cap : Nat) (l : List Int) (w : World) (hr : Kd.C (Kd.int .u8) w A l.length l) (ho : octs l = true) :
    Calls Try.prog 77 #[.int .u32 c, .slice A l.length cap] w fun e w' => e = .returned (.int .u32 (cext c (nats l) : Nat)) ∧ Below w.heap.size w w' := by
  have hn := not_int c hc
  have hl := crun_lt _ _ (cnot_lt hc) (octs_lt ho)
  have hn2 := not_int _ hl
  have HN2 := Lib.hid hn2
  have HO := Lib.hid ho
  have HR := Lib.hid hr
  clear hn2 ho hr
  go_enter Try.func77, Try.ntmps77
  go_wp2_with fail
  refine (run_any (cnot c) (cnot_lt hc) A cap l _ HR.out HO.out).mono ?_
  rintro e w1 ⟨rfl, hB⟩
  have hn2 := HN2.out
  clear hn
  go_wp2_with fail
  go_ret
  exact ⟨rfl, hB⟩
theorem sum_any (A : Option Addr) (cap : Nat) (l : List Int) (w : World) (hr : Kd.C (Kd.int .u8) w A l.length l) (ho : octs l = true) :
    Calls Try.prog 63 #[.slice A l.length cap] w fun e w' => e = .returned (.int .u32 (csum (nats l) : Nat)) ∧ Below w.heap.size w w' := by
  have HO := Lib.hid ho
  have HR := Lib.hid hr
  clear ho hr
  go_enter Try.func63, Try.ntmps63
  go_wp2_with (go_at_call 77; refine (extend_any 0 (by decide) A cap l _ HR.out HO.out).mono ?_; rintro e w1 ⟨rfl, hB⟩)
  go_ret
  exact ⟨rfl, hB⟩

end Go.Proofs.Ytiiphlfgdkjjiaa.Q
