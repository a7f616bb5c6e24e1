/- The page's Extend comes to the same register as the program's; no condition. -/
import Derived.Test.YtiiphlfgdkjjiaaZDisksSPut
import Derived.Test.YtiiphlfgdkjjiaaZDisksQ37
namespace Go.Proofs.Ytiiphlfgdkjjiaa.Q
open Go.RowKit Go.Proofs.YtiiphlfgdkjjiaaW.PrintWords Go.Proofs.YtiiphlfgdkjjiaaW.PrintLast Go.Proofs.YtiiphlfgdkjjiaaW.PrintMore
open Go.Proofs.Ytiiphlfgdkjjiaa.CrcP
set_option linter.unusedVariables false
set_option linter.unusedSimpArgs false

theorem turn_step (c : Nat) (h : c < 4294967296) : (if (bits .and .u32 (c : Int) 1) = 1 then (bits .xor .u32 ((c : Int) / 2) 2197175160) else ((c : Int) / 2)) = ((cstep c : Nat) : Int) := by
  have h1 : bits .and .u32 (c : Int) 1 = ((c % 2 : Nat) : Int) := by
    have := u32_and_nat c 1 h (by omega)
    rw [show ((1 : Nat) : Int) = 1 from rfl] at this
    rw [this, Nat.and_one_is_mod]
  rw [h1]
  have hd : ((c : Int) / 2) = ((c / 2 : Nat) : Int) := by omega
  unfold cstep
  rcases Nat.mod_two_eq_zero_or_one c with hc | hc
  · rw [hc, if_neg (by decide), if_neg (by decide), hd]
  · rw [hc, if_pos (by decide), if_pos rfl, hd]
    have := u32_xor_nat (c / 2) 2197175160 (by omega) (by omega)
    exact this
theorem turn_l0 : ∀ (m k c i : Nat), i + m = 8 → m + 1 ≤ k → c < 4294967296 → transeptref02_turn.l0 k (c : Int) (i : Int) = some ((citer m c : Nat) : Int) := by
  intro m
  induction m with
  | zero =>
    intro k c i hi hk hc
    obtain ⟨k, rfl⟩ : ∃ j, k = j + 1 := ⟨k - 1, by omega⟩
    rw [transeptref02_turn.l0, if_neg (by omega)]
    rfl
  | succ m ih =>
    intro k c i hi hk hc
    obtain ⟨k, rfl⟩ : ∃ j, k = j + 1 := ⟨k - 1, by omega⟩
    have hs := turn_step c hc
    have hw : wrap64 ((i : Int) + 1) = ((i + 1 : Nat) : Int) := by unfold wrap64; omega
    rw [transeptref02_turn.l0, if_pos (by omega), hw]
    have hn := ih k (cstep c) (i + 1) (by omega) (by omega) (cstep_lt hc)
    show _ = some ((citer m (cstep c) : Nat) : Int)
    by_cases h1 : (bits .and .u32 (c : Int) 1) = 1
    · rw [if_pos h1] at hs ⊢
      rw [hs]; exact hn
    · rw [if_neg h1] at hs ⊢
      rw [hs]; exact hn
theorem turn_f {k c x : Nat} (hk : 9 ≤ k) (hc : c < 4294967296) (hx : x < 256) : transeptref02_turn.f k (c : Int) (x : Int) = some ((cbyte c x : Nat) : Int) := by
  unfold transeptref02_turn.f
  rw [show ((x : Int) % 4294967296) = (x : Int) from by omega, u32_xor_nat c x hc (by omega), cbyte_iter]
  exact turn_l0 8 k (c ^^^ x) 0 rfl hk (Nat.xor_lt_two_pow (n := 32) (by omega) (by omega))

def transeptref02_Extend.f (a0 : Int) (l1 : List Int) : Option Int := if octs l1 = true ∧ 0 ≤ a0 ∧ a0 < 4294967296 then some (cext a0.toNat (nats l1) : Nat) else none

set_option maxHeartbeats 1000000 in
set_option maxRecDepth 100000 in
theorem refext_any (c : Nat) (hc : c < 4294967296) (A : Option Addr) (cap : Nat) (l : List Int) (w : World) (hr : Kd.C (Kd.int .u8) w A l.length l) (ho : octs l = true) :
    Calls Try.prog 79 #[.int .u32 c, .slice A l.length cap] w fun e w' => e = .returned (.int .u32 (cext c (nats l) : Nat)) ∧ Drawn0 w w' := by
  have hn := not_int c hc
  have hl := crun_lt _ _ (cnot_lt hc) (octs_lt ho)
  have HN2 := Lib.hid (not_int _ hl)
  have HO := Lib.hid ho
  have HR := Lib.hid hr
  have hlen : l.length ≤ 9223372036854775807 := hr.2.1
  obtain ⟨n, hnn⟩ : ∃ n, n = l.length := ⟨_, rfl⟩
  have HN := Lib.hid hnn
  rw [← hnn] at hlen ⊢
  obtain ⟨q0, hq0⟩ : ∃ q0, q0 = cnot c := ⟨_, rfl⟩
  have HQ0 := Lib.hid hq0
  rw [← hq0] at hn
  have hq0l : q0 < 4294967296 := by rw [hq0]; exact cnot_lt hc
  clear ho hr hnn hl hq0
  go_enter Try.func79, Try.ntmps79
  go_wp2_with fail
  clear hn
  go_loopw [0, 5] (fun c' i wr => ∃ k : Nat, k ≤ n ∧ i = .int .i64 k ∧ c' = .int .u32 (crun q0 ((nats l).take k) : Nat) ∧ Hid (∃ m, wr = w.drewN m)) (fun _ i _ => n - (intOf i).toNat)
  case atStart => exact ⟨0, by omega, rfl, rfl, Lib.hid ⟨0, rfl⟩⟩
  case round =>
    obtain ⟨k, hk, rfl, rfl, HW⟩ := hrel
    have hlt' : crun q0 ((nats l).take k) < 4294967296 := crun_lt _ _ hq0l (fun x hx => octs_lt HO x (List.mem_of_mem_take hx))
    obtain ⟨q, hq⟩ : ∃ q, q = crun q0 ((nats l).take k) := ⟨_, rfl⟩
    have HQ := Lib.hid hq
    rw [← hq] at hlt' ⊢
    clear hq
    obtain ⟨m, hm⟩ := HW
    subst hm
    by_cases hlt : k < n
    · obtain ⟨x, hx1, hx2, hx3⟩ := octs_at HO k (by rw [← show n = l.length from HN]; exact hlt)
      obtain ⟨ad, e', hx⟩ := Kd.at_int (Kd.C_drewN HR m) (k : Int) (by omega) (by have := show n = l.length from HN; omega)
      subst e'
      rw [Int.toNat_natCast, rd, Int.toNat_natCast, hx1] at hx
      have HT := Lib.hid (turn_f (k := 9) (Nat.le_refl _) hlt' hx2)
      have HX3 := Lib.hid hx3
      clear hx1 hx3
      go_wp2_with fail
      refine (transeptref02_turn.calls 9 (q : Int) (x : Int) _ _ HT).mono ?_
      rintro e w2 ⟨rfl, ⟨⟨m2, rfl⟩⟩⟩
      go_wp2_with fail
      go_roundw
      case rel =>
        refine ⟨k + 1, by omega, by go_num, ?_, ?_⟩
        · rw [show (nats l).take (k + 1) = (nats l).take k ++ [x] from HX3, crun_append, ← show q = crun q0 ((nats l).take k) from HQ]; rfl
        · exact Lib.hid ⟨_, rfl⟩
      case measure => simp [intOf]; omega
    · obtain rfl : k = n := by omega
      have hall : q = crun (cnot c) (nats l) := by
        rw [show q = crun q0 ((nats l).take k) from HQ, List.take_of_length_le (by simp [nats]; have := show k = l.length from HN; omega), show q0 = cnot c from HQ0]
      have hn2 := show bits .xor .u32 IntKind.u32.max ((crun (cnot c) (nats l) : Nat) : Int) = ((cnot (crun (cnot c) (nats l)) : Nat) : Int) from HN2
      rw [← hall] at hn2
      have HALL := Lib.hid hall
      clear hall
      go_wp2_with fail
      go_ret
      exact ⟨by rw [show cext c (nats l) = cnot q from by rw [show q = crun (cnot c) (nats l) from HALL]; rfl]; rfl, ⟨m, rfl⟩⟩
theorem transeptref02_Extend.calls (a0 : Int) (A1 : Option Addr) (c1 : Nat) (l1 : List Int) (r : Int) (w : World) (hr1 : Kd.C (Kd.int .u8) w A1 l1.length l1) (_hc1 : l1.length ≤ c1) (h : transeptref02_Extend.f a0 l1 = some r) :
    Calls Try.prog 79 #[.int .u32 a0, .slice A1 l1.length c1] w fun e w' => e = .returned (.int .u32 r) ∧ Drawn0 w w' := by
  unfold transeptref02_Extend.f at h
  split at h
  · rename_i hh
    obtain ⟨ho, h0, h1⟩ := hh
    obtain rfl := Option.some.inj h
    obtain ⟨c, rfl⟩ := Int.eq_ofNat_of_zero_le h0
    exact refext_any c (by omega) A1 c1 l1 w hr1 ho
  · exact absurd h (by simp)
end Go.Proofs.Ytiiphlfgdkjjiaa.Q
