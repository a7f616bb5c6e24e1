/- Octets that fit their kind are octets; small facts on lists of them; no condition. -/
import Derived.Test.YtabkdakikfhgmaaCrcA
namespace Go.Proofs.Ytabkdakikfhgmaa.Q
open Go.RowKit Go.Proofs.YtabkdakikfhgmaaW.PrintWords Go.Proofs.YtabkdakikfhgmaaW.PrintLast Go.Proofs.YtabkdakikfhgmaaW.PrintMore
open Go.Proofs.Ytabkdakikfhgmaa.CrcP

theorem wf_u8 {x : Int} (h : (Lit.int .u8 x).wf = true) : 0 ≤ x ∧ x < 256 := by
  have := h
  simp [Lit.wf, IntKind.min, IntKind.max, IntKind.signed, IntKind.bits] at this
  omega
theorem wf_i64 {x : Int} (h : (Lit.int .i64 x).wf = true) : -9223372036854775808 ≤ x ∧ x ≤ 9223372036854775807 := by
  have := h
  simp [Lit.wf, IntKind.min, IntKind.max, IntKind.signed, IntKind.bits] at this
  omega
theorem wf_u32 {x : Int} (h : (Lit.int .u32 x).wf = true) : 0 ≤ x ∧ x < 4294967296 := by
  have := h
  simp [Lit.wf, IntKind.min, IntKind.max, IntKind.signed, IntKind.bits] at this
  omega
theorem octs_of_wf {l : List Int} (h : ∀ x ∈ l, (Lit.int .u8 x).wf = true) : octs l = true := List.all_eq_true.2 fun x hx => by simpa using wf_u8 (h x hx)
theorem octs_iff {l : List Int} : octs l = true ↔ ∀ x ∈ l, 0 ≤ x ∧ x < 256 := by simp [octs, List.all_eq_true]
theorem octs_take {l : List Int} (h : octs l = true) (n : Nat) : octs (l.take n) = true := octs_iff.2 fun x hx => octs_iff.1 h x (List.mem_of_mem_take hx)
theorem octs_drop {l : List Int} (h : octs l = true) (n : Nat) : octs (l.drop n) = true := octs_iff.2 fun x hx => octs_iff.1 h x (List.mem_of_mem_drop hx)
theorem octs_append {a b : List Int} (h : octs a = true) (h' : octs b = true) : octs (a ++ b) = true := octs_iff.2 fun x hx => (List.mem_append.1 hx).elim (octs_iff.1 h x) (octs_iff.1 h' x)
theorem nats_append (a b : List Int) : nats (a ++ b) = nats a ++ nats b := List.map_append
theorem nats_length (a : List Int) : (nats a).length = a.length := List.length_map ..
theorem sum_f {l : List Int} (h : octs l = true) : crc_Sum.f l = some ((csum (nats l) : Nat) : Int) := by unfold crc_Sum.f; rw [if_pos h]
theorem ext_f {l : List Int} {c : Nat} (hc : c < 4294967296) (h : octs l = true) : crc_Extend.f (c : Int) l = some ((cext c (nats l) : Nat) : Int) := by
  unfold crc_Extend.f; rw [if_pos ⟨h, by omega, by omega⟩]; simp
theorem csum_lt {l : List Int} (h : octs l = true) : csum (nats l) < 4294967296 := cext_lt (by omega) (octs_lt h)
theorem rd_cast {l : List Int} (h : octs l = true) (i : Nat) (hi : i < l.length) : rd l (i : Int) = (((nats l).getD i 0 : Nat) : Int) ∧ (nats l).getD i 0 < 256 := by
  have hm := octs_iff.1 h l[i] (List.getElem_mem hi)
  simp only [rd, Int.toNat_natCast, List.getD_eq_getElem?_getD, List.getElem?_eq_getElem hi, Option.getD_some, nats, List.getElem?_map, Option.map_some]
  omega
theorem wrap_in {i : Int} (h0 : -9223372036854775808 ≤ i) (h1 : i ≤ 9223372036854775807) : wrap64 i = i := by unfold wrap64; omega
end Go.Proofs.Ytabkdakikfhgmaa.Q
