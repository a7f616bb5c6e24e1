/- bytes.Equal, bytes.HasPrefix and slices.Max of octets, walked (after the shelf's worked contracts, turned to slices as lists); no condition but that the greatest is asked of a row that is not empty. -/
import Derived.Lib.Strings
import Derived.Lib.Slices
import Derived.Lib.Small
import Derived.Lib.Walk
import Derived.Lib.BitFns
import Derived.Lib.Bytes
import Derived.LoopTactic
import Derived.Outline
import Derived.Lib.Hide
import Derived.Test.YtiiphlfgdkjjiaaZDisksQ0
namespace Go.Proofs.Ytiiphlfgdkjjiaa.Q
open Go.RowKit Go.Proofs.YtiiphlfgdkjjiaaW.PrintWords Go.Proofs.YtiiphlfgdkjjiaaW.PrintLast Go.Proofs.YtiiphlfgdkjjiaaW.PrintMore
set_option linter.unusedVariables false
set_option linter.unusedSimpArgs false
attribute [local go_sem] max2_int min2_int max_two min_two

set_option maxHeartbeats 1000000 in
theorem equal_any (v1 v2 : Value) (xs ys : List Int) (w : World)
    (h1 : (convert 50 9 v1).run Try.prog w = .ok (.string (strOfNums xs)) w) (h2 : (convert 50 9 v2).run Try.prog w = .ok (.string (strOfNums ys)) w) :
    Calls Try.prog 78 #[v1, v2] w fun e w' => e = .returned (.bool (Lib.bytesOf xs == Lib.bytesOf ys)) ∧ w' = w := by
  rw [← Lib.strOfNums_toList, ← Lib.strOfNums_toList]
  go_enter Try.func78, Try.ntmps78
  go_wp2
  go_ret
  exact ⟨rfl, rfl⟩

/-- Octets one by one. -/
theorem bytesOf_inj : ∀ (xs ys : List Int), (∀ x ∈ xs, 0 ≤ x ∧ x < 256) → (∀ x ∈ ys, 0 ≤ x ∧ x < 256) → Lib.bytesOf xs = Lib.bytesOf ys → xs = ys
  | [], [], _, _, _ => rfl
  | [], _ :: _, _, _, h => by cases h
  | _ :: _, [], _, _, h => by cases h
  | x :: xs, y :: ys, h1, h2, h => by
    simp only [Lib.bytesOf, List.map_cons, List.cons.injEq] at h
    have hx := h1 x (by simp)
    have hy := h2 y (by simp)
    have e : x = y := by
      have := congrArg UInt8.toNat h.1
      simp at this
      omega
    rw [e, bytesOf_inj xs ys (fun z hz => h1 z (by simp [hz])) (fun z hz => h2 z (by simp [hz])) h.2]
theorem bytesOf_beq (xs ys : List Int) (h1 : ∀ x ∈ xs, 0 ≤ x ∧ x < 256) (h2 : ∀ x ∈ ys, 0 ≤ x ∧ x < 256) : (Lib.bytesOf xs == Lib.bytesOf ys) = decide (xs = ys) := by
  by_cases h : xs = ys
  · rw [h, decide_eq_true rfl]; simp
  · rw [decide_eq_false h]; exact beq_eq_false_iff_ne.2 (fun e => h (bytesOf_inj xs ys h1 h2 e))

set_option maxHeartbeats 1000000 in
/-- Of a row that is at least as long as what it is to begin with. -/
theorem hasPrefix_any (A : Option Addr) (c : Nat) (l : List Int) (B : Option Addr) (d : Nat) (p : List Int) (w : World) (hr : Kd.C (Kd.int .u8) w A l.length l) (hc : l.length ≤ c) (hp : Kd.C (Kd.int .u8) w B p.length p) (hl : p.length ≤ l.length) (h1 : ∀ x ∈ l, 0 ≤ x ∧ x < 256) (h2 : ∀ x ∈ p, 0 ≤ x ∧ x < 256) :
    Calls Try.prog 64 #[.slice A l.length c, .slice B p.length d] w fun e w' => e = .returned (.bool (decide (l.take p.length = p))) ∧ w' = w := by
  have hlt : (l.take p.length).length = p.length := by rw [List.length_take]; omega
  have g1 := Kd.C_string (P := Try.prog) (dst := 9) (c := c) Try.underlying50 Try.underlying5 Try.underlying9 (Kd.C_take hr hl)
  have g2 := Kd.C_string (P := Try.prog) (dst := 9) (c := d) Try.underlying50 Try.underlying5 Try.underlying9 hp
  rw [hlt] at g1
  have HE := Aside0.mk (equal_any (.slice A p.length c) (.slice B p.length d) (l.take p.length) p w g1 g2)
  have HB := Aside0.mk (bytesOf_beq (l.take p.length) p (fun x hx => h1 x (List.mem_of_mem_take hx)) h2)
  obtain ⟨i0, hi0, _, hsz0, _⟩ := info_parts info5
  have hcut := cut_to (P := Try.prog) 50 5 .i64 Try.underlying50 hi0 A l.length c (p.length : Int) (by omega) (by omega) hc
  rw [Int.toNat_natCast] at hcut
  clear g1 g2 hlt h1 h2 hr hp
  go_enter Try.func64, Try.ntmps64
  go_wp2_with fail
  refine HE.out.mono ?_
  rintro e w' ⟨rfl, rfl⟩
  rw [HB.out]
  go_wp2_with fail
  go_ret
  exact ⟨rfl, rfl⟩
end Go.Proofs.Ytiiphlfgdkjjiaa.Q
