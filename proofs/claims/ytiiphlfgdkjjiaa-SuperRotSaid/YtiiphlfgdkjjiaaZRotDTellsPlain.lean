/- What the page's Own, Put, Get, Flush compute, in plain Lean; conditions: the lists are no longer than a machine holds. -/
import Derived.Test.YtiiphlfgdkjjiaaZRotDPlain
import Derived.Test.YtiiphlfgdkjjiaaZRotDRefOwn
import Derived.Test.YtiiphlfgdkjjiaaZRotDLand
import Derived.Test.YtiiphlfgdkjjiaaZRotQ0
import Derived.Test.YtiiphlfgdkjjiaaZRotDRot
namespace Go.Proofs.Ytiiphlfgdkjjiaa.Q
open Go.RowKit Go.Proofs.YtiiphlfgdkjjiaaW.PrintWords Go.Proofs.YtiiphlfgdkjjiaaW.PrintLast Go.Proofs.YtiiphlfgdkjjiaaW.PrintMore
set_option linter.unusedVariables false
set_option linter.unusedSimpArgs false

/-- What a put leaves, for both. -/
def puts (l0 : List (List Int)) (n : Nat) (sec : Int) (d : List Int) (ok : Bool) : Option Int := if ok = true then (if 0 ≤ sec ∧ sec < (l0.length : Int) then (if (d.length : Int) > 64 then some 5 else if (n : Int) ≥ 4096 then some 51 else none) else some 41) else some 9
theorem dput_f {l0 : List (List Int)} {l1 : List Wr} {sec : Int} {d : List Int} {k : Nat} (h0 : l0.length < 4611686018427387904) (h1 : l1.length < 4611686018427387904) (hk : l0.length + l1.length + 3 ≤ k) :
    disk_Put.f k l0 l1 sec d = match puts l0 l1.length sec d (okS l0 l1) with | some e => some ([], [], e) | none => some (l0, l1 ++ [⟨sec, padded d⟩], 0) := by
  unfold disk_Put.f
  rw [asked_f h0 h1 hk, Option.bind_some]
  unfold puts
  by_cases c1 : okS l0 l1 = true
  · rw [if_pos c1, if_pos c1, if_pos c1]
    by_cases c2 : 0 ≤ sec ∧ sec < (l0.length : Int)
    · rw [if_pos c2, if_pos c2, if_pos rfl]
      by_cases c3 : (d.length : Int) > 64
      · rw [if_pos c3, if_pos c3]
      · rw [if_neg c3, if_neg c3]
        by_cases c4 : (l1.length : Int) ≥ 4096
        · rw [if_pos c4, if_pos c4]
        · rw [if_neg c4, if_neg c4]
    · rw [if_neg c2, if_neg c2, if_neg (by decide)]
  · rw [if_neg c1, if_neg c1, if_neg c1, if_neg (by decide)]
/-- What both Gets answer. -/
def gets (l0 : List (List Int)) (l1 : List Wr) (sec : Int) : List Int × Int := if okS l0 l1 = true then (if 0 ≤ sec ∧ sec < (l0.length : Int) then (got l0 l1 sec, 0) else ([], 41)) else ([], 9)
theorem dget_f {l0 : List (List Int)} {l1 : List Wr} {sec : Int} {k : Nat} (h0 : l0.length < 4611686018427387904) (h1 : l1.length < 4611686018427387904) (hk : l0.length + l1.length + 3 ≤ k) : disk_Get.f k l0 l1 sec = some (gets l0 l1 sec) := by
  unfold disk_Get.f
  rw [asked_f h0 h1 hk, Option.bind_some]
  unfold gets
  by_cases c1 : okS l0 l1 = true
  · rw [if_pos c1, if_pos c1]
    by_cases c2 : 0 ≤ sec ∧ sec < (l0.length : Int)
    · rw [if_pos c2, if_pos c2, if_pos rfl, if_pos ⟨c1, c2⟩]
    · rw [if_neg c2, if_neg c2, if_neg (by decide)]
  · rw [if_neg c1, if_neg c1, if_neg (by decide)]
theorem dflush_f {l0 : List (List Int)} {l1 : List Wr} {k : Nat} (h0 : l0.length < 4611686018427387904) (h1 : l1.length < 4611686018427387904) (hk : l0.length + l1.length + 3 ≤ k) :
    disk_Flush.f k l0 l1 = if okS l0 l1 = true then some (landed (fun _ => 64) l1 l0 l1.length, [], 0) else some ([], [], 9) := by
  unfold disk_Flush.f
  rw [check_f h0 h1 hk, Option.bind_some]
  by_cases c1 : okS l0 l1 = true
  · rw [if_pos c1, if_pos rfl, if_pos c1, if_pos c1]
  · rw [if_neg c1, if_neg (by decide), if_neg c1]
/-- What both Rots answer. -/
def rots (l0 : List (List Int)) (sec p b : Int) (ok : Bool) : Option Int := if ok = true then (if 0 ≤ sec ∧ sec < (l0.length : Int) then (if p < 0 then some 4 else if p ≥ 64 then some 4 else none) else some 41) else some 9
theorem drot_f {l0 : List (List Int)} {l1 : List Wr} {sec p b : Int} {k : Nat} (h0 : l0.length < 4611686018427387904) (h1 : l1.length < 4611686018427387904) (hk : l0.length + l1.length + 3 ≤ k) :
    disk_Rot.f k l0 l1 sec p b = match rots l0 sec p b (okS l0 l1) with | some e => some ([], [], e) | none => some (rotted l0 sec p b, l1, 0) := by
  unfold disk_Rot.f
  rw [asked_f h0 h1 hk, Option.bind_some]
  unfold rots
  by_cases c1 : okS l0 l1 = true
  · rw [if_pos c1, if_pos c1]
    by_cases c2 : 0 ≤ sec ∧ sec < (l0.length : Int)
    · rw [if_pos c2, if_pos c2, if_pos rfl]
      by_cases c3 : p < 0
      · rw [if_pos c3, if_pos c3]
      · rw [if_neg c3, if_neg c3]
        by_cases c4 : p ≥ 64
        · rw [if_pos c4, if_pos c4]
        · rw [if_neg c4, if_neg c4, if_pos ⟨c1, c2⟩]
    · rw [if_neg c2, if_neg c2, if_neg (by decide)]
  · rw [if_neg c1, if_neg c1, if_neg (by decide)]
end Go.Proofs.Ytiiphlfgdkjjiaa.Q
